
import Derived.Test.YteiemoooelpdaaaPFnCreditSumx0
import Derived.Test.YteiemoooelpdaaaPFnCreditSumx1
import Derived.Test.YteiemoooelpdaaaPFnCreditSumx5
import Derived.Test.YteiemoooelpdaaaPFnCreditSumx6
namespace Go.Proofs.Yteiemoooelpdaaa.PFnCreditSum
open Go.RowKit Go.Proofs.YteiemoooelpdaaaW.PrintWords Go.Proofs.YteiemoooelpdaaaW.PrintLast Go.Proofs.YteiemoooelpdaaaW.PrintMore
attribute [local go_sem] max2_int min2_int max_two min_two max_three min_three max_four min_four
set_option linter.unusedVariables false
set_option maxHeartbeats 8000000
set_option maxRecDepth 100000
set_option linter.unusedSimpArgs false
def spec_l04Walk.l0 : Nat → Int → List Int → Int → Int → Int → Int → List Int → List Int → Option (List Int)
 | 0, _, _, _, _, _, _, _, _ => none
 | k + 1, x3, x9, x10, x11, x252000, x252001, x252002, x253000 => if (x9.length : Int) ≤ x10 then (if 0 ≤ (wrap64 ((wrap64 (x11 * x10)) + x3)) then (if (wrap64 ((wrap64 (x11 * x10)) + x3)) < (x253000.length : Int) then (if (rd x253000 (wrap64 ((wrap64 (x11 * x10)) + x3))) = 4 then (if x11 = x3 then (some x9) else (some (([] : List Int)))) else ((spec_l01In.f (rd x253000 (wrap64 ((wrap64 (x11 * x10)) + x3))) 0 3).bind fun t264 => (if t264 = true then ((spec_l03Has.f k x252000 x252001 x252002 (wrap64 ((wrap64 (4 * x11)) + (rd x253000 (wrap64 ((wrap64 (x11 * x10)) + x3)))))).bind fun t265 => (if t265 = true then (if x9.length < 17592186044416 then ((spec_NextNode.f x252000 x252001 x11 (rd x253000 (wrap64 ((wrap64 (x11 * x10)) + x3)))).bind fun t269 => (spec_l04Walk.l0 k x3 (x9 ++ [wrap64 ((wrap64 (4 * x11)) + (rd x253000 (wrap64 ((wrap64 (x11 * x10)) + x3))))]) x10 t269 x252000 x252001 x252002 x253000)) else (none)) else (some (([] : List Int))))) else (some (([] : List Int)))))) else (none)) else (none)) else (some (([] : List Int)))
def spec_l04Walk.f (k : Nat) (a0_0 : Int) (a0_1 : Int) (l0_2 : List Int) (l1_0 : List Int) (a2 : Int) (a3 : Int) : Option (List Int) := (spec_NodeCount.f a0_0 a0_1).bind fun t256 => (spec_l04Walk.l0 k a3 (([] : List Int)) t256 a2 a0_0 a0_1 l0_2 l1_0)
theorem spec_l04Walk.mono_l : ∀ k, (∀ y0 y1 y2 y3 y4 y5 y6 y7, LeO (spec_l04Walk.l0 k y0 y1 y2 y3 y4 y5 y6 y7) (spec_l04Walk.l0 (k + 1) y0 y1 y2 y3 y4 y5 y6 y7))
 | 0 => fun _ _ _ _ _ _ _ _ r h => by simp [spec_l04Walk.l0] at h
 | k + 1 => by
  have ih0 := spec_l04Walk.mono_l k
  ·intro y0 y1 y2 y3 y4 y5 y6 y7
   unfold spec_l04Walk.l0
   repeat' (with_reducible first | exact ih0 .. | exact spec_l03Has.mono .. | exact LeO.refl .. | exact LeO.none .. | refine LeO.ite ?_ ?_ | refine LeO.bind ?_ (fun _ => ?_))
theorem spec_l04Walk.mono : ∀ a0 a1 a2 a3 a4 a5 k, LeO (spec_l04Walk.f k a0 a1 a2 a3 a4 a5) (spec_l04Walk.f (k + 1) a0 a1 a2 a3 a4 a5) := by
 intro a0 a1 a2 a3 a4 a5 k
 have ih0 := spec_l04Walk.mono_l k
 unfold spec_l04Walk.f
 repeat' (with_reducible first | exact ih0 .. | exact spec_l03Has.mono .. | exact LeO.refl .. | exact LeO.none .. | refine LeO.ite ?_ ?_ | refine LeO.bind ?_ (fun _ => ?_))
theorem spec_l04Walk.calls (k : Nat) (a0_0 : Int) (a0_1 : Int) (A0_2 : Option Addr) (c0_2 : Nat) (l0_2 : List Int) (A1_0 : Option Addr) (c1_0 : Nat) (l1_0 : List Int) (a2 : Int) (a3 : Int) (r : List Int) (w : World) (hr0_2 : Kd.C (Kd.int .i64) w A0_2 l0_2.length l0_2) (hc0_2 : l0_2.length ≤ c0_2) (hr1_0 : Kd.C (Kd.int .i64) w A1_0 l1_0.length l1_0) (hc1_0 : l1_0.length ≤ c1_0) (h : spec_l04Walk.f k a0_0 a0_1 l0_2 l1_0 a2 a3 = some r) :
  Calls Try.prog 98 #[.agg #[.int .i64 a0_0, .int .i64 a0_1, .slice A0_2 l0_2.length c0_2], .agg #[.slice A1_0 l1_0.length c1_0], .int .i64 a2, .int .i64 a3] w fun e w' => ∃ v0_ : Value, e = .returned (v0_) ∧ Kd.R (Kd.int .i64) 3 w' w.heap.size (fun _ => True) v0_ r ∧ Below w.heap.size w w' := by
 have hu28 := Try.underlying28
 have hu30 := Try.underlying30
 have hu25 := Try.underlying25
 have HR0_2 := am hr0_2
 have HC0_2 := am hc0_2
 clear hr0_2 hc0_2
 have HR1_0 := am hr1_0
 have HC1_0 := am hc1_0
 clear hr1_0 hc1_0
 have HB := am (Below.refl w.heap.size w)
 have H : ((spec_NodeCount.f a0_0 a0_1).bind fun t256 => (spec_l04Walk.l0 k a3 (([] : List Int)) t256 a2 a0_0 a0_1 l0_2 l1_0)) = some r := h
 clear h
 obtain ⟨y253, hy253⟩ : ∃ y_ : List Int, y_ = (([] : List Int)) := ⟨_, rfl⟩
 replace H : ((spec_NodeCount.f a0_0 a0_1).bind fun t256 => (spec_l04Walk.l0 k a3 y253 t256 a2 a0_0 a0_1 l0_2 l1_0)) = some r := ry_ hy253 H
 have Ny253 := am hy253
 clear hy253
 obtain ⟨t256, A5, H⟩ := bi_ H
 have H' := am H
 clear H
 go_enter Try.func98, Try.ntmps98
 go_wp2_with (first | ((with_reducible refine gate_dst (N := 4) rfl ?_); refine bx_ 4 #[.int .i64 a0_0, .int .i64 a0_1, .slice A0_2 l0_2.length c0_2] 28 ?_; intro gb251 hg w6 hbox hb; have BK251 := am (hbox); have GW251 := gw_ hg HB; replace HB := h9_ HB hb; clear hb hbox hg) | ((with_reducible refine gate_dst (N := 5) rfl ?_); refine bx_ 5 #[.slice A1_0 l1_0.length c1_0] 30 ?_; intro gb252 hg w7 hbox hb; have BK252 := am (hbox); have GW252 := gw_ hg HB; replace HB := h9_ HB hb; have NB251_252 := nl_ hg BK251; have NB252_251 := ng_ hg BK251; replace BK251 := kb_ BK251 hb; clear hb hbox hg) | ((with_reducible refine gate_dst (N := 13) rfl ?_); refine Kd.R_lit (Kd.int .i64) _ 3 ?hg (N := 13) ?hd (xs := ([] : List Int)) (inner := []) (ok := fun _ => True) (okp := fun _ => True) ?hr ?hp (fun _ hk => hk) trivial (Below.refl _ _) (Nat.le_refl _) (by simp) ?_; (case hd => rfl); (case hg => rfl); (case hr => first | (go_simp; done) | (go_simp; rfl)); (case hp => exact (Reps.none _ _)); intro v254 w8 ho9 hb hg_ hnew_; clear hg_ hnew_; (first | rw [← Ny253.out] at ho9 | (simp only [Int.reduceToNat] at ho9; rw [← Ny253.out] at ho9)); have HO255 := am (Kd.R_lower ho9 (bz_ HB.out)); replace BK251 := kb_ BK251 hb; replace BK252 := kb_ BK252 hb; replace HB := h9_ HB hb; clear hb ho9; have hnb10 := NB251_252.out; have hnc10 := NB252_251.out; obtain ⟨hcz11_0, hcz11_1, hcz11_2, hfz11_0, hfz11_1, hfz11_2⟩ := cz3_ BK251.out) | ((with_reducible refine gate_callee (f := 57) rfl ?_); refine gm_ (some 16) Try.func57 #[.agg #[.int .i64 a0_0, .int .i64 a0_1]] rfl ?_; (with_reducible refine (spec_NodeCount.calls a0_0 a0_1 t256 _ A5.out).mono ?_); rintro e w12 ⟨rfl, hb⟩; refine ⟨_, rfl, ?_⟩; replace HO255 := rb_ HO255 hb; replace BK251 := kb_ BK251 hb; replace BK252 := kb_ BK252 hb; replace HB := h9_ HB hb; (try clear hb)))
 go_loopg [9, 11] k (fun kq v9 v11 w' => ∃ (x9_1 : List Int) (x11_1 : Int), v11 = .int .i64 x11_1 ∧ Aside0 (spec_l04Walk.l0 kq a3 x9_1 t256 x11_1 a0_0 a0_1 l0_2 l1_0 = some r) ∧ Aside0 (kq ≤ k) ∧ Aside0 (Kd.R (Kd.int .i64) 3 w' w.heap.size (fun _ => True) v9 x9_1) ∧ Aside0 (w'.heap[gb251]? = some (.cells #[.int .i64 a0_0, .int .i64 a0_1, (.slice A0_2 l0_2.length c0_2)] 28 (0, 0))) ∧ Aside0 (w'.heap[gb252]? = some (.cells #[(.slice A1_0 l1_0.length c1_0)] 30 (0, 0))) ∧ Aside0 (Below w.heap.size w w'))
 case atStart => exact ⟨(y253), (a2), ef_, H', ⟨Nat.le_refl _⟩, ⟨ra_ HO255.out⟩, ⟨bq_ BK251.out⟩, ⟨bq_ BK252.out⟩, ⟨bb_ HB.out⟩⟩
 clear H'
 try clear hcz11_0 hcz11_1 hcz11_2 hfz11_0 hfz11_1 hfz11_2
 obtain ⟨x9_1, x11_1, rfl, HA, HK1, HO_9, BK251, BK252, HB⟩ := hrel
 obtain _ | k1 := gk
 ·exact absurd HA.out (by simp [spec_l04Walk.l0])
 have H := HA.out
 clear HA
 simp only [spec_l04Walk.l0] at H
 by_cases c13 : (x9_1.length : Int) ≤ t256
 rotate_left
 ·rw [if_neg c13] at H
  have c13b0 : decide ((x9_1.length : Int) ≤ t256) = false := decide_eq_false c13
  clear c13
  obtain ⟨y257, hy257⟩ : ∃ y_ : List Int, y_ = (([] : List Int)) := ⟨_, rfl⟩
  replace H : (some y257) = some r := ry_ hy257 H
  have Ny257 := am hy257
  clear hy257
  obtain rfl := Option.some.inj H
  obtain ⟨Ao53, co53, eo53⟩ := Kd.R_slice HO_9.out
  subst eo53
  go_wp2_with (first | ((with_reducible refine gate_dst (N := 63) rfl ?_); refine Kd.R_lit (Kd.int .i64) _ 3 ?hg (N := 63) ?hd (xs := ([] : List Int)) (inner := []) (ok := fun _ => True) (okp := fun _ => True) ?hr ?hp (fun _ hk => hk) trivial (Below.refl _ _) (Nat.le_refl _) (by simp) ?_; (case hd => rfl); (case hg => rfl); (case hr => first | (go_simp; done) | (go_simp; rfl)); (case hp => exact (Reps.none _ _)); intro v258 w54 ho55 hb hg_ hnew_; clear hg_ hnew_; (first | rw [← Ny257.out] at ho55 | (simp only [Int.reduceToNat] at ho55; rw [← Ny257.out] at ho55)); have HO259 := am (Kd.R_lower (Kd.R_new' ho55 (rl_ HO_9.out)) (bz_ HB.out)); replace HO_9 := re_ HO_9 ho55 hb; replace BK251 := kb_ BK251 hb; replace BK252 := kb_ BK252 hb; replace HB := h9_ HB hb; clear hb ho55))
  go_ret
  exact ⟨_, fin_, by (with_reducible repeat (first | apply Kd.R_alloc | apply Kd.R_drewN | apply Kd.R_drew)); exact Kd.R_mono HO259.out (fun _ hk => trivial), bb_ HB.out⟩
 rw [if_pos c13] at H
 have c13b0 : decide ((x9_1.length : Int) ≤ t256) = true := decide_eq_true c13
 clear c13
 obtain ⟨ji14, hji14⟩ : ∃ j_ : Int, (wrap64 ((wrap64 (x11_1 * t256)) + a3)) = j_ := ⟨_, rfl⟩
 replace H : (if 0 ≤ (ji14) then (if (ji14) < (l1_0.length : Int) then (if (rd l1_0 (ji14)) = 4 then (if x11_1 = a3 then (some x9_1) else (some (([] : List Int)))) else ((spec_l01In.f (rd l1_0 (ji14)) 0 3).bind fun t264 => (if t264 = true then ((spec_l03Has.f k1 a0_0 a0_1 l0_2 (wrap64 ((wrap64 (4 * x11_1)) + (rd l1_0 (ji14))))).bind fun t265 => (if t265 = true then (if x9_1.length < 17592186044416 then ((spec_NextNode.f a0_0 a0_1 x11_1 (rd l1_0 (ji14))).bind fun t269 => (spec_l04Walk.l0 k1 a3 (x9_1 ++ [wrap64 ((wrap64 (4 * x11_1)) + (rd l1_0 (ji14)))]) t256 t269 a0_0 a0_1 l0_2 l1_0)) else (none)) else (some (([] : List Int))))) else (some (([] : List Int)))))) else (none)) else (none)) = some r := by first | (rw [hji14] at H; exact H) | (simp only [hji14] at H ⊢; exact H)
 have hji14w : (IntKind.i64.wrap ((wrap64 (x11_1 * t256)) + a3)) = ji14 := (i64_w _).trans hji14
 by_cases c15 : 0 ≤ (ji14)
 rotate_left
 ·rw [if_neg c15] at H
  exact absurd H (by simp)
 rw [if_pos c15] at H
 have c15b0 : decide (0 ≤ (ji14)) = true := decide_eq_true c15
 clear c15
 by_cases c16 : (ji14) < (l1_0.length : Int)
 rotate_left
 ·rw [if_neg c16] at H
  exact absurd H (by simp)
 rw [if_pos c16] at H
 have c16b0 : decide ((ji14) < (l1_0.length : Int)) = true := decide_eq_true c16
 clear c16
 by_cases c17 : (rd l1_0 (ji14)) = 4
 ·rw [if_pos c17] at H
  have c17b0 : ((rd l1_0 (ji14)) == 4) = true := beq_iff_eq.mpr c17
  have c17b1 : ((rd l1_0 (ji14)) != 4) = false := bne_eq_false_iff_eq.mpr c17
  clear c17
  by_cases c18 : x11_1 = a3
  ·rw [if_pos c18] at H
   have c18b0 : (x11_1 == a3) = true := beq_iff_eq.mpr c18
   have c18b1 : (x11_1 != a3) = false := bne_eq_false_iff_eq.mpr c18
   clear c18
   obtain rfl := Option.some.inj H
   obtain ⟨Ao19, co19, eo19⟩ := Kd.R_slice HO_9.out
   subst eo19
   have hnb20 := NB252_251.out
   have hnc20 := NB251_252.out
   obtain ⟨hcz21_0, hfz21_0⟩ := cz1_ BK252.out
   have p260 : 0 ≤ ((ji14) : Int) := of_decide_eq_true dg_
   have q260 : (ji14) < (l1_0.length : Int) := of_decide_eq_true dg_
   obtain ⟨ad260, e260, hx260_0⟩ := Kd.at_int HR1_0.out (ji14) p260 q260
   cases e260
   replace hx260_0 := hc_ HB hx260_0
   replace p260 := eq_true p260
   replace q260 := eq_true q260
   go_wp2
   go_ret
   exact ⟨_, by first | rfl | (simp [errW_none, errW_some] <;> rfl) | (simp only [← hji14]; first | rfl | (simp [errW_none, errW_some] <;> rfl)) | (simp [*, errW_none, errW_some] <;> rfl), ra_ HO_9.out, bb_ HB.out⟩
  rw [if_neg c18] at H
  have c18b0 : (x11_1 == a3) = false := beq_eq_false_iff_ne.mpr c18
  have c18b1 : (x11_1 != a3) = true := bne_iff_ne.mpr c18
  obtain ⟨y261, hy261⟩ : ∃ y_ : List Int, y_ = (([] : List Int)) := ⟨_, rfl⟩
  replace H : (some y261) = some r := ry_ hy261 H
  have Ny261 := am hy261
  clear hy261
  obtain rfl := Option.some.inj H
  obtain ⟨Ao22, co22, eo22⟩ := Kd.R_slice HO_9.out
  subst eo22
  have hnb23 := NB252_251.out
  have hnc23 := NB251_252.out
  obtain ⟨hcz24_0, hfz24_0⟩ := cz1_ BK252.out
  have p260 : 0 ≤ ((ji14) : Int) := of_decide_eq_true dg_
  have q260 : (ji14) < (l1_0.length : Int) := of_decide_eq_true dg_
  obtain ⟨ad260, e260, hx260_0⟩ := Kd.at_int HR1_0.out (ji14) p260 q260
  cases e260
  replace hx260_0 := hc_ HB hx260_0
  replace p260 := eq_true p260
  replace q260 := eq_true q260
  go_wp2_with (first | ((with_reducible refine gate_dst (N := 36) rfl ?_); refine Kd.R_lit (Kd.int .i64) _ 3 ?hg (N := 36) ?hd (xs := ([] : List Int)) (inner := []) (ok := fun _ => True) (okp := fun _ => True) ?hr ?hp (fun _ hk => hk) trivial (Below.refl _ _) (Nat.le_refl _) (by simp) ?_; (case hd => rfl); (case hg => rfl); (case hr => first | (go_simp; done) | (go_simp; rfl)); (case hp => exact (Reps.none _ _)); intro v262 w25 ho26 hb hg_ hnew_; clear hg_ hnew_; (first | rw [← Ny261.out] at ho26 | (simp only [Int.reduceToNat] at ho26; rw [← Ny261.out] at ho26)); have HO263 := am (Kd.R_lower (Kd.R_new' ho26 (rl_ HO_9.out)) (bz_ HB.out)); replace HO_9 := re_ HO_9 ho26 hb; replace BK251 := kb_ BK251 hb; replace BK252 := kb_ BK252 hb; replace HB := h9_ HB hb; clear hb ho26))
  go_ret
  exact ⟨_, by first | rfl | (simp [errW_none, errW_some] <;> rfl) | (simp only [← hji14]; first | rfl | (simp [errW_none, errW_some] <;> rfl)) | (simp [*, errW_none, errW_some] <;> rfl), by (with_reducible repeat (first | apply Kd.R_alloc | apply Kd.R_drewN | apply Kd.R_drew)); exact Kd.R_mono HO263.out (fun _ hk => trivial), bb_ HB.out⟩
 rw [if_neg c17] at H
 have c17b0 : ((rd l1_0 (ji14)) == 4) = false := beq_eq_false_iff_ne.mpr c17
 have c17b1 : ((rd l1_0 (ji14)) != 4) = true := bne_iff_ne.mpr c17
 obtain ⟨t264, A27, H⟩ := bi_ H
 by_cases c28 : t264 = true
 rotate_left
 ·replace c28 := Bool.eq_false_iff.mpr c28
  subst c28
  rw [if_neg (show ¬ (false = true) by decide)] at H
  obtain ⟨y273, hy273⟩ : ∃ y_ : List Int, y_ = (([] : List Int)) := ⟨_, rfl⟩
  replace H : (some y273) = some r := ry_ hy273 H
  have Ny273 := am hy273
  clear hy273
  obtain rfl := Option.some.inj H
  obtain ⟨Ao48, co48, eo48⟩ := Kd.R_slice HO_9.out
  subst eo48
  have hnb49 := NB252_251.out
  have hnc49 := NB251_252.out
  obtain ⟨hcz50_0, hfz50_0⟩ := cz1_ BK252.out
  have p260 : 0 ≤ ((ji14) : Int) := of_decide_eq_true dg_
  have q260 : (ji14) < (l1_0.length : Int) := of_decide_eq_true dg_
  obtain ⟨ad260, e260, hx260_0⟩ := Kd.at_int HR1_0.out (ji14) p260 q260
  cases e260
  replace hx260_0 := hc_ HB hx260_0
  replace p260 := eq_true p260
  replace q260 := eq_true q260
  go_wp2_with (first | ((with_reducible refine gate_callee (f := 40) rfl ?_); refine goesL_ (some 39) rfl rfl Try.func40 (by kernel_rfl) rfl #[.int .i64 (rd l1_0 (ji14)), .int .i64 0, .int .i64 3] rfl (by (try simp only [List.map_toArray, List.map_cons, List.map_nil]); first | done | (simp only [hji14]; rfl) | rfl | (simp only [List.length_drop, List.length_take]; rfl)) ?_; (with_reducible refine (spec_l01In.calls (rd l1_0 (ji14)) 0 3 false _ A27.out).mono ?_); rintro e w' ⟨rfl, ⟨nd, rfl⟩⟩; refine ⟨_, rfl, ?_⟩) | ((with_reducible refine gate_dst (N := 50) rfl ?_); refine Kd.R_lit (Kd.int .i64) _ 3 ?hg (N := 50) ?hd (xs := ([] : List Int)) (inner := []) (ok := fun _ => True) (okp := fun _ => True) ?hr ?hp (fun _ hk => hk) trivial (Below.refl _ _) (Nat.le_refl _) (by simp) ?_; (case hd => rfl); (case hg => rfl); (case hr => first | (go_simp; done) | (go_simp; rfl)); (case hp => exact (Reps.none _ _)); intro v274 w51 ho52 hb hg_ hnew_; clear hg_ hnew_; (first | rw [← Ny273.out] at ho52 | (simp only [Int.reduceToNat] at ho52; rw [← Ny273.out] at ho52)); have HO275 := am (Kd.R_lower (Kd.R_new' ho52 (rl_ HO_9.out)) (bz_ HB.out)); replace HO_9 := re_ HO_9 ho52 hb; replace BK251 := kb_ BK251 hb; replace BK252 := kb_ BK252 hb; replace HB := h9_ HB hb; clear hb ho52))
  go_ret
  exact ⟨_, by first | rfl | (simp [errW_none, errW_some] <;> rfl) | (simp only [← hji14]; first | rfl | (simp [errW_none, errW_some] <;> rfl)) | (simp [*, errW_none, errW_some] <;> rfl), by (with_reducible repeat (first | apply Kd.R_alloc | apply Kd.R_drewN | apply Kd.R_drew)); exact Kd.R_mono HO275.out (fun _ hk => trivial), bb_ HB.out⟩
 subst c28
 rw [if_pos rfl] at H
 obtain ⟨t265, A29, H⟩ := bi_ H
 by_cases c30 : t265 = true
 rotate_left
 ·replace c30 := Bool.eq_false_iff.mpr c30
  subst c30
  rw [if_neg (show ¬ (false = true) by decide)] at H
  obtain ⟨y270, hy270⟩ : ∃ y_ : List Int, y_ = (([] : List Int)) := ⟨_, rfl⟩
  replace H : (some y270) = some r := ry_ hy270 H
  have Ny270 := am hy270
  clear hy270
  obtain rfl := Option.some.inj H
  obtain ⟨Ao41, co41, eo41⟩ := Kd.R_slice HO_9.out
  subst eo41
  have hnb42 := NB252_251.out
  have hnc42 := NB251_252.out
  obtain ⟨hcz43_0, hfz43_0⟩ := cz1_ BK252.out
  have p260 : 0 ≤ ((ji14) : Int) := of_decide_eq_true dg_
  have q260 : (ji14) < (l1_0.length : Int) := of_decide_eq_true dg_
  obtain ⟨ad260, e260, hx260_0⟩ := Kd.at_int HR1_0.out (ji14) p260 q260
  cases e260
  replace hx260_0 := hc_ HB hx260_0
  replace p260 := eq_true p260
  replace q260 := eq_true q260
  go_wp2_with (first | ((with_reducible refine gate_callee (f := 40) rfl ?_); refine goesL_ (some 39) rfl rfl Try.func40 (by kernel_rfl) rfl #[.int .i64 (rd l1_0 (ji14)), .int .i64 0, .int .i64 3] rfl (by (try simp only [List.map_toArray, List.map_cons, List.map_nil]); first | done | (simp only [hji14]; rfl) | rfl | (simp only [List.length_drop, List.length_take]; rfl)) ?_; (with_reducible refine (spec_l01In.calls (rd l1_0 (ji14)) 0 3 true _ A27.out).mono ?_); rintro e w' ⟨rfl, ⟨nd, rfl⟩⟩; refine ⟨_, rfl, ?_⟩; obtain ⟨hcz44_0, hcz44_1, hcz44_2, hfz44_0, hfz44_1, hfz44_2⟩ := cz3_ BK251.out) | (go_at_call 69; (with_reducible refine (spec_l03Has.calls k1 a0_0 a0_1 _ _ l0_2 (wrap64 ((wrap64 (4 * x11_1)) + (rd l1_0 (ji14)))) false _ ?side1 HC0_2.out A29.out).mono ?_); (case side1 => exact cb_ HR0_2.out HB.out); rintro e w45 ⟨rfl, hb⟩; replace HO_9 := rb_ HO_9 hb; replace BK251 := kb_ BK251 hb; replace BK252 := kb_ BK252 hb; replace HB := h9_ HB hb; (try clear hb)) | ((with_reducible refine gate_dst (N := 50) rfl ?_); refine Kd.R_lit (Kd.int .i64) _ 3 ?hg (N := 50) ?hd (xs := ([] : List Int)) (inner := []) (ok := fun _ => True) (okp := fun _ => True) ?hr ?hp (fun _ hk => hk) trivial (Below.refl _ _) (Nat.le_refl _) (by simp) ?_; (case hd => rfl); (case hg => rfl); (case hr => first | (go_simp; done) | (go_simp; rfl)); (case hp => exact (Reps.none _ _)); intro v271 w46 ho47 hb hg_ hnew_; clear hg_ hnew_; (first | rw [← Ny270.out] at ho47 | (simp only [Int.reduceToNat] at ho47; rw [← Ny270.out] at ho47)); have HO272 := am (Kd.R_lower (Kd.R_new' ho47 (rl_ HO_9.out)) (bz_ HB.out)); replace HO_9 := re_ HO_9 ho47 hb; replace BK251 := kb_ BK251 hb; replace BK252 := kb_ BK252 hb; replace HB := h9_ HB hb; clear hb ho47))
  go_ret
  exact ⟨_, by first | rfl | (simp [errW_none, errW_some] <;> rfl) | (simp only [← hji14]; first | rfl | (simp [errW_none, errW_some] <;> rfl)) | (simp [*, errW_none, errW_some] <;> rfl), by (with_reducible repeat (first | apply Kd.R_alloc | apply Kd.R_drewN | apply Kd.R_drew)); exact Kd.R_mono HO272.out (fun _ hk => trivial), bb_ HB.out⟩
 subst c30
 rw [if_pos rfl] at H
 by_cases c31 : x9_1.length < 17592186044416
 rotate_left
 ·rw [if_neg c31] at H
  exact absurd H (by simp)
 rw [if_pos c31] at H
 have LMc31 := am c31
 clear c31
 obtain ⟨y266, hy266⟩ : ∃ y_ : List Int, y_ = (x9_1 ++ [wrap64 ((wrap64 (4 * x11_1)) + (rd l1_0 (ji14)))]) := ⟨_, rfl⟩
 replace H : ((spec_NextNode.f a0_0 a0_1 x11_1 (rd l1_0 (ji14))).bind fun t269 => (spec_l04Walk.l0 k1 a3 y266 t256 t269 a0_0 a0_1 l0_2 l1_0)) = some r := ry_ hy266 H
 have Ny266 := am hy266
 clear hy266
 obtain ⟨t269, A32, H⟩ := bi_ H
 have H' := am H
 clear H
 obtain ⟨Ao33, co33, eo33⟩ := Kd.R_slice HO_9.out
 subst eo33
 have hnb34 := NB252_251.out
 have hnc34 := NB251_252.out
 obtain ⟨hcz35_0, hfz35_0⟩ := cz1_ BK252.out
 have p260 : 0 ≤ ((ji14) : Int) := of_decide_eq_true dg_
 have q260 : (ji14) < (l1_0.length : Int) := of_decide_eq_true dg_
 obtain ⟨ad260, e260, hx260_0⟩ := Kd.at_int HR1_0.out (ji14) p260 q260
 cases e260
 replace hx260_0 := hc_ HB hx260_0
 replace p260 := eq_true p260
 replace q260 := eq_true q260
 go_wp2_with (first | ((with_reducible refine gate_callee (f := 40) rfl ?_); refine goesL_ (some 39) rfl rfl Try.func40 (by kernel_rfl) rfl #[.int .i64 (rd l1_0 (ji14)), .int .i64 0, .int .i64 3] rfl (by (try simp only [List.map_toArray, List.map_cons, List.map_nil]); first | done | (simp only [hji14]; rfl) | rfl | (simp only [List.length_drop, List.length_take]; rfl)) ?_; (with_reducible refine (spec_l01In.calls (rd l1_0 (ji14)) 0 3 true _ A27.out).mono ?_); rintro e w' ⟨rfl, ⟨nd, rfl⟩⟩; refine ⟨_, rfl, ?_⟩; obtain ⟨hcz36_0, hcz36_1, hcz36_2, hfz36_0, hfz36_1, hfz36_2⟩ := cz3_ BK251.out) | (go_at_call 69; (with_reducible refine (spec_l03Has.calls k1 a0_0 a0_1 _ _ l0_2 (wrap64 ((wrap64 (4 * x11_1)) + (rd l1_0 (ji14)))) true _ ?side1 HC0_2.out A29.out).mono ?_); (case side1 => exact cb_ HR0_2.out HB.out); rintro e w37 ⟨rfl, hb⟩; replace HO_9 := rb_ HO_9 hb; replace BK251 := kb_ BK251 hb; replace BK252 := kb_ BK252 hb; replace HB := h9_ HB hb; (try clear hb)) | ((with_reducible refine gate_builtin (b := .append) (xs := #[.tmp 51, .tmp 56]) rfl ?_); at_builtin; refine Kd.R_append (Kd.int .i64) (w0 := w) w.heap.size rfl (.tmp 51) (.tmp 56) 26 3 (.int .i64 0) 8 rfl Try.underlying26 info3 rfl (by decide) (by omega) (.slice Ao33 x9_1.length co33) x9_1 (wrap64 ((wrap64 (4 * x11_1)) + (rd l1_0 (ji14)))) [.int .i64 (wrap64 ((wrap64 (4 * x11_1)) + (rd l1_0 (ji14))))] (fun _ => True) (fun _ => False) rfl rfl ?aP (fun _ hk => hk.elim) ?aF ?aO ?aB ?aS ?aL ?_; (case aP => exact rfl); (case aB => exact (hb_ HB.out)); (case aF => exact (fun _ _ => trivial)); (case aO => exact (ra_ HO_9.out)); (case aS => exact (bz_ HB.out)); (case aL => have := LMc31.out; omega); intro v267 w38 ho hb hg hat; rw [← Ny266.out] at ho; have n0_ := am (blk_grown (g := gb251) (o := .cells #[.int .i64 a0_0, .int .i64 a0_1, .slice A0_2 l0_2.length c0_2] 28 (0, 0)) (bq_ BK251.out) hg (Kd.R_ne HO_9.out BK251.out (by decide))); have n1_ := am (blk_grown (g := gb252) (o := .cells #[.slice (some ad260) l1_0.length c1_0] 30 (0, 0)) (bq_ BK252.out) hg (Kd.R_ne HO_9.out BK252.out (by decide))); have n2_ := am (hb); have n3_ := am (ho); clear BK251; clear BK252; clear HB; clear HO_9; have BK251 := n0_; have BK252 := n1_; have HB := n2_; have HO268 := n3_; clear n0_ n1_ n2_ n3_; clear ho hb hg hat; obtain ⟨hcz39_0, hcz39_1, hcz39_2, hfz39_0, hfz39_1, hfz39_2⟩ := cz3_ BK251.out) | ((with_reducible refine gate_callee (f := 70) rfl ?_); refine goesL_ (some 62) rfl rfl Try.func70 (by kernel_rfl) rfl #[.agg #[.int .i64 a0_0, .int .i64 a0_1], .int .i64 x11_1, .int .i64 (rd l1_0 (ji14))] rfl (by (try simp only [List.map_toArray, List.map_cons, List.map_nil]); first | done | (simp only [hji14]; rfl) | rfl | (simp only [List.length_drop, List.length_take]; rfl)) ?_; (with_reducible refine (spec_NextNode.calls a0_0 a0_1 x11_1 (rd l1_0 (ji14)) t269 _ A32.out).mono ?_); rintro e w40 ⟨rfl, hb⟩; refine ⟨_, rfl, ?_⟩; replace HO268 := rb_ HO268 hb; replace BK251 := kb_ BK251 hb; replace BK252 := kb_ BK252 hb; replace HB := h9_ HB hb; (try clear hb)))
 go_roundg k1
 case measure => have := HK1.out; omega
 case rel => exact ⟨(y266), (t269), ef_, H', ⟨by have := HK1.out; omega⟩, ⟨ra_ HO268.out⟩, ⟨bq_ BK251.out⟩, ⟨bq_ BK252.out⟩, ⟨bb_ HB.out⟩⟩
mutual
def spec_TableOk.l0 : Nat → Int → Int → Int → Int → List Int → List Int → Option (Bool)
 | 0, _, _, _, _, _, _ => none
 | k + 1, x5, x6, x277000, x277001, x277002, x278000 => if x6 < x5 then (spec_TableOk.l1 k x5 x6 0 x277000 x277001 x277002 x278000) else (some true)
def spec_TableOk.l1 : Nat → Int → Int → Int → Int → Int → List Int → List Int → Option (Bool)
 | 0, _, _, _, _, _, _, _ => none
 | k + 1, x5, x6, x7, x277000, x277001, x277002, x278000 => if x7 < x5 then (if x6 = x7 then (if 0 ≤ (wrap64 ((wrap64 (x6 * x5)) + x6)) then (if (wrap64 ((wrap64 (x6 * x5)) + x6)) < (x278000.length : Int) then (if (rd x278000 (wrap64 ((wrap64 (x6 * x5)) + x6))) = 4 then (spec_TableOk.l1 k x5 x6 (wrap64 (x7 + 1)) x277000 x277001 x277002 x278000) else (none)) else (none)) else (none)) else ((spec_l04Walk.f k x277000 x277001 x277002 x278000 x6 x7).bind fun t281 => (if (t281.length : Int) = 0 then (none) else (spec_TableOk.l1 k x5 x6 (wrap64 (x7 + 1)) x277000 x277001 x277002 x278000)))) else (spec_TableOk.l0 k x5 (wrap64 (x6 + 1)) x277000 x277001 x277002 x278000)
end
def spec_TableOk.f (k : Nat) (a0_0 : Int) (a0_1 : Int) (l0_2 : List Int) (l1_0 : List Int) : Option (Bool) := (spec_l04Sized.f k a0_0 a0_1 l0_2 l1_0).bind fun t278 => (if t278 = true then ((spec_NodeCount.f a0_0 a0_1).bind fun t279 => (spec_TableOk.l0 k t279 0 a0_0 a0_1 l0_2 l1_0)) else (none))
theorem spec_TableOk.mono_l : ∀ k, (∀ y0 y1 y2 y3 y4 y5, LeO (spec_TableOk.l0 k y0 y1 y2 y3 y4 y5) (spec_TableOk.l0 (k + 1) y0 y1 y2 y3 y4 y5)) ∧ (∀ y0 y1 y2 y3 y4 y5 y6, LeO (spec_TableOk.l1 k y0 y1 y2 y3 y4 y5 y6) (spec_TableOk.l1 (k + 1) y0 y1 y2 y3 y4 y5 y6))
 | 0 => ⟨fun _ _ _ _ _ _ r h => by simp [spec_TableOk.l0] at h, fun _ _ _ _ _ _ _ r h => by simp [spec_TableOk.l1] at h⟩
 | k + 1 => by
  obtain ⟨ih0, ih1⟩ := spec_TableOk.mono_l k
  refine ⟨?_, ?_⟩
  ·intro y0 y1 y2 y3 y4 y5
   unfold spec_TableOk.l0
   repeat' (with_reducible first | exact ih0 .. | exact ih1 .. | exact spec_l04Sized.mono .. | exact spec_l04Walk.mono .. | exact LeO.refl .. | exact LeO.none .. | refine LeO.ite ?_ ?_ | refine LeO.bind ?_ (fun _ => ?_))
  ·intro y0 y1 y2 y3 y4 y5 y6
   unfold spec_TableOk.l1
   repeat' (with_reducible first | exact ih0 .. | exact ih1 .. | exact spec_l04Sized.mono .. | exact spec_l04Walk.mono .. | exact LeO.refl .. | exact LeO.none .. | refine LeO.ite ?_ ?_ | refine LeO.bind ?_ (fun _ => ?_))
theorem spec_TableOk.mono : ∀ a0 a1 a2 a3 k, LeO (spec_TableOk.f k a0 a1 a2 a3) (spec_TableOk.f (k + 1) a0 a1 a2 a3) := by
 intro a0 a1 a2 a3 k
 obtain ⟨ih0, ih1⟩ := spec_TableOk.mono_l k
 unfold spec_TableOk.f
 repeat' (with_reducible first | exact ih0 .. | exact ih1 .. | exact spec_l04Sized.mono .. | exact spec_l04Walk.mono .. | exact LeO.refl .. | exact LeO.none .. | refine LeO.ite ?_ ?_ | refine LeO.bind ?_ (fun _ => ?_))
theorem spec_TableOk.calls (k : Nat) (a0_0 : Int) (a0_1 : Int) (A0_2 : Option Addr) (c0_2 : Nat) (l0_2 : List Int) (A1_0 : Option Addr) (c1_0 : Nat) (l1_0 : List Int) (r : Bool) (w : World) (hr0_2 : Kd.C (Kd.int .i64) w A0_2 l0_2.length l0_2) (hc0_2 : l0_2.length ≤ c0_2) (hr1_0 : Kd.C (Kd.int .i64) w A1_0 l1_0.length l1_0) (hc1_0 : l1_0.length ≤ c1_0) (h : spec_TableOk.f k a0_0 a0_1 l0_2 l1_0 = some r) :
  Calls Try.prog 82 #[.agg #[.int .i64 a0_0, .int .i64 a0_1, .slice A0_2 l0_2.length c0_2], .agg #[.slice A1_0 l1_0.length c1_0]] w fun e w' => e = .returned (.bool r) ∧ Below w.heap.size w w' := by
 have hu28 := Try.underlying28
 have hu30 := Try.underlying30
 have hu25 := Try.underlying25
 have HR0_2 := am hr0_2
 have HC0_2 := am hc0_2
 clear hr0_2 hc0_2
 have HR1_0 := am hr1_0
 have HC1_0 := am hc1_0
 clear hr1_0 hc1_0
 have HB := am (Below.refl w.heap.size w)
 have H : ((spec_l04Sized.f k a0_0 a0_1 l0_2 l1_0).bind fun t278 => (if t278 = true then ((spec_NodeCount.f a0_0 a0_1).bind fun t279 => (spec_TableOk.l0 k t279 0 a0_0 a0_1 l0_2 l1_0)) else (none))) = some r := h
 clear h
 obtain ⟨t278, A3, H⟩ := bi_ H
 by_cases c4 : t278 = true
 ·subst c4
  rw [if_pos rfl] at H
  obtain ⟨t279, A5, H⟩ := bi_ H
  have H' := am H
  clear H
  go_enter Try.func82, Try.ntmps82
  go_wp2_with (first | ((with_reducible refine gate_dst (N := 2) rfl ?_); (try (refine gate_guard (by rfl) ?_; dsimp only)); refine bx_ 2 #[.int .i64 a0_0, .int .i64 a0_1, .slice A0_2 l0_2.length c0_2] 28 ?_; intro gb276 hg w6 hbox hb; have BK276 := am (hbox); have GW276 := gw_ hg HB; replace HB := h9_ HB hb; clear hb hbox hg) | ((with_reducible refine gate_dst (N := 3) rfl ?_); (try (refine gate_guard (by rfl) ?_; dsimp only)); refine bx_ 3 #[.slice A1_0 l1_0.length c1_0] 30 ?_; intro gb277 hg w7 hbox hb; have BK277 := am (hbox); have GW277 := gw_ hg HB; replace HB := h9_ HB hb; have NB276_277 := nl_ hg BK276; have NB277_276 := ng_ hg BK276; replace BK276 := kb_ BK276 hb; clear hb hbox hg; have hnb8 := NB276_277.out; have hnc8 := NB277_276.out; obtain ⟨hcz9_0, hcz9_1, hcz9_2, hfz9_0, hfz9_1, hfz9_2⟩ := cz3_ BK276.out; obtain ⟨hcz10_0, hfz10_0⟩ := cz1_ BK277.out) | ((with_reducible refine gate_callee (f := 97) rfl ?_); refine gm_ (some 10) Try.func97 #[.agg #[.int .i64 a0_0, .int .i64 a0_1, .slice A0_2 l0_2.length c0_2], .agg #[.slice A1_0 l1_0.length c1_0]] rfl ?_; (with_reducible refine (spec_l04Sized.calls k a0_0 a0_1 _ _ l0_2 _ _ l1_0 true _ ?side1 HC0_2.out ?side3 HC1_0.out A3.out).mono ?_); (case side1 => exact cb_ HR0_2.out HB.out); (case side3 => exact cb_ HR1_0.out HB.out); rintro e w11 ⟨rfl, hb⟩; refine ⟨_, rfl, ?_⟩; replace BK276 := kb_ BK276 hb; replace BK277 := kb_ BK277 hb; replace HB := h9_ HB hb; (try clear hb); obtain ⟨hcz12_0, hcz12_1, hcz12_2, hfz12_0, hfz12_1, hfz12_2⟩ := cz3_ BK276.out) | ((with_reducible refine gate_callee (f := 57) rfl ?_); refine gm_ (some 14) Try.func57 #[.agg #[.int .i64 a0_0, .int .i64 a0_1]] rfl ?_; (with_reducible refine (spec_NodeCount.calls a0_0 a0_1 t279 _ A5.out).mono ?_); rintro e w13 ⟨rfl, hb⟩; refine ⟨_, rfl, ?_⟩; replace BK276 := kb_ BK276 hb; replace BK277 := kb_ BK277 hb; replace HB := h9_ HB hb; (try clear hb)))
  go_loopg [6] k (fun kq v6 w' => ∃ (x6_1 : Int), v6 = .int .i64 x6_1 ∧ Aside0 (spec_TableOk.l0 kq t279 x6_1 a0_0 a0_1 l0_2 l1_0 = some r) ∧ Aside0 (kq ≤ k) ∧ Aside0 (w'.heap[gb276]? = some (.cells #[.int .i64 a0_0, .int .i64 a0_1, (.slice A0_2 l0_2.length c0_2)] 28 (0, 0))) ∧ Aside0 (w'.heap[gb277]? = some (.cells #[(.slice A1_0 l1_0.length c1_0)] 30 (0, 0))) ∧ Aside0 (Below w.heap.size w w'))
  case atStart => exact ⟨(0), ef_, H', ⟨Nat.le_refl _⟩, ⟨bq_ BK276.out⟩, ⟨bq_ BK277.out⟩, ⟨bb_ HB.out⟩⟩
  clear H'
  try clear c4
  try clear hcz10_0 hfz10_0
  try clear hcz12_0 hcz12_1 hcz12_2 hfz12_0 hfz12_1 hfz12_2
  try clear hcz9_0 hcz9_1 hcz9_2 hfz9_0 hfz9_1 hfz9_2
  obtain ⟨x6_1, rfl, HA, HK1, BK276, BK277, HB⟩ := hrel
  obtain _ | k1 := gk
  ·exact absurd HA.out (by simp [spec_TableOk.l0])
  have H := HA.out
  clear HA
  simp only [spec_TableOk.l0] at H
  by_cases c14 : x6_1 < t279
  rotate_left
  ·rw [if_neg c14] at H
   have c14b0 : decide (x6_1 < t279) = false := decide_eq_false c14
   clear c14
   obtain rfl := Option.some.inj H
   go_wp2
   go_ret
   exact ⟨fin_, bb_ HB.out⟩
  rw [if_pos c14] at H
  have c14b0 : decide (x6_1 < t279) = true := decide_eq_true c14
  clear c14
  have H' := am H
  clear H
  go_wp2
  go_loopg [7] k1 (fun kq v7 w' => ∃ (x7_2 : Int), v7 = .int .i64 x7_2 ∧ Aside0 (spec_TableOk.l1 kq t279 x6_1 x7_2 a0_0 a0_1 l0_2 l1_0 = some r) ∧ Aside0 (kq ≤ k1) ∧ Aside0 (w'.heap[gb276]? = some (.cells #[.int .i64 a0_0, .int .i64 a0_1, (.slice A0_2 l0_2.length c0_2)] 28 (0, 0))) ∧ Aside0 (w'.heap[gb277]? = some (.cells #[(.slice A1_0 l1_0.length c1_0)] 30 (0, 0))) ∧ Aside0 (Below w.heap.size w w'))
  case atStart => exact ⟨(0), ef_, H', ⟨Nat.le_refl _⟩, ⟨bq_ BK276.out⟩, ⟨bq_ BK277.out⟩, ⟨bb_ HB.out⟩⟩
  clear H'
  try clear c4
  try clear c14
  try clear c14b0
  try clear hcz10_0 hfz10_0
  try clear hcz12_0 hcz12_1 hcz12_2 hfz12_0 hfz12_1 hfz12_2
  try clear hcz9_0 hcz9_1 hcz9_2 hfz9_0 hfz9_1 hfz9_2
  obtain ⟨x7_2, rfl, HA, HK2, BK276, BK277, HB⟩ := hrel
  obtain _ | k2 := gk
  ·exact absurd HA.out (by simp [spec_TableOk.l1])
  have H := HA.out
  clear HA
  simp only [spec_TableOk.l1] at H
  by_cases c15 : x7_2 < t279
  rotate_left
  ·rw [if_neg c15] at H
   have c15b0 : decide (x7_2 < t279) = false := decide_eq_false c15
   clear c15
   have H' := am H
   clear H
   go_wp2
   go_roundg k2
   case measure => have := HK1.out; have := HK2.out; omega
   case rel => exact ⟨(wrap64 (x6_1 + 1)), ef_, H', ⟨by have := HK1.out; have := HK2.out; omega⟩, ⟨bq_ BK276.out⟩, ⟨bq_ BK277.out⟩, ⟨bb_ HB.out⟩⟩
  rw [if_pos c15] at H
  have c15b0 : decide (x7_2 < t279) = true := decide_eq_true c15
  clear c15
  by_cases c16 : x6_1 = x7_2
  rotate_left
  ·rw [if_neg c16] at H
   have c16b0 : (x6_1 == x7_2) = false := beq_eq_false_iff_ne.mpr c16
   have c16b1 : (x6_1 != x7_2) = true := bne_iff_ne.mpr c16
   obtain ⟨t281, A23, H⟩ := bi_ H
   by_cases c24 : (t281.length : Int) = 0
   ·rw [if_pos c24] at H
    exact absurd H (by simp)
   rw [if_neg c24] at H
   have c24b0 : ((t281.length : Int) == 0) = false := beq_eq_false_iff_ne.mpr c24
   have c24b1 : ((t281.length : Int) != 0) = true := bne_iff_ne.mpr c24
   have c24b2 : ¬ (t281 = []) := fun h_ => c24 (by rw [h_]; rfl)
   have H' := am H
   clear H
   have hnb25 := NB276_277.out
   have hnc25 := NB277_276.out
   obtain ⟨hcz26_0, hcz26_1, hcz26_2, hfz26_0, hfz26_1, hfz26_2⟩ := cz3_ BK276.out
   obtain ⟨hcz27_0, hfz27_0⟩ := cz1_ BK277.out
   go_wp2_with (first | (go_at_call 98; (with_reducible refine (spec_l04Walk.calls k2 a0_0 a0_1 _ _ l0_2 _ _ l1_0 x6_1 x7_2 t281 _ ?side1 HC0_2.out ?side3 HC1_0.out A23.out).mono ?_); (case side1 => exact cb_ HR0_2.out HB.out); (case side3 => exact cb_ HR1_0.out HB.out); rintro e w28 ⟨v282, rfl, ho0, hb⟩; have HO283 := am (Kd.R_lower ho0 (bz_ HB.out)); replace BK276 := kb_ BK276 hb; replace BK277 := kb_ BK277 hb; replace HB := h9_ HB hb; (try clear hb); (try clear ho0); obtain ⟨Ao29, co29, eo29⟩ := Kd.R_slice HO283.out; subst eo29))
   go_roundg k2
   case measure => have := HK1.out; have := HK2.out; omega
   case rel => exact ⟨(wrap64 (x7_2 + 1)), ef_, H', ⟨by have := HK1.out; have := HK2.out; omega⟩, ⟨bq_ BK276.out⟩, ⟨bq_ BK277.out⟩, ⟨bb_ HB.out⟩⟩
  rw [if_pos c16] at H
  have c16b0 : (x6_1 == x7_2) = true := beq_iff_eq.mpr c16
  have c16b1 : (x6_1 != x7_2) = false := bne_eq_false_iff_eq.mpr c16
  clear c16
  obtain ⟨ji17, hji17⟩ : ∃ j_ : Int, (wrap64 ((wrap64 (x6_1 * t279)) + x6_1)) = j_ := ⟨_, rfl⟩
  replace H : (if 0 ≤ (ji17) then (if (ji17) < (l1_0.length : Int) then (if (rd l1_0 (ji17)) = 4 then (spec_TableOk.l1 k2 t279 x6_1 (wrap64 (x7_2 + 1)) a0_0 a0_1 l0_2 l1_0) else (none)) else (none)) else (none)) = some r := by first | (rw [hji17] at H; exact H) | (simp only [hji17] at H ⊢; exact H)
  have hji17w : (IntKind.i64.wrap ((wrap64 (x6_1 * t279)) + x6_1)) = ji17 := (i64_w _).trans hji17
  by_cases c18 : 0 ≤ (ji17)
  rotate_left
  ·rw [if_neg c18] at H
   exact absurd H (by simp)
  rw [if_pos c18] at H
  have c18b0 : decide (0 ≤ (ji17)) = true := decide_eq_true c18
  clear c18
  by_cases c19 : (ji17) < (l1_0.length : Int)
  rotate_left
  ·rw [if_neg c19] at H
   exact absurd H (by simp)
  rw [if_pos c19] at H
  have c19b0 : decide ((ji17) < (l1_0.length : Int)) = true := decide_eq_true c19
  clear c19
  by_cases c20 : (rd l1_0 (ji17)) = 4
  rotate_left
  ·rw [if_neg c20] at H
   exact absurd H (by simp)
  rw [if_pos c20] at H
  have c20b0 : ((rd l1_0 (ji17)) == 4) = true := beq_iff_eq.mpr c20
  have c20b1 : ((rd l1_0 (ji17)) != 4) = false := bne_eq_false_iff_eq.mpr c20
  clear c20
  have H' := am H
  clear H
  have hnb21 := NB277_276.out
  have hnc21 := NB276_277.out
  obtain ⟨hcz22_0, hfz22_0⟩ := cz1_ BK277.out
  have p280 : 0 ≤ ((ji17) : Int) := of_decide_eq_true dg_
  have q280 : (ji17) < (l1_0.length : Int) := of_decide_eq_true dg_
  obtain ⟨ad280, e280, hx280_0⟩ := Kd.at_int HR1_0.out (ji17) p280 q280
  cases e280
  replace hx280_0 := hc_ HB hx280_0
  replace p280 := eq_true p280
  replace q280 := eq_true q280
  go_wp2
  go_roundg k2
  case measure => have := HK1.out; have := HK2.out; omega
  case rel => exact ⟨(wrap64 (x7_2 + 1)), ef_, H', ⟨by have := HK1.out; have := HK2.out; omega⟩, ⟨bq_ BK276.out⟩, ⟨bq_ BK277.out⟩, ⟨bb_ HB.out⟩⟩
 ·replace c4 := Bool.eq_false_iff.mpr c4
  subst c4
  rw [if_neg (show ¬ (false = true) by decide)] at H
  exact absurd H (by simp)
def spec_ClassesOk.f (k : Nat) (a0_0 : Int) (a0_1 : Int) (l0_2 : List Int) (l1_0 : List Int) (l1_1 : List Int) : Option (Bool) := (spec_TableOk.f k a0_0 a0_1 l0_2 l1_0).bind fun t286 => (if t286 = true then ((spec_TableOk.f k a0_0 a0_1 l0_2 l1_1).bind fun t287 => (some t287)) else (none))
theorem spec_ClassesOk.calls (k : Nat) (a0_0 : Int) (a0_1 : Int) (A0_2 : Option Addr) (c0_2 : Nat) (l0_2 : List Int) (A1_0 : Option Addr) (c1_0 : Nat) (l1_0 : List Int) (A1_1 : Option Addr) (c1_1 : Nat) (l1_1 : List Int) (r : Bool) (w : World) (hr0_2 : Kd.C (Kd.int .i64) w A0_2 l0_2.length l0_2) (hc0_2 : l0_2.length ≤ c0_2) (hr1_0 : Kd.C (Kd.int .i64) w A1_0 l1_0.length l1_0) (hc1_0 : l1_0.length ≤ c1_0) (hr1_1 : Kd.C (Kd.int .i64) w A1_1 l1_1.length l1_1) (hc1_1 : l1_1.length ≤ c1_1) (h : spec_ClassesOk.f k a0_0 a0_1 l0_2 l1_0 l1_1 = some r) :
  Calls Try.prog 59 #[.agg #[.int .i64 a0_0, .int .i64 a0_1, .slice A0_2 l0_2.length c0_2], .agg #[.slice A1_0 l1_0.length c1_0, .slice A1_1 l1_1.length c1_1]] w fun e w' => e = .returned (.bool r) ∧ Below w.heap.size w w' := by
 have hu28 := Try.underlying28
 have hu32 := Try.underlying32
 have hu30 := Try.underlying30
 have HR0_2 := am hr0_2
 have HC0_2 := am hc0_2
 clear hr0_2 hc0_2
 have HR1_0 := am hr1_0
 have HC1_0 := am hc1_0
 clear hr1_0 hc1_0
 have HR1_1 := am hr1_1
 have HC1_1 := am hc1_1
 clear hr1_1 hc1_1
 have HB := am (Below.refl w.heap.size w)
 have H : ((spec_TableOk.f k a0_0 a0_1 l0_2 l1_0).bind fun t286 => (if t286 = true then ((spec_TableOk.f k a0_0 a0_1 l0_2 l1_1).bind fun t287 => (some t287)) else (none))) = some r := h
 clear h
 obtain ⟨t286, A3, H⟩ := bi_ H
 by_cases c4 : t286 = true
 ·subst c4
  rw [if_pos rfl] at H
  obtain ⟨t287, A5, H⟩ := bi_ H
  obtain rfl := Option.some.inj H
  go_enter Try.func59, Try.ntmps59
  go_wp2_with (first | ((with_reducible refine gate_dst (N := 2) rfl ?_); refine bx_ 2 #[.int .i64 a0_0, .int .i64 a0_1, .slice A0_2 l0_2.length c0_2] 28 ?_; intro gb284 hg w6 hbox hb; have BK284 := am (hbox); have GW284 := gw_ hg HB; replace HB := h9_ HB hb; clear hb hbox hg) | ((with_reducible refine gate_dst (N := 3) rfl ?_); refine bx_ 3 #[.slice A1_0 l1_0.length c1_0, .slice A1_1 l1_1.length c1_1] 32 ?_; intro gb285 hg w7 hbox hb; have BK285 := am (hbox); have GW285 := gw_ hg HB; replace HB := h9_ HB hb; have NB284_285 := nl_ hg BK284; have NB285_284 := ng_ hg BK284; replace BK284 := kb_ BK284 hb; clear hb hbox hg; have hnb8 := NB284_285.out; have hnc8 := NB285_284.out; obtain ⟨hcz9_0, hcz9_1, hcz9_2, hfz9_0, hfz9_1, hfz9_2⟩ := cz3_ BK284.out; obtain ⟨hcz10_0, hcz10_1, hfz10_0, hfz10_1⟩ := cz2_ BK285.out) | ((with_reducible refine gate_callee (f := 82) rfl ?_); refine gm_ (some 8) Try.func82 #[.agg #[.int .i64 a0_0, .int .i64 a0_1, .slice A0_2 l0_2.length c0_2], .agg #[.slice A1_0 l1_0.length c1_0]] rfl ?_; (with_reducible refine (spec_TableOk.calls k a0_0 a0_1 _ _ l0_2 _ _ l1_0 true _ ?side1 HC0_2.out ?side3 HC1_0.out A3.out).mono ?_); (case side1 => exact cb_ HR0_2.out HB.out); (case side3 => exact cb_ HR1_0.out HB.out); rintro e w11 ⟨rfl, hb⟩; refine ⟨_, rfl, ?_⟩; replace BK284 := kb_ BK284 hb; replace BK285 := kb_ BK285 hb; replace HB := h9_ HB hb; (try clear hb); obtain ⟨hcz12_0, hcz12_1, hcz12_2, hfz12_0, hfz12_1, hfz12_2⟩ := cz3_ BK284.out; obtain ⟨hcz13_0, hcz13_1, hfz13_0, hfz13_1⟩ := cz2_ BK285.out) | (go_at_call 82; (with_reducible refine (spec_TableOk.calls k a0_0 a0_1 _ _ l0_2 _ _ l1_1 t287 _ ?side1 HC0_2.out ?side3 HC1_1.out A5.out).mono ?_); (case side1 => exact cb_ HR0_2.out HB.out); (case side3 => exact cb_ HR1_1.out HB.out); rintro e w14 ⟨rfl, hb⟩; replace BK284 := kb_ BK284 hb; replace BK285 := kb_ BK285 hb; replace HB := h9_ HB hb; (try clear hb)))
  go_ret
  exact ⟨fin_, bb_ HB.out⟩
 ·replace c4 := Bool.eq_false_iff.mpr c4
  subst c4
  rw [if_neg (show ¬ (false = true) by decide)] at H
  exact absurd H (by simp)
def spec_l15Mesh.f (a0_0 : Int) (a0_1 : Int) (l0_2 : List Int) : Option (Int × Int × List Int) := (some (([] : List Int) : List Int)).bind fun y290 => (if y290.length + l0_2.length < 17592186044416 then (some (a0_0, a0_1, (y290 ++ l0_2))) else (none))
def spec_l15Mesh.T1 : Bool × List (List Nat × List Nat) := (true, [([], []), ([0], [0]), ([], []), ([], []), ([3], [3]), ([2, 4], [2, 4]), ([1, 5], [1, 5]), ([6, 5, 0, 1, 2, 3, 4, 5, 6], [6])])
def spec_l15Mesh.B1 : List Nat := [0, 1, 0, 0, 8, 28, 63, 127]
theorem spec_l15Mesh.tab1 : rtab .any (opsOf Try.f60 1) = spec_l15Mesh.T1 := by kernel_rfl
theorem spec_l15Mesh.bits1 : waitsOk spec_l15Mesh.T1.2 spec_l15Mesh.B1 = true := by kernel_rfl
theorem spec_l15Mesh.calls (a0_0 : Int) (a0_1 : Int) (A0_2 : Option Addr) (c0_2 : Nat) (l0_2 : List Int) (r1 : Int) (r2 : Int) (r3 : List Int) (w : World) (hr0_2 : Kd.C (Kd.int .i64) w A0_2 l0_2.length l0_2) (hc0_2 : l0_2.length ≤ c0_2) (h : spec_l15Mesh.f a0_0 a0_1 l0_2 = some (r1, r2, r3)) :
  Calls Try.prog 60 #[.agg #[.int .i64 a0_0, .int .i64 a0_1, .slice A0_2 l0_2.length c0_2]] w fun e w' => ∃ v2_ : Value, e = .returned (.agg #[.int .i64 r1, .int .i64 r2, v2_]) ∧ Kd.R (Kd.int .i64) 3 w' w.heap.size (fun _ => True) v2_ r3 ∧ Below w.heap.size w w' := by
 have hu28 := Try.underlying28
 have hu25 := Try.underlying25
 have HR0_2 := am hr0_2
 have HC0_2 := am hc0_2
 clear hr0_2 hc0_2
 have HB := am (Below.refl w.heap.size w)
 have H : ((some (([] : List Int) : List Int)).bind fun y290 => (if y290.length + l0_2.length < 17592186044416 then (some (a0_0, a0_1, (y290 ++ l0_2))) else (none))) = some (r1, r2, r3) := h
 clear h
 obtain ⟨y290, Ny290, H⟩ := bo_ H
 by_cases c2 : y290.length + l0_2.length < 17592186044416
 ·rw [if_pos c2] at H
  have LMc2 := am c2
  clear c2
  obtain ⟨y293, hy293⟩ : ∃ y_ : List Int, y_ = (y290 ++ l0_2) := ⟨_, rfl⟩
  replace H : (some (a0_0, a0_1, y293)) = some (r1, r2, r3) := ry_ hy293 H
  have Ny293 := am hy293
  clear hy293
  simp only [Option.some.injEq, Prod.mk.injEq] at H
  obtain ⟨rfl, rfl, rfl⟩ := H
  go_enter Try.func60, Try.ntmps60
  try go_wp2_with (first | ((with_reducible refine gate_dst (N := 1) rfl ?_); refine bx_ 1 #[.int .i64 a0_0, .int .i64 a0_1, .slice A0_2 l0_2.length c0_2] 28 ?_; intro gb288 hg w3 hbox hb; have BK288 := am (hbox); have GW288 := gw_ hg HB; replace HB := h9_ HB hb; clear hb hbox hg) | ((with_reducible refine gate_dst (N := 2) rfl ?_); refine bx_ 2 #[.int .i64 0, .int .i64 0, .slice none 0 0] 28 ?_; intro gb289 hg w4 hbox hb; have BK289 := am (hbox); have GW289 := gw_ hg HB; replace HB := h9_ HB hb; have NB288_289 := nl_ hg BK288; have NB289_288 := ng_ hg BK288; replace BK288 := kb_ BK288 hb; clear hb hbox hg))
  replace BK288 := am (blk_drew BK288.out)
  replace BK289 := am (blk_drew BK289.out)
  replace HB := am (below_drew1 HB.out)
  refine start_ (n := 8) (S := fun w' => w'.cell? ⟨gb288, 0, none⟩ = some (.int .i64 a0_0) ∧ w'.cell? ⟨gb288, 1, none⟩ = some (.int .i64 a0_1) ∧ w'.cell? ⟨gb288, 2, none⟩ = some (.slice A0_2 l0_2.length c0_2)) (ds := []) #[false, false, false, false, false, false, false, false] (by kernel_rfl) rfl rfl ⟨(blk_cell BK288.out 0).trans rfl, (blk_cell BK288.out 1).trans rfl, (blk_cell BK288.out 2).trans rfl⟩ (fun hHeld => ?_); refine with_tabW spec_l15Mesh.tab1 spec_l15Mesh.bits1 (fun HT_ HW_ => ?_)
  generalize w4.drew = w5 at BK288 BK289 HB hHeld ⊢
  refine pu_ 0 3 (bt_ 8 1) HT_ ?_
  refine pu_ 3 6 (bt_ 8 9) HT_ ?_
  refine tw_ 1 4 (bt_ 8 11) HT_ HW_ hHeld ?_
  refine tw_ 4 7 (bt_ 8 27) HT_ HW_ hHeld ?_
  refine one_ (i := 2) (N := some 5) (bt_ 8 31) rfl rfl (one_of HT_.out (by kernel_rfl)) (by decide) (fun K hK => ?_)
  refine Kd.R_lit_step (Kd.int .i64) _ 3 ?hg (N := 5) ?hd (xs := ([] : List Int)) (inner := []) (ok := fun _ => True) (okp := fun _ => True) ?hr ?hp (fun _ hk => hk) trivial (Below.refl _ _) (Nat.le_refl _) (by simp) ?_; (case hd => rfl); (case hg => rfl); (case hr => first | (go_simp; done) | (go_simp; rfl)); (case hp => exact (Reps.none _ _))
  intro v291 w6 ho7 hb hg_ hnew_
  clear hg_ hnew_
  (first | rw [← Ny290.out] at ho7 | (simp only [Int.reduceToNat] at ho7; rw [← Ny290.out] at ho7))
  have n0_ := am (Kd.R_lower ho7 (bz_ HB.out))
  have n1_ := am (bk_ BK288.out hb)
  have n2_ := am (bk_ BK289.out hb)
  have n3_ := am (bs_ HB.out hb)
  clear BK288 BK289 HB
  have HO292 := n0_
  have BK288 := n1_
  have BK289 := n2_
  have HB := n3_
  clear n0_ n1_ n2_ n3_ hb ho7
  refine hK.out _ _ ⟨(blk_cell BK288.out 0).trans rfl, (blk_cell BK288.out 1).trans rfl, (blk_cell BK288.out 2).trans rfl⟩ (fun hHeld => ?_)
  clear hK K
  refine nm_ 5 ?_
  refine one_ (i := 5) (N := some 8) (bt_ 8 63) rfl rfl (one_of HT_.out (by kernel_rfl)) (by decide) (fun K hK => ?_)
  refine Kd.R_append_rows_step (Kd.int .i64) (w0 := w) w.heap.size (by rfl) (.tmp 5) (.tmp 7) 26 3 (.int .i64 0) 8 rfl Try.underlying26 info3 rfl (by decide) (by omega) v291 y290 l0_2 _ _ _ (fun _ => True) (fun _ => False) rfl rfl ?aO ?aR (fun _ _ h => h) (fun _ h => h.elim) ?aF ?aB ?aS ?aL ?_
  (case aR => exact cb_ HR0_2.out HB.out)
  (case aB => exact (hb_ HB.out))
  (case aF => exact (fun _ _ => trivial))
  (case aO => exact (ra_ HO292.out))
  (case aS => exact (bz_ HB.out))
  (case aL => have := LMc2.out; omega)
  intro v294 w8 ho hb hg hat
  rw [← Ny293.out] at ho
  have n0_ := am (blk_grown (g := gb288) (o := .cells #[.int .i64 a0_0, .int .i64 a0_1, .slice A0_2 l0_2.length c0_2] 28 (0, 0)) (bq_ BK288.out) hg (Kd.R_ne HO292.out BK288.out (by decide)))
  have n1_ := am (blk_grown (g := gb289) (o := .cells #[.int .i64 0, .int .i64 0, .slice none 0 0] 28 (0, 0)) (bq_ BK289.out) hg (Kd.R_ne HO292.out BK289.out (by decide)))
  have n2_ := am (hb)
  have n3_ := am (ho)
  clear BK288 BK289 HB HO292
  have BK288 := n0_
  have BK289 := n1_
  have HB := n2_
  have HO295 := n3_
  clear n0_ n1_ n2_ n3_ ho hb hg hat
  obtain ⟨Ao9, co9, eo9⟩ := Kd.R_slice HO295.out
  (first | subst eo9 | (injection eo9 with f1_ f2_ f3_; have f4_ := f1_.symm; have f5_ := f3_.symm; clear f1_ f2_ f3_; subst f4_; subst f5_))
  refine hK.out _ _ ⟨(blk_cell BK288.out 0).trans rfl, (blk_cell BK288.out 1).trans rfl, (blk_cell BK288.out 2).trans rfl⟩ (fun hHeld => ?_)
  clear hK K
  refine nm_ 8 ?_
  refine pu_ 6 9 (bt_ 8 127) HT_ ?_
  refine one_ (i := 7) (N := none) (bt_ 8 255) rfl rfl (one_of HT_.out (by kernel_rfl)) (by decide) (fun K hK => ?_)
  have hs10 : w8.cell? ⟨gb289, 0, none⟩ = some (.int .i64 0) := (blk_cell BK289.out 0).trans rfl
  have hfs10 := blk_frozen BK289.out 0
  have hns10_0 := NB288_289.out
  have hms10_0 := NB289_288.out
  have hs11 : w8.cell? ⟨gb289, 1, none⟩ = some (.int .i64 0) := (blk_cell BK289.out 1).trans rfl
  have hfs11 := blk_frozen BK289.out 1
  have hns11_0 := NB288_289.out
  have hms11_0 := NB289_288.out
  have hs12 : w8.cell? ⟨gb289, 2, none⟩ = some (.slice none 0 0) := (blk_cell BK289.out 2).trans rfl
  have hfs12 := blk_frozen BK289.out 2
  have hns12_0 := NB288_289.out
  have hms12_0 := NB289_288.out
  refine skip_ (w1 := ?_) (by rfl) rfl ?_ ?_
  rotate_left
  ·go_simp
   rfl
  refine hK.out _ _ ⟨((cell_far (p := ⟨gb289, _, none⟩) NB288_289.out _).trans (((cell_far (p := ⟨gb289, _, none⟩) NB288_289.out _).trans (((cell_far (p := ⟨gb289, _, none⟩) NB288_289.out _).trans (hHeld.1)))))), ((cell_far (p := ⟨gb289, _, none⟩) NB288_289.out _).trans (((cell_far (p := ⟨gb289, _, none⟩) NB288_289.out _).trans (((cell_far (p := ⟨gb289, _, none⟩) NB288_289.out _).trans (hHeld.2.1)))))), ((cell_far (p := ⟨gb289, _, none⟩) NB288_289.out _).trans (((cell_far (p := ⟨gb289, _, none⟩) NB288_289.out _).trans (((cell_far (p := ⟨gb289, _, none⟩) NB288_289.out _).trans (hHeld.2.2))))))⟩ (fun hHeld => ?_)
  clear hK K
  refine done_ (done_of HT_.out (by kernel_rfl)) ?_
  try go_wp2
  refine bodyPost_ret (results_cell_row rfl _ _ gb289 28 #[.int .i64 a0_0, .int .i64 a0_1, .slice Ao9 y293.length co9] (0, 0) _ rfl (by (with_reducible repeat (first | refine blk_drewN ?_ _ | refine blk_drew ?_ | refine blk_alloc ?_ _)); refine blk_put (cs := #[.int .i64 a0_0, .int .i64 a0_1, .slice none 0 0]) ?_ 2 _ rfl; (with_reducible repeat (first | refine blk_drewN ?_ _ | refine blk_drew ?_ | refine blk_alloc ?_ _)); refine blk_put (cs := #[.int .i64 a0_0, .int .i64 0, .slice none 0 0]) ?_ 1 _ rfl; (with_reducible repeat (first | refine blk_drewN ?_ _ | refine blk_drew ?_ | refine blk_alloc ?_ _)); refine blk_put (cs := #[.int .i64 0, .int .i64 0, .slice none 0 0]) ?_ 0 _ rfl; (with_reducible repeat (first | refine blk_drewN ?_ _ | refine blk_drew ?_ | refine blk_alloc ?_ _)); exact BK289.out) Try.underlying28 rfl (by kernel_rfl)) rfl ?_
  exact ⟨_, fin_, rm_ (Kd.R_types HO295.out BK289.out (by decide)) (fun _ hk => trivial), bb_ HB.out⟩
 ·rw [if_neg c2] at H
  exact absurd H (by simp)
def spec_l12Copy.f (l0_0 : List Int) : Option (List Int) := (some (([] : List Int) : List Int)).bind fun y298 => (if y298.length + l0_0.length < 17592186044416 then (some (y298 ++ l0_0)) else (none))
theorem spec_l12Copy.calls (A0_0 : Option Addr) (c0_0 : Nat) (l0_0 : List Int) (r : List Int) (w : World) (hr0_0 : Kd.C (Kd.int .i64) w A0_0 l0_0.length l0_0) (hc0_0 : l0_0.length ≤ c0_0) (h : spec_l12Copy.f l0_0 = some r) :
  Calls Try.prog 83 #[.agg #[.slice A0_0 l0_0.length c0_0]] w fun e w' => ∃ v0_ : Value, e = .returned (.agg #[v0_]) ∧ Kd.R (Kd.int .i64) 3 w' w.heap.size (fun _ => True) v0_ r ∧ Below w.heap.size w w' := by
 have hu30 := Try.underlying30
 have HR0_0 := am hr0_0
 have HC0_0 := am hc0_0
 clear hr0_0 hc0_0
 have HB := am (Below.refl w.heap.size w)
 have H : ((some (([] : List Int) : List Int)).bind fun y298 => (if y298.length + l0_0.length < 17592186044416 then (some (y298 ++ l0_0)) else (none))) = some r := h
 clear h
 obtain ⟨y298, Ny298, H⟩ := bo_ H
 by_cases c2 : y298.length + l0_0.length < 17592186044416
 ·rw [if_pos c2] at H
  have LMc2 := am c2
  clear c2
  obtain ⟨y301, hy301⟩ : ∃ y_ : List Int, y_ = (y298 ++ l0_0) := ⟨_, rfl⟩
  replace H : (some y301) = some r := ry_ hy301 H
  have Ny301 := am hy301
  clear hy301
  obtain rfl := Option.some.inj H
  go_enter Try.func83, Try.ntmps83
  go_wp2_with (first | ((with_reducible refine gate_dst (N := 1) rfl ?_); refine bx_ 1 #[.slice A0_0 l0_0.length c0_0] 30 ?_; intro gb296 hg w3 hbox hb; have BK296 := am (hbox); have GW296 := gw_ hg HB; replace HB := h9_ HB hb; clear hb hbox hg) | ((with_reducible refine gate_dst (N := 2) rfl ?_); refine bx_ 2 #[.slice none 0 0] 30 ?_; intro gb297 hg w4 hbox hb; have BK297 := am (hbox); have GW297 := gw_ hg HB; replace HB := h9_ HB hb; have NB296_297 := nl_ hg BK296; have NB297_296 := ng_ hg BK296; replace BK296 := kb_ BK296 hb; clear hb hbox hg) | ((with_reducible refine gate_dst (N := 3) rfl ?_); refine Kd.R_lit (Kd.int .i64) _ 3 ?hg (N := 3) ?hd (xs := ([] : List Int)) (inner := []) (ok := fun _ => True) (okp := fun _ => True) ?hr ?hp (fun _ hk => hk) trivial (Below.refl _ _) (Nat.le_refl _) (by simp) ?_; (case hd => rfl); (case hg => rfl); (case hr => first | (go_simp; done) | (go_simp; rfl)); (case hp => exact (Reps.none _ _)); intro v299 w5 ho6 hb hg_ hnew_; clear hg_ hnew_; (first | rw [← Ny298.out] at ho6 | (simp only [Int.reduceToNat] at ho6; rw [← Ny298.out] at ho6)); have HO300 := am (Kd.R_lower ho6 (bz_ HB.out)); replace BK296 := kb_ BK296 hb; replace BK297 := kb_ BK297 hb; replace HB := h9_ HB hb; clear hb ho6; have hnb7 := NB296_297.out; have hnc7 := NB297_296.out; obtain ⟨hcz8_0, hfz8_0⟩ := cz1_ BK296.out) | ((with_reducible refine gate_builtin (b := .append) (xs := #[.tmp 3, .tmp 5]) rfl ?_); at_builtin; refine Kd.R_append_rows (Kd.int .i64) (w0 := w) w.heap.size rfl (.tmp 3) (.tmp 5) 26 3 (.int .i64 0) 8 rfl Try.underlying26 info3 rfl (by decide) (by omega) v299 y298 l0_0 _ _ _ (fun _ => True) (fun _ => False) rfl rfl ?aO ?aR (fun _ _ h => h) (fun _ h => h.elim) ?aF ?aB ?aS ?aL ?_; (case aR => exact cb_ HR0_0.out HB.out); (case aB => exact (hb_ HB.out)); (case aF => exact (fun _ _ => trivial)); (case aO => exact (ra_ HO300.out)); (case aS => exact (bz_ HB.out)); (case aL => have := LMc2.out; omega); intro v302 w9 ho hb hg hat; rw [← Ny301.out] at ho; have n0_ := am (blk_grown (g := gb296) (o := .cells #[.slice A0_0 l0_0.length c0_0] 30 (0, 0)) (bq_ BK296.out) hg (Kd.R_ne HO300.out BK296.out (by decide))); have n1_ := am (blk_grown (g := gb297) (o := .cells #[.slice none 0 0] 30 (0, 0)) (bq_ BK297.out) hg (Kd.R_ne HO300.out BK297.out (by decide))); have n2_ := am (hb); have n3_ := am (ho); clear BK296; clear BK297; clear HB; clear HO300; have BK296 := n0_; have BK297 := n1_; have HB := n2_; have HO303 := n3_; clear n0_ n1_ n2_ n3_; clear ho hb hg hat; obtain ⟨Ao10, co10, eo10⟩ := Kd.R_slice HO303.out; subst eo10; obtain ⟨hcz11_0, hfz11_0⟩ := cz1_ BK297.out))
  refine bodyPost_ret (results_cell_row rfl _ _ gb297 30 #[.slice Ao10 y301.length co10] (0, 0) _ rfl (by (with_reducible repeat (first | refine blk_drewN ?_ _ | refine blk_drew ?_ | refine blk_alloc ?_ _)); refine blk_put (cs := #[.slice none 0 0]) ?_ 0 _ rfl; (with_reducible repeat (first | refine blk_drewN ?_ _ | refine blk_drew ?_ | refine blk_alloc ?_ _)); exact BK297.out) Try.underlying30 rfl (by kernel_rfl)) rfl ?_
  exact ⟨_, fin_, rm_ (Kd.R_types HO303.out BK297.out (by decide)) (fun _ hk => trivial), bb_ HB.out⟩
 ·rw [if_neg c2] at H
  exact absurd H (by simp)
end Go.Proofs.Yteiemoooelpdaaa.PFnCreditSum
-- thin
