/- The law's functions as plain functions, and their calls. No condition. -/
import Derived.Test.YtchhgfgebomegaaPFnSendsx0
import Derived.Test.YtchhgfgebomegaaPFnSendsx4
import Derived.Test.YtchhgfgebomegaaPFnSendsx9
import Derived.Test.YtchhgfgebomegaaPFnSendsx11
namespace Go.Proofs.Ytchhgfgebomegaa.PFnSends
open Go.RowKit Go.Proofs.YtchhgfgebomegaaW.PrintWords Go.Proofs.YtchhgfgebomegaaW.PrintLast Go.Proofs.YtchhgfgebomegaaW.PrintMore
attribute [local go_sem] max2_int min2_int max_two min_two max_three min_three max_four min_four
set_option linter.unusedVariables false
set_option maxHeartbeats 8000000
set_option maxRecDepth 100000
set_option linter.unusedSimpArgs false

/-! ### impl_PacketOk: function 48 -/
def impl_PacketOk.f (a0_0 : Int) (a0_1 : Int) (a1_0 : Int) (a1_1 : Int) (a1_2 : Int) (a1_3 : Int) (a1_4 : Int) : Option (Bool) := (impl_inside.f a1_0 1 9999).bind fun t425 => (if t425 = true then ((impl_isNode.f a0_0 a0_1 a1_1).bind fun t426 => (if t426 = true then ((impl_isNode.f a0_0 a0_1 a1_2).bind fun t427 => (if t427 = true then (if a1_1 = a1_2 then (some false) else ((impl_inside.f a1_3 0 1).bind fun t428 => (if t428 = true then ((impl_inside.f a1_4 1 5).bind fun t429 => (some t429)) else (some false)))) else (some false))) else (some false))) else (some false))
theorem impl_PacketOk.e0 {P : Prop} (h : P := by
 go_enter Try.func48, Try.ntmps48
 go_wp2_with (first | ((with_reducible refine gate_dst (N := 2) rfl ?_); refine box_event ?hg (N := 2) ?hd (cs := #[.int .i64 a0_0, .int .i64 a0_1]) (t := 25) ?hr ?_; (case hd => rfl); (case hg => rfl); (case hr => first | (go_simp; done) | (go_simp; rfl)); intro gb423 hg w_0 hbox hb; have BK423 := Aside0.mk (hbox); have GW423 := gw_ hg HB; have GE423 := gw_ hg HB; replace HB := hs_ HB hb; clear hb hbox hg) | ((with_reducible refine gate_dst (N := 3) rfl ?_); refine box_event ?hg (N := 3) ?hd (cs := #[.int .i64 a1_0, .int .i64 a1_1, .int .i64 a1_2, .int .i64 a1_3, .int .i64 a1_4]) (t := 44) ?hr ?_; (case hd => rfl); (case hg => rfl); (case hr => first | (go_simp; done) | (go_simp; rfl)); intro gb424 hg w_0 hbox hb; have BK424 := Aside0.mk (hbox); have GW424 := gw_ hg HB; have GE424 := gw_ hg HB; replace HB := hs_ HB hb; have NB423_424 := nl_ hg BK423; have NB424_423 := ng_ hg BK423; replace BK423 := kb_ BK423 hb; clear hb hbox hg; have hnb_ := NB424_423.out; have hnc_ := NB423_424.out; obtain ⟨hcz_0, hcz_1, hcz_2, hcz_3, hcz_4, hfz_0, hfz_1, hfz_2, hfz_3, hfz_4⟩ := cz5_ BK424.out) | ((with_reducible refine gate_callee (f := 27) rfl ?_); refine gm_ (some 7) Try.func27 #[.int .i64 a1_0, .int .i64 1, .int .i64 9999] rfl ?_; (with_reducible refine (impl_inside.calls a1_0 1 9999 _ _ A3.out).mono ?_); rintro e w' ⟨rfl, ⟨nd, rfl⟩⟩; refine ⟨_, rfl, ?_⟩; obtain ⟨hcz_0, hcz_1, hfz_0, hfz_1⟩ := cz2_ BK423.out) | (go_at_call 39; (with_reducible refine (impl_isNode.calls a0_0 a0_1 a1_1 _ _ A5.out).mono ?_); rintro e w_0 ⟨rfl, hb⟩; replace BK423 := kb_ BK423 hb; replace BK424 := kb_ BK424 hb; replace HB := hs_ HB hb; (try clear hb); obtain ⟨hcz_0, hcz_1, hfz_0, hfz_1⟩ := cz2_ BK423.out; obtain ⟨hcz__0, hcz__1, hcz__2, hcz__3, hcz__4, hfz__0, hfz__1, hfz__2, hfz__3, hfz__4⟩ := cz5_ BK424.out) | (go_at_call 39; (with_reducible refine (impl_isNode.calls a0_0 a0_1 a1_2 _ _ A7.out).mono ?_); rintro e w_0 ⟨rfl, hb⟩; replace BK423 := kb_ BK423 hb; replace BK424 := kb_ BK424 hb; replace HB := hs_ HB hb; (try clear hb); obtain ⟨hcz_0, hcz_1, hcz_2, hcz_3, hcz_4, hfz_0, hfz_1, hfz_2, hfz_3, hfz_4⟩ := cz5_ BK424.out) | (go_at_call 27; (with_reducible refine (impl_inside.calls a1_3 0 1 _ _ A20.out).mono ?_); rintro e w' ⟨rfl, ⟨nd, rfl⟩⟩) | (go_at_call 27; (with_reducible refine (impl_inside.calls a1_4 1 5 t429 _ A22.out).mono ?_); rintro e w' ⟨rfl, ⟨nd, rfl⟩⟩))
 go_ret
 exact ⟨fin_, bb_ HB.out⟩) : P := h
theorem impl_PacketOk.calls (a0_0 : Int) (a0_1 : Int) (a1_0 : Int) (a1_1 : Int) (a1_2 : Int) (a1_3 : Int) (a1_4 : Int) (r : Bool) (w : World) (h : impl_PacketOk.f a0_0 a0_1 a1_0 a1_1 a1_2 a1_3 a1_4 = some r) :
  Calls Try.prog 48 #[.agg #[.int .i64 a0_0, .int .i64 a0_1], .agg #[.int .i64 a1_0, .int .i64 a1_1, .int .i64 a1_2, .int .i64 a1_3, .int .i64 a1_4]] w fun e w' => e = .returned (.bool r) ∧ Below w.heap.size w w' := by
 have hu25 := Try.underlying25
 have hu44 := Try.underlying44
 have HB := Aside0.mk (Below.refl w.heap.size w)
 have H : ((impl_inside.f a1_0 1 9999).bind fun t425 => (if t425 = true then ((impl_isNode.f a0_0 a0_1 a1_1).bind fun t426 => (if t426 = true then ((impl_isNode.f a0_0 a0_1 a1_2).bind fun t427 => (if t427 = true then (if a1_1 = a1_2 then (some false) else ((impl_inside.f a1_3 0 1).bind fun t428 => (if t428 = true then ((impl_inside.f a1_4 1 5).bind fun t429 => (some t429)) else (some false)))) else (some false))) else (some false))) else (some false))) = some r := h
 clear h
 obtain ⟨t425, A3, H⟩ := bi_ H
 by_cases c4 : t425 = true
 ·subst c4
  rw [if_pos rfl] at H
  obtain ⟨t426, A5, H⟩ := bi_ H
  by_cases c6 : t426 = true
  rotate_left
  ·replace c6 := Bool.eq_false_iff.mpr c6
   subst c6
   rw [if_neg (show ¬ (false = true) by decide)] at H
   obtain rfl := Option.some.inj H
   exact impl_PacketOk.e0
  subst c6
  rw [if_pos rfl] at H
  obtain ⟨t427, A7, H⟩ := bi_ H
  by_cases c8 : t427 = true
  rotate_left
  ·replace c8 := Bool.eq_false_iff.mpr c8
   subst c8
   rw [if_neg (show ¬ (false = true) by decide)] at H
   obtain rfl := Option.some.inj H
   exact impl_PacketOk.e0
  subst c8
  rw [if_pos rfl] at H
  by_cases c9 : a1_1 = a1_2
  ·rw [if_pos c9] at H
   have c9b0 : (a1_1 == a1_2) = true := beq_iff_eq.mpr c9
   have c9b1 : (a1_1 != a1_2) = false := bne_eq_false_iff_eq.mpr c9
   clear c9
   obtain rfl := Option.some.inj H
   exact impl_PacketOk.e0
  rw [if_neg c9] at H
  have c9b0 : (a1_1 == a1_2) = false := beq_eq_false_iff_ne.mpr c9
  have c9b1 : (a1_1 != a1_2) = true := bne_iff_ne.mpr c9
  obtain ⟨t428, A20, H⟩ := bi_ H
  by_cases c21 : t428 = true
  rotate_left
  ·replace c21 := Bool.eq_false_iff.mpr c21
   subst c21
   rw [if_neg (show ¬ (false = true) by decide)] at H
   obtain rfl := Option.some.inj H
   exact impl_PacketOk.e0
  subst c21
  rw [if_pos rfl] at H
  obtain ⟨t429, A22, H⟩ := bi_ H
  obtain rfl := Option.some.inj H
  exact impl_PacketOk.e0
 ·replace c4 := Bool.eq_false_iff.mpr c4
  subst c4
  rw [if_neg (show ¬ (false = true) by decide)] at H
  obtain rfl := Option.some.inj H
  exact impl_PacketOk.e0

/-! ### impl_FlitsOf: function 38 -/
def impl_FlitsOf.l0 : Nat → List (S79) → Int → Int → Int → Int → Int → Int → Int → Option ((List (S79)))
 | 0, _, _, _, _, _, _, _, _ => none
 | k + 1, x5, x14, x15, x432000, x432001, x432002, x432003, x432004 => if x15 < x14 then (if x5.length < 4398046511104 then (impl_FlitsOf.l0 k (x5 ++ [(⟨x432000, x432002, x432003, (x15 == 0), (x15 == (wrap64 (x432004 - 1)))⟩ : S79)]) x14 (wrap64 (x15 + 1)) x432000 x432001 x432002 x432003 x432004) else (none)) else (some x5)
def impl_FlitsOf.f (k : Nat) (a0_0 : Int) (a0_1 : Int) (a1_0 : Int) (a1_1 : Int) (a1_2 : Int) (a1_3 : Int) (a1_4 : Int) : Option ((List (S79))) := (some (([] : List (S79)) : List (S79))).bind fun y432 => ((impl_PacketOk.f a0_0 a0_1 a1_0 a1_1 a1_2 a1_3 a1_4).bind fun t435 => (if t435 = true then (impl_FlitsOf.l0 k y432 a1_4 0 a1_0 a1_1 a1_2 a1_3 a1_4) else (some y432)))
theorem impl_FlitsOf.mono_l : ∀ k, (∀ y0 y1 y2 y3 y4 y5 y6 y7, LeO (impl_FlitsOf.l0 k y0 y1 y2 y3 y4 y5 y6 y7) (impl_FlitsOf.l0 (k + 1) y0 y1 y2 y3 y4 y5 y6 y7))
 | 0 => fun _ _ _ _ _ _ _ _ r h => by simp [impl_FlitsOf.l0] at h
 | k + 1 => by
  have ih0 := impl_FlitsOf.mono_l k
  ·intro y0 y1 y2 y3 y4 y5 y6 y7
   unfold impl_FlitsOf.l0
   repeat' (with_reducible first | exact ih0 .. | exact LeO.refl .. | exact LeO.none .. | refine LeO.ite ?_ ?_ | refine LeO.bind ?_ (fun _ => ?_))
theorem impl_FlitsOf.mono : ∀ a0 a1 a2 a3 a4 a5 a6 k, LeO (impl_FlitsOf.f k a0 a1 a2 a3 a4 a5 a6) (impl_FlitsOf.f (k + 1) a0 a1 a2 a3 a4 a5 a6) := by
 intro a0 a1 a2 a3 a4 a5 a6 k
 have ih0 := impl_FlitsOf.mono_l k
 unfold impl_FlitsOf.f
 repeat' (with_reducible first | exact ih0 .. | exact LeO.refl .. | exact LeO.none .. | refine LeO.ite ?_ ?_ | refine LeO.bind ?_ (fun _ => ?_))
theorem impl_FlitsOf.calls (k : Nat) (a0_0 : Int) (a0_1 : Int) (a1_0 : Int) (a1_1 : Int) (a1_2 : Int) (a1_3 : Int) (a1_4 : Int) (r : List (S79)) (w : World) (h : impl_FlitsOf.f k a0_0 a0_1 a1_0 a1_1 a1_2 a1_3 a1_4 = some r) :
  Calls Try.prog 38 #[.agg #[.int .i64 a0_0, .int .i64 a0_1], .agg #[.int .i64 a1_0, .int .i64 a1_1, .int .i64 a1_2, .int .i64 a1_3, .int .i64 a1_4]] w fun e w' => ∃ v0_ : Value, e = .returned (v0_) ∧ Kd.R k79 79 w' w.heap.size (fun _ => True) v0_ r ∧ Below w.heap.size w w' := by
 have hu25 := Try.underlying25
 have hu44 := Try.underlying44
 have hu79 := Try.underlying79
 have HB := Aside0.mk (Below.refl w.heap.size w)
 have H : ((some (([] : List (S79)) : List (S79))).bind fun y432 => ((impl_PacketOk.f a0_0 a0_1 a1_0 a1_1 a1_2 a1_3 a1_4).bind fun t435 => (if t435 = true then (impl_FlitsOf.l0 k y432 a1_4 0 a1_0 a1_1 a1_2 a1_3 a1_4) else (some y432)))) = some r := h
 clear h
 obtain ⟨y432, Ny432, H⟩ := bo_ H
 obtain ⟨t435, A3, H⟩ := bi_ H
 by_cases c4 : t435 = true
 ·subst c4
  rw [if_pos rfl] at H
  have H' := Aside0.mk H
  clear H
  go_enter Try.func38, Try.ntmps38
  go_wp2_with (first | ((with_reducible refine gate_dst (N := 2) rfl ?_); refine box_event ?hg (N := 2) ?hd (cs := #[.int .i64 a0_0, .int .i64 a0_1]) (t := 25) ?hr ?_; (case hd => rfl); (case hg => rfl); (case hr => first | (go_simp; done) | (go_simp; rfl)); intro gb430 hg w5 hbox hb; have BK430 := Aside0.mk (hbox); have GW430 := gw_ hg HB; have GE430 := gw_ hg HB; replace HB := hs_ HB hb; clear hb hbox hg) | ((with_reducible refine gate_dst (N := 3) rfl ?_); refine box_event ?hg (N := 3) ?hd (cs := #[.int .i64 a1_0, .int .i64 a1_1, .int .i64 a1_2, .int .i64 a1_3, .int .i64 a1_4]) (t := 44) ?hr ?_; (case hd => rfl); (case hg => rfl); (case hr => first | (go_simp; done) | (go_simp; rfl)); intro gb431 hg w6 hbox hb; have BK431 := Aside0.mk (hbox); have GW431 := gw_ hg HB; have GE431 := gw_ hg HB; replace HB := hs_ HB hb; have NB430_431 := nl_ hg BK430; have NB431_430 := ng_ hg BK430; replace BK430 := kb_ BK430 hb; clear hb hbox hg) | ((with_reducible refine gate_dst (N := 7) rfl ?_); refine Kd.R_lit k79 _ 79 ?hg (N := 7) ?hd (xs := ([] : List (S79))) (inner := []) (ok := fun _ => True) (okp := fun _ => True) ?hr ?hp (fun _ hk => hk) trivial (Below.refl _ _) (Nat.le_refl _) (by simp) ?_; (case hd => rfl); (case hg => rfl); (case hr => first | (go_simp; done) | (go_simp; rfl)); (case hp => exact (Reps.none _ _)); intro v433 w7 ho8 hb hg_ hnew_; clear hg_ hnew_; (first | rw [← Ny432.out] at ho8 | (simp only [Int.reduceToNat] at ho8; rw [← Ny432.out] at ho8)); have HO434 := Aside0.mk (Kd.R_lower ho8 (bz_ HB.out)); replace BK430 := kb_ BK430 hb; replace BK431 := kb_ BK431 hb; replace HB := hs_ HB hb; clear hb ho8; have hnb9 := NB430_431.out; have hnc9 := NB431_430.out; obtain ⟨hcz10_0, hcz10_1, hfz10_0, hfz10_1⟩ := cz2_ BK430.out; obtain ⟨hcz11_0, hcz11_1, hcz11_2, hcz11_3, hcz11_4, hfz11_0, hfz11_1, hfz11_2, hfz11_3, hfz11_4⟩ := cz5_ BK431.out) | ((with_reducible refine gate_callee (f := 48) rfl ?_); refine gm_ (some 10) Try.func48 #[.agg #[.int .i64 a0_0, .int .i64 a0_1], .agg #[.int .i64 a1_0, .int .i64 a1_1, .int .i64 a1_2, .int .i64 a1_3, .int .i64 a1_4]] rfl ?_; (with_reducible refine (impl_PacketOk.calls a0_0 a0_1 a1_0 a1_1 a1_2 a1_3 a1_4 true _ A3.out).mono ?_); rintro e w12 ⟨rfl, hb⟩; refine ⟨_, rfl, ?_⟩; replace HO434 := rb_ HO434 hb; replace BK430 := kb_ BK430 hb; replace BK431 := kb_ BK431 hb; replace HB := hs_ HB hb; (try clear hb); obtain ⟨hcz13_0, hcz13_1, hcz13_2, hcz13_3, hcz13_4, hfz13_0, hfz13_1, hfz13_2, hfz13_3, hfz13_4⟩ := cz5_ BK431.out))
  go_loopg [5, 15] k (fun kq v5 v15 w' => ∃ (x5_1 : List (S79)) (x15_1 : Int), v15 = .int .i64 x15_1 ∧ Aside0 (impl_FlitsOf.l0 kq x5_1 a1_4 x15_1 a1_0 a1_1 a1_2 a1_3 a1_4 = some r) ∧ Aside0 (kq ≤ k) ∧ Aside0 (Kd.R k79 79 w' w.heap.size (fun _ => True) v5 x5_1) ∧ Aside0 (w'.heap[gb430]? = some (.cells #[.int .i64 a0_0, .int .i64 a0_1] 25 (0, 0))) ∧ Aside0 (w'.heap[gb431]? = some (.cells #[.int .i64 a1_0, .int .i64 a1_1, .int .i64 a1_2, .int .i64 a1_3, .int .i64 a1_4] 44 (0, 0))) ∧ Aside0 (Below w.heap.size w w'))
  case atStart => exact ⟨(y432), (0), ef_, H', ⟨Nat.le_refl _⟩, ⟨ra_ HO434.out⟩, ⟨bq_ BK430.out⟩, ⟨bq_ BK431.out⟩, ⟨bb_ HB.out⟩⟩
  clear H'
  try clear c4
  try clear hcz10_0 hcz10_1 hfz10_0 hfz10_1
  try clear hcz11_0 hcz11_1 hcz11_2 hcz11_3 hcz11_4 hfz11_0 hfz11_1 hfz11_2 hfz11_3 hfz11_4
  try clear hcz13_0 hcz13_1 hcz13_2 hcz13_3 hcz13_4 hfz13_0 hfz13_1 hfz13_2 hfz13_3 hfz13_4
  obtain ⟨x5_1, x15_1, rfl, HA, HK1, HO_5, BK430, BK431, HB⟩ := hrel
  obtain _ | k1 := gk
  ·exact absurd HA.out (by simp [impl_FlitsOf.l0])
  have H := HA.out
  clear HA
  simp only [impl_FlitsOf.l0] at H
  by_cases c14 : x15_1 < a1_4
  rotate_left
  ·rw [if_neg c14] at H
   have c14b0 : decide (x15_1 < a1_4) = false := decide_eq_false c14
   clear c14
   obtain rfl := Option.some.inj H
   go_wp2
   go_ret
   exact ⟨_, fin_, ra_ HO_5.out, bb_ HB.out⟩
  rw [if_pos c14] at H
  have c14b0 : decide (x15_1 < a1_4) = true := decide_eq_true c14
  clear c14
  by_cases c15 : x5_1.length < 4398046511104
  rotate_left
  ·rw [if_neg c15] at H
   exact absurd H (by simp)
  rw [if_pos c15] at H
  have LMc15 := Aside0.mk c15
  clear c15
  obtain ⟨y436, hy436⟩ : ∃ y_ : List (S79), y_ = (x5_1 ++ [(⟨a1_0, a1_2, a1_3, (x15_1 == 0), (x15_1 == (wrap64 (a1_4 - 1)))⟩ : S79)]) := ⟨_, rfl⟩
  replace H : (impl_FlitsOf.l0 k1 y436 a1_4 (wrap64 (x15_1 + 1)) a1_0 a1_1 a1_2 a1_3 a1_4) = some r := by first | (rw [hy436]; with_reducible exact H) | (have H2_ := (Option.bind_some _ _).symm.trans H; rw [hy436]; with_reducible exact H2_) | (have H2_ := (Option.bind_some _ _).symm.trans H; with_reducible exact H2_) | with_reducible exact H | (rw [hy436]; exact H) | exact H
  have Ny436 := Aside0.mk hy436
  clear hy436
  have H' := Aside0.mk H
  clear H
  have hnb16 := NB431_430.out
  have hnc16 := NB430_431.out
  obtain ⟨hcz17_0, hcz17_1, hcz17_2, hcz17_3, hcz17_4, hfz17_0, hfz17_1, hfz17_2, hfz17_3, hfz17_4⟩ := cz5_ BK431.out
  go_wp2_with (first | ((with_reducible refine gate_builtin (b := .append) (xs := #[.tmp 18, .tmp 33]) rfl ?_); at_builtin; refine Kd.R_append k79 (w0 := w) w.heap.size rfl (.tmp 18) (.tmp 33) 61 79 (.agg #[(.int .i64 0), (.int .i64 0), (.int .i64 0), (.bool false), (.bool false)]) 32 rfl Try.underlying61 info79 rfl (by decide) (by omega) u5 x5_1 (⟨a1_0, a1_2, a1_3, (x15_1 == 0), (x15_1 == (wrap64 (a1_4 - 1)))⟩ : S79) [.int .i64 a1_0, .int .i64 a1_2, .int .i64 a1_3, .bool (x15_1 == 0), .bool (x15_1 == (wrap64 (a1_4 - 1)))] (fun _ => True) (fun _ => False) rfl rfl ?aP (fun _ hk => hk.elim) ?aF ?aO ?aB ?aS ?aL ?_; (case aP => exact k79_mkM _ _ _ (⟨a1_0, a1_2, a1_3, (x15_1 == 0), (x15_1 == (wrap64 (a1_4 - 1)))⟩ : S79)); (case aB => exact (by repeat (first | (with_reducible first | exact HB.out | apply below_alloc | apply pw_below_drewN | apply below_drew1 | refine below_set ?_ GE430.out | refine below_set ?_ GE431.out) | exact HB.out))); (case aF => exact (fun _ _ => trivial)); (case aO => exact (ra_ HO_5.out)); (case aS => exact (bz_ HB.out)); (case aL => have := LMc15.out; omega); intro v437 w18 ho hb hg hat; rw [← Ny436.out] at ho; have n0_ := Aside0.mk (blk_grown (g := gb430) (o := .cells #[.int .i64 a0_0, .int .i64 a0_1] 25 (0, 0)) (by (with_reducible repeat (first | refine blk_drewN ?_ _ | refine blk_drew ?_ | refine blk_alloc ?_ _)); exact BK430.out) hg (Kd.R_ne HO_5.out BK430.out (by decide))); have n1_ := Aside0.mk (blk_grown (g := gb431) (o := .cells #[.int .i64 a1_0, .int .i64 a1_1, .int .i64 a1_2, .int .i64 a1_3, .int .i64 a1_4] 44 (0, 0)) (by (with_reducible repeat (first | refine blk_drewN ?_ _ | refine blk_drew ?_ | refine blk_alloc ?_ _)); exact BK431.out) hg (Kd.R_ne HO_5.out BK431.out (by decide))); have n2_ := Aside0.mk (hb); have n3_ := Aside0.mk (ho); clear BK430; clear BK431; clear HB; clear HO_5; have BK430 := n0_; have BK431 := n1_; have HB := n2_; have HO438 := n3_; clear n0_ n1_ n2_ n3_; clear ho hb hg hat))
  go_roundg k1
  case measure => have := HK1.out; omega
  case rel => exact ⟨(y436), (wrap64 (x15_1 + 1)), ef_, H', ⟨by have := HK1.out; omega⟩, ⟨ra_ HO438.out⟩, ⟨bq_ BK430.out⟩, ⟨bq_ BK431.out⟩, ⟨bb_ HB.out⟩⟩
 ·replace c4 := Bool.eq_false_iff.mpr c4
  subst c4
  rw [if_neg (show ¬ (false = true) by decide)] at H
  obtain rfl := Option.some.inj H
  go_enter Try.func38, Try.ntmps38
  go_wp2_with (first | ((with_reducible refine gate_dst (N := 2) rfl ?_); refine box_event ?hg (N := 2) ?hd (cs := #[.int .i64 a0_0, .int .i64 a0_1]) (t := 25) ?hr ?_; (case hd => rfl); (case hg => rfl); (case hr => first | (go_simp; done) | (go_simp; rfl)); intro gb430 hg w19 hbox hb; have BK430 := Aside0.mk (hbox); have GW430 := gw_ hg HB; have GE430 := gw_ hg HB; replace HB := hs_ HB hb; clear hb hbox hg) | ((with_reducible refine gate_dst (N := 3) rfl ?_); refine box_event ?hg (N := 3) ?hd (cs := #[.int .i64 a1_0, .int .i64 a1_1, .int .i64 a1_2, .int .i64 a1_3, .int .i64 a1_4]) (t := 44) ?hr ?_; (case hd => rfl); (case hg => rfl); (case hr => first | (go_simp; done) | (go_simp; rfl)); intro gb431 hg w20 hbox hb; have BK431 := Aside0.mk (hbox); have GW431 := gw_ hg HB; have GE431 := gw_ hg HB; replace HB := hs_ HB hb; have NB430_431 := nl_ hg BK430; have NB431_430 := ng_ hg BK430; replace BK430 := kb_ BK430 hb; clear hb hbox hg) | ((with_reducible refine gate_dst (N := 7) rfl ?_); refine Kd.R_lit k79 _ 79 ?hg (N := 7) ?hd (xs := ([] : List (S79))) (inner := []) (ok := fun _ => True) (okp := fun _ => True) ?hr ?hp (fun _ hk => hk) trivial (Below.refl _ _) (Nat.le_refl _) (by simp) ?_; (case hd => rfl); (case hg => rfl); (case hr => first | (go_simp; done) | (go_simp; rfl)); (case hp => exact (Reps.none _ _)); intro v433 w21 ho22 hb hg_ hnew_; clear hg_ hnew_; (first | rw [← Ny432.out] at ho22 | (simp only [Int.reduceToNat] at ho22; rw [← Ny432.out] at ho22)); have HO434 := Aside0.mk (Kd.R_lower ho22 (bz_ HB.out)); replace BK430 := kb_ BK430 hb; replace BK431 := kb_ BK431 hb; replace HB := hs_ HB hb; clear hb ho22; have hnb23 := NB430_431.out; have hnc23 := NB431_430.out; obtain ⟨hcz24_0, hcz24_1, hfz24_0, hfz24_1⟩ := cz2_ BK430.out; obtain ⟨hcz25_0, hcz25_1, hcz25_2, hcz25_3, hcz25_4, hfz25_0, hfz25_1, hfz25_2, hfz25_3, hfz25_4⟩ := cz5_ BK431.out) | ((with_reducible refine gate_callee (f := 48) rfl ?_); refine gm_ (some 10) Try.func48 #[.agg #[.int .i64 a0_0, .int .i64 a0_1], .agg #[.int .i64 a1_0, .int .i64 a1_1, .int .i64 a1_2, .int .i64 a1_3, .int .i64 a1_4]] rfl ?_; (with_reducible refine (impl_PacketOk.calls a0_0 a0_1 a1_0 a1_1 a1_2 a1_3 a1_4 false _ A3.out).mono ?_); rintro e w26 ⟨rfl, hb⟩; refine ⟨_, rfl, ?_⟩; replace HO434 := rb_ HO434 hb; replace BK430 := kb_ BK430 hb; replace BK431 := kb_ BK431 hb; replace HB := hs_ HB hb; (try clear hb)))
  go_ret
  exact ⟨_, fin_, ra_ HO434.out, bb_ HB.out⟩

/-! ### impl_Net_send: function 23 -/
section
variable {P : Program} {ops : Array Oper} {Q : Exit → Act → World → Prop} {md : Region.Mode} {S : World → Prop} {ds : List Nat} {oi : Oper} {v : Value} {fuel : Nat} {l : Array Bool} {a a' : Act} {w : World}
theorem pk_ (i N : Nat) (l' : Array Bool) (h : wpAnyLast P md ops Q S ds fuel l' a' w)
 (hi : ops[i]? = some oi := by rfl) (hN : oi.dst = some N := by rfl) (hc : anyB md ops l l' i = true := by kernel_rfl) (hQ : ∀ c a w, Q (.panic c) (a.put oi.dst v) w → Q (.panic c) a w := by (exact fun _ _ _ h => h)) (hw : Region.wanted oi (yielded ops a.tmps) = true := by rfl) (hy : ∀ w, (execOp a.eval oi).run P w = .ok (.value v) w := by (intro w'; go_simp; with_reducible rfl)) (ha : a.put (some N) v = a' := by (simp only [Act.put, List.setIfInBounds_toArray, List.set_cons_zero, List.set_cons_succ, i64_w, i32_w]; rfl)) : wpAnyLast P md ops Q S ds (fuel + 1) l a w := pure_ l' hi hN hc hQ (Or.inl ⟨hw, hy⟩) ha h
theorem uk_ (i N : Nat) (l' : Array Bool) (h : wpAnyLast P md ops Q S ds fuel l' a' w)
 (hi : ops[i]? = some oi := by rfl) (hN : oi.dst = some N := by rfl) (hc : anyB md ops l l' i = true := by kernel_rfl) (hQ : ∀ c a w, Q (.panic c) (a.put oi.dst undef) w → Q (.panic c) a w := by (exact fun _ _ _ h => h)) (hw : Region.wanted oi (yielded ops a.tmps) = false := by rfl) (ha : a.put (some N) undef = a' := by (simp only [Act.put, List.setIfInBounds_toArray, List.set_cons_zero, List.set_cons_succ, i64_w, i32_w]; rfl)) : wpAnyLast P md ops Q S ds (fuel + 1) l a w := pure_ l' hi hN hc hQ (Or.inr ⟨hw, rfl⟩) ha h
theorem tk_ (i N : Nat) (l' : Array Bool) (hS : S w) (h : wpAnyLast P md ops Q S ds fuel l' a' w)
 (hi : ops[i]? = some oi := by rfl) (hN : oi.dst = some N := by rfl) (hc : takeB md ops ds l l' i = true := by kernel_rfl) (hQ : ∀ c a w, Q (.panic c) (a.put oi.dst v) w → Q (.panic c) a w := by (exact fun _ _ _ h => h)) (hw : Region.wanted oi (yielded ops a.tmps) = true := by rfl) (ha : a.put (some N) v = a' := by (simp only [Act.put, List.setIfInBounds_toArray, List.set_cons_zero, List.set_cons_succ, i64_w, i32_w]; rfl)) (hy : ∀ w, S w → (execOp a.eval oi).run P w = .ok (.value v) w) : wpAnyLast P md ops Q S ds (fuel + 1) l a w := take_ l' hi hN hc hQ (Or.inl ⟨hw, hy⟩) hS ha h
end
theorem Marks.belowV {T : Nat → Nat} {B : Nat} {w V w1 : World} {v2 v3 v4 v5 v6 v7 v8 v9 : Value} {l2 l3 l4 : List Int} {l5 : List (List S79)} {l6 l7 : List Int} {l8 l9 : List (List S79)} (h : Marks T B w v2 v3 v4 v5 v6 v7 v8 v9 l2 l3 l4 l5 l6 l7 l8 l9) (hb : Below V.heap.size V w1) (hV : V.heap = w.heap := by rfl) : Marks T B w1 v2 v3 v4 v5 v6 v7 v8 v9 l2 l3 l4 l5 l6 l7 l8 l9 :=
 Marks.below (Marks.move h (fun k _ => by rw [hV]) (Nat.le_of_eq (by rw [hV]))) hb
theorem Marks.grow8 {T : Nat → Nat} {B : Nat} {w w1 : World} {v2 v3 v4 v5 v6 v7 v8 v9 : Value} {l2 l3 l4 : List Int} {l5 : List (List S79)} {l6 l7 : List Int} {l8 l9 r : List (List S79)} (h : Marks T B w v2 v3 v4 v5 v6 v7 v8 v9 l2 l3 l4 l5 l6 l7 l8 l9) (hb : B ≤ w.heap.size)
  (h8 : Kd.S (Kd.slice 79 k79) 61 w1 B (fun k => T k = 8 ∨ w.heap.size ≤ k) v8 r) (hK : Kept w w1 (fun k => T k = 8)) :
  ∃ T', (∀ k, k < w.heap.size → T' k = T k) ∧ Marks T' B w1 v2 v3 v4 v5 v6 v7 v8 v9 l2 l3 l4 l5 l6 l7 r l9 := by
 have hm : ∀ n, n ≠ 0 → n ≠ 8 → (∀ k, T k = n → w1.heap[k]? = w.heap[k]?) ∧ ∀ k, T k = n → (if w.heap.size ≤ k ∧ k < w1.heap.size then 8 else T k) = n := fun n h0 h8 =>
  ⟨fun k e => hK.2 k (h.hi k (by omega)) (fun e2 => h8 (e.symm.trans e2)), fun k e => by have := h.hi k (by omega); rw [if_neg (by omega)]; exact e⟩
 have hR {d : Kd Int} {e : Nat} {v : Value} {xs : List Int} (n : Nat) (h0 : n ≠ 0) (hn : n ≠ 8) (h2 : Kd.R d e w B (fun k => T k = n) v xs) : Kd.R d e w1 B (fun k => (if w.heap.size ≤ k ∧ k < w1.heap.size then 8 else T k) = n) v xs := Kd.R_mono (Kd.R_move h2 (hm n h0 hn).1) (hm n h0 hn).2
 have hS {d : Kd (List S79)} {e : Nat} {v : Value} {xs : List (List S79)} (n : Nat) (h0 : n ≠ 0) (hn : n ≠ 8) (h2 : Kd.S d e w B (fun k => T k = n) v xs) : Kd.S d e w1 B (fun k => (if w.heap.size ≤ k ∧ k < w1.heap.size then 8 else T k) = n) v xs := Kd.S_mono (Kd.S_move h2 (hm n h0 hn).1) (hm n h0 hn).2
 refine ⟨fun k => if w.heap.size ≤ k ∧ k < w1.heap.size then 8 else T k, fun k hk => if_neg (by omega), fun k hk => ?_, fun k hk => ?_, hR 2 (by decide) (by decide) h.h2, hR 3 (by decide) (by decide) h.h3, hR 4 (by decide) (by decide) h.h4, hS 5 (by decide) (by decide) h.h5, hR 6 (by decide) (by decide) h.h6, hR 7 (by decide) (by decide) h.h7, Kd.S_mono (Kd.S_bound h8) (fun k q => ?_), hS 9 (by decide) (by decide) h.h9⟩
 ·split at hk
  ·omega
  ·exact h.lo k hk
 ·split at hk
  ·omega
  ·exact Nat.lt_of_lt_of_le (h.hi k hk) hK.1
 ·by_cases hz : w.heap.size ≤ k ∧ k < w1.heap.size
  ·exact if_pos hz
  ·have := q.2.2.1
   rw [if_neg hz]; exact q.1.resolve_right (by omega)
def impl_Net_send.f (k : Nat) (a0 a1 : Int) (l8 : List (List S79)) (p0 p1 p2 p3 p4 : Int) : Option (Bool × List (List S79)) :=
 (impl_FlitsOf.f k a0 a1 p0 p1 p2 p3 p4).bind fun t => if (t.length : Int) = 0 then some (false, l8) else if 0 ≤ p1 then (if p1 < (l8.length : Int) then (if (l8.getD p1.toNat []).length + t.length < 4294967296 then (if 60 < wrap64 (((l8.getD p1.toNat []).length : Int) + (t.length : Int)) then some (false, l8) else some (true, l8.set p1.toNat (l8.getD p1.toNat [] ++ t))) else none) else none) else none
theorem impl_Net_send.mono (a0 a1 : Int) (l8 : List (List S79)) (p0 p1 p2 p3 p4 : Int) : ∀ k, LeO (impl_Net_send.f k a0 a1 l8 p0 p1 p2 p3 p4) (impl_Net_send.f (k + 1) a0 a1 l8 p0 p1 p2 p3 p4) := by
 intro k
 unfold impl_Net_send.f
 exact LeO.bind (impl_FlitsOf.mono _ _ _ _ _ _ _ _) (fun _ => LeO.refl _)
set_option maxHeartbeats 4000000 in
theorem impl_Net_send.calls (k gb : Nat) (T : Nat → Nat) (v2 v3 v4 v5 v6 v7 v8 v9 : Value) (a0 a1 : Int) (l2 l3 l4 : List Int) (l5 : List (List S79)) (l6 l7 : List Int) (l8 l9 : List (List S79)) (z10 p0 p1 p2 p3 p4 : Int) (b : Bool) (r : List (List S79)) (w0 w : World) (hB : Below w0.heap.size w0 w) (hM : Marks T w0.heap.size w v2 v3 v4 v5 v6 v7 v8 v9 l2 l3 l4 l5 l6 l7 l8 l9)
  (hbk : w.heap[gb]? = some (.cells #[.int .i64 a0, .int .i64 a1, v2, v3, v4, v5, v6, v7, v8, v9, .int .i64 z10] 38 (0, 0))) (hT : T gb = 0) (h : impl_Net_send.f k a0 a1 l8 p0 p1 p2 p3 p4 = some (b, r)) :
  Calls Try.prog 23 #[.pointer (some ⟨gb, 0, none⟩), .agg #[.int .i64 p0, .int .i64 p1, .int .i64 p2, .int .i64 p3, .int .i64 p4]] w fun e w' => e = .returned (.bool b) ∧ (∃ T', (∀ k, k < w.heap.size → T' k = T k) ∧ Marks T' w0.heap.size w' v2 v3 v4 v5 v6 v7 v8 v9 l2 l3 l4 l5 l6 l7 r l9) ∧ Below w0.heap.size w0 w' ∧ Kept w w' (fun k => T k ≠ 0) := by
 have HB := Aside0.mk hB
 have M := Aside0.mk hM
 have BK := Aside0.mk hbk
 have HW := Aside0.mk (Below.refl w.heap.size w)
 unfold impl_Net_send.f at h
 obtain ⟨t, e1, h1⟩ := Option.bind_eq_some_iff.1 h
 have E1 := Aside0.mk e1
 have h' := Aside0.mk h1
 clear hB hM hbk e1 h h1
 have hu44 := Try.underlying44
 have hu38 := Try.underlying38
 go_enter Try.func23, Try.ntmps23
 go_wp2_with (first | ((with_reducible refine gate_dst (N := 3) rfl ?_); refine box_event ?hg (N := 3) ?hd (cs := #[.int .i64 p0, .int .i64 p1, .int .i64 p2, .int .i64 p3, .int .i64 p4]) (t := 44) ?hr ?_; (case hd => rfl); (case hg => rfl); (case hr => first | (go_simp; done) | (go_simp; rfl)); intro gp hg w1 hbox hb; have BP := Aside0.mk hbox; have TP := Aside0.mk (show w.heap.size ≤ gp by rw [hg]; exact HW.out.size); replace M := Aside0.mk (M.out.below hb); replace BK := Aside0.mk (bk_ BK.out hb); replace HW := Aside0.mk (bs_ HW.out hb); replace HB := hs_ HB hb; clear hb hbox hg))
 go_wp2_with fail
 go_region_held3 (fun w' => w'.cell? ⟨gb, 0, none⟩ = some (.int .i64 a0) ∧ w'.cell? ⟨gb, 1, none⟩ = some (.int .i64 a1) ∧ w'.cell? ⟨gp, 0, none⟩ = some (.int .i64 p0) ∧ w'.cell? ⟨gp, 1, none⟩ = some (.int .i64 p1) ∧ w'.cell? ⟨gp, 2, none⟩ = some (.int .i64 p2) ∧ w'.cell? ⟨gp, 3, none⟩ = some (.int .i64 p3) ∧ w'.cell? ⟨gp, 4, none⟩ = some (.int .i64 p4))
  (first | exact ⟨(blk_cell (bq_ BK.out) 0).trans rfl, (blk_cell (bq_ BK.out) 1).trans rfl, (blk_cell (bq_ BP.out) 0).trans rfl, (blk_cell (bq_ BP.out) 1).trans rfl, (blk_cell (bq_ BP.out) 2).trans rfl, (blk_cell (bq_ BP.out) 3).trans rfl, (blk_cell (bq_ BP.out) 4).trans rfl⟩ | exact ⟨m0, m1, m2, m3, m4, m5, m6⟩)
  (first
   | (go_at_call 38; (with_reducible refine (impl_FlitsOf.calls k a0 a1 p0 p1 p2 p3 p4 t _ E1.out).mono ?_); rintro e w2 ⟨vt, rfl, hR, hb⟩; have HT := Aside0.mk (Kd.R_lower hR (bz_ HB.out)); have M1 := Aside0.mk (M.out.belowV hb); have BK1 := Aside0.mk (bk_ BK.out hb); have BP1 := Aside0.mk (bk_ BP.out hb); have HW1 := Aside0.mk (bs_ HW.out hb); have HB1 := Aside0.mk (bs_ HB.out hb); clear hR hb; obtain ⟨At, ct, eg⟩ := Kd.R_slice HT.out; subst eg; obtain ⟨m0, m1, -⟩ := cz11_ BK1.out; have m2 : w2.cell? ⟨gp, 0, none⟩ = some (.int .i64 p0) := (blk_cell BP1.out 0).trans rfl; have m3 : w2.cell? ⟨gp, 1, none⟩ = some (.int .i64 p1) := (blk_cell BP1.out 1).trans rfl; have m4 : w2.cell? ⟨gp, 2, none⟩ = some (.int .i64 p2) := (blk_cell BP1.out 2).trans rfl; have m5 : w2.cell? ⟨gp, 3, none⟩ = some (.int .i64 p3) := (blk_cell BP1.out 3).trans rfl; have m6 : w2.cell? ⟨gp, 4, none⟩ = some (.int .i64 p4) := (blk_cell BP1.out 4).trans rfl))
 clear m0 m1 m2 m3 m4 m5 m6
 have H := h'.out
 clear h' E1 M BK HB HW BP
 by_cases c1 : (t.length : Int) = 0
 ·rw [if_pos c1] at H
  obtain ⟨rfl, rfl⟩ := Prod.mk.inj (Option.some.inj H)
  have t0 : t = [] := List.eq_nil_of_length_eq_zero (by omega)
  clear H c1
  subst t0
  go_wp2_with fail
  refine start_ (n := 18) (S := fun w' => True) (ds := []) #[false, false, false, false, false, false, false, false, false, false, false, false, false, false, false, false, false, false] (by kernel_rfl) rfl rfl trivial (fun hHeld => ?_)
  refine pk_ 0 13 (bt_ 18 1) ?_
  refine pk_ 1 14 (bt_ 18 3) ?_
  refine pk_ 2 15 (bt_ 18 7) ?_
  refine pk_ 3 16 (bt_ 18 15) ?_
  refine uk_ 4 17 (bt_ 18 31) ?_
  refine uk_ 5 18 (bt_ 18 63) ?_
  refine uk_ 6 19 (bt_ 18 127) ?_
  refine uk_ 7 20 (bt_ 18 255) ?_
  refine uk_ 8 21 (bt_ 18 511) ?_
  refine uk_ 9 22 (bt_ 18 1023) ?_
  refine uk_ 10 23 (bt_ 18 2047) ?_
  refine uk_ 11 24 (bt_ 18 4095) ?_
  refine uk_ 12 25 (bt_ 18 8191) ?_
  refine uk_ 13 26 (bt_ 18 16383) ?_
  refine uk_ 14 27 (bt_ 18 32767) ?_
  refine uk_ 15 28 (bt_ 18 65535) ?_
  refine uk_ 16 29 (bt_ 18 131071) ?_
  refine pk_ 17 30 (bt_ 18 262143) ?_
  refine done_ (by kernel_rfl) ?_
  go_wp2
  go_ret
  exact ⟨rfl, ⟨T, fun _ _ => rfl, M1.out.belowV (Below.refl _ _)⟩, bb_ HB1.out, Kept.of_below (bb_ HW1.out) _⟩
 ·rw [if_neg c1] at H
  have c1d : decide ((t.length : Int) = 0) = false := decide_eq_false c1
  by_cases c2 : 0 ≤ p1
  ·rw [if_pos c2] at H
   by_cases c3 : p1 < (l8.length : Int)
   rotate_left
   ·rw [if_neg c3] at H
    exact absurd H (by simp)
   rw [if_pos c3] at H
   by_cases c4 : (l8.getD p1.toNat []).length + t.length < 4294967296
   rotate_left
   ·rw [if_neg c4] at H
    exact absurd H (by simp)
   rw [if_pos c4] at H
   obtain ⟨g8, n8, eg, hg8, hl8, cl, HG⟩ := Kd.S_form M1.out.h8 (by omega)
   subst eg
   obtain ⟨oki, ce, hcl, hM, hcc, hfr, hoki, hH⟩ := Kd.S_elem (Kd.S_mono M1.out.h8 (fun k_ e_ => Or.inl e_ : ∀ k_, T k_ = 8 → T k_ = 8 ∨ w2.heap.size ≤ k_)) [] p1 c2 c3
   obtain ⟨ve, rfl, hR⟩ := hM
   obtain ⟨el, hel⟩ : ∃ y_, l8.getD p1.toNat [] = y_ := ⟨_, rfl⟩
   rw [hel] at H c4 hR
   clear hel
   have hx := hcc 0 _ rfl
   simp only [show (Kd.slice 79 k79).sz = 1 from rfl, Nat.mul_one, Nat.add_zero] at hx
   obtain ⟨Ae, n9, eg⟩ := Kd.R_slice hR
   subst eg
   have HX := Aside0.mk hx
   have HR := Aside0.mk hR
   have HH := Aside0.mk hH
   have HI := Aside0.mk hoki
   have H' := Aside0.mk H
   have C4 := Aside0.mk c4
   clear hcl hcc hfr hR hH hoki HG hx H c4 hg8 hl8
   go_wp2_with fail
   refine start_ (n := 18) (S := (fun w' => w'.cell? ⟨gb, 8, none⟩ = some (.slice (some ⟨g8, 0, none⟩) l8.length n8) ∧ w'.cell? ⟨gp, 1, none⟩ = some (.int .i64 p1) ∧ w'.cell? ⟨g8, p1.toNat, none⟩ = some (.slice Ae el.length n9))) (ds := []) #[false, false, false, false, false, false, false, false, false, false, false, false, false, false, false, false, false, false] (by kernel_rfl) rfl rfl ⟨(blk_cell (bq_ BK1.out) 8).trans rfl, (blk_cell (bq_ BP1.out) 1).trans rfl, HX.out⟩ (fun hHeld => ?_)
   refine pk_ 0 13 (bt_ 18 1) ?_
   refine pk_ 1 14 (bt_ 18 3) ?_
   refine pk_ (v := .bool false) 2 15 (bt_ 18 7) ?_ (hy := by intro w'; go_simp; exact fun e_ => c1 (by rw [e_]; rfl))
   refine pk_ 3 16 (bt_ 18 15) ?_
   refine pk_ 4 17 (bt_ 18 31) ?_
   refine pk_ 5 18 (bt_ 18 63) ?_
   refine pk_ 6 19 (bt_ 18 127) ?_
   refine tk_ (v := (.slice (some ⟨g8, 0, none⟩) l8.length n8)) 7 20 (bt_ 18 255) hHeld ?_ (hy := by rintro w' ⟨s0, s1, s2⟩; go_simp)
   refine pk_ 8 21 (bt_ 18 511) ?_
   refine tk_ (v := (.int .i64 p1)) 9 22 (bt_ 18 1023) hHeld ?_ (hy := by rintro w' ⟨s0, s1, s2⟩; go_simp)
   refine pk_ 10 23 (bt_ 18 2047) ?_
   refine tk_ (v := (.slice Ae el.length n9)) 11 24 (bt_ 18 4095) hHeld ?_ (hy := by rintro w' ⟨s0, s1, s2⟩; go_simp)
   refine pk_ 12 25 (bt_ 18 8191) ?_
   refine pk_ 13 26 (bt_ 18 16383) ?_
   refine pk_ 14 27 (bt_ 18 32767) ?_
   refine pk_ 15 28 (bt_ 18 65535) ?_
   refine pk_ 16 29 (bt_ 18 131071) ?_
   refine pk_ 17 30 (bt_ 18 262143) ?_
   refine done_ (by kernel_rfl) ?_
   by_cases c5 : 60 < wrap64 ((el.length : Int) + (t.length : Int))
   ·have H := H'.out
    rw [if_pos c5] at H
    obtain ⟨rfl, rfl⟩ := Prod.mk.inj (Option.some.inj H)
    have c5d : decide (60 < wrap64 ((el.length : Int) + (t.length : Int))) = true := decide_eq_true c5
    clear H H'
    go_wp2
    go_ret
    exact ⟨rfl, ⟨T, fun _ _ => rfl, M1.out.belowV (Below.refl _ _)⟩, bb_ HB1.out, Kept.of_below (bb_ HW1.out) _⟩
   have H := H'.out
   rw [if_neg c5] at H
   obtain ⟨rfl, rfl⟩ := Prod.mk.inj (Option.some.inj H)
   have c5d : decide (60 < wrap64 ((el.length : Int) + (t.length : Int))) = false := decide_eq_false c5
   clear H H'
   go_wp2
   refine start_ (n := 18) (S := (fun w' => w'.cell? ⟨gb, 8, none⟩ = some (.slice (some ⟨g8, 0, none⟩) l8.length n8) ∧ w'.cell? ⟨gp, 1, none⟩ = some (.int .i64 p1) ∧ w'.cell? ⟨g8, p1.toNat, none⟩ = some (.slice Ae el.length n9))) (ds := [17]) #[false, false, false, false, false, false, false, false, false, false, false, false, false, false, false, false, false, false] (by kernel_rfl) rfl rfl ⟨(blk_cell (bq_ BK1.out) 8).trans rfl, (blk_cell (bq_ BP1.out) 1).trans rfl, HX.out⟩ (fun hHeld => ?_)
   refine pk_ 0 31 (bt_ 18 1) ?_
   refine pk_ 1 32 (bt_ 18 3) ?_
   refine pk_ 2 33 (bt_ 18 7) ?_
   refine tk_ (v := (.slice (some ⟨g8, 0, none⟩) l8.length n8)) 3 34 (bt_ 18 15) hHeld ?_ (hy := by rintro w' ⟨s0, s1, s2⟩; go_simp)
   refine pk_ 4 35 (bt_ 18 31) ?_
   refine tk_ (v := (.int .i64 p1)) 5 36 (bt_ 18 63) hHeld ?_ (hy := by rintro w' ⟨s0, s1, s2⟩; go_simp)
   refine pk_ 6 37 (bt_ 18 127) ?_
   refine pk_ 7 38 (bt_ 18 255) ?_
   refine pk_ 8 39 (bt_ 18 511) ?_
   refine tk_ (v := (.slice (some ⟨g8, 0, none⟩) l8.length n8)) 9 40 (bt_ 18 1023) hHeld ?_ (hy := by rintro w' ⟨s0, s1, s2⟩; go_simp)
   refine pk_ 10 41 (bt_ 18 2047) ?_
   refine tk_ (v := (.int .i64 p1)) 11 42 (bt_ 18 4095) hHeld ?_ (hy := by rintro w' ⟨s0, s1, s2⟩; go_simp)
   refine pk_ 12 43 (bt_ 18 8191) ?_
   refine tk_ (v := (.slice Ae el.length n9)) 13 44 (bt_ 18 16383) hHeld ?_ (hy := by rintro w' ⟨s0, s1, s2⟩; go_simp)
   refine pk_ 14 45 (bt_ 18 32767) ?_
   refine one_ (i := 15) (N := some 46) (bt_ 18 65535) rfl rfl (by kernel_rfl) (by decide) (fun K hK => ?_)
   refine Kd.R_append_rows_step k79 (w0 := w0) w0.heap.size (by rfl) (.tmp 44) (.tmp 45) 61 79 (.agg #[.int .i64 0, .int .i64 0, .int .i64 0, .bool false, .bool false]) 32 rfl Try.underlying61 info79 rfl (by decide) (by omega) (.slice Ae el.length n9) el t _ _ _ (fun k_ => oki k_ ∨ w2.heap.size ≤ k_) (fun _ => False) rfl rfl ?aO ?aR (fun _ _ h => h) (fun _ h => h.elim) ?aF ?aB ?aS ?aL ?_
   (case aR => exact (Kd.R_reads' HT.out).2.2)
   (case aB => exact bb_ HB1.out)
   (case aF => exact (fun k_ h_ => Or.inr h_))
   (case aO => exact Kd.R_mono (ra_ HR.out) (fun k_ h_ => Or.inl h_))
   (case aS => exact (bz_ HB1.out))
   (case aL => have := C4.out; omega)
   intro v8 w8 ho hb hg hat
   have BK8 := Aside0.mk (blk_grown (g := gb) (o := .cells #[.int .i64 a0, .int .i64 a1, v2, v3, v4, v5, v6, v7, .slice (some ⟨g8, 0, none⟩) l8.length n8, v9, .int .i64 z10] 38 (0, 0)) (bq_ BK1.out) hg (Kd.R_ne HR.out BK1.out (by decide)))
   have BP8 := Aside0.mk (blk_grown (g := gp) (o := .cells #[.int .i64 p0, .int .i64 p1, .int .i64 p2, .int .i64 p3, .int .i64 p4] 44 (0, 0)) (bq_ BP1.out) hg (Kd.R_ne HR.out BP1.out (by decide)))
   obtain ⟨Ao, co, eo⟩ := Kd.R_slice ho
   subst eo
   have HH8 := Aside0.mk (Kd.H_grown (Kd.H_widen (Kd.H_drew (Kd.H_drew HH.out))) hg (fun k_ e_ => Or.inl (HR.out.1 k_ e_)))
   obtain ⟨hc8, hf8⟩ := Kd.H_at HH8.out c2 (by omega)
   have hx := hc8 0 _ rfl
   have hfx := hf8 0
   simp only [show (Kd.slice 79 k79).sz = 1 from rfl, Nat.mul_one, Nat.add_zero] at hx hfx
   have HO := Aside0.mk ho
   have HB8 := Aside0.mk hb
   have HG8 := Aside0.mk hg
   clear ho hb hg hat hc8 hf8
   refine hK.out _ _ ⟨(blk_cell BK8.out 8).trans rfl, (blk_cell BP8.out 1).trans rfl, hx⟩ (fun hHeld => ?_)
   clear hK K
   refine norm_ (a' := ?_) ?_ ?_
   rotate_left
   ·show Act.put _ (some 46) _ = _
    simp only [Act.put, List.setIfInBounds_toArray, List.set_cons_zero, List.set_cons_succ, i64_w, i32_w]
    rfl
   refine pk_ 16 47 (bt_ 18 131071) ?_
   refine last_ (i := 17) (N := none) (bt_ 18 262143) rfl rfl (by kernel_rfl) (by decide) (fun K hK => ?_)
   refine skip_ (w1 := ?_) (by rfl) rfl ?_ ?_
   rotate_left
   ·go_simp
    rfl
   refine hK.out _ _ ?_
   clear hK K
   refine done_ (by kernel_rfl) ?_
   go_wp2
   go_ret
   have hT8 : T g8 = 8 := (Kd.S_R M1.out.h8).1 g8 rfl
   obtain ⟨hH9, hg9⟩ := Kd.H_seg (seg := [.slice Ao (el ++ t).length co]) (j := 0) HH8.out c2 (by omega) (Nat.le_refl _) (by intro q hq; rw [List.mem_singleton] at hq; subst hq; rfl)
   rw [show w8.setCells g8 (p1.toNat * (Kd.slice 79 k79).sz + 0) [.slice Ao (el ++ t).length co] = w8.setCell ⟨g8, p1.toNat, none⟩ (.slice Ao (el ++ t).length co) from (by rw [show p1.toNat * (Kd.slice 79 k79).sz + 0 = p1.toNat from by rw [show (Kd.slice 79 k79).sz = 1 from rfl]; omega]; rfl)] at hH9 hg9
   have hS9 := Kd.H_back hH9 (x' := el ++ t) (okp := fun k_ => oki k_ ∨ w2.heap.size ≤ k_) ⟨_, rfl, Kd.R_move HO.out (fun k_ h_ => Below.heap_setCell _ _ _ _ (h_.elim (fun h2_ => (HI.out k_ h2_).2) (fun h2_ e_ => by have h3_ := M1.out.hi g8 (by omega); have h4_ : k_ = g8 := e_; omega)))⟩ (fun k_ h_ => h_.elim Or.inl (fun h2_ => Or.inr ⟨Or.inr h2_, h2_⟩))
   have hK9 : Kept w2 (w8.setCell ⟨g8, p1.toNat, none⟩ (.slice Ao (el ++ t).length co)) (fun k_ => T k_ = 8) := Kept.setCell (Kept.of_grown HG8.out (Kept.drew (Kept.drew (Kept.refl w2 _))) (fun k_ e_ => (HI.out k_ (HR.out.1 k_ e_)).1)) (Or.inl hT8) _
   obtain ⟨T', hT1, hT2⟩ := M1.out.grow8 (bz_ HB1.out) hS9 hK9
   rw [List.length_append] at hT2 hK9
   exact ⟨rfl, ⟨T', fun k_ h_ => hT1 k_ (Nat.lt_of_lt_of_le h_ HW1.out.size), hT2⟩, below_set HB8.out (M1.out.lo g8 (by omega)), (Kept.of_below HW1.out _).then_ hK9 (fun k_ h_ => Or.inl (by omega))⟩
  ·rw [if_neg c2] at H
   exact absurd H (by simp)

/-! ### impl_SendAll: function 7 -/
def st11_ (w : World) (g : Nat) (u0 u1 u2 u3 u4 u5 u6 u7 u8 u9 u10 : Value) : World := ((((((((((w.setCell ⟨g, 0, none⟩ u0).setCell ⟨g, 1, none⟩ u1).setCell ⟨g, 2, none⟩ u2).setCell ⟨g, 3, none⟩ u3).setCell ⟨g, 4, none⟩ u4).setCell ⟨g, 5, none⟩ u5).setCell ⟨g, 6, none⟩ u6).setCell ⟨g, 7, none⟩ u7).setCell ⟨g, 8, none⟩ u8).setCell ⟨g, 9, none⟩ u9).setCell ⟨g, 10, none⟩ u10
section
variable {w w0 : World} {g : Nat} {t : TypeId} {c0 c1 c2 c3 c4 c5 c6 c7 c8 c9 c10 u0 u1 u2 u3 u4 u5 u6 u7 u8 u9 u10 : Value}
theorem st11_blk (h : w.heap[g]? = some (.cells #[c0, c1, c2, c3, c4, c5, c6, c7, c8, c9, c10] t (0, 0))) : (st11_ w g u0 u1 u2 u3 u4 u5 u6 u7 u8 u9 u10).heap[g]? = some (.cells #[u0, u1, u2, u3, u4, u5, u6, u7, u8, u9, u10] t (0, 0)) := by
 refine blk_put (cs := #[u0, u1, u2, u3, u4, u5, u6, u7, u8, u9, c10]) ?_ 10 _ rfl
 refine blk_put (cs := #[u0, u1, u2, u3, u4, u5, u6, u7, u8, c9, c10]) ?_ 9 _ rfl
 refine blk_put (cs := #[u0, u1, u2, u3, u4, u5, u6, u7, c8, c9, c10]) ?_ 8 _ rfl
 refine blk_put (cs := #[u0, u1, u2, u3, u4, u5, u6, c7, c8, c9, c10]) ?_ 7 _ rfl
 refine blk_put (cs := #[u0, u1, u2, u3, u4, u5, c6, c7, c8, c9, c10]) ?_ 6 _ rfl
 refine blk_put (cs := #[u0, u1, u2, u3, u4, c5, c6, c7, c8, c9, c10]) ?_ 5 _ rfl
 refine blk_put (cs := #[u0, u1, u2, u3, c4, c5, c6, c7, c8, c9, c10]) ?_ 4 _ rfl
 refine blk_put (cs := #[u0, u1, u2, c3, c4, c5, c6, c7, c8, c9, c10]) ?_ 3 _ rfl
 refine blk_put (cs := #[u0, u1, c2, c3, c4, c5, c6, c7, c8, c9, c10]) ?_ 2 _ rfl
 refine blk_put (cs := #[u0, c1, c2, c3, c4, c5, c6, c7, c8, c9, c10]) ?_ 1 _ rfl
 refine blk_put (cs := #[c0, c1, c2, c3, c4, c5, c6, c7, c8, c9, c10]) ?_ 0 _ rfl
 exact h
theorem st11_far {k : Nat} (h : k ≠ g) : (st11_ w g u0 u1 u2 u3 u4 u5 u6 u7 u8 u9 u10).heap[k]? = w.heap[k]? := by
 unfold st11_
 repeat rw [Below.heap_setCell _ _ _ _ h]
theorem st11_size : (st11_ w g u0 u1 u2 u3 u4 u5 u6 u7 u8 u9 u10).heap.size = w.heap.size := by
 simp only [st11_, World.setCell, Array.size_modify]
theorem st11_below (h : Below w0.heap.size w0 w) (hg : w0.heap.size ≤ g) : Below w0.heap.size w0 (st11_ w g u0 u1 u2 u3 u4 u5 u6 u7 u8 u9 u10) := by
 unfold st11_
 repeat refine below_set ?_ hg
 exact h
end
def st5_ (w : World) (g : Nat) (u0 u1 u2 u3 u4 : Value) : World := ((((w.setCell ⟨g, 0, none⟩ u0).setCell ⟨g, 1, none⟩ u1).setCell ⟨g, 2, none⟩ u2).setCell ⟨g, 3, none⟩ u3).setCell ⟨g, 4, none⟩ u4
section
variable {w w0 : World} {g : Nat} {t : TypeId} {c0 c1 c2 c3 c4 u0 u1 u2 u3 u4 : Value}
theorem st5_blk (h : w.heap[g]? = some (.cells #[c0, c1, c2, c3, c4] t (0, 0))) : (st5_ w g u0 u1 u2 u3 u4).heap[g]? = some (.cells #[u0, u1, u2, u3, u4] t (0, 0)) := by
 refine blk_put (cs := #[u0, u1, u2, u3, c4]) ?_ 4 _ rfl
 refine blk_put (cs := #[u0, u1, u2, c3, c4]) ?_ 3 _ rfl
 refine blk_put (cs := #[u0, u1, c2, c3, c4]) ?_ 2 _ rfl
 refine blk_put (cs := #[u0, c1, c2, c3, c4]) ?_ 1 _ rfl
 refine blk_put (cs := #[c0, c1, c2, c3, c4]) ?_ 0 _ rfl
 exact h
theorem st5_far {k : Nat} (h : k ≠ g) : (st5_ w g u0 u1 u2 u3 u4).heap[k]? = w.heap[k]? := by
 unfold st5_
 repeat rw [Below.heap_setCell _ _ _ _ h]
theorem st5_size : (st5_ w g u0 u1 u2 u3 u4).heap.size = w.heap.size := by
 simp only [st5_, World.setCell, Array.size_modify]
theorem st5_below (h : Below w0.heap.size w0 w) (hg : w0.heap.size ≤ g) : Below w0.heap.size w0 (st5_ w g u0 u1 u2 u3 u4) := by
 unfold st5_
 repeat refine below_set ?_ hg
 exact h
end
section
variable {T : Nat → Nat} {B : Nat} {w w1 : World} {v2 v3 v4 v5 v6 v7 v8 v9 : Value} {l2 l3 l4 : List Int} {l5 : List (List S79)} {l6 l7 : List Int} {l8 l9 : List (List S79)}
theorem Marks.zlo (h : Marks T B w v2 v3 v4 v5 v6 v7 v8 v9 l2 l3 l4 l5 l6 l7 l8 l9) {k : Nat} (hk : k < B) : T k = 0 := Classical.byContradiction fun h_ => absurd (h.lo k h_) (Nat.not_le.2 hk)
theorem Marks.zhi (h : Marks T B w v2 v3 v4 v5 v6 v7 v8 v9 l2 l3 l4 l5 l6 l7 l8 l9) {k : Nat} (hk : w.heap.size ≤ k) : T k = 0 := Classical.byContradiction fun h_ => absurd (h.hi k h_) (Nat.not_lt.2 hk)
theorem Marks.kept0 (h : Marks T B w v2 v3 v4 v5 v6 v7 v8 v9 l2 l3 l4 l5 l6 l7 l8 l9) (hK : Kept w w1 (fun k => T k = 0)) : Marks T B w1 v2 v3 v4 v5 v6 v7 v8 v9 l2 l3 l4 l5 l6 l7 l8 l9 := h.move (fun k hk => hK.2 k (h.hi k hk) hk) hK.1
theorem Marks.std (h : Marks T B w v2 v3 v4 v5 v6 v7 v8 v9 l2 l3 l4 l5 l6 l7 l8 l9) : Kd.R (Kd.int .i64) 3 w B (fun k_ => some k_ ≠ (v3 : Value).ownBlock ∧ some k_ ≠ (v4 : Value).ownBlock ∧ some k_ ≠ (v6 : Value).ownBlock ∧ some k_ ≠ (v7 : Value).ownBlock) v2 l2 ∧ Kd.R (Kd.int .i64) 3 w B (fun k_ => some k_ ≠ (v2 : Value).ownBlock ∧ some k_ ≠ (v4 : Value).ownBlock ∧ some k_ ≠ (v6 : Value).ownBlock ∧ some k_ ≠ (v7 : Value).ownBlock) v3 l3 ∧ Kd.R (Kd.int .i64) 3 w B (fun k_ => some k_ ≠ (v2 : Value).ownBlock ∧ some k_ ≠ (v3 : Value).ownBlock ∧ some k_ ≠ (v6 : Value).ownBlock ∧ some k_ ≠ (v7 : Value).ownBlock) v4 l4 ∧ Kd.S (Kd.slice 79 k79) 61 w B (fun k_ => some k_ ≠ (v8 : Value).ownBlock ∧ some k_ ≠ (v9 : Value).ownBlock) v5 l5 ∧ Kd.R (Kd.int .i64) 3 w B (fun k_ => some k_ ≠ (v2 : Value).ownBlock ∧ some k_ ≠ (v3 : Value).ownBlock ∧ some k_ ≠ (v4 : Value).ownBlock ∧ some k_ ≠ (v7 : Value).ownBlock) v6 l6 ∧ Kd.R (Kd.int .i64) 3 w B (fun k_ => some k_ ≠ (v2 : Value).ownBlock ∧ some k_ ≠ (v3 : Value).ownBlock ∧ some k_ ≠ (v4 : Value).ownBlock ∧ some k_ ≠ (v6 : Value).ownBlock) v7 l7 ∧ Kd.S (Kd.slice 79 k79) 61 w B (fun k_ => some k_ ≠ (v5 : Value).ownBlock ∧ some k_ ≠ (v9 : Value).ownBlock) v8 l8 ∧ Kd.S (Kd.slice 79 k79) 61 w B (fun k_ => some k_ ≠ (v5 : Value).ownBlock ∧ some k_ ≠ (v8 : Value).ownBlock) v9 l9 := by
 have o2 : ∀ k, v2.ownBlock = some k → T k = 2 := h.h2.1
 have o3 : ∀ k, v3.ownBlock = some k → T k = 3 := h.h3.1
 have o4 : ∀ k, v4.ownBlock = some k → T k = 4 := h.h4.1
 have o5 : ∀ k, v5.ownBlock = some k → T k = 5 := (Kd.S_R h.h5).1
 have o6 : ∀ k, v6.ownBlock = some k → T k = 6 := h.h6.1
 have o7 : ∀ k, v7.ownBlock = some k → T k = 7 := h.h7.1
 have o8 : ∀ k, v8.ownBlock = some k → T k = 8 := (Kd.S_R h.h8).1
 have o9 : ∀ k, v9.ownBlock = some k → T k = 9 := (Kd.S_R h.h9).1
 have ne {n m : Nat} {v : Value} (hv : ∀ k, v.ownBlock = some k → T k = m) (hn : n ≠ m) : ∀ k, T k = n → some k ≠ v.ownBlock := fun k hk e => hn (hk.symm.trans (hv k e.symm))
 exact ⟨Kd.R_mono h.h2 (fun k hk => ⟨ne o3 (by decide) k hk, ne o4 (by decide) k hk, ne o6 (by decide) k hk, ne o7 (by decide) k hk⟩), Kd.R_mono h.h3 (fun k hk => ⟨ne o2 (by decide) k hk, ne o4 (by decide) k hk, ne o6 (by decide) k hk, ne o7 (by decide) k hk⟩), Kd.R_mono h.h4 (fun k hk => ⟨ne o2 (by decide) k hk, ne o3 (by decide) k hk, ne o6 (by decide) k hk, ne o7 (by decide) k hk⟩), Kd.S_mono h.h5 (fun k hk => ⟨ne o8 (by decide) k hk, ne o9 (by decide) k hk⟩), Kd.R_mono h.h6 (fun k hk => ⟨ne o2 (by decide) k hk, ne o3 (by decide) k hk, ne o4 (by decide) k hk, ne o7 (by decide) k hk⟩), Kd.R_mono h.h7 (fun k hk => ⟨ne o2 (by decide) k hk, ne o3 (by decide) k hk, ne o4 (by decide) k hk, ne o6 (by decide) k hk⟩), Kd.S_mono h.h8 (fun k hk => ⟨ne o5 (by decide) k hk, ne o9 (by decide) k hk⟩), Kd.S_mono h.h9 (fun k hk => ⟨ne o5 (by decide) k hk, ne o8 (by decide) k hk⟩)⟩
end
def impl_SendAll.l0 : Nat → Int → Int → List (List S79) → List S44 → Int → Int → Option (Int × List (List S79))
 | 0, _, _, _, _, _, _ => none
 | k + 1, a0, a1, x8, q, i, c => if i < (q.length : Int) then (if 0 ≤ i then ((impl_Net_send.f k a0 a1 x8 (rd_T44 q i).f0 (rd_T44 q i).f1 (rd_T44 q i).f2 (rd_T44 q i).f3 (rd_T44 q i).f4).bind fun b => impl_SendAll.l0 k a0 a1 b.2 q (wrap64 (i + 1)) (if b.1 = true then wrap64 (c + 1) else c)) else none) else some (c, x8)
def impl_SendAll.f (k : Nat) (a0_0 : Int) (a0_1 : Int) (l0_2 : List Int) (l0_3 : List Int) (l0_4 : List Int) (l0_5 : List (List S79)) (l0_6 : List Int) (l0_7 : List Int) (l0_8 : List (List S79)) (l0_9 : List (List S79)) (a0_10 : Int) (l1 : List S44) : Option (Int × Int × List Int × List Int × List Int × (List (List S79)) × List Int × List Int × (List (List S79)) × (List (List S79)) × Int × Int) := (impl_copyNet.f k a0_0 a0_1 l0_2 l0_3 l0_4 l0_5 l0_6 l0_7 l0_8 l0_9 a0_10).bind fun n => (impl_NetOk.f k a0_0 a0_1 l0_2 l0_3 l0_4 l0_5 l0_6 l0_7 l0_8 l0_9 a0_10).bind fun b => if b = true then (if 40 < (l1.length : Int) then some (n.1, n.2.1, n.2.2.1, n.2.2.2.1, n.2.2.2.2.1, n.2.2.2.2.2.1, n.2.2.2.2.2.2.1, n.2.2.2.2.2.2.2.1, n.2.2.2.2.2.2.2.2.1, n.2.2.2.2.2.2.2.2.2.1, n.2.2.2.2.2.2.2.2.2.2, -1) else (impl_SendAll.l0 k n.1 n.2.1 n.2.2.2.2.2.2.2.2.1 l1 0 0).bind fun x => some (n.1, n.2.1, n.2.2.1, n.2.2.2.1, n.2.2.2.2.1, n.2.2.2.2.2.1, n.2.2.2.2.2.2.1, n.2.2.2.2.2.2.2.1, x.2, n.2.2.2.2.2.2.2.2.2.1, n.2.2.2.2.2.2.2.2.2.2, x.1)) else some (n.1, n.2.1, n.2.2.1, n.2.2.2.1, n.2.2.2.2.1, n.2.2.2.2.2.1, n.2.2.2.2.2.2.1, n.2.2.2.2.2.2.2.1, n.2.2.2.2.2.2.2.2.1, n.2.2.2.2.2.2.2.2.2.1, n.2.2.2.2.2.2.2.2.2.2, -1)
theorem impl_SendAll.mono_l : ∀ k a0 a1 x8 q i c, LeO (impl_SendAll.l0 k a0 a1 x8 q i c) (impl_SendAll.l0 (k + 1) a0 a1 x8 q i c)
 | 0, _, _, _, _, _, _ => fun r h => by simp [impl_SendAll.l0] at h
 | k + 1, a0, a1, x8, q, i, c => by
  unfold impl_SendAll.l0
  exact LeO.ite (LeO.ite (LeO.bind (impl_Net_send.mono _ _ _ _ _ _ _ _ _) (fun _ => impl_SendAll.mono_l k _ _ _ _ _ _)) (LeO.none _)) (LeO.refl _)
theorem impl_SendAll.mono (a0_0 : Int) (a0_1 : Int) (l0_2 : List Int) (l0_3 : List Int) (l0_4 : List Int) (l0_5 : List (List S79)) (l0_6 : List Int) (l0_7 : List Int) (l0_8 : List (List S79)) (l0_9 : List (List S79)) (a0_10 : Int) (l1 : List S44) : ∀ k, LeO (impl_SendAll.f k a0_0 a0_1 l0_2 l0_3 l0_4 l0_5 l0_6 l0_7 l0_8 l0_9 a0_10 l1) (impl_SendAll.f (k + 1) a0_0 a0_1 l0_2 l0_3 l0_4 l0_5 l0_6 l0_7 l0_8 l0_9 a0_10 l1) := by
 intro k
 unfold impl_SendAll.f
 exact LeO.bind (impl_copyNet.mono _ _ _ _ _ _ _ _ _ _ _ _) (fun _ => LeO.bind (impl_NetOk.mono _ _ _ _ _ _ _ _ _ _ _ _) (fun _ => LeO.ite (LeO.ite (LeO.refl _) (LeO.bind (impl_SendAll.mono_l _ _ _ _ _ _ _) (fun _ => LeO.refl _))) (LeO.refl _)))
theorem impl_SendAll.e0 {P : Prop} (h : P := by
 go_wp2
 clear y0 y1 y2 y3 y4 y5 y6 y7 y8 y9 y10 f0 f1 f2 f3 f4 f5 f6 f7 f8 f9 f10 z0 z1 z2 z3 z4 z5 z6 z7 z8 z9 z10 B6
 change bodyPost _ _ _ _ _ (st11_ _ g4 (.int .i64 n1) (.int .i64 n2) (.slice X2 n3.length d2) (.slice X3 n4.length d3) (.slice X4 n5.length d4) (.slice X5 n6.length d5) (.slice X6 n7.length d6) (.slice X7 n8.length d7) (.slice X8 n9.length d8) (.slice X9 n10.length d9) (.int .i64 n11))
 replace M := Aside0.mk (M.out.move (w1 := st11_ _ g4 (.int .i64 n1) (.int .i64 n2) (.slice X2 n3.length d2) (.slice X3 n4.length d3) (.slice X4 n5.length d4) (.slice X5 n6.length d5) (.slice X6 n7.length d6) (.slice X7 n8.length d7) (.slice X8 n9.length d8) (.slice X9 n10.length d9) (.int .i64 n11)) (fun k_ h_ => st11_far (fun e_ => h_ (e_ ▸ T4.out))) (Nat.le_of_eq st11_size.symm))
 replace B4 := Aside0.mk (st11_blk B4.out : (st11_ _ g4 (.int .i64 n1) (.int .i64 n2) (.slice X2 n3.length d2) (.slice X3 n4.length d3) (.slice X4 n5.length d4) (.slice X5 n6.length d5) (.slice X6 n7.length d6) (.slice X7 n8.length d7) (.slice X8 n9.length d8) (.slice X9 n10.length d9) (.int .i64 n11)).heap[g4]? = _)
 replace HB := Aside0.mk (st11_below HB.out G4.out : Below w.heap.size w (st11_ _ g4 (.int .i64 n1) (.int .i64 n2) (.slice X2 n3.length d2) (.slice X3 n4.length d3) (.slice X4 n5.length d4) (.slice X5 n6.length d5) (.slice X6 n7.length d6) (.slice X7 n8.length d7) (.slice X8 n9.length d8) (.slice X9 n10.length d9) (.int .i64 n11)))
 generalize st11_ _ g4 (.int .i64 n1) (.int .i64 n2) (.slice X2 n3.length d2) (.slice X3 n4.length d3) (.slice X4 n5.length d4) (.slice X5 n6.length d5) (.slice X6 n7.length d6) (.slice X7 n8.length d7) (.slice X8 n9.length d8) (.slice X9 n10.length d9) (.int .i64 n11) = w_0 at *
 refine bodyPost_ret (results_ct rfl _ _ g4 38 _ (0, 0) _ rfl (bq_ B4.out) Try.underlying38 rfl (by kernel_rfl)) rfl ?_
 obtain ⟨s2, s3, s4, s5, s6, s7, s8, s9⟩ := (M.out.belowV (Below.refl _ _)).std
 exact ⟨_, _, _, _, _, _, _, _, rfl, s2, s3, s4, s5, s6, s7, s8, s9, bb_ HB.out⟩) : P := h
theorem impl_SendAll.e1 {P : Prop} (h : P := by
 go_wp2
 go_roundg k1
 case measure => have := HK1.out; omega
 case rel => exact ⟨T2, _, _, _, rfl, rfl, H', ⟨by have := HK1.out; omega⟩, ⟨M2.out.belowV (Below.refl _ _)⟩, T42, T62, ⟨bq_ B42.out⟩, ⟨bq_ B62.out⟩, ⟨bb_ HB2.out⟩⟩) : P := h
set_option maxHeartbeats 4000000 in
theorem impl_SendAll.calls (k : Nat) (a0_0 : Int) (a0_1 : Int) (A0_2 : Option Addr) (c0_2 : Nat) (l0_2 : List Int) (A0_3 : Option Addr) (c0_3 : Nat) (l0_3 : List Int) (A0_4 : Option Addr) (c0_4 : Nat) (l0_4 : List Int) (A0_5 : Option Addr) (c0_5 : Nat) (l0_5 : List (List S79)) (A0_6 : Option Addr) (c0_6 : Nat) (l0_6 : List Int) (A0_7 : Option Addr) (c0_7 : Nat) (l0_7 : List Int) (A0_8 : Option Addr) (c0_8 : Nat) (l0_8 : List (List S79)) (A0_9 : Option Addr) (c0_9 : Nat) (l0_9 : List (List S79)) (a0_10 : Int) (A1 : Option Addr) (c1 : Nat) (l1 : List S44) (r1 : Int) (r2 : Int) (r3 : List Int) (r4 : List Int) (r5 : List Int) (r6 : List (List S79)) (r7 : List Int) (r8 : List Int) (r9 : List (List S79)) (r10 : List (List S79)) (r11 : Int) (r12 : Int) (w : World) (hr0_2 : Kd.C (Kd.int .i64) w A0_2 l0_2.length l0_2) (hc0_2 : l0_2.length ≤ c0_2) (hr0_3 : Kd.C (Kd.int .i64) w A0_3 l0_3.length l0_3) (hc0_3 : l0_3.length ≤ c0_3) (hr0_4 : Kd.C (Kd.int .i64) w A0_4 l0_4.length l0_4) (hc0_4 : l0_4.length ≤ c0_4) (hr0_5 : Kd.C (Kd.slice 79 k79) w A0_5 l0_5.length l0_5) (hc0_5 : l0_5.length ≤ c0_5) (hr0_6 : Kd.C (Kd.int .i64) w A0_6 l0_6.length l0_6) (hc0_6 : l0_6.length ≤ c0_6) (hr0_7 : Kd.C (Kd.int .i64) w A0_7 l0_7.length l0_7) (hc0_7 : l0_7.length ≤ c0_7) (hr0_8 : Kd.C (Kd.slice 79 k79) w A0_8 l0_8.length l0_8) (hc0_8 : l0_8.length ≤ c0_8) (hr0_9 : Kd.C (Kd.slice 79 k79) w A0_9 l0_9.length l0_9) (hc0_9 : l0_9.length ≤ c0_9) (hr1 : Kd.C k44 w A1 l1.length l1) (hc1 : l1.length ≤ c1) (h : impl_SendAll.f k a0_0 a0_1 l0_2 l0_3 l0_4 l0_5 l0_6 l0_7 l0_8 l0_9 a0_10 l1 = some (r1, r2, r3, r4, r5, r6, r7, r8, r9, r10, r11, r12)) :
 Calls Try.prog 7 #[.agg #[.int .i64 a0_0, .int .i64 a0_1, .slice A0_2 l0_2.length c0_2, .slice A0_3 l0_3.length c0_3, .slice A0_4 l0_4.length c0_4, .slice A0_5 l0_5.length c0_5, .slice A0_6 l0_6.length c0_6, .slice A0_7 l0_7.length c0_7, .slice A0_8 l0_8.length c0_8, .slice A0_9 l0_9.length c0_9, .int .i64 a0_10], .slice A1 l1.length c1] w fun e w' => ∃ v2_ v3_ v4_ v5_ v6_ v7_ v8_ v9_ : Value, e = .returned (.tuple #[.agg #[.int .i64 r1, .int .i64 r2, v2_, v3_, v4_, v5_, v6_, v7_, v8_, v9_, .int .i64 r11], .int .i64 r12]) ∧ Kd.R (Kd.int .i64) 3 w' w.heap.size (fun k_ => some k_ ≠ (v3_ : Value).ownBlock ∧ some k_ ≠ (v4_ : Value).ownBlock ∧ some k_ ≠ (v6_ : Value).ownBlock ∧ some k_ ≠ (v7_ : Value).ownBlock) v2_ r3 ∧ Kd.R (Kd.int .i64) 3 w' w.heap.size (fun k_ => some k_ ≠ (v2_ : Value).ownBlock ∧ some k_ ≠ (v4_ : Value).ownBlock ∧ some k_ ≠ (v6_ : Value).ownBlock ∧ some k_ ≠ (v7_ : Value).ownBlock) v3_ r4 ∧ Kd.R (Kd.int .i64) 3 w' w.heap.size (fun k_ => some k_ ≠ (v2_ : Value).ownBlock ∧ some k_ ≠ (v3_ : Value).ownBlock ∧ some k_ ≠ (v6_ : Value).ownBlock ∧ some k_ ≠ (v7_ : Value).ownBlock) v4_ r5 ∧ Kd.S (Kd.slice 79 k79) 61 w' w.heap.size (fun k_ => some k_ ≠ (v8_ : Value).ownBlock ∧ some k_ ≠ (v9_ : Value).ownBlock) v5_ r6 ∧ Kd.R (Kd.int .i64) 3 w' w.heap.size (fun k_ => some k_ ≠ (v2_ : Value).ownBlock ∧ some k_ ≠ (v3_ : Value).ownBlock ∧ some k_ ≠ (v4_ : Value).ownBlock ∧ some k_ ≠ (v7_ : Value).ownBlock) v6_ r7 ∧ Kd.R (Kd.int .i64) 3 w' w.heap.size (fun k_ => some k_ ≠ (v2_ : Value).ownBlock ∧ some k_ ≠ (v3_ : Value).ownBlock ∧ some k_ ≠ (v4_ : Value).ownBlock ∧ some k_ ≠ (v6_ : Value).ownBlock) v7_ r8 ∧ Kd.S (Kd.slice 79 k79) 61 w' w.heap.size (fun k_ => some k_ ≠ (v5_ : Value).ownBlock ∧ some k_ ≠ (v9_ : Value).ownBlock) v8_ r9 ∧ Kd.S (Kd.slice 79 k79) 61 w' w.heap.size (fun k_ => some k_ ≠ (v5_ : Value).ownBlock ∧ some k_ ≠ (v8_ : Value).ownBlock) v9_ r10 ∧ Below w.heap.size w w' := by
 have HR2 := Aside0.mk hr0_2
 have HC2 := Aside0.mk hc0_2
 have HR3 := Aside0.mk hr0_3
 have HC3 := Aside0.mk hc0_3
 have HR4 := Aside0.mk hr0_4
 have HC4 := Aside0.mk hc0_4
 have HR5 := Aside0.mk hr0_5
 have HC5 := Aside0.mk hc0_5
 have HR6 := Aside0.mk hr0_6
 have HC6 := Aside0.mk hc0_6
 have HR7 := Aside0.mk hr0_7
 have HC7 := Aside0.mk hc0_7
 have HR8 := Aside0.mk hr0_8
 have HC8 := Aside0.mk hc0_8
 have HR9 := Aside0.mk hr0_9
 have HC9 := Aside0.mk hc0_9
 have HQ := Aside0.mk hr1
 have HQC := Aside0.mk hc1
 have HB := Aside0.mk (Below.refl w.heap.size w)
 unfold impl_SendAll.f at h
 obtain ⟨⟨n1, n2, n3, n4, n5, n6, n7, n8, n9, n10, n11⟩, e1, h1⟩ := Option.bind_eq_some_iff.1 h
 obtain ⟨b, e2, h2⟩ := Option.bind_eq_some_iff.1 h1
 have E1 := Aside0.mk e1
 have E2 := Aside0.mk e2
 have H' := Aside0.mk h2
 clear h h1 h2 e1 e2 hr1 hc1 hr0_2 hc0_2 hr0_3 hc0_3 hr0_4 hc0_4 hr0_5 hc0_5 hr0_6 hc0_6 hr0_7 hc0_7 hr0_8 hc0_8 hr0_9 hc0_9
 have hu38 := Try.underlying38
 have hu44 := Try.underlying44
 go_enter Try.func7, Try.ntmps7
 go_wp2_with (first | ((with_reducible refine gate_dst (N := 2) rfl ?_); refine box_event ?hg (N := 2) ?hd (cs := #[.int .i64 a0_0, .int .i64 a0_1, .slice A0_2 l0_2.length c0_2, .slice A0_3 l0_3.length c0_3, .slice A0_4 l0_4.length c0_4, .slice A0_5 l0_5.length c0_5, .slice A0_6 l0_6.length c0_6, .slice A0_7 l0_7.length c0_7, .slice A0_8 l0_8.length c0_8, .slice A0_9 l0_9.length c0_9, .int .i64 a0_10]) (t := 38) ?hr ?_; (case hd => rfl); (case hg => rfl); (case hr => first | (go_simp; done) | (go_simp; rfl)); intro gn hg w1 hbox hb; have BN := Aside0.mk hbox; have GN := Aside0.mk (show w.heap.size ≤ gn by rw [hg]; exact (bz_ HB.out)); replace HB := hs_ HB hb; clear hb hbox hg) | ((with_reducible refine gate_dst (N := 4) rfl ?_); refine box_event ?hg (N := 4) ?hd (cs := #[.int .i64 0, .int .i64 0, .slice none 0 0, .slice none 0 0, .slice none 0 0, .slice none 0 0, .slice none 0 0, .slice none 0 0, .slice none 0 0, .slice none 0 0, .int .i64 0]) (t := 38) ?hr ?_; (case hd => rfl); (case hg => rfl); (case hr => first | (go_simp; done) | (go_simp; rfl)); intro g4 hg w1 hbox hb; have B4 := Aside0.mk hbox; have G4 := Aside0.mk (show w.heap.size ≤ g4 by rw [hg]; exact (bz_ HB.out)); have N4 := Aside0.mk (show gn ≠ g4 by have h_ := blk_lt BN.out; omega); replace BN := Aside0.mk (bk_ BN.out hb); replace HB := hs_ HB hb; clear hb hbox hg; obtain ⟨y0, y1, y2, y3, y4, y5, y6, y7, y8, y9, y10, -⟩ := cz11_ BN.out))
 go_upto_region 2 with (first | (go_at_call 22; (with_reducible refine (impl_copyNet.calls k a0_0 a0_1 _ _ l0_2 _ _ l0_3 _ _ l0_4 _ _ l0_5 _ _ l0_6 _ _ l0_7 _ _ l0_8 _ _ l0_9 a0_10 n1 n2 n3 n4 n5 n6 n7 n8 n9 n10 n11 _ ?side1 HC2.out ?side3 HC3.out ?side5 HC4.out ?side7 HC5.out ?side9 HC6.out ?side11 HC7.out ?side13 HC8.out ?side15 HC9.out E1.out).mono ?_); (case side1 => exact cb_ HR2.out HB.out); (case side3 => exact cb_ HR3.out HB.out); (case side5 => exact cb_ HR4.out HB.out); (case side7 => exact cb_ HR5.out HB.out); (case side9 => exact cb_ HR6.out HB.out); (case side11 => exact cb_ HR7.out HB.out); (case side13 => exact cb_ HR8.out HB.out); (case side15 => exact cb_ HR9.out HB.out); rintro e w1 ⟨T, v2, v3, v4, v5, v6, v7, v8, v9, rfl, hM, hb⟩; obtain ⟨X2, d2, e_⟩ := Kd.R_slice hM.h2; subst e_; obtain ⟨X3, d3, e_⟩ := Kd.R_slice hM.h3; subst e_; obtain ⟨X4, d4, e_⟩ := Kd.R_slice hM.h4; subst e_; obtain ⟨X5, d5, e_⟩ := Kd.S_slice hM.h5; subst e_; obtain ⟨X6, d6, e_⟩ := Kd.R_slice hM.h6; subst e_; obtain ⟨X7, d7, e_⟩ := Kd.R_slice hM.h7; subst e_; obtain ⟨X8, d8, e_⟩ := Kd.S_slice hM.h8; subst e_; obtain ⟨X9, d9, e_⟩ := Kd.S_slice hM.h9; subst e_; have T4 := Aside0.mk (show T g4 = 0 from hM.zlo (blk_lt (bq_ B4.out))); have M := Aside0.mk (hM.lower (bz_ HB.out)); replace BN := Aside0.mk (bk_ BN.out hb); replace B4 := Aside0.mk (bk_ B4.out hb); replace HB := hs_ HB hb; clear hb hM y0 y1 y2 y3 y4 y5 y6 y7 y8 y9 y10) | ((with_reducible refine gate_dst (N := 6) rfl ?_); refine box_event ?hg (N := 6) ?hd (cs := #[.int .i64 0, .int .i64 0, .slice none 0 0, .slice none 0 0, .slice none 0 0, .slice none 0 0, .slice none 0 0, .slice none 0 0, .slice none 0 0, .slice none 0 0, .int .i64 0]) (t := 38) ?hr ?_; (case hd => rfl); (case hg => rfl); (case hr => first | (go_simp; done) | (go_simp; rfl)); intro g6 hg w1 hbox hb; have B6 := Aside0.mk hbox; have T6 := Aside0.mk (show T g6 = 0 from M.out.zhi (by rw [hg]; exact Nat.le_refl _)); have G6 := Aside0.mk (show w.heap.size ≤ g6 by rw [hg]; exact (bz_ HB.out)); have N46 := Aside0.mk (show g4 ≠ g6 by have h_ := blk_lt B4.out; omega); have NN6 := Aside0.mk (show gn ≠ g6 by have h_ := blk_lt BN.out; omega); replace M := Aside0.mk (M.out.below hb); replace BN := Aside0.mk (bk_ BN.out hb); replace B4 := Aside0.mk (bk_ B4.out hb); replace HB := hs_ HB hb; clear hb hbox hg; obtain ⟨y0, y1, y2, y3, y4, y5, y6, y7, y8, y9, y10, f0, f1, f2, f3, f4, f5, f6, f7, f8, f9, f10⟩ := cz11_ B6.out))
 clear y0 y1 y2 y3 y4 y5 y6 y7 y8 y9 y10 f0 f1 f2 f3 f4 f5 f6 f7 f8 f9 f10
 change Code.wp _ _ _ _ (st11_ _ g6 (.int .i64 n1) (.int .i64 n2) (.slice X2 n3.length d2) (.slice X3 n4.length d3) (.slice X4 n5.length d4) (.slice X5 n6.length d5) (.slice X6 n7.length d6) (.slice X7 n8.length d7) (.slice X8 n9.length d8) (.slice X9 n10.length d9) (.int .i64 n11))
 replace M := Aside0.mk (M.out.move (w1 := st11_ _ g6 (.int .i64 n1) (.int .i64 n2) (.slice X2 n3.length d2) (.slice X3 n4.length d3) (.slice X4 n5.length d4) (.slice X5 n6.length d5) (.slice X6 n7.length d6) (.slice X7 n8.length d7) (.slice X8 n9.length d8) (.slice X9 n10.length d9) (.int .i64 n11)) (fun k_ h_ => st11_far (fun e_ => h_ (e_ ▸ T6.out))) (Nat.le_of_eq st11_size.symm))
 replace BN := Aside0.mk ((st11_far NN6.out : (st11_ _ g6 (.int .i64 n1) (.int .i64 n2) (.slice X2 n3.length d2) (.slice X3 n4.length d3) (.slice X4 n5.length d4) (.slice X5 n6.length d5) (.slice X6 n7.length d6) (.slice X7 n8.length d7) (.slice X8 n9.length d8) (.slice X9 n10.length d9) (.int .i64 n11)).heap[_]? = _).trans BN.out)
 replace B4 := Aside0.mk ((st11_far N46.out : (st11_ _ g6 (.int .i64 n1) (.int .i64 n2) (.slice X2 n3.length d2) (.slice X3 n4.length d3) (.slice X4 n5.length d4) (.slice X5 n6.length d5) (.slice X6 n7.length d6) (.slice X7 n8.length d7) (.slice X8 n9.length d8) (.slice X9 n10.length d9) (.int .i64 n11)).heap[_]? = _).trans B4.out)
 replace B6 := Aside0.mk (st11_blk B6.out : (st11_ _ g6 (.int .i64 n1) (.int .i64 n2) (.slice X2 n3.length d2) (.slice X3 n4.length d3) (.slice X4 n5.length d4) (.slice X5 n6.length d5) (.slice X6 n7.length d6) (.slice X7 n8.length d7) (.slice X8 n9.length d8) (.slice X9 n10.length d9) (.int .i64 n11)).heap[g6]? = _)
 replace HB := Aside0.mk (st11_below HB.out G6.out : Below w.heap.size w (st11_ _ g6 (.int .i64 n1) (.int .i64 n2) (.slice X2 n3.length d2) (.slice X3 n4.length d3) (.slice X4 n5.length d4) (.slice X5 n6.length d5) (.slice X6 n7.length d6) (.slice X7 n8.length d7) (.slice X8 n9.length d8) (.slice X9 n10.length d9) (.int .i64 n11)))
 generalize st11_ _ g6 (.int .i64 n1) (.int .i64 n2) (.slice X2 n3.length d2) (.slice X3 n4.length d3) (.slice X4 n5.length d4) (.slice X5 n6.length d5) (.slice X6 n7.length d6) (.slice X7 n8.length d7) (.slice X8 n9.length d8) (.slice X9 n10.length d9) (.int .i64 n11) = w9 at *
 obtain ⟨y0, y1, y2, y3, y4, y5, y6, y7, y8, y9, y10, -⟩ := cz11_ BN.out
 clear BN
 cases b
 ·skip
  obtain ⟨rfl, rfl, rfl, rfl, rfl, rfl, rfl, rfl, rfl, rfl, rfl, rfl⟩ : n1 = r1 ∧ n2 = r2 ∧ n3 = r3 ∧ n4 = r4 ∧ n5 = r5 ∧ n6 = r6 ∧ n7 = r7 ∧ n8 = r8 ∧ n9 = r9 ∧ n10 = r10 ∧ n11 = r11 ∧ -1 = r12 := by have h_ := H'.out; simpa using h_
  clear H'
  go_upto_region 3 with (first | (go_at_call 8; (with_reducible refine (impl_NetOk.calls k a0_0 a0_1 _ _ l0_2 _ _ l0_3 _ _ l0_4 _ _ l0_5 _ _ l0_6 _ _ l0_7 _ _ l0_8 _ _ l0_9 a0_10 _ _ ?side1 HC2.out ?side3 HC3.out ?side5 HC4.out ?side7 HC5.out ?side9 HC6.out ?side11 HC7.out ?side13 HC8.out ?side15 HC9.out E2.out).mono ?_); (case side1 => exact cb_ HR2.out HB.out); (case side3 => exact cb_ HR3.out HB.out); (case side5 => exact cb_ HR4.out HB.out); (case side7 => exact cb_ HR5.out HB.out); (case side9 => exact cb_ HR6.out HB.out); (case side11 => exact cb_ HR7.out HB.out); (case side13 => exact cb_ HR8.out HB.out); (case side15 => exact cb_ HR9.out HB.out); rintro e w1 ⟨rfl, hb⟩; replace M := Aside0.mk (M.out.belowV hb); replace B4 := Aside0.mk (bk_ B4.out hb); replace B6 := Aside0.mk (bk_ B6.out hb); replace HB := hs_ HB hb; clear hb y0 y1 y2 y3 y4 y5 y6 y7 y8 y9 y10))
  obtain ⟨y0, y1, y2, y3, y4, y5, y6, y7, y8, y9, y10, f0, f1, f2, f3, f4, f5, f6, f7, f8, f9, f10⟩ := cz11_ B4.out
  obtain ⟨z0, z1, z2, z3, z4, z5, z6, z7, z8, z9, z10, -⟩ := cz11_ B6.out
  exact impl_SendAll.e0
 ·by_cases c4 : 40 < (l1.length : Int)
  ·have c4d : decide (40 < (l1.length : Int)) = true := decide_eq_true c4
   obtain ⟨rfl, rfl, rfl, rfl, rfl, rfl, rfl, rfl, rfl, rfl, rfl, rfl⟩ : n1 = r1 ∧ n2 = r2 ∧ n3 = r3 ∧ n4 = r4 ∧ n5 = r5 ∧ n6 = r6 ∧ n7 = r7 ∧ n8 = r8 ∧ n9 = r9 ∧ n10 = r10 ∧ n11 = r11 ∧ -1 = r12 := by have h_ := H'.out; simpa [c4] using h_
   clear H'
   go_upto_region 3 with (first | (go_at_call 8; (with_reducible refine (impl_NetOk.calls k a0_0 a0_1 _ _ l0_2 _ _ l0_3 _ _ l0_4 _ _ l0_5 _ _ l0_6 _ _ l0_7 _ _ l0_8 _ _ l0_9 a0_10 _ _ ?side1 HC2.out ?side3 HC3.out ?side5 HC4.out ?side7 HC5.out ?side9 HC6.out ?side11 HC7.out ?side13 HC8.out ?side15 HC9.out E2.out).mono ?_); (case side1 => exact cb_ HR2.out HB.out); (case side3 => exact cb_ HR3.out HB.out); (case side5 => exact cb_ HR4.out HB.out); (case side7 => exact cb_ HR5.out HB.out); (case side9 => exact cb_ HR6.out HB.out); (case side11 => exact cb_ HR7.out HB.out); (case side13 => exact cb_ HR8.out HB.out); (case side15 => exact cb_ HR9.out HB.out); rintro e w1 ⟨rfl, hb⟩; replace M := Aside0.mk (M.out.belowV hb); replace B4 := Aside0.mk (bk_ B4.out hb); replace B6 := Aside0.mk (bk_ B6.out hb); replace HB := hs_ HB hb; clear hb y0 y1 y2 y3 y4 y5 y6 y7 y8 y9 y10))
   obtain ⟨y0, y1, y2, y3, y4, y5, y6, y7, y8, y9, y10, f0, f1, f2, f3, f4, f5, f6, f7, f8, f9, f10⟩ := cz11_ B4.out
   obtain ⟨z0, z1, z2, z3, z4, z5, z6, z7, z8, z9, z10, -⟩ := cz11_ B6.out
   exact impl_SendAll.e0
  ·have c4d : decide (40 < (l1.length : Int)) = false := decide_eq_false c4
   have H := H'.out
   rw [if_pos rfl, if_neg c4] at H
   obtain ⟨⟨rc, rx⟩, e3, h3⟩ := Option.bind_eq_some_iff.1 H
   obtain ⟨rfl, rfl, rfl, rfl, rfl, rfl, rfl, rfl, rfl, rfl, rfl, rfl⟩ : n1 = r1 ∧ n2 = r2 ∧ n3 = r3 ∧ n4 = r4 ∧ n5 = r5 ∧ n6 = r6 ∧ n7 = r7 ∧ n8 = r8 ∧ rx = r9 ∧ n10 = r10 ∧ n11 = r11 ∧ rc = r12 := by simpa using h3
   have E3 := Aside0.mk e3
   clear H' H e3 h3 c4
   go_upto_region 4 with (first | (go_at_call 8; (with_reducible refine (impl_NetOk.calls k a0_0 a0_1 _ _ l0_2 _ _ l0_3 _ _ l0_4 _ _ l0_5 _ _ l0_6 _ _ l0_7 _ _ l0_8 _ _ l0_9 a0_10 _ _ ?side1 HC2.out ?side3 HC3.out ?side5 HC4.out ?side7 HC5.out ?side9 HC6.out ?side11 HC7.out ?side13 HC8.out ?side15 HC9.out E2.out).mono ?_); (case side1 => exact cb_ HR2.out HB.out); (case side3 => exact cb_ HR3.out HB.out); (case side5 => exact cb_ HR4.out HB.out); (case side7 => exact cb_ HR5.out HB.out); (case side9 => exact cb_ HR6.out HB.out); (case side11 => exact cb_ HR7.out HB.out); (case side13 => exact cb_ HR8.out HB.out); (case side15 => exact cb_ HR9.out HB.out); rintro e w1 ⟨rfl, hb⟩; replace M := Aside0.mk (M.out.belowV hb); replace B4 := Aside0.mk (bk_ B4.out hb); replace B6 := Aside0.mk (bk_ B6.out hb); replace HB := hs_ HB hb; clear hb y0 y1 y2 y3 y4 y5 y6 y7 y8 y9 y10))
   go_wp2
   go_loopg [7, 23] k (fun kq v7 v23 w' => ∃ (TT : Nat → Nat) (c i : Int) (x8 : List (List S79)), v7 = .int .i64 c ∧ v23 = .int .i64 i ∧ Aside0 (impl_SendAll.l0 kq n1 n2 x8 l1 i c = some (rc, rx)) ∧ Aside0 (kq ≤ k) ∧ Aside0 (Marks TT w.heap.size w' (.slice X2 n3.length d2) (.slice X3 n4.length d3) (.slice X4 n5.length d4) (.slice X5 n6.length d5) (.slice X6 n7.length d6) (.slice X7 n8.length d7) (.slice X8 n9.length d8) (.slice X9 n10.length d9) n3 n4 n5 n6 n7 n8 x8 n10) ∧ Aside0 (TT g4 = 0) ∧ Aside0 (TT g6 = 0) ∧ Aside0 (w'.heap[g4]? = some (.cells #[.int .i64 0, .int .i64 0, .slice none 0 0, .slice none 0 0, .slice none 0 0, .slice none 0 0, .slice none 0 0, .slice none 0 0, .slice none 0 0, .slice none 0 0, .int .i64 0] 38 (0, 0))) ∧ Aside0 (w'.heap[g6]? = some (.cells #[.int .i64 n1, .int .i64 n2, .slice X2 n3.length d2, .slice X3 n4.length d3, .slice X4 n5.length d4, .slice X5 n6.length d5, .slice X6 n7.length d6, .slice X7 n8.length d7, .slice X8 n9.length d8, .slice X9 n10.length d9, .int .i64 n11] 38 (0, 0))) ∧ Aside0 (Below w.heap.size w w'))
   case atStart => exact ⟨T, 0, 0, _, rfl, rfl, E3, ⟨Nat.le_refl _⟩, ⟨M.out.belowV (Below.refl _ _)⟩, T4, T6, ⟨bq_ B4.out⟩, ⟨bq_ B6.out⟩, ⟨bb_ HB.out⟩⟩
   clear E3 M T4 T6 B4 B6 HB
   obtain ⟨TT, c, i, x8, rfl, rfl, HA, HK1, M, T4, T6, B4, B6, HB⟩ := hrel
   obtain _ | k1 := gk
   ·exact absurd HA.out (by simp [impl_SendAll.l0])
   have H := HA.out
   clear HA
   simp only [impl_SendAll.l0] at H
   by_cases c1 : i < (l1.length : Int)
   rotate_left
   ·rw [if_neg c1] at H
    obtain ⟨rfl, rfl⟩ := Prod.mk.inj (Option.some.inj H)
    have c1d : decide (i < (l1.length : Int)) = false := decide_eq_false c1
    clear H
    obtain ⟨y0, y1, y2, y3, y4, y5, y6, y7, y8, y9, y10, f0, f1, f2, f3, f4, f5, f6, f7, f8, f9, f10⟩ := cz11_ B4.out
    obtain ⟨z0, z1, z2, z3, z4, z5, z6, z7, z8, z9, z10, -⟩ := cz11_ B6.out
    exact impl_SendAll.e0
   rw [if_pos c1] at H
   by_cases c2 : 0 ≤ i
   rotate_left
   ·rw [if_neg c2] at H
    cases H
   rw [if_pos c2] at H
   obtain ⟨⟨b, y8⟩, e4, h4⟩ := Option.bind_eq_some_iff.1 H
   have E4 := Aside0.mk e4
   have H' := Aside0.mk h4
   clear H e4 h4
   have c1d : decide (i < (l1.length : Int)) = true := decide_eq_true c1
   obtain ⟨ad, ea, q0, q1, q2, q3, q4⟩ := at_T44 HQ.out i c2 c1
   cases ea
   replace q0 := (HB.out.cell (World.block_lt_of_cell? w _ q0)).trans q0
   replace q1 := (HB.out.cell (World.block_lt_of_cell? w _ q1)).trans q1
   replace q2 := (HB.out.cell (World.block_lt_of_cell? w _ q2)).trans q2
   replace q3 := (HB.out.cell (World.block_lt_of_cell? w _ q3)).trans q3
   replace q4 := (HB.out.cell (World.block_lt_of_cell? w _ q4)).trans q4
   go_upto_region 7 with (first | ((with_reducible refine gate_dst (N := 9) rfl ?_); refine box_event ?hg (N := 9) ?hd (cs := #[.int .i64 0, .int .i64 0, .int .i64 0, .int .i64 0, .int .i64 0]) (t := 44) ?hr ?_; (case hd => rfl); (case hg => rfl); (case hr => first | (go_simp; done) | (go_simp; rfl)); intro gp hg w1 hbox hb; have BP := Aside0.mk hbox; have GP := Aside0.mk (show w.heap.size ≤ gp by rw [hg]; exact (bz_ HB.out)); have TP := Aside0.mk (show TT gp = 0 from M.out.zhi (by rw [hg]; exact Nat.le_refl _)); have NP4 := Aside0.mk (show g4 ≠ gp by have h_ := blk_lt B4.out; omega); have NP6 := Aside0.mk (show g6 ≠ gp by have h_ := blk_lt B6.out; omega); replace M := Aside0.mk (M.out.below hb); replace B4 := Aside0.mk (bk_ B4.out hb); replace B6 := Aside0.mk (bk_ B6.out hb); replace HB := hs_ HB hb; clear hb hbox hg; obtain ⟨y0, y1, y2, y3, y4, f0, f1, f2, f3, f4⟩ := cz5_ BP.out))
   clear y0 y1 y2 y3 y4 f0 f1 f2 f3 f4 q0 q1 q2 q3 q4
   change Code.wp _ _ _ _ (st5_ _ gp (.int .i64 (rd_T44 l1 i).f0) (.int .i64 (rd_T44 l1 i).f1) (.int .i64 (rd_T44 l1 i).f2) (.int .i64 (rd_T44 l1 i).f3) (.int .i64 (rd_T44 l1 i).f4))
   replace M := Aside0.mk (M.out.move (w1 := st5_ _ gp (.int .i64 (rd_T44 l1 i).f0) (.int .i64 (rd_T44 l1 i).f1) (.int .i64 (rd_T44 l1 i).f2) (.int .i64 (rd_T44 l1 i).f3) (.int .i64 (rd_T44 l1 i).f4)) (fun k_ h_ => st5_far (fun e_ => h_ (e_ ▸ TP.out))) (Nat.le_of_eq st5_size.symm))
   replace B4 := Aside0.mk ((st5_far NP4.out : (st5_ _ gp (.int .i64 (rd_T44 l1 i).f0) (.int .i64 (rd_T44 l1 i).f1) (.int .i64 (rd_T44 l1 i).f2) (.int .i64 (rd_T44 l1 i).f3) (.int .i64 (rd_T44 l1 i).f4)).heap[_]? = _).trans B4.out)
   replace B6 := Aside0.mk ((st5_far NP6.out : (st5_ _ gp (.int .i64 (rd_T44 l1 i).f0) (.int .i64 (rd_T44 l1 i).f1) (.int .i64 (rd_T44 l1 i).f2) (.int .i64 (rd_T44 l1 i).f3) (.int .i64 (rd_T44 l1 i).f4)).heap[_]? = _).trans B6.out)
   replace BP := Aside0.mk (st5_blk BP.out : (st5_ _ gp (.int .i64 (rd_T44 l1 i).f0) (.int .i64 (rd_T44 l1 i).f1) (.int .i64 (rd_T44 l1 i).f2) (.int .i64 (rd_T44 l1 i).f3) (.int .i64 (rd_T44 l1 i).f4)).heap[gp]? = _)
   replace HB := Aside0.mk (st5_below HB.out GP.out : Below w.heap.size w (st5_ _ gp (.int .i64 (rd_T44 l1 i).f0) (.int .i64 (rd_T44 l1 i).f1) (.int .i64 (rd_T44 l1 i).f2) (.int .i64 (rd_T44 l1 i).f3) (.int .i64 (rd_T44 l1 i).f4)))
   generalize st5_ _ gp (.int .i64 (rd_T44 l1 i).f0) (.int .i64 (rd_T44 l1 i).f1) (.int .i64 (rd_T44 l1 i).f2) (.int .i64 (rd_T44 l1 i).f3) (.int .i64 (rd_T44 l1 i).f4) = w9 at *
   obtain ⟨y0, y1, y2, y3, y4, -⟩ := cz5_ BP.out
   go_upto_if 28 with (first | (go_at_call 23; (with_reducible refine (impl_Net_send.calls k1 g6 TT (.slice X2 n3.length d2) (.slice X3 n4.length d3) (.slice X4 n5.length d4) (.slice X5 n6.length d5) (.slice X6 n7.length d6) (.slice X7 n8.length d7) (.slice X8 n9.length d8) (.slice X9 n10.length d9) n1 n2 n3 n4 n5 n6 n7 n8 x8 n10 n11 (rd_T44 l1 i).f0 (rd_T44 l1 i).f1 (rd_T44 l1 i).f2 (rd_T44 l1 i).f3 (rd_T44 l1 i).f4 b y8 w _ ?side1 ?side2 ?side3 ?side4 E4.out).mono ?_); (case side1 => exact bb_ HB.out); (case side2 => exact M.out.belowV (Below.refl _ _)); (case side3 => exact bq_ B6.out); (case side4 => exact T6.out); rintro e w1 ⟨rfl, ⟨T2, hT2, hM2⟩, hb2, hk2⟩; have M2 := Aside0.mk hM2; have T42 := Aside0.mk ((hT2 g4 (blk_lt (bq_ B4.out))).trans T4.out); have T62 := Aside0.mk ((hT2 g6 (blk_lt (bq_ B6.out))).trans T6.out); have B42 := Aside0.mk (blk_kept (bq_ B4.out) hk2 (fun h_ => h_ T4.out)); have B62 := Aside0.mk (blk_kept (bq_ B6.out) hk2 (fun h_ => h_ T6.out)); have HB2 := Aside0.mk hb2; clear hT2 hM2 hb2 hk2 y0 y1 y2 y3 y4 M T4 T6 B4 B6 HB BP))
   cases b
   ·exact impl_SendAll.e1
   ·exact impl_SendAll.e1

/-! ### impl_flitsIn: function 28 -/
def impl_flitsIn.l0 : Nat → Int → List (List (S79)) → Int → Int → Option (Int)
 | 0, _, _, _, _ => none
 | k + 1, x3, x6, x7, x8 => if x8 < x7 then (if 0 ≤ x8 then (if x8 < (x6.length : Int) then (impl_flitsIn.l0 k (wrap64 (x3 + ((rd_L5 x6 x8).length : Int))) x6 x7 (wrap64 (x8 + 1))) else (none)) else (none)) else (some x3)
def impl_flitsIn.f (k : Nat) (l0 : List (List (S79))) : Option (Int) := impl_flitsIn.l0 k 0 l0 (l0.length : Int) 0
theorem impl_flitsIn.mono_l : ∀ k, (∀ y0 y1 y2 y3, LeO (impl_flitsIn.l0 k y0 y1 y2 y3) (impl_flitsIn.l0 (k + 1) y0 y1 y2 y3))
 | 0 => fun _ _ _ _ r h => by simp [impl_flitsIn.l0] at h
 | k + 1 => by
  have ih0 := impl_flitsIn.mono_l k
  ·intro y0 y1 y2 y3
   unfold impl_flitsIn.l0
   repeat' (with_reducible first | exact ih0 .. | exact LeO.refl .. | exact LeO.none .. | refine LeO.ite ?_ ?_ | refine LeO.bind ?_ (fun _ => ?_))
theorem impl_flitsIn.mono : ∀ a0 k, LeO (impl_flitsIn.f k a0) (impl_flitsIn.f (k + 1) a0) := by
 intro a0 k
 have ih0 := impl_flitsIn.mono_l k
 unfold impl_flitsIn.f
 repeat' (with_reducible first | exact ih0 .. | exact LeO.refl .. | exact LeO.none .. | refine LeO.ite ?_ ?_ | refine LeO.bind ?_ (fun _ => ?_))
theorem impl_flitsIn.calls (k : Nat) (A0 : Option Addr) (c0 : Nat) (l0 : List (List (S79))) (r : Int) (w : World) (hr0 : Kd.C (Kd.slice 79 k79) w A0 l0.length l0) (hc0 : l0.length ≤ c0) (h : impl_flitsIn.f k l0 = some r) :
  Calls Try.prog 28 #[.slice A0 l0.length c0] w fun e w' => e = .returned (.int .i64 r) ∧ Drawn0 w w' := by
 have HR0 := Aside0.mk hr0
 have HC0 := Aside0.mk hc0
 clear hr0 hc0
 have H : (impl_flitsIn.l0 k 0 l0 (l0.length : Int) 0) = some r := h
 clear h
 have H' := Aside0.mk H
 clear H
 go_enter Try.func28, Try.ntmps28
 go_wp2
 go_loopg [3, 8] k (fun kq v3 v8 w' => ∃ (x3_1 : Int) (x8_1 : Int), v3 = .int .i64 x3_1 ∧ v8 = .int .i64 x8_1 ∧ Aside0 (impl_flitsIn.l0 kq x3_1 l0 (l0.length : Int) x8_1 = some r) ∧ Aside0 (kq ≤ k) ∧ Drawn0 w w')
 case atStart => exact ⟨(0), (0), ef_, ef_, H', ⟨Nat.le_refl _⟩, by repeat (first | exact Drawn0.refl _ | apply Drawn0.step)⟩
 clear H'
 obtain ⟨x3_1, x8_1, rfl, rfl, HA, HK1, ⟨m1, rfl⟩⟩ := hrel
 obtain _ | k1 := gk
 ·exact absurd HA.out (by simp [impl_flitsIn.l0])
 have H := HA.out
 clear HA
 simp only [impl_flitsIn.l0] at H
 by_cases c2 : x8_1 < (l0.length : Int)
 rotate_left
 ·rw [if_neg c2] at H
  have c2b0 : decide (x8_1 < (l0.length : Int)) = false := decide_eq_false c2
  clear c2
  obtain rfl := Option.some.inj H
  go_wp2
  go_ret
  exact ⟨by first | rfl | (simp; done) | (simp [*]; done), by repeat (first | exact Drawn0.refl _ | apply Drawn0.step)⟩
 rw [if_pos c2] at H
 have c2b0 : decide (x8_1 < (l0.length : Int)) = true := decide_eq_true c2
 clear c2
 by_cases c3 : 0 ≤ x8_1
 rotate_left
 ·rw [if_neg c3] at H
  exact absurd H (by simp)
 rw [if_pos c3] at H
 have c3b0 : decide (0 ≤ x8_1) = true := decide_eq_true c3
 clear c3
 by_cases c4 : x8_1 < (l0.length : Int)
 rotate_left
 ·rw [if_neg c4] at H
  exact absurd H (by simp)
 rw [if_pos c4] at H
 have c4b0 : decide (x8_1 < (l0.length : Int)) = true := decide_eq_true c4
 clear c4
 have H' := Aside0.mk H
 clear H
 have p439 : 0 ≤ (x8_1 : Int) := of_decide_eq_true dg_
 have q439 : x8_1 < (l0.length : Int) := of_decide_eq_true dg_
 obtain ⟨ad439, A439_0, c439_0, e439, hx439_0, hl439_0, hi439_0⟩ := at_L5 HR0.out x8_1 p439 q439
 cases e439
 have HR439_0 := Aside0.mk hi439_0
 have HC439_0 := Aside0.mk hl439_0
 clear hi439_0 hl439_0
 replace p439 := eq_true p439
 replace q439 := eq_true q439
 go_wp2
 go_roundg k1
 case measure => have := HK1.out; omega
 case rel => exact ⟨(wrap64 (x3_1 + ((rd_L5 l0 x8_1).length : Int))), (wrap64 (x8_1 + 1)), ef_, ef_, H', ⟨by have := HK1.out; omega⟩, by repeat (first | exact Drawn0.refl _ | apply Drawn0.step)⟩

end Go.Proofs.Ytchhgfgebomegaa.PFnSends
-- thin
