
import Derived.Test.YteiemoooelpdaaaPFnCreditSumx0
import Derived.Test.YteiemoooelpdaaaPFnCreditSumx1
import Derived.Test.YteiemoooelpdaaaPFnCreditSumx2
import Derived.Test.YteiemoooelpdaaaPFnCreditSumx3
namespace Go.Proofs.Yteiemoooelpdaaa.PFnCreditSum
open Go.RowKit Go.Proofs.YteiemoooelpdaaaW.PrintWords Go.Proofs.YteiemoooelpdaaaW.PrintLast Go.Proofs.YteiemoooelpdaaaW.PrintMore
attribute [local go_sem] max2_int min2_int max_two min_two max_three min_three max_four min_four
set_option linter.unusedVariables false
set_option maxHeartbeats 8000000
set_option maxRecDepth 100000
set_option linter.unusedSimpArgs false
mutual
def impl_WalkTable.j0 : Nat → Int → Int → Bool → Int → Int → List Int → List Int → Option (List Int)
 | 0, _, _, _, _, _, _, _ => none
 | k + 1, x2, x3, x33, x202000, x202001, x202002, x203000 => if x33 = true then (some ([] : List Int)) else (impl_WalkTable.l0 k x3 (([] : List Int)) x2 x202000 x202001 x202002 x203000)
def impl_WalkTable.l0 : Nat → Int → List Int → Int → Int → Int → List Int → List Int → Option (List Int)
 | 0, _, _, _, _, _, _, _ => none
 | k + 1, x3, x9, x10, x202000, x202001, x202002, x203000 => (impl_PortAt.f k x202000 x202001 x202002 x203000 x10 x3).bind fun t209 => (if t209 < 0 then (some ([] : List Int)) else (if t209 = 4 then (if x10 = x3 then (some x9) else (some ([] : List Int))) else ((impl_HasChannel.f k x202000 x202001 x202002 (wrap64 ((wrap64 (4 * x10)) + t209))).bind fun t210 => (if t210 = true then ((impl_NodeCount.f x202000 x202001).bind fun t211 => (if (x9.length : Int) = t211 then (some ([] : List Int)) else (if x9.length < 17592186044416 then ((impl_endOf.f x202000 x202001 x202002 (wrap64 ((wrap64 (4 * x10)) + t209))).bind fun t215 => (impl_WalkTable.l0 k x3 (x9 ++ [wrap64 ((wrap64 (4 * x10)) + t209)]) t215 x202000 x202001 x202002 x203000)) else (none)))) else (some ([] : List Int))))))
end
def impl_WalkTable.f (k : Nat) (a0_0 : Int) (a0_1 : Int) (l0_2 : List Int) (l1_0 : List Int) (a2 : Int) (a3 : Int) : Option (List Int) := if a2 = a3 then (impl_WalkTable.j0 k a2 a3 true a0_0 a0_1 l0_2 l1_0) else ((impl_MeshOk.f k a0_0 a0_1 l0_2).bind fun t203 => (if t203 = true then ((impl_isNode.f a0_0 a0_1 a2).bind fun t204 => (if t204 = true then ((impl_isNode.f a0_0 a0_1 a3).bind fun t205 => (impl_WalkTable.j0 k a2 a3 (!t205) a0_0 a0_1 l0_2 l1_0)) else (impl_WalkTable.j0 k a2 a3 true a0_0 a0_1 l0_2 l1_0))) else (impl_WalkTable.j0 k a2 a3 true a0_0 a0_1 l0_2 l1_0)))
theorem impl_WalkTable.mono_l : ∀ k, (∀ y0 y1 y2 y3 y4 y5 y6, LeO (impl_WalkTable.j0 k y0 y1 y2 y3 y4 y5 y6) (impl_WalkTable.j0 (k + 1) y0 y1 y2 y3 y4 y5 y6)) ∧ (∀ y0 y1 y2 y3 y4 y5 y6, LeO (impl_WalkTable.l0 k y0 y1 y2 y3 y4 y5 y6) (impl_WalkTable.l0 (k + 1) y0 y1 y2 y3 y4 y5 y6))
 | 0 => ⟨fun _ _ _ _ _ _ _ r h => by simp [impl_WalkTable.j0] at h, fun _ _ _ _ _ _ _ r h => by simp [impl_WalkTable.l0] at h⟩
 | k + 1 => by
  obtain ⟨ih0, ih1⟩ := impl_WalkTable.mono_l k
  refine ⟨?_, ?_⟩
  ·intro y0 y1 y2 y3 y4 y5 y6
   unfold impl_WalkTable.j0
   repeat' (with_reducible first | exact ih0 .. | exact ih1 .. | exact impl_HasChannel.mono .. | exact impl_MeshOk.mono .. | exact impl_PortAt.mono .. | exact LeO.refl .. | exact LeO.none .. | refine LeO.ite ?_ ?_ | refine LeO.bind ?_ (fun _ => ?_))
  ·intro y0 y1 y2 y3 y4 y5 y6
   unfold impl_WalkTable.l0
   repeat' (with_reducible first | exact ih0 .. | exact ih1 .. | exact impl_HasChannel.mono .. | exact impl_MeshOk.mono .. | exact impl_PortAt.mono .. | exact LeO.refl .. | exact LeO.none .. | refine LeO.ite ?_ ?_ | refine LeO.bind ?_ (fun _ => ?_))
theorem impl_WalkTable.mono : ∀ a0 a1 a2 a3 a4 a5 k, LeO (impl_WalkTable.f k a0 a1 a2 a3 a4 a5) (impl_WalkTable.f (k + 1) a0 a1 a2 a3 a4 a5) := by
 intro a0 a1 a2 a3 a4 a5 k
 obtain ⟨ih0, ih1⟩ := impl_WalkTable.mono_l k
 unfold impl_WalkTable.f
 repeat' (with_reducible first | exact ih0 .. | exact ih1 .. | exact impl_HasChannel.mono .. | exact impl_MeshOk.mono .. | exact impl_PortAt.mono .. | exact LeO.refl .. | exact LeO.none .. | refine LeO.ite ?_ ?_ | refine LeO.bind ?_ (fun _ => ?_))
theorem impl_WalkTable.e0 {P : Prop} (h : P := by
 obtain ⟨hcz_0, hcz_1, hcz_2, hfz_0, hfz_1, hfz_2⟩ := cz3_ BK201.out
 go_wp2_with (first | (go_at_call 53; (with_reducible refine (impl_MeshOk.calls k a0_0 a0_1 _ _ l0_2 _ _ ?side1 HC0_2.out A9.out).mono ?_); (case side1 => exact cb_ HR0_2.out HB.out); rintro e w_0 ⟨rfl, hb⟩; replace BK201 := kb_ BK201 hb; replace BK202 := kb_ BK202 hb; replace HB := h9_ HB hb; (try clear hb); obtain ⟨hcz_0, hcz_1, hcz_2, hfz_0, hfz_1, hfz_2⟩ := cz3_ BK201.out) | (go_at_call 37; (with_reducible refine (impl_isNode.calls a0_0 a0_1 a2 _ _ A11.out).mono ?_); rintro e w_0 ⟨rfl, hb⟩; replace BK201 := kb_ BK201 hb; replace BK202 := kb_ BK202 hb; replace HB := h9_ HB hb; (try clear hb)))
 go_meet
 case rel => exact ⟨_, (true), ef_, H', ⟨kq_⟩, ⟨bq_ BK201.out⟩, ⟨bq_ BK202.out⟩, ⟨bb_ HB.out⟩⟩) : P := h
theorem impl_WalkTable.e1 {P : Prop} (h : P := by
 obtain ⟨hcz_0, hcz_1, hcz_2, hfz_0, hfz_1, hfz_2⟩ := cz3_ BK201.out
 obtain ⟨hcz_0, hfz_0⟩ := cz1_ BK202.out
 go_wp2_with (first | ((with_reducible refine gate_callee (f := 43) rfl ?_); refine gm_ (some 40) Try.func43 #[.agg #[.int .i64 a0_0, .int .i64 a0_1, .slice A0_2 l0_2.length c0_2], .agg #[.slice A1_0 l1_0.length c1_0], .int .i64 x10_2, .int .i64 a3] rfl ?_; (with_reducible refine (impl_PortAt.calls k2 a0_0 a0_1 _ _ l0_2 _ _ l1_0 x10_2 a3 t209 _ ?side1 HC0_2.out ?side3 HC1_0.out A32.out).mono ?_); (case side1 => exact cb_ HR0_2.out HB.out); (case side3 => exact cb_ HR1_0.out HB.out); rintro e w_0 ⟨rfl, hb⟩; refine ⟨_, rfl, ?_⟩; replace HO_9 := rb_ HO_9 hb; replace BK201 := kb_ BK201 hb; replace BK202 := kb_ BK202 hb; replace HB := h9_ HB hb; (try clear hb); obtain ⟨hcz_0, hcz_1, hcz_2, hfz_0, hfz_1, hfz_2⟩ := cz3_ BK201.out) | ((with_reducible refine gate_callee (f := 29) rfl ?_); refine gm_ (some 57) Try.func29 #[.agg #[.int .i64 a0_0, .int .i64 a0_1, .slice A0_2 l0_2.length c0_2], .int .i64 (wrap64 ((wrap64 (4 * x10_2)) + t209))] rfl ?_; (with_reducible refine (impl_HasChannel.calls k2 a0_0 a0_1 _ _ l0_2 (wrap64 ((wrap64 (4 * x10_2)) + t209)) _ _ ?side1 HC0_2.out A48.out).mono ?_); (case side1 => exact cb_ HR0_2.out HB.out); rintro e w_0 ⟨rfl, hb⟩; refine ⟨_, rfl, ?_⟩; replace HO_9 := rb_ HO_9 hb; replace BK201 := kb_ BK201 hb; replace BK202 := kb_ BK202 hb; replace HB := h9_ HB hb; (try clear hb); obtain ⟨Ao58, co58, eo58⟩ := Kd.R_slice HO_9.out; subst eo58; obtain ⟨hcz_0, hcz_1, hcz_2, hfz_0, hfz_1, hfz_2⟩ := cz3_ BK201.out) | (go_at_call 28; (with_reducible refine (impl_NodeCount.calls a0_0 a0_1 t211 _ A50.out).mono ?_); rintro e w_0 ⟨rfl, hb⟩; replace HO_9 := rb_ HO_9 hb; replace BK201 := kb_ BK201 hb; replace BK202 := kb_ BK202 hb; replace HB := h9_ HB hb; (try clear hb)) | ((with_reducible refine gate_callee (f := 29) rfl ?_); refine gm_ (some 57) Try.func29 #[.agg #[.int .i64 a0_0, .int .i64 a0_1, .slice A0_2 l0_2.length c0_2], .int .i64 (wrap64 ((wrap64 (4 * x10_2)) + t209))] rfl ?_; (with_reducible refine (impl_HasChannel.calls k2 a0_0 a0_1 _ _ l0_2 (wrap64 ((wrap64 (4 * x10_2)) + t209)) _ _ ?side1 HC0_2.out A48.out).mono ?_); (case side1 => exact cb_ HR0_2.out HB.out); rintro e w_0 ⟨rfl, hb⟩; refine ⟨_, rfl, ?_⟩; replace HO_9 := rb_ HO_9 hb; replace BK201 := kb_ BK201 hb; replace BK202 := kb_ BK202 hb; replace HB := h9_ HB hb; (try clear hb)))
 go_ret
 exact ⟨_, fin_, by first | exact Kd.R_nil _ _ _ _ _ | exact Kd.N_nil _ _ _ _ _ | exact Kd.V_nil _ _ _ _ _ | exact Kd.Q_nil _ _ _ _ _ | exact Kd.S_nil _ _ _ _ _, bb_ HB.out⟩) : P := h
theorem impl_WalkTable.calls (k : Nat) (a0_0 : Int) (a0_1 : Int) (A0_2 : Option Addr) (c0_2 : Nat) (l0_2 : List Int) (A1_0 : Option Addr) (c1_0 : Nat) (l1_0 : List Int) (a2 : Int) (a3 : Int) (r : List Int) (w : World) (hr0_2 : Kd.C (Kd.int .i64) w A0_2 l0_2.length l0_2) (hc0_2 : l0_2.length ≤ c0_2) (hr1_0 : Kd.C (Kd.int .i64) w A1_0 l1_0.length l1_0) (hc1_0 : l1_0.length ≤ c1_0) (h : impl_WalkTable.f k a0_0 a0_1 l0_2 l1_0 a2 a3 = some r) :
  Calls Try.prog 95 #[.agg #[.int .i64 a0_0, .int .i64 a0_1, .slice A0_2 l0_2.length c0_2], .agg #[.slice A1_0 l1_0.length c1_0], .int .i64 a2, .int .i64 a3] w fun e w' => ∃ v0_ : Value, e = .returned (v0_) ∧ Kd.R (Kd.int .i64) 3 w' w.heap.size (fun _ => True) v0_ r ∧ Below w.heap.size w w' := by
 have hu28 := Try.underlying28
 have hu30 := Try.underlying30
 have hu25 := Try.underlying25
 have HR0_2 := am hr0_2
 have HC0_2 := am hc0_2
 clear hr0_2 hc0_2
 have HR1_0 := am hr1_0
 have HC1_0 := am hc1_0
 clear hr1_0 hc1_0
 have HB := am (Below.refl w.heap.size w)
 have H : (if a2 = a3 then (impl_WalkTable.j0 k a2 a3 true a0_0 a0_1 l0_2 l1_0) else ((impl_MeshOk.f k a0_0 a0_1 l0_2).bind fun t203 => (if t203 = true then ((impl_isNode.f a0_0 a0_1 a2).bind fun t204 => (if t204 = true then ((impl_isNode.f a0_0 a0_1 a3).bind fun t205 => (impl_WalkTable.j0 k a2 a3 (!t205) a0_0 a0_1 l0_2 l1_0)) else (impl_WalkTable.j0 k a2 a3 true a0_0 a0_1 l0_2 l1_0))) else (impl_WalkTable.j0 k a2 a3 true a0_0 a0_1 l0_2 l1_0)))) = some r := h
 clear h
 have HC5 := am H
 clear H
 go_enter Try.func95, Try.ntmps95
 go_upto_region 1 with (first | ((with_reducible refine gate_dst (N := 4) rfl ?_); (try (refine gate_guard (by rfl) ?_; dsimp only)); refine bx_ 4 #[.int .i64 a0_0, .int .i64 a0_1, .slice A0_2 l0_2.length c0_2] 28 ?_; intro gb201 hg w6 hbox hb; have BK201 := am (hbox); have GW201 := gw_ hg HB; replace HB := h9_ HB hb; clear hb hbox hg) | ((with_reducible refine gate_dst (N := 5) rfl ?_); (try (refine gate_guard (by rfl) ?_; dsimp only)); refine bx_ 5 #[.slice A1_0 l1_0.length c1_0] 30 ?_; intro gb202 hg w7 hbox hb; have BK202 := am (hbox); have GW202 := gw_ hg HB; replace HB := h9_ HB hb; have NB201_202 := nl_ hg BK201; have NB202_201 := ng_ hg BK201; replace BK201 := kb_ BK201 hb; clear hb hbox hg))
 (try simp only [Act.put, List.setIfInBounds_toArray, List.set_cons_zero, List.set_cons_succ])
 go_cut [33] (fun v33 wc => ∃ (kq : Nat) (x33_4 : Bool), v33 = .bool x33_4 ∧ Aside0 (impl_WalkTable.j0 kq a2 a3 x33_4 a0_0 a0_1 l0_2 l1_0 = some r) ∧ Aside0 (kq ≤ k) ∧ Aside0 (wc.heap[gb201]? = some (.cells #[.int .i64 a0_0, .int .i64 a0_1, (.slice A0_2 l0_2.length c0_2)] 28 (0, 0))) ∧ Aside0 (wc.heap[gb202]? = some (.cells #[(.slice A1_0 l1_0.length c1_0)] 30 (0, 0))) ∧ Aside0 (Below w.heap.size w wc))
 case first =>
  have H := HC5.out
  clear HC5
  by_cases c8 : a2 = a3
  ·rw [if_pos c8] at H
   have c8b0 : (a2 == a3) = true := beq_iff_eq.mpr c8
   have c8b1 : (a2 != a3) = false := bne_eq_false_iff_eq.mpr c8
   clear c8
   (first | rw [c8b0] | (simp only [i64_w, i32_w]; rw [c8b0]) | skip)
   have H' := am H
   clear H
   go_wp2
   go_meet
   case rel => exact ⟨_, (true), ef_, H', ⟨kq_⟩, ⟨bq_ BK201.out⟩, ⟨bq_ BK202.out⟩, ⟨bb_ HB.out⟩⟩
  rw [if_neg c8] at H
  have c8b0 : (a2 == a3) = false := beq_eq_false_iff_ne.mpr c8
  have c8b1 : (a2 != a3) = true := bne_iff_ne.mpr c8
  (first | rw [c8b0] | (simp only [i64_w, i32_w]; rw [c8b0]) | skip)
  obtain ⟨t203, A9, H⟩ := bi_ H
  by_cases c10 : t203 = true
  rotate_left
  ·replace c10 := Bool.eq_false_iff.mpr c10
   subst c10
   rw [if_neg (show ¬ (false = true) by decide)] at H
   have H' := am H
   clear H
   have hnb26 := NB201_202.out
   have hnc26 := NB202_201.out
   exact impl_WalkTable.e0
  subst c10
  rw [if_pos rfl] at H
  obtain ⟨t204, A11, H⟩ := bi_ H
  by_cases c12 : t204 = true
  rotate_left
  ·replace c12 := Bool.eq_false_iff.mpr c12
   subst c12
   rw [if_neg (show ¬ (false = true) by decide)] at H
   have H' := am H
   clear H
   have hnb21 := NB201_202.out
   have hnc21 := NB202_201.out
   exact impl_WalkTable.e0
  subst c12
  rw [if_pos rfl] at H
  obtain ⟨t205, A13, H⟩ := bi_ H
  have H' := am H
  clear H
  have hnb14 := NB201_202.out
  have hnc14 := NB202_201.out
  obtain ⟨hcz15_0, hcz15_1, hcz15_2, hfz15_0, hfz15_1, hfz15_2⟩ := cz3_ BK201.out
  go_wp2_with (first | (go_at_call 53; (with_reducible refine (impl_MeshOk.calls k a0_0 a0_1 _ _ l0_2 true _ ?side1 HC0_2.out A9.out).mono ?_); (case side1 => exact cb_ HR0_2.out HB.out); rintro e w16 ⟨rfl, hb⟩; replace BK201 := kb_ BK201 hb; replace BK202 := kb_ BK202 hb; replace HB := h9_ HB hb; (try clear hb); obtain ⟨hcz17_0, hcz17_1, hcz17_2, hfz17_0, hfz17_1, hfz17_2⟩ := cz3_ BK201.out) | (go_at_call 37; (with_reducible refine (impl_isNode.calls a0_0 a0_1 a2 true _ A11.out).mono ?_); rintro e w18 ⟨rfl, hb⟩; replace BK201 := kb_ BK201 hb; replace BK202 := kb_ BK202 hb; replace HB := h9_ HB hb; (try clear hb); obtain ⟨hcz19_0, hcz19_1, hcz19_2, hfz19_0, hfz19_1, hfz19_2⟩ := cz3_ BK201.out) | (go_at_call 37; (with_reducible refine (impl_isNode.calls a0_0 a0_1 a3 t205 _ A13.out).mono ?_); rintro e w20 ⟨rfl, hb⟩; replace BK201 := kb_ BK201 hb; replace BK202 := kb_ BK202 hb; replace HB := h9_ HB hb; (try clear hb)))
  go_meet
  case rel => exact ⟨_, (!t205), ef_, H', ⟨kq_⟩, ⟨bq_ BK201.out⟩, ⟨bq_ BK202.out⟩, ⟨bb_ HB.out⟩⟩
 case rest =>
  clear HC5
  obtain ⟨kq, x33_4, rfl, HA, HJ4, BK201, BK202, HB⟩ := hcut
  cases kq with
  | zero => exact absurd HA.out (by simp [impl_WalkTable.j0])
  | succ kj4 =>
   have H := HA.out
   clear HA
   simp only [impl_WalkTable.j0] at H
   by_cases c29 : x33_4 = true
   ·subst c29
    rw [if_pos rfl] at H
    obtain rfl := Option.some.inj H
    go_wp2
    go_ret
    exact ⟨_, fin_, by first | exact Kd.R_nil _ _ _ _ _ | exact Kd.N_nil _ _ _ _ _ | exact Kd.V_nil _ _ _ _ _ | exact Kd.Q_nil _ _ _ _ _ | exact Kd.S_nil _ _ _ _ _, bb_ HB.out⟩
   ·replace c29 := Bool.eq_false_iff.mpr c29
    subst c29
    rw [if_neg (show ¬ (false = true) by decide)] at H
    obtain ⟨y206, hy206⟩ : ∃ y_ : List Int, y_ = (([] : List Int)) := ⟨_, rfl⟩
    replace H : (impl_WalkTable.l0 kj4 a3 y206 a2 a0_0 a0_1 l0_2 l1_0) = some r := ry_ hy206 H
    have Ny206 := am hy206
    clear hy206
    have H' := am H
    clear H
    go_wp2_with (first | ((with_reducible refine gate_dst (N := 34) rfl ?_); (try (refine gate_guard (by rfl) ?_; dsimp only)); refine Kd.R_lit (Kd.int .i64) _ 3 ?hg (N := 34) ?hd (xs := ([] : List Int)) (inner := []) (ok := fun _ => True) (okp := fun _ => True) ?hr ?hp (fun _ hk => hk) trivial (Below.refl _ _) (Nat.le_refl _) (by simp) ?_; (case hd => rfl); (case hg => rfl); (case hr => first | (go_simp; done) | (go_simp; rfl)); (case hp => exact (Reps.none _ _)); intro v207 w30 ho31 hb hg_ hnew_; clear hg_ hnew_; (first | rw [← Ny206.out] at ho31 | (simp only [Int.reduceToNat] at ho31; rw [← Ny206.out] at ho31)); have HO208 := am (Kd.R_lower ho31 (bz_ HB.out)); replace BK201 := kb_ BK201 hb; replace BK202 := kb_ BK202 hb; replace HB := h9_ HB hb; clear hb ho31))
    go_loopg [9, 10] kj4 (fun kq v9 v10 w' => ∃ (x9_2 : List Int) (x10_2 : Int), v10 = .int .i64 x10_2 ∧ Aside0 (impl_WalkTable.l0 kq a3 x9_2 x10_2 a0_0 a0_1 l0_2 l1_0 = some r) ∧ Aside0 (kq ≤ kj4) ∧ Aside0 (Kd.R (Kd.int .i64) 3 w' w.heap.size (fun _ => True) v9 x9_2) ∧ Aside0 (w'.heap[gb201]? = some (.cells #[.int .i64 a0_0, .int .i64 a0_1, (.slice A0_2 l0_2.length c0_2)] 28 (0, 0))) ∧ Aside0 (w'.heap[gb202]? = some (.cells #[(.slice A1_0 l1_0.length c1_0)] 30 (0, 0))) ∧ Aside0 (Below w.heap.size w w'))
    case atStart => exact ⟨(y206), (a2), ef_, H', ⟨Nat.le_refl _⟩, ⟨ra_ HO208.out⟩, ⟨bq_ BK201.out⟩, ⟨bq_ BK202.out⟩, ⟨bb_ HB.out⟩⟩
    clear H'
    try clear c29
    obtain ⟨x9_2, x10_2, rfl, HA, HK2, HO_9, BK201, BK202, HB⟩ := hrel
    obtain _ | k2 := gk
    ·exact absurd HA.out (by simp [impl_WalkTable.l0])
    have H := HA.out
    clear HA
    simp only [impl_WalkTable.l0] at H
    obtain ⟨t209, A32, H⟩ := bi_ H
    by_cases c33 : t209 < 0
    ·rw [if_pos c33] at H
     have c33b0 : decide (t209 < 0) = true := decide_eq_true c33
     clear c33
     obtain rfl := Option.some.inj H
     have hnb34 := NB201_202.out
     have hnc34 := NB202_201.out
     exact impl_WalkTable.e1
    rw [if_neg c33] at H
    have c33b0 : decide (t209 < 0) = false := decide_eq_false c33
    clear c33
    by_cases c38 : t209 = 4
    ·rw [if_pos c38] at H
     have c38b0 : (t209 == 4) = true := beq_iff_eq.mpr c38
     have c38b1 : (t209 != 4) = false := bne_eq_false_iff_eq.mpr c38
     clear c38
     by_cases c39 : x10_2 = a3
     rotate_left
     ·rw [if_neg c39] at H
      have c39b0 : (x10_2 == a3) = false := beq_eq_false_iff_ne.mpr c39
      have c39b1 : (x10_2 != a3) = true := bne_iff_ne.mpr c39
      obtain rfl := Option.some.inj H
      have hnb44 := NB201_202.out
      have hnc44 := NB202_201.out
      exact impl_WalkTable.e1
     rw [if_pos c39] at H
     have c39b0 : (x10_2 == a3) = true := beq_iff_eq.mpr c39
     have c39b1 : (x10_2 != a3) = false := bne_eq_false_iff_eq.mpr c39
     clear c39
     obtain rfl := Option.some.inj H
     have hnb40 := NB201_202.out
     have hnc40 := NB202_201.out
     obtain ⟨hcz41_0, hcz41_1, hcz41_2, hfz41_0, hfz41_1, hfz41_2⟩ := cz3_ BK201.out
     obtain ⟨hcz42_0, hfz42_0⟩ := cz1_ BK202.out
     go_wp2_with (first | ((with_reducible refine gate_callee (f := 43) rfl ?_); refine gm_ (some 40) Try.func43 #[.agg #[.int .i64 a0_0, .int .i64 a0_1, .slice A0_2 l0_2.length c0_2], .agg #[.slice A1_0 l1_0.length c1_0], .int .i64 x10_2, .int .i64 a3] rfl ?_; (with_reducible refine (impl_PortAt.calls k2 a0_0 a0_1 _ _ l0_2 _ _ l1_0 x10_2 a3 t209 _ ?side1 HC0_2.out ?side3 HC1_0.out A32.out).mono ?_); (case side1 => exact cb_ HR0_2.out HB.out); (case side3 => exact cb_ HR1_0.out HB.out); rintro e w43 ⟨rfl, hb⟩; refine ⟨_, rfl, ?_⟩; replace HO_9 := rb_ HO_9 hb; replace BK201 := kb_ BK201 hb; replace BK202 := kb_ BK202 hb; replace HB := h9_ HB hb; (try clear hb)))
     go_ret
     exact ⟨_, fin_, ra_ HO_9.out, bb_ HB.out⟩
    rw [if_neg c38] at H
    have c38b0 : (t209 == 4) = false := beq_eq_false_iff_ne.mpr c38
    have c38b1 : (t209 != 4) = true := bne_iff_ne.mpr c38
    obtain ⟨t210, A48, H⟩ := bi_ H
    by_cases c49 : t210 = true
    rotate_left
    ·replace c49 := Bool.eq_false_iff.mpr c49
     subst c49
     rw [if_neg (show ¬ (false = true) by decide)] at H
     obtain rfl := Option.some.inj H
     have hnb75 := NB201_202.out
     have hnc75 := NB202_201.out
     exact impl_WalkTable.e1
    subst c49
    rw [if_pos rfl] at H
    obtain ⟨t211, A50, H⟩ := bi_ H
    by_cases c51 : (x9_2.length : Int) = t211
    ·rw [if_pos c51] at H
     have c51b0 : ((x9_2.length : Int) == t211) = true := beq_iff_eq.mpr c51
     have c51b1 : ((x9_2.length : Int) != t211) = false := bne_eq_false_iff_eq.mpr c51
     clear c51
     obtain rfl := Option.some.inj H
     have hnb52 := NB201_202.out
     have hnc52 := NB202_201.out
     exact impl_WalkTable.e1
    rw [if_neg c51] at H
    have c51b0 : ((x9_2.length : Int) == t211) = false := beq_eq_false_iff_ne.mpr c51
    have c51b1 : ((x9_2.length : Int) != t211) = true := bne_iff_ne.mpr c51
    by_cases c61 : x9_2.length < 17592186044416
    rotate_left
    ·rw [if_neg c61] at H
     exact absurd H (by simp)
    rw [if_pos c61] at H
    have LMc61 := am c61
    clear c61
    obtain ⟨y212, hy212⟩ : ∃ y_ : List Int, y_ = (x9_2 ++ [wrap64 ((wrap64 (4 * x10_2)) + t209)]) := ⟨_, rfl⟩
    replace H : ((impl_endOf.f a0_0 a0_1 l0_2 (wrap64 ((wrap64 (4 * x10_2)) + t209))).bind fun t215 => (impl_WalkTable.l0 k2 a3 y212 t215 a0_0 a0_1 l0_2 l1_0)) = some r := ry_ hy212 H
    have Ny212 := am hy212
    clear hy212
    obtain ⟨t215, A62, H⟩ := bi_ H
    have H' := am H
    clear H
    have hnb63 := NB201_202.out
    have hnc63 := NB202_201.out
    obtain ⟨hcz64_0, hcz64_1, hcz64_2, hfz64_0, hfz64_1, hfz64_2⟩ := cz3_ BK201.out
    obtain ⟨hcz65_0, hfz65_0⟩ := cz1_ BK202.out
    go_wp2_with (first | ((with_reducible refine gate_callee (f := 43) rfl ?_); refine gm_ (some 40) Try.func43 #[.agg #[.int .i64 a0_0, .int .i64 a0_1, .slice A0_2 l0_2.length c0_2], .agg #[.slice A1_0 l1_0.length c1_0], .int .i64 x10_2, .int .i64 a3] rfl ?_; (with_reducible refine (impl_PortAt.calls k2 a0_0 a0_1 _ _ l0_2 _ _ l1_0 x10_2 a3 t209 _ ?side1 HC0_2.out ?side3 HC1_0.out A32.out).mono ?_); (case side1 => exact cb_ HR0_2.out HB.out); (case side3 => exact cb_ HR1_0.out HB.out); rintro e w66 ⟨rfl, hb⟩; refine ⟨_, rfl, ?_⟩; replace HO_9 := rb_ HO_9 hb; replace BK201 := kb_ BK201 hb; replace BK202 := kb_ BK202 hb; replace HB := h9_ HB hb; (try clear hb); obtain ⟨hcz67_0, hcz67_1, hcz67_2, hfz67_0, hfz67_1, hfz67_2⟩ := cz3_ BK201.out) | ((with_reducible refine gate_callee (f := 29) rfl ?_); refine gm_ (some 57) Try.func29 #[.agg #[.int .i64 a0_0, .int .i64 a0_1, .slice A0_2 l0_2.length c0_2], .int .i64 (wrap64 ((wrap64 (4 * x10_2)) + t209))] rfl ?_; (with_reducible refine (impl_HasChannel.calls k2 a0_0 a0_1 _ _ l0_2 (wrap64 ((wrap64 (4 * x10_2)) + t209)) true _ ?side1 HC0_2.out A48.out).mono ?_); (case side1 => exact cb_ HR0_2.out HB.out); rintro e w68 ⟨rfl, hb⟩; refine ⟨_, rfl, ?_⟩; replace HO_9 := rb_ HO_9 hb; replace BK201 := kb_ BK201 hb; replace BK202 := kb_ BK202 hb; replace HB := h9_ HB hb; (try clear hb); obtain ⟨Ao69, co69, eo69⟩ := Kd.R_slice HO_9.out; subst eo69; obtain ⟨hcz70_0, hcz70_1, hcz70_2, hfz70_0, hfz70_1, hfz70_2⟩ := cz3_ BK201.out) | (go_at_call 28; (with_reducible refine (impl_NodeCount.calls a0_0 a0_1 t211 _ A50.out).mono ?_); rintro e w71 ⟨rfl, hb⟩; replace HO_9 := rb_ HO_9 hb; replace BK201 := kb_ BK201 hb; replace BK202 := kb_ BK202 hb; replace HB := h9_ HB hb; (try clear hb)) | ((with_reducible refine gate_builtin (b := .append) (xs := #[.tmp 67, .tmp 72]) rfl ?_); (try (refine gate_guard (by rfl) ?_; dsimp only)); at_builtin; refine Kd.R_append (Kd.int .i64) (w0 := w) w.heap.size rfl (.tmp 67) (.tmp 72) 26 3 (.int .i64 0) 8 rfl Try.underlying26 info3 rfl (by decide) (by omega) (.slice Ao69 x9_2.length co69) x9_2 (wrap64 ((wrap64 (4 * x10_2)) + t209)) [.int .i64 (wrap64 ((wrap64 (4 * x10_2)) + t209))] (fun _ => True) (fun _ => False) rfl rfl ?aP (fun _ hk => hk.elim) ?aF ?aO ?aB ?aS ?aL ?_; (case aP => exact rfl); (case aB => exact (hb_ HB.out)); (case aF => exact (fun _ _ => trivial)); (case aO => exact (ra_ HO_9.out)); (case aS => exact (bz_ HB.out)); (case aL => have := LMc61.out; omega); intro v213 w72 ho hb hg hat; rw [← Ny212.out] at ho; have n0_ := am (blk_grown (g := gb201) (o := .cells #[.int .i64 a0_0, .int .i64 a0_1, .slice A0_2 l0_2.length c0_2] 28 (0, 0)) (bq_ BK201.out) hg (Kd.R_ne HO_9.out BK201.out (by decide))); have n1_ := am (blk_grown (g := gb202) (o := .cells #[.slice A1_0 l1_0.length c1_0] 30 (0, 0)) (bq_ BK202.out) hg (Kd.R_ne HO_9.out BK202.out (by decide))); have n2_ := am (hb); have n3_ := am (ho); clear BK201; clear BK202; clear HB; clear HO_9; have BK201 := n0_; have BK202 := n1_; have HB := n2_; have HO214 := n3_; clear n0_ n1_ n2_ n3_; clear ho hb hg hat; obtain ⟨hcz73_0, hcz73_1, hcz73_2, hfz73_0, hfz73_1, hfz73_2⟩ := cz3_ BK201.out) | ((with_reducible refine gate_callee (f := 73) rfl ?_); refine gm_ (some 79) Try.func73 #[.agg #[.int .i64 a0_0, .int .i64 a0_1, .slice A0_2 l0_2.length c0_2], .int .i64 (wrap64 ((wrap64 (4 * x10_2)) + t209))] rfl ?_; (with_reducible refine (impl_endOf.calls a0_0 a0_1 _ _ l0_2 (wrap64 ((wrap64 (4 * x10_2)) + t209)) t215 _ ?side1 HC0_2.out A62.out).mono ?_); (case side1 => exact cb_ HR0_2.out HB.out); rintro e w74 ⟨rfl, hb⟩; refine ⟨_, rfl, ?_⟩; replace HO214 := rb_ HO214 hb; replace BK201 := kb_ BK201 hb; replace BK202 := kb_ BK202 hb; replace HB := h9_ HB hb; (try clear hb)))
    go_roundg k2
    case measure => have := HJ4.out; have := HK2.out; omega
    case rel => exact ⟨(y212), (t215), ef_, H', ⟨by have := HJ4.out; have := HK2.out; omega⟩, ⟨ra_ HO214.out⟩, ⟨bq_ BK201.out⟩, ⟨bq_ BK202.out⟩, ⟨bb_ HB.out⟩⟩
def impl_TableOk.v (k : Nat) (a0 a1 : Int) (l2 l3 : List Int) (x y : Int) : Option Bool := (impl_WalkTable.f k a0 a1 l2 l3 x y).bind fun ws => some (decide ((ws.length : Int) > 0))
theorem impl_TableOk.v_mono (k : Nat) (a0 a1 : Int) (l2 l3 : List Int) (x y : Int) : LeO (impl_TableOk.v k a0 a1 l2 l3 x y) (impl_TableOk.v (k + 1) a0 a1 l2 l3 x y) := by
 unfold impl_TableOk.v
 exact LeO.bind (impl_WalkTable.mono _ _ _ _ _ _ _) (fun _ => LeO.refl _)
mutual
def impl_TableOk.l1 : Nat → Int → Int → List Int → List Int → Int → Int → Option Bool
 | 0, _, _, _, _, _, _ => none
 | k + 1, a0, a1, l2, l3, n, x => if x < n then (impl_TableOk.l2 k a0 a1 l2 l3 n x 0) else (some true)
def impl_TableOk.l2 : Nat → Int → Int → List Int → List Int → Int → Int → Int → Option Bool
 | 0, _, _, _, _, _, _, _ => none
 | k + 1, a0, a1, l2, l3, n, x, y => if y < n then (if x = y then (impl_TableOk.l2 k a0 a1 l2 l3 n x (wrap64 (y + 1))) else ((impl_TableOk.v k a0 a1 l2 l3 x y).bind fun b => (if b = true then (impl_TableOk.l2 k a0 a1 l2 l3 n x (wrap64 (y + 1))) else (some false)))) else (impl_TableOk.l1 k a0 a1 l2 l3 n (wrap64 (x + 1)))
end
def impl_TableOk.ps (k : Nat) (a0 a1 : Int) (l2 l3 : List Int) : Option Bool := (impl_NodeCount.f a0 a1).bind fun n => impl_TableOk.l1 k a0 a1 l2 l3 n 0
def impl_TableOk.l0 : Nat → Int → Int → List Int → List Int → Int → Int → Option Bool
 | 0, _, _, _, _, _, _ => none
 | k + 1, a0, a1, l2, l3, n, x => if x < n then (if 0 ≤ wrap64 (wrap64 (x * n) + x) then (if wrap64 (wrap64 (x * n) + x) < (l3.length : Int) then (if rd l3 (wrap64 (wrap64 (x * n) + x)) = 4 then (impl_TableOk.l0 k a0 a1 l2 l3 n (wrap64 (x + 1))) else (some false)) else none) else none) else (impl_TableOk.ps k a0 a1 l2 l3)
def impl_TableOk.f (k : Nat) (a0 a1 : Int) (l2 l3 : List Int) : Option Bool := (impl_NodeCount.f a0 a1).bind fun n => (impl_MeshOk.f k a0 a1 l2).bind fun ok => (if ok = true then (if (l3.length : Int) = wrap64 (n * n) then (impl_TableOk.l0 k a0 a1 l2 l3 n 0) else (some false)) else (some false))
theorem impl_TableOk.mono_l : ∀ k, (∀ a0 a1 l2 l3 n x, LeO (impl_TableOk.l1 k a0 a1 l2 l3 n x) (impl_TableOk.l1 (k + 1) a0 a1 l2 l3 n x)) ∧ (∀ a0 a1 l2 l3 n x y, LeO (impl_TableOk.l2 k a0 a1 l2 l3 n x y) (impl_TableOk.l2 (k + 1) a0 a1 l2 l3 n x y))
 | 0 => ⟨fun _ _ _ _ _ _ r h => by simp [impl_TableOk.l1] at h, fun _ _ _ _ _ _ _ r h => by simp [impl_TableOk.l2] at h⟩
 | k + 1 => by
  obtain ⟨ih1, ih2⟩ := impl_TableOk.mono_l k
  refine ⟨fun a0 a1 l2 l3 n x => ?_, fun a0 a1 l2 l3 n x y => ?_⟩
  ·unfold impl_TableOk.l1
   exact LeO.ite (ih2 _ _ _ _ _ _ _) (LeO.refl _)
  ·unfold impl_TableOk.l2
   exact LeO.ite (LeO.ite (ih2 _ _ _ _ _ _ _) (LeO.bind (impl_TableOk.v_mono _ _ _ _ _ _ _) (fun _ => LeO.ite (ih2 _ _ _ _ _ _ _) (LeO.refl _)))) (ih1 _ _ _ _ _ _)
theorem impl_TableOk.ps_mono (k : Nat) (a0 a1 : Int) (l2 l3 : List Int) : LeO (impl_TableOk.ps k a0 a1 l2 l3) (impl_TableOk.ps (k + 1) a0 a1 l2 l3) := by
 unfold impl_TableOk.ps
 exact LeO.bind (LeO.refl _) (fun _ => (impl_TableOk.mono_l k).1 _ _ _ _ _ _)
theorem impl_TableOk.mono_0 : ∀ k a0 a1 l2 l3 n x, LeO (impl_TableOk.l0 k a0 a1 l2 l3 n x) (impl_TableOk.l0 (k + 1) a0 a1 l2 l3 n x)
 | 0, _, _, _, _, _, _ => fun r h => by simp [impl_TableOk.l0] at h
 | k + 1, a0, a1, l2, l3, n, x => by
  have ih := impl_TableOk.mono_0 k
  unfold impl_TableOk.l0
  exact LeO.ite (LeO.ite (LeO.ite (LeO.ite (ih _ _ _ _ _ _) (LeO.refl _)) (LeO.refl _)) (LeO.refl _)) (impl_TableOk.ps_mono _ _ _ _ _)
theorem impl_TableOk.mono (a0 a1 : Int) (l2 l3 : List Int) : ∀ k, LeO (impl_TableOk.f k a0 a1 l2 l3) (impl_TableOk.f (k + 1) a0 a1 l2 l3) := by
 intro k
 unfold impl_TableOk.f
 exact LeO.bind (LeO.refl _) (fun _ => LeO.bind (impl_MeshOk.mono _ _ _ _) (fun _ => LeO.ite (LeO.ite (impl_TableOk.mono_0 _ _ _ _ _ _ _) (LeO.refl _)) (LeO.refl _)))
theorem impl_TableOk.mkf (fn : Fn) (first cap : Array Value) (w : World) : (Instr.makeFunc fn first cap).run Try.prog w = .ok (.func fn first cap) w := rfl
set_option maxHeartbeats 2000000 in
/-- The function literal, at the two captured variables. -/
theorem impl_TableOk.clo (k : Nat) (a0 a1 : Int) (A2 : Option Addr) (c2 : Nat) (l2 : List Int) (A3 : Option Addr) (c3 : Nat) (l3 : List Int) (x y : Int) (r : Bool) (gm gt : Nat) (w : World)
  (hr2 : Kd.C (Kd.int .i64) w A2 l2.length l2) (hc2 : l2.length ≤ c2) (hr3 : Kd.C (Kd.int .i64) w A3 l3.length l3) (hc3 : l3.length ≤ c3)
  (hm0 : w.cell? ⟨gm, 0, none⟩ = some (.int .i64 a0)) (hm1 : w.cell? ⟨gm, 1, none⟩ = some (.int .i64 a1)) (hm2 : w.cell? ⟨gm, 2, none⟩ = some (.slice A2 l2.length c2)) (ht0 : w.cell? ⟨gt, 0, none⟩ = some (.slice A3 l3.length c3))
  (h : impl_TableOk.v k a0 a1 l2 l3 x y = some r) :
  Calls Try.prog 94 #[.int .i64 x, .int .i64 y, .pointer (some ⟨gm, 0, none⟩), .pointer (some ⟨gt, 0, none⟩)] w fun e w' => e = .returned (.bool r) ∧ Below w.heap.size w w' := by
 obtain ⟨ws, hw, hv⟩ := Option.bind_eq_some_iff.1 h
 obtain rfl := Option.some.inj hv
 have HR2 := am hr2
 have HC2 := am hc2
 have HR3 := am hr3
 have HC3 := am hc3
 have HW := am hw
 clear hr2 hc2 hr3 hc3 hw h hv
 go_enter Try.func94, Try.ntmps94
 go_wp2_with (first | (go_at_call 95; (with_reducible refine (impl_WalkTable.calls k a0 a1 A2 c2 l2 A3 c3 l3 x y ws _ ?side1 HC2.out ?side3 HC3.out HW.out).mono ?_); (case side1 => repeat (first | exact HR2.out | (with_reducible refine Kd.C_alloc ?_ _) | (with_reducible refine Kd.C_drewN ?_ _) | (with_reducible refine Kd.C_drew ?_))); (case side3 => repeat (first | exact HR3.out | (with_reducible refine Kd.C_alloc ?_ _) | (with_reducible refine Kd.C_drewN ?_ _) | (with_reducible refine Kd.C_drew ?_))); rintro e w' ⟨v, rfl, ho, hb⟩; obtain ⟨A, c, rfl⟩ := Kd.R_slice ho; have HB := am hb; clear ho hb))
 go_ret
 exact ⟨by first | rfl | (simp; done), HB.out⟩
set_option maxHeartbeats 2000000 in
/-- 'pairs' at the function literal, the captured variables in two blocks. -/
theorem impl_TableOk.prs (k : Nat) (a0 a1 : Int) (A2 : Option Addr) (c2 : Nat) (l2 : List Int) (A3 : Option Addr) (c3 : Nat) (l3 : List Int) (r : Bool) (gm gt : Nat) (w : World)
  (hr2 : Kd.C (Kd.int .i64) w A2 l2.length l2) (hc2 : l2.length ≤ c2) (hr3 : Kd.C (Kd.int .i64) w A3 l3.length l3) (hc3 : l3.length ≤ c3)
  (hm0 : w.cell? ⟨gm, 0, none⟩ = some (.int .i64 a0)) (hm1 : w.cell? ⟨gm, 1, none⟩ = some (.int .i64 a1)) (hm2 : w.cell? ⟨gm, 2, none⟩ = some (.slice A2 l2.length c2)) (ht0 : w.cell? ⟨gt, 0, none⟩ = some (.slice A3 l3.length c3))
  (h : impl_TableOk.ps k a0 a1 l2 l3 = some r) :
  Calls Try.prog 93 #[.agg #[.int .i64 a0, .int .i64 a1], .func (.func 94) #[] #[.pointer (some ⟨gm, 0, none⟩), .pointer (some ⟨gt, 0, none⟩)]] w fun e w' => e = .returned (.bool r) ∧ Below w.heap.size w w' := by
 obtain ⟨n, hn, h1⟩ := Option.bind_eq_some_iff.1 h
 have HR2 := am hr2
 have HC2 := am hc2
 have HR3 := am hr3
 have HC3 := am hc3
 have HM0 := am hm0
 have HM1 := am hm1
 have HM2 := am hm2
 have HT0 := am ht0
 have HN := am hn
 have H' := am h1
 clear hr2 hc2 hr3 hc3 hm0 hm1 hm2 ht0 hn h1 h
 have HB := am (Below.refl w.heap.size w)
 go_enter Try.func93, Try.ntmps93
 go_wp2_with (first | (go_at_call 28; (with_reducible refine (impl_NodeCount.calls a0 a1 n _ HN.out).mono ?_); rintro e w' ⟨rfl, hb⟩; have HB1 := am (bs_ HB.out hb); clear HB hb; have HB := HB1; clear HB1))
 go_loopg [11] k (fun kq v11 w' => ∃ x : Int, v11 = .int .i64 x ∧ Aside0 (impl_TableOk.l1 kq a0 a1 l2 l3 n x = some r) ∧ Aside0 (kq ≤ k) ∧ Aside0 (Below w.heap.size w w'))
 case atStart => exact ⟨0, (by first | rfl | (simp; done)), H', ⟨Nat.le_refl _⟩, ⟨bb_ HB.out⟩⟩
 clear H' HB
 obtain ⟨x, rfl, HA, HK1, HB⟩ := hrel
 obtain _ | k1 := gk
 ·exact absurd HA.out (by simp [impl_TableOk.l1])
 have H := HA.out
 clear HA
 simp only [impl_TableOk.l1] at H
 by_cases c1 : x < n
 rotate_left
 ·rw [if_neg c1] at H
  have c1b : decide (x < n) = false := decide_eq_false c1
  clear c1
  obtain rfl := Option.some.inj H
  go_wp2
  go_ret
  exact ⟨by first | rfl | (simp; done), HB.out⟩
 rw [if_pos c1] at H
 have c1b : decide (x < n) = true := decide_eq_true c1
 clear c1
 have H' := am H
 clear H
 go_wp2
 go_loopg [15] k1 (fun kq v15 w' => ∃ y : Int, v15 = .int .i64 y ∧ Aside0 (impl_TableOk.l2 kq a0 a1 l2 l3 n x y = some r) ∧ Aside0 (kq ≤ k1) ∧ Aside0 (Below w.heap.size w w'))
 case atStart => exact ⟨0, (by first | rfl | (simp; done)), H', ⟨Nat.le_refl _⟩, ⟨bb_ HB.out⟩⟩
 clear H' HB c1b
 obtain ⟨y, rfl, HA, HK2, HB⟩ := hrel
 obtain _ | k2 := gk
 ·exact absurd HA.out (by simp [impl_TableOk.l2])
 have H := HA.out
 clear HA
 simp only [impl_TableOk.l2] at H
 by_cases c2 : y < n
 rotate_left
 ·rw [if_neg c2] at H
  have c2b : decide (y < n) = false := decide_eq_false c2
  clear c2
  have H' := am H
  clear H
  go_wp2
  go_roundg k2
  case measure => have := HK1.out; have := HK2.out; omega
  case rel => exact ⟨wrap64 (x + 1), (by first | rfl | (simp; done)), H', ⟨by have := HK1.out; have := HK2.out; omega⟩, HB⟩
 rw [if_pos c2] at H
 have c2b : decide (y < n) = true := decide_eq_true c2
 clear c2
 by_cases c3 : x = y
 ·rw [if_pos c3] at H
  have c3b : (x == y) = true := beq_iff_eq.mpr c3
  have c3c : (x != y) = false := bne_eq_false_iff_eq.mpr c3
  clear c3
  have H' := am H
  clear H
  go_wp2
  go_roundg k2
  case measure => have := HK2.out; omega
  case rel => exact ⟨wrap64 (y + 1), (by first | rfl | (simp; done)), H', ⟨by have := HK2.out; omega⟩, HB⟩
 rw [if_neg c3] at H
 have c3b : (x == y) = false := beq_eq_false_iff_ne.mpr c3
 have c3c : (x != y) = true := bne_iff_ne.mpr c3
 clear c3
 obtain ⟨b, hb0, H2⟩ := Option.bind_eq_some_iff.1 H
 clear H
 have HV := am hb0
 clear hb0
 cases b with
 | true =>
  have H3 : impl_TableOk.l2 k2 a0 a1 l2 l3 n x (wrap64 (y + 1)) = some r := H2
  clear H2
  have H' := am H3
  clear H3
  go_wp2_with fail
  refine (impl_TableOk.clo k2 a0 a1 A2 c2 l2 A3 c3 l3 x y true gm gt _ (Kd.C_below HR2.out HB.out) HC2.out (Kd.C_below HR3.out HB.out) HC3.out (pw_cell_below HB.out HM0.out) (pw_cell_below HB.out HM1.out) (pw_cell_below HB.out HM2.out) (pw_cell_below HB.out HT0.out) HV.out).mono ?_
  rintro e w' ⟨rfl, hb⟩
  have HB1 := am (below_step HB.out hb)
  clear HB hb
  have HB := HB1
  clear HB1
  go_wp2
  go_roundg k2
  case measure => have := HK2.out; omega
  case rel => exact ⟨wrap64 (y + 1), (by first | rfl | (simp; done)), H', ⟨by have := HK2.out; omega⟩, HB⟩
 | false =>
  have H3 : some false = some r := H2
  clear H2
  obtain rfl := Option.some.inj H3
  clear H3
  go_wp2_with fail
  refine (impl_TableOk.clo k2 a0 a1 A2 c2 l2 A3 c3 l3 x y false gm gt _ (Kd.C_below HR2.out HB.out) HC2.out (Kd.C_below HR3.out HB.out) HC3.out (pw_cell_below HB.out HM0.out) (pw_cell_below HB.out HM1.out) (pw_cell_below HB.out HM2.out) (pw_cell_below HB.out HT0.out) HV.out).mono ?_
  rintro e w' ⟨rfl, hb⟩
  have HB1 := am (below_step HB.out hb)
  clear HB hb
  have HB := HB1
  clear HB1
  go_wp2
  go_ret
  exact ⟨by first | rfl | (simp; done), HB.out⟩
set_option maxHeartbeats 4000000 in
theorem impl_TableOk.calls (k : Nat) (a0_0 : Int) (a0_1 : Int) (A0_2 : Option Addr) (c0_2 : Nat) (l0_2 : List Int) (A1_0 : Option Addr) (c1_0 : Nat) (l1_0 : List Int) (r : Bool) (w : World) (hr0_2 : Kd.C (Kd.int .i64) w A0_2 l0_2.length l0_2) (hc0_2 : l0_2.length ≤ c0_2) (hr1_0 : Kd.C (Kd.int .i64) w A1_0 l1_0.length l1_0) (hc1_0 : l1_0.length ≤ c1_0) (h : impl_TableOk.f k a0_0 a0_1 l0_2 l1_0 = some r) :
  Calls Try.prog 75 #[.agg #[.int .i64 a0_0, .int .i64 a0_1, .slice A0_2 l0_2.length c0_2], .agg #[.slice A1_0 l1_0.length c1_0]] w fun e w' => e = .returned (.bool r) ∧ Below w.heap.size w w' := by
 have hmf := impl_TableOk.mkf
 obtain ⟨n, hn, h1⟩ := Option.bind_eq_some_iff.1 h
 obtain ⟨ok, ho, h2⟩ := Option.bind_eq_some_iff.1 h1
 have HR2 := am hr0_2
 have HC2 := am hc0_2
 have HR3 := am hr1_0
 have HC3 := am hc1_0
 have HN := am hn
 have HO := am ho
 have H2 := am h2
 clear hr0_2 hc0_2 hr1_0 hc1_0 hn ho h h1 h2
 go_enter Try.func75, Try.ntmps75
 go_wp2_with (first | ((with_reducible refine gate_dst (N := 2) rfl ?_); refine bx_ 2 #[.int .i64 a0_0, .int .i64 a0_1, .slice A0_2 l0_2.length c0_2] 28 ?_; intro gm hgm w1 hbx1 hb1; clear hgm; have HB1 := am hb1; have BX1 := am hbx1; clear hb1 hbx1) | ((with_reducible refine gate_dst (N := 3) rfl ?_); refine bx_ 3 #[.slice A1_0 l1_0.length c1_0] 30 ?_; intro gt hgt w2 hbx2 hb2; clear hgt; have HB2 := am (below_step HB1.out hb2); have BX2 := am hbx2; have hm0 : w2.cell? ⟨gm, 0, none⟩ = some (.int .i64 a0_0) := pw_cell_below hb2 ((blk_cell BX1.out 0).trans rfl); have hm1 : w2.cell? ⟨gm, 1, none⟩ = some (.int .i64 a0_1) := pw_cell_below hb2 ((blk_cell BX1.out 1).trans rfl); have hm2 : w2.cell? ⟨gm, 2, none⟩ = some (.slice A0_2 l0_2.length c0_2) := pw_cell_below hb2 ((blk_cell BX1.out 2).trans rfl); have ht0 : w2.cell? ⟨gt, 0, none⟩ = some (.slice A1_0 l1_0.length c1_0) := (blk_cell BX2.out 0).trans rfl; clear hb2 hbx2))
 refine (impl_NodeCount.calls a0_0 a0_1 n _ HN.out).mono ?_
 rintro e w3 ⟨rfl, hb3⟩
 replace hm0 := pw_cell_below hb3 hm0
 replace hm1 := pw_cell_below hb3 hm1
 replace hm2 := pw_cell_below hb3 hm2
 replace ht0 := pw_cell_below hb3 ht0
 have HB3 := am (below_step HB2.out hb3)
 clear hb3
 go_wp2_with fail
 refine (impl_MeshOk.calls k a0_0 a0_1 A0_2 c0_2 l0_2 ok _ (Kd.C_below HR2.out HB3.out) HC2.out HO.out).mono ?_
 rintro e w4 ⟨rfl, hb4⟩
 replace hm0 := pw_cell_below hb4 hm0
 replace hm1 := pw_cell_below hb4 hm1
 replace hm2 := pw_cell_below hb4 hm2
 replace ht0 := pw_cell_below hb4 ht0
 have HB4 := am (below_step HB3.out hb4)
 clear hb4
 cases ok with
 | false =>
  have h3 : some false = some r := H2.out
  obtain rfl := Option.some.inj h3
  clear h3 H2
  go_wp2
  go_ret
  exact ⟨by first | rfl | (simp; done), HB4.out⟩
 | true =>
  have h3 : (if (l1_0.length : Int) = wrap64 (n * n) then (impl_TableOk.l0 k a0_0 a0_1 l0_2 l1_0 n 0) else (some false)) = some r := H2.out
  clear H2
  by_cases cl : (l1_0.length : Int) = wrap64 (n * n)
  ·rw [if_pos cl] at h3
   have clb : ((l1_0.length : Int) == wrap64 (n * n)) = true := beq_iff_eq.mpr cl
   have clc : ((l1_0.length : Int) != wrap64 (n * n)) = false := bne_eq_false_iff_eq.mpr cl
   clear cl
   have H' := am h3
   clear h3
   go_wp2
   go_loopg [23] k (fun kq v23 w' => ∃ x : Int, v23 = .int .i64 x ∧ Aside0 (impl_TableOk.l0 kq a0_0 a0_1 l0_2 l1_0 n x = some r) ∧ Aside0 (kq ≤ k) ∧ w' = w4)
   case atStart => exact ⟨0, (by first | rfl | (simp; done)), H', ⟨Nat.le_refl _⟩, rfl⟩
   clear H' clb clc
   obtain ⟨x, rfl, HA, HK1, rfl⟩ := hrel
   obtain _ | k1 := gk
   ·exact absurd HA.out (by simp [impl_TableOk.l0])
   have H := HA.out
   clear HA
   simp only [impl_TableOk.l0] at H
   by_cases c1 : x < n
   rotate_left
   ·rw [if_neg c1] at H
    have c1b : decide (x < n) = false := decide_eq_false c1
    clear c1
    have HP := am H
    clear H
    go_wp2_with fail
    refine (impl_TableOk.prs k1 a0_0 a0_1 A0_2 c0_2 l0_2 A1_0 c1_0 l1_0 r gm gt _ (Kd.C_below HR2.out HB4.out) HC2.out (Kd.C_below HR3.out HB4.out) HC3.out hm0 hm1 hm2 ht0 HP.out).mono ?_
    rintro e w5 ⟨rfl, hb5⟩
    have HB5 := am (below_step HB4.out hb5)
    clear hb5 hm0 hm1 hm2 ht0
    go_wp2
    go_ret
    exact ⟨by first | rfl | (simp; done), HB5.out⟩
   rw [if_pos c1] at H
   have c1b : decide (x < n) = true := decide_eq_true c1
   clear c1
   by_cases c2 : 0 ≤ wrap64 (wrap64 (x * n) + x)
   rotate_left
   ·rw [if_neg c2] at H
    exact absurd H (by simp)
   rw [if_pos c2] at H
   by_cases c3 : wrap64 (wrap64 (x * n) + x) < (l1_0.length : Int)
   rotate_left
   ·rw [if_neg c3] at H
    exact absurd H (by simp)
   rw [if_pos c3] at H
   obtain ⟨ad, ea, hx⟩ := Kd.at_int (Kd.C_below HR3.out HB4.out) (wrap64 (wrap64 (x * n) + x)) c2 c3
   cases ea
   have c2b : decide (0 ≤ wrap64 (wrap64 (x * n) + x)) = true := decide_eq_true c2
   have c3b : decide (wrap64 (wrap64 (x * n) + x) < (l1_0.length : Int)) = true := decide_eq_true c3
   replace c2 := eq_true c2
   replace c3 := eq_true c3
   by_cases c4 : rd l1_0 (wrap64 (wrap64 (x * n) + x)) = 4
   rotate_left
   ·rw [if_neg c4] at H
    have c4b : (rd l1_0 (wrap64 (wrap64 (x * n) + x)) == 4) = false := beq_eq_false_iff_ne.mpr c4
    have c4c : (rd l1_0 (wrap64 (wrap64 (x * n) + x)) != 4) = true := bne_iff_ne.mpr c4
    clear c4
    obtain rfl := Option.some.inj H
    go_wp2
    go_ret
    exact ⟨by first | rfl | (simp; done), HB4.out⟩
   rw [if_pos c4] at H
   have c4b : (rd l1_0 (wrap64 (wrap64 (x * n) + x)) == 4) = true := beq_iff_eq.mpr c4
   have c4c : (rd l1_0 (wrap64 (wrap64 (x * n) + x)) != 4) = false := bne_eq_false_iff_eq.mpr c4
   clear c4
   have H' := am H
   clear H
   go_wp2
   go_roundg k1
   case measure => have := HK1.out; omega
   case rel => exact ⟨wrap64 (x + 1), (by first | rfl | (simp; done)), H', ⟨by have := HK1.out; omega⟩, rfl⟩
  ·rw [if_neg cl] at h3
   have clb : ((l1_0.length : Int) == wrap64 (n * n)) = false := beq_eq_false_iff_ne.mpr cl
   have clc : ((l1_0.length : Int) != wrap64 (n * n)) = true := bne_iff_ne.mpr cl
   clear cl
   obtain rfl := Option.some.inj h3
   clear h3
   go_wp2
   go_ret
   exact ⟨by first | rfl | (simp; done), HB4.out⟩
def impl_ClassesOk.f (k : Nat) (a0_0 : Int) (a0_1 : Int) (l0_2 : List Int) (l1_0 : List Int) (l1_1 : List Int) : Option (Bool) := (impl_TableOk.f k a0_0 a0_1 l0_2 l1_0).bind fun t218 => (if t218 = true then ((impl_TableOk.f k a0_0 a0_1 l0_2 l1_1).bind fun t219 => (some t219)) else (none))
theorem impl_ClassesOk.calls (k : Nat) (a0_0 : Int) (a0_1 : Int) (A0_2 : Option Addr) (c0_2 : Nat) (l0_2 : List Int) (A1_0 : Option Addr) (c1_0 : Nat) (l1_0 : List Int) (A1_1 : Option Addr) (c1_1 : Nat) (l1_1 : List Int) (r : Bool) (w : World) (hr0_2 : Kd.C (Kd.int .i64) w A0_2 l0_2.length l0_2) (hc0_2 : l0_2.length ≤ c0_2) (hr1_0 : Kd.C (Kd.int .i64) w A1_0 l1_0.length l1_0) (hc1_0 : l1_0.length ≤ c1_0) (hr1_1 : Kd.C (Kd.int .i64) w A1_1 l1_1.length l1_1) (hc1_1 : l1_1.length ≤ c1_1) (h : impl_ClassesOk.f k a0_0 a0_1 l0_2 l1_0 l1_1 = some r) :
  Calls Try.prog 47 #[.agg #[.int .i64 a0_0, .int .i64 a0_1, .slice A0_2 l0_2.length c0_2], .agg #[.slice A1_0 l1_0.length c1_0, .slice A1_1 l1_1.length c1_1]] w fun e w' => e = .returned (.bool r) ∧ Below w.heap.size w w' := by
 have hu28 := Try.underlying28
 have hu32 := Try.underlying32
 have hu30 := Try.underlying30
 have HR0_2 := am hr0_2
 have HC0_2 := am hc0_2
 clear hr0_2 hc0_2
 have HR1_0 := am hr1_0
 have HC1_0 := am hc1_0
 clear hr1_0 hc1_0
 have HR1_1 := am hr1_1
 have HC1_1 := am hc1_1
 clear hr1_1 hc1_1
 have HB := am (Below.refl w.heap.size w)
 have H : ((impl_TableOk.f k a0_0 a0_1 l0_2 l1_0).bind fun t218 => (if t218 = true then ((impl_TableOk.f k a0_0 a0_1 l0_2 l1_1).bind fun t219 => (some t219)) else (none))) = some r := h
 clear h
 obtain ⟨t218, A3, H⟩ := bi_ H
 by_cases c4 : t218 = true
 ·subst c4
  rw [if_pos rfl] at H
  obtain ⟨t219, A5, H⟩ := bi_ H
  obtain rfl := Option.some.inj H
  go_enter Try.func47, Try.ntmps47
  go_wp2_with (first | ((with_reducible refine gate_dst (N := 2) rfl ?_); refine bx_ 2 #[.int .i64 a0_0, .int .i64 a0_1, .slice A0_2 l0_2.length c0_2] 28 ?_; intro gb216 hg w6 hbox hb; have BK216 := am (hbox); have GW216 := gw_ hg HB; replace HB := h9_ HB hb; clear hb hbox hg) | ((with_reducible refine gate_dst (N := 3) rfl ?_); refine bx_ 3 #[.slice A1_0 l1_0.length c1_0, .slice A1_1 l1_1.length c1_1] 32 ?_; intro gb217 hg w7 hbox hb; have BK217 := am (hbox); have GW217 := gw_ hg HB; replace HB := h9_ HB hb; have NB216_217 := nl_ hg BK216; have NB217_216 := ng_ hg BK216; replace BK216 := kb_ BK216 hb; clear hb hbox hg; have hnb8 := NB216_217.out; have hnc8 := NB217_216.out; obtain ⟨hcz9_0, hcz9_1, hcz9_2, hfz9_0, hfz9_1, hfz9_2⟩ := cz3_ BK216.out; obtain ⟨hcz10_0, hcz10_1, hfz10_0, hfz10_1⟩ := cz2_ BK217.out) | ((with_reducible refine gate_callee (f := 75) rfl ?_); refine gm_ (some 8) Try.func75 #[.agg #[.int .i64 a0_0, .int .i64 a0_1, .slice A0_2 l0_2.length c0_2], .agg #[.slice A1_0 l1_0.length c1_0]] rfl ?_; (with_reducible refine (impl_TableOk.calls k a0_0 a0_1 _ _ l0_2 _ _ l1_0 true _ ?side1 HC0_2.out ?side3 HC1_0.out A3.out).mono ?_); (case side1 => exact cb_ HR0_2.out HB.out); (case side3 => exact cb_ HR1_0.out HB.out); rintro e w11 ⟨rfl, hb⟩; refine ⟨_, rfl, ?_⟩; replace BK216 := kb_ BK216 hb; replace BK217 := kb_ BK217 hb; replace HB := h9_ HB hb; (try clear hb); obtain ⟨hcz12_0, hcz12_1, hcz12_2, hfz12_0, hfz12_1, hfz12_2⟩ := cz3_ BK216.out; obtain ⟨hcz13_0, hcz13_1, hfz13_0, hfz13_1⟩ := cz2_ BK217.out) | (go_at_call 75; (with_reducible refine (impl_TableOk.calls k a0_0 a0_1 _ _ l0_2 _ _ l1_1 t219 _ ?side1 HC0_2.out ?side3 HC1_1.out A5.out).mono ?_); (case side1 => exact cb_ HR0_2.out HB.out); (case side3 => exact cb_ HR1_1.out HB.out); rintro e w14 ⟨rfl, hb⟩; replace BK216 := kb_ BK216 hb; replace BK217 := kb_ BK217 hb; replace HB := h9_ HB hb; (try clear hb)))
  go_ret
  exact ⟨fin_, bb_ HB.out⟩
 ·replace c4 := Bool.eq_false_iff.mpr c4
  subst c4
  rw [if_neg (show ¬ (false = true) by decide)] at H
  exact absurd H (by simp)
def spec_l02Has.f (a0_0 : Int) (a0_1 : Int) (a1 : Int) : Option (Bool) := (spec_NodeCount.f a0_0 a0_1).bind fun t221 => ((spec_l01In.f a1 0 (wrap64 (t221 - 1))).bind fun t222 => (some t222))
theorem spec_l02Has.calls (a0_0 : Int) (a0_1 : Int) (a1 : Int) (r : Bool) (w : World) (h : spec_l02Has.f a0_0 a0_1 a1 = some r) :
  Calls Try.prog 39 #[.agg #[.int .i64 a0_0, .int .i64 a0_1], .int .i64 a1] w fun e w' => e = .returned (.bool r) ∧ Below w.heap.size w w' := by
 have hu25 := Try.underlying25
 have HB := am (Below.refl w.heap.size w)
 have H : ((spec_NodeCount.f a0_0 a0_1).bind fun t221 => ((spec_l01In.f a1 0 (wrap64 (t221 - 1))).bind fun t222 => (some t222))) = some r := h
 clear h
 obtain ⟨t221, A3, H⟩ := bi_ H
 obtain ⟨t222, A4, H⟩ := bi_ H
 obtain rfl := Option.some.inj H
 go_enter Try.func39, Try.ntmps39
 go_wp2_with (first | ((with_reducible refine gate_dst (N := 2) rfl ?_); refine bx_ 2 #[.int .i64 a0_0, .int .i64 a0_1] 25 ?_; intro gb220 hg w5 hbox hb; have BK220 := am (hbox); have GW220 := gw_ hg HB; replace HB := h9_ HB hb; clear hb hbox hg; obtain ⟨hcz6_0, hcz6_1, hfz6_0, hfz6_1⟩ := cz2_ BK220.out) | ((with_reducible refine gate_callee (f := 57) rfl ?_); refine gm_ (some 7) Try.func57 #[.agg #[.int .i64 a0_0, .int .i64 a0_1]] rfl ?_; (with_reducible refine (spec_NodeCount.calls a0_0 a0_1 t221 _ A3.out).mono ?_); rintro e w7 ⟨rfl, hb⟩; refine ⟨_, rfl, ?_⟩; replace BK220 := kb_ BK220 hb; replace HB := h9_ HB hb; (try clear hb)) | ((with_reducible refine gate_callee (f := 40) rfl ?_); refine gm_ (some 9) Try.func40 #[.int .i64 a1, .int .i64 0, .int .i64 (wrap64 (t221 - 1))] rfl ?_; (with_reducible refine (spec_l01In.calls a1 0 (wrap64 (t221 - 1)) t222 _ A4.out).mono ?_); rintro e w' ⟨rfl, ⟨nd, rfl⟩⟩; refine ⟨_, rfl, ?_⟩))
 go_ret
 exact ⟨fin_, bb_ HB.out⟩
end Go.Proofs.Yteiemoooelpdaaa.PFnCreditSum
-- thin
