/- The law's functions as plain functions, and their calls. No condition. -/
import Derived.Test.YtimdefbpoddoaaaGreatPFnVerdictsx0
import Derived.Test.YtimdefbpoddoaaaGreatPFnVerdictsx7
import Derived.Test.YtimdefbpoddoaaaGreatPFnVerdictsx9
import Derived.Test.YtimdefbpoddoaaaGreatPFnVerdictsx14
namespace Go.Proofs.YtimdefbpoddoaaaGreat.PFnVerdicts
open Go.RowKit Go.Proofs.YtimdefbpoddoaaaGreatW.PrintWords Go.Proofs.YtimdefbpoddoaaaGreatW.PrintLast Go.Proofs.YtimdefbpoddoaaaGreatW.PrintMore
attribute [local go_sem] max2_int min2_int max_two min_two max_three min_three max_four min_four
set_option linter.unusedVariables false
set_option maxHeartbeats 8000000
set_option maxRecDepth 100000
set_option linter.unusedSimpArgs false

/-! ### impl_IsCycle: function 47 -/
mutual
def impl_IsCycle.j0 : Nat → List (S98) → List Int → Bool → Option (Bool)
 | 0, _, _, _ => none
 | k + 1, x0, x1, x15 => if x15 = true then (some false) else (impl_IsCycle.l0 k x0 x1 x1 (x1.length : Int) 0)
def impl_IsCycle.l0 : Nat → List (S98) → List Int → List Int → Int → Int → Option (Bool)
 | 0, _, _, _, _, _ => none
 | k + 1, x0, x1, x16, x17, x18 => if x18 < x17 then (if 0 ≤ x18 then (if x18 < (x16.length : Int) then (if (x1.length : Int) = 0 then (none) else (if 0 ≤ (Int.tmod (wrap64 (x18 + 1)) (x1.length : Int)) then (if (Int.tmod (wrap64 (x18 + 1)) (x1.length : Int)) < (x1.length : Int) then (if x18 ≤ (x1.length : Int) then ((slices_Contains_int_int.f k (x1.take (x18 : Int).toNat) (rd x16 x18)).bind fun t461 => (if t461 = true then (some false) else ((impl_Depend_78.f k x0 (rd x16 x18) (rd x1 (Int.tmod (wrap64 (x18 + 1)) (x1.length : Int)))).bind fun t462 => (if t462 = true then (impl_IsCycle.l0 k x0 x1 x16 x17 (wrap64 (x18 + 1))) else (some false))))) else (none)) else (none)) else (none))) else (none)) else (none)) else (some true)
end
def impl_IsCycle.f (k : Nat) (l0 : List (S98)) (l1 : List Int) : Option (Bool) := (impl_DependsOk.f k l0).bind fun t457 => (if t457 = true then (impl_IsCycle.j0 k l0 l1 ((l1.length : Int) == 0)) else (impl_IsCycle.j0 k l0 l1 true))
theorem impl_IsCycle.mono_l : ∀ k, (∀ y0 y1 y2, LeO (impl_IsCycle.j0 k y0 y1 y2) (impl_IsCycle.j0 (k + 1) y0 y1 y2)) ∧ (∀ y0 y1 y2 y3 y4, LeO (impl_IsCycle.l0 k y0 y1 y2 y3 y4) (impl_IsCycle.l0 (k + 1) y0 y1 y2 y3 y4))
 | 0 => ⟨fun _ _ _ r h => by simp [impl_IsCycle.j0] at h, fun _ _ _ _ _ r h => by simp [impl_IsCycle.l0] at h⟩
 | k + 1 => by
  obtain ⟨ih0, ih1⟩ := impl_IsCycle.mono_l k
  refine ⟨?_, ?_⟩
  ·intro y0 y1 y2
   unfold impl_IsCycle.j0
   repeat' (with_reducible first | exact ih0 .. | exact ih1 .. | exact impl_Depend_78.mono .. | exact impl_DependsOk.mono .. | exact slices_Contains_int_int.mono .. | exact LeO.refl .. | exact LeO.none .. | refine LeO.ite ?_ ?_ | refine LeO.bind ?_ (fun _ => ?_))
  ·intro y0 y1 y2 y3 y4
   unfold impl_IsCycle.l0
   repeat' (with_reducible first | exact ih0 .. | exact ih1 .. | exact impl_Depend_78.mono .. | exact impl_DependsOk.mono .. | exact slices_Contains_int_int.mono .. | exact LeO.refl .. | exact LeO.none .. | refine LeO.ite ?_ ?_ | refine LeO.bind ?_ (fun _ => ?_))
theorem impl_IsCycle.mono : ∀ a0 a1 k, LeO (impl_IsCycle.f k a0 a1) (impl_IsCycle.f (k + 1) a0 a1) := by
 intro a0 a1 k
 obtain ⟨ih0, ih1⟩ := impl_IsCycle.mono_l k
 unfold impl_IsCycle.f
 repeat' (with_reducible first | exact ih0 .. | exact ih1 .. | exact impl_Depend_78.mono .. | exact impl_DependsOk.mono .. | exact slices_Contains_int_int.mono .. | exact LeO.refl .. | exact LeO.none .. | refine LeO.ite ?_ ?_ | refine LeO.bind ?_ (fun _ => ?_))
theorem impl_IsCycle.e0 {P : Prop} (h : P := by
 go_wp2_with (first | ((with_reducible refine gate_callee (f := 75) rfl ?_); refine goesL_ (some 35) rfl rfl Tryz.func75 (by kernel_rfl) rfl #[.slice (some ad458) (l1.take (x18_2 : Int).toNat).length c1, .int .i64 (rd l1 x18_2)] rfl (by (try simp only [List.map_toArray, List.map_cons, List.map_nil]); first | done | (rw [show (l1.take (x18_2 : Int).toNat).length = x18_2.toNat from (by rw [List.length_take]; have h_ : (x18_2 : Int) ≤ (l1.length : Int) := of_decide_eq_true dg_; omega)] <;> rfl) | rfl | (simp only [List.length_drop, List.length_take]; rfl)) ?_; (with_reducible refine (slices_Contains_int_int.calls k2 _ _ (l1.take (x18_2 : Int).toNat) (rd l1 x18_2) _ _ ?side1 HC460.out A18.out).mono ?_); (case side1 => exact cb_ HR460.out HB.out); rintro e w' ⟨rfl, ⟨nd, rfl⟩⟩; refine ⟨_, rfl, ?_⟩) | (go_at_call 78; (with_reducible refine (impl_Depend_78.calls k2 _ _ l0 (rd l1 x18_2) (rd l1 (ji13)) _ _ ?side1 HC0.out A21.out).mono ?_); (case side1 => exact cb_ HR0.out HB.out); rintro e w_0 ⟨rfl, hb⟩; replace HB := hs_ HB hb; (try clear hb)))
 go_ret
 exact ⟨by first | rfl | (simp [errW_none, errW_some] <;> rfl) | (simp only [← hji13]; first | rfl | (simp [errW_none, errW_some] <;> rfl)) | (simp [*, errW_none, errW_some] <;> rfl), bb_ HB.out⟩) : P := h
theorem impl_IsCycle.calls (k : Nat) (A0 : Option Addr) (c0 : Nat) (l0 : List (S98)) (A1 : Option Addr) (c1 : Nat) (l1 : List Int) (r : Bool) (w : World) (hr0 : Kd.C k98 w A0 l0.length l0) (hc0 : l0.length ≤ c0) (hr1 : Kd.C (Kd.int .i64) w A1 l1.length l1) (hc1 : l1.length ≤ c1) (h : impl_IsCycle.f k l0 l1 = some r) :
  Calls Tryz.prog 47 #[.slice A0 l0.length c0, .slice A1 l1.length c1] w fun e w' => e = .returned (.bool r) ∧ Below w.heap.size w w' := by
 have hu98 := Tryz.underlying98
 have HR0 := Aside0.mk hr0
 have HC0 := Aside0.mk hc0
 clear hr0 hc0
 have HR1 := Aside0.mk hr1
 have HC1 := Aside0.mk hc1
 clear hr1 hc1
 have HB := Aside0.mk (Below.refl w.heap.size w)
 have H : ((impl_DependsOk.f k l0).bind fun t457 => (if t457 = true then (impl_IsCycle.j0 k l0 l1 ((l1.length : Int) == 0)) else (impl_IsCycle.j0 k l0 l1 true))) = some r := h
 clear h
 have HC3 := Aside0.mk H
 clear H
 go_enter Tryz.func47, Tryz.ntmps47
 go_upto_region 1 with (fail)
 go_cut [15] (fun v15 wc => ∃ (kq : Nat) (x15_2 : Bool), v15 = .bool x15_2 ∧ Aside0 (impl_IsCycle.j0 kq l0 l1 x15_2 = some r) ∧ Aside0 (kq ≤ k) ∧ Aside0 (Below w.heap.size w wc))
 case first =>
  have H := HC3.out
  clear HC3
  obtain ⟨t457, A4, H⟩ := bi_ H
  by_cases c5 : t457 = true
  ·subst c5
   rw [if_pos rfl] at H
   have H' := Aside0.mk H
   clear H
   go_wp2_with (first | ((with_reducible refine gate_callee (f := 74) rfl ?_); refine gm_ (some 9) Tryz.func74 #[.slice A0 l0.length c0] rfl ?_; (with_reducible refine (impl_DependsOk.calls k _ _ l0 true _ ?side1 HC0.out A4.out).mono ?_); (case side1 => exact cb_ HR0.out HB.out); rintro e w6 ⟨rfl, hb⟩; refine ⟨_, rfl, ?_⟩; replace HB := hs_ HB hb; (try clear hb)))
   go_meet
   case rel => exact ⟨_, (((l1.length : Int) == 0)), ef_, H', ⟨kq_⟩, ⟨bb_ HB.out⟩⟩
  replace c5 := Bool.eq_false_iff.mpr c5
  subst c5
  rw [if_neg (show ¬ (false = true) by decide)] at H
  have H' := Aside0.mk H
  clear H
  go_wp2_with (first | ((with_reducible refine gate_callee (f := 74) rfl ?_); refine gm_ (some 9) Tryz.func74 #[.slice A0 l0.length c0] rfl ?_; (with_reducible refine (impl_DependsOk.calls k _ _ l0 false _ ?side1 HC0.out A4.out).mono ?_); (case side1 => exact cb_ HR0.out HB.out); rintro e w7 ⟨rfl, hb⟩; refine ⟨_, rfl, ?_⟩; replace HB := hs_ HB hb; (try clear hb)))
  go_meet
  case rel => exact ⟨_, (true), ef_, H', ⟨kq_⟩, ⟨bb_ HB.out⟩⟩
 case rest =>
  clear HC3
  obtain ⟨kq, x15_2, rfl, HA, HJ2, HB⟩ := hcut
  cases kq with
  | zero => exact absurd HA.out (by simp [impl_IsCycle.j0])
  | succ kj2 =>
   have H := HA.out
   clear HA
   simp only [impl_IsCycle.j0] at H
   by_cases c8 : x15_2 = true
   ·subst c8
    rw [if_pos rfl] at H
    obtain rfl := Option.some.inj H
    go_wp2
    go_ret
    exact ⟨fin_, bb_ HB.out⟩
   ·replace c8 := Bool.eq_false_iff.mpr c8
    subst c8
    rw [if_neg (show ¬ (false = true) by decide)] at H
    have H' := Aside0.mk H
    clear H
    go_wp2
    go_loopg [18] kj2 (fun kq v18 w' => ∃ (x18_2 : Int), v18 = .int .i64 x18_2 ∧ Aside0 (impl_IsCycle.l0 kq l0 l1 l1 (l1.length : Int) x18_2 = some r) ∧ Aside0 (kq ≤ kj2) ∧ Aside0 (Below w.heap.size w w'))
    case atStart => exact ⟨(0), ef_, H', ⟨Nat.le_refl _⟩, ⟨bb_ HB.out⟩⟩
    clear H'
    try clear c8
    obtain ⟨x18_2, rfl, HA, HK2, HB⟩ := hrel
    obtain _ | k2 := gk
    ·exact absurd HA.out (by simp [impl_IsCycle.l0])
    have H := HA.out
    clear HA
    simp only [impl_IsCycle.l0] at H
    by_cases c9 : x18_2 < (l1.length : Int)
    rotate_left
    ·rw [if_neg c9] at H
     have c9b0 : decide (x18_2 < (l1.length : Int)) = false := decide_eq_false c9
     clear c9
     obtain rfl := Option.some.inj H
     go_wp2
     go_ret
     exact ⟨fin_, bb_ HB.out⟩
    rw [if_pos c9] at H
    have c9b0 : decide (x18_2 < (l1.length : Int)) = true := decide_eq_true c9
    clear c9
    by_cases c10 : 0 ≤ x18_2
    rotate_left
    ·rw [if_neg c10] at H
     exact absurd H (by simp)
    rw [if_pos c10] at H
    have c10b0 : decide (0 ≤ x18_2) = true := decide_eq_true c10
    clear c10
    by_cases c11 : x18_2 < (l1.length : Int)
    rotate_left
    ·rw [if_neg c11] at H
     exact absurd H (by simp)
    rw [if_pos c11] at H
    have c11b0 : decide (x18_2 < (l1.length : Int)) = true := decide_eq_true c11
    clear c11
    by_cases c12 : (l1.length : Int) = 0
    ·rw [if_pos c12] at H
     exact absurd H (by simp)
    rw [if_neg c12] at H
    have c12b0 : ((l1.length : Int) == 0) = false := beq_eq_false_iff_ne.mpr c12
    have c12b1 : ((l1.length : Int) != 0) = true := bne_iff_ne.mpr c12
    have c12b2 : ¬ (l1 = []) := fun h_ => c12 (by rw [h_]; rfl)
    obtain ⟨ji13, hji13⟩ : ∃ j_ : Int, (Int.tmod (wrap64 (x18_2 + 1)) (l1.length : Int)) = j_ := ⟨_, rfl⟩
    replace H : (if 0 ≤ (ji13) then (if (ji13) < (l1.length : Int) then (if x18_2 ≤ (l1.length : Int) then ((slices_Contains_int_int.f k2 (l1.take (x18_2 : Int).toNat) (rd l1 x18_2)).bind fun t461 => (if t461 = true then (some false) else ((impl_Depend_78.f k2 l0 (rd l1 x18_2) (rd l1 (ji13))).bind fun t462 => (if t462 = true then (impl_IsCycle.l0 k2 l0 l1 l1 (l1.length : Int) (wrap64 (x18_2 + 1))) else (some false))))) else (none)) else (none)) else (none)) = some r := by first | (rw [hji13] at H; exact H) | (simp only [hji13] at H ⊢; exact H)
    by_cases c14 : 0 ≤ (ji13)
    rotate_left
    ·rw [if_neg c14] at H
     exact absurd H (by simp)
    rw [if_pos c14] at H
    have c14b0 : decide (0 ≤ (ji13)) = true := decide_eq_true c14
    clear c14
    by_cases c15 : (ji13) < (l1.length : Int)
    rotate_left
    ·rw [if_neg c15] at H
     exact absurd H (by simp)
    rw [if_pos c15] at H
    have c15b0 : decide ((ji13) < (l1.length : Int)) = true := decide_eq_true c15
    clear c15
    have c16b0 := eq_true (of_decide_eq_true dg_ : 0 ≤ x18_2)
    by_cases c17 : x18_2 ≤ (l1.length : Int)
    rotate_left
    ·rw [if_neg c17] at H
     exact absurd H (by simp)
    rw [if_pos c17] at H
    have c17b0 := eq_true c17
    have c17b1 : decide (x18_2 ≤ (l1.length : Int)) = true := decide_eq_true c17
    clear c17
    obtain ⟨t461, A18, H⟩ := bi_ H
    by_cases c19 : t461 = true
    ·subst c19
     rw [if_pos rfl] at H
     obtain rfl := Option.some.inj H
     have p458 : 0 ≤ (x18_2 : Int) := of_decide_eq_true dg_
     have q458 : x18_2 < (l1.length : Int) := of_decide_eq_true dg_
     obtain ⟨ad458, e458, hx458_0⟩ := Kd.at_int HR1.out x18_2 p458 q458
     cases e458
     replace hx458_0 := hc_ HB hx458_0
     replace p458 := eq_true p458
     replace q458 := eq_true q458
     have p459 : 0 ≤ ((ji13) : Int) := of_decide_eq_true dg_
     have q459 : (ji13) < (l1.length : Int) := of_decide_eq_true dg_
     obtain ⟨ad459, e459, hx459_0⟩ := Kd.at_int HR1.out (ji13) p459 q459
     obtain rfl : ad458 = ad459 := (by injection e459)
     replace hx459_0 := hc_ HB hx459_0
     replace p459 := eq_true p459
     replace q459 := eq_true q459
     obtain ⟨i020, hi020, _, hsz20, _⟩ := info_parts info3
     obtain ⟨hcut20, hA20, hC20⟩ := print_take_of (P := Tryz.prog) (Value.int .i64) 0 24 3 .i64 Tryz.underlying24 hi020 hsz20 (some ad458) c1 l1 x18_2 (of_decide_eq_true dg_) (of_decide_eq_true dg_) HC1.out
     have HR460 := Aside0.mk (Kd.C_of_reads (h1 := fun _ => rfl) (hA20 _ (Kd.reads_of_C HR1.out)))
     have HC460 := Aside0.mk hC20
     clear hA20 hC20 hi020 hsz20
     exact impl_IsCycle.e0
    replace c19 := Bool.eq_false_iff.mpr c19
    subst c19
    rw [if_neg (show ¬ (false = true) by decide)] at H
    obtain ⟨t462, A21, H⟩ := bi_ H
    by_cases c22 : t462 = true
    rotate_left
    ·replace c22 := Bool.eq_false_iff.mpr c22
     subst c22
     rw [if_neg (show ¬ (false = true) by decide)] at H
     obtain rfl := Option.some.inj H
     have p458 : 0 ≤ (x18_2 : Int) := of_decide_eq_true dg_
     have q458 : x18_2 < (l1.length : Int) := of_decide_eq_true dg_
     obtain ⟨ad458, e458, hx458_0⟩ := Kd.at_int HR1.out x18_2 p458 q458
     cases e458
     replace hx458_0 := hc_ HB hx458_0
     replace p458 := eq_true p458
     replace q458 := eq_true q458
     have p459 : 0 ≤ ((ji13) : Int) := of_decide_eq_true dg_
     have q459 : (ji13) < (l1.length : Int) := of_decide_eq_true dg_
     obtain ⟨ad459, e459, hx459_0⟩ := Kd.at_int HR1.out (ji13) p459 q459
     obtain rfl : ad458 = ad459 := (by injection e459)
     replace hx459_0 := hc_ HB hx459_0
     replace p459 := eq_true p459
     replace q459 := eq_true q459
     obtain ⟨i025, hi025, _, hsz25, _⟩ := info_parts info3
     obtain ⟨hcut25, hA25, hC25⟩ := print_take_of (P := Tryz.prog) (Value.int .i64) 0 24 3 .i64 Tryz.underlying24 hi025 hsz25 (some ad458) c1 l1 x18_2 (of_decide_eq_true dg_) (of_decide_eq_true dg_) HC1.out
     have HR460 := Aside0.mk (Kd.C_of_reads (h1 := fun _ => rfl) (hA25 _ (Kd.reads_of_C HR1.out)))
     have HC460 := Aside0.mk hC25
     clear hA25 hC25 hi025 hsz25
     exact impl_IsCycle.e0
    subst c22
    rw [if_pos rfl] at H
    have H' := Aside0.mk H
    clear H
    have p458 : 0 ≤ (x18_2 : Int) := of_decide_eq_true dg_
    have q458 : x18_2 < (l1.length : Int) := of_decide_eq_true dg_
    obtain ⟨ad458, e458, hx458_0⟩ := Kd.at_int HR1.out x18_2 p458 q458
    cases e458
    replace hx458_0 := hc_ HB hx458_0
    replace p458 := eq_true p458
    replace q458 := eq_true q458
    have p459 : 0 ≤ ((ji13) : Int) := of_decide_eq_true dg_
    have q459 : (ji13) < (l1.length : Int) := of_decide_eq_true dg_
    obtain ⟨ad459, e459, hx459_0⟩ := Kd.at_int HR1.out (ji13) p459 q459
    obtain rfl : ad458 = ad459 := (by injection e459)
    replace hx459_0 := hc_ HB hx459_0
    replace p459 := eq_true p459
    replace q459 := eq_true q459
    obtain ⟨i023, hi023, _, hsz23, _⟩ := info_parts info3
    obtain ⟨hcut23, hA23, hC23⟩ := print_take_of (P := Tryz.prog) (Value.int .i64) 0 24 3 .i64 Tryz.underlying24 hi023 hsz23 (some ad458) c1 l1 x18_2 (of_decide_eq_true dg_) (of_decide_eq_true dg_) HC1.out
    have HR460 := Aside0.mk (Kd.C_of_reads (h1 := fun _ => rfl) (hA23 _ (Kd.reads_of_C HR1.out)))
    have HC460 := Aside0.mk hC23
    clear hA23 hC23 hi023 hsz23
    go_wp2_with (first | ((with_reducible refine gate_callee (f := 75) rfl ?_); refine goesL_ (some 35) rfl rfl Tryz.func75 (by kernel_rfl) rfl #[.slice (some ad458) (l1.take (x18_2 : Int).toNat).length c1, .int .i64 (rd l1 x18_2)] rfl (by (try simp only [List.map_toArray, List.map_cons, List.map_nil]); first | done | (rw [show (l1.take (x18_2 : Int).toNat).length = x18_2.toNat from (by rw [List.length_take]; have h_ : (x18_2 : Int) ≤ (l1.length : Int) := of_decide_eq_true dg_; omega)] <;> rfl) | rfl | (simp only [List.length_drop, List.length_take]; rfl)) ?_; (with_reducible refine (slices_Contains_int_int.calls k2 _ _ (l1.take (x18_2 : Int).toNat) (rd l1 x18_2) false _ ?side1 HC460.out A18.out).mono ?_); (case side1 => exact cb_ HR460.out HB.out); rintro e w' ⟨rfl, ⟨nd, rfl⟩⟩; refine ⟨_, rfl, ?_⟩) | (go_at_call 78; (with_reducible refine (impl_Depend_78.calls k2 _ _ l0 (rd l1 x18_2) (rd l1 (ji13)) true _ ?side1 HC0.out A21.out).mono ?_); (case side1 => exact cb_ HR0.out HB.out); rintro e w24 ⟨rfl, hb⟩; replace HB := hs_ HB hb; (try clear hb)))
    go_roundg k2
    case measure => have := HJ2.out; have := HK2.out; omega
    case rel => exact ⟨(wrap64 (x18_2 + 1)), ef_, H', ⟨by have := HJ2.out; have := HK2.out; omega⟩, ⟨bb_ HB.out⟩⟩

end Go.Proofs.YtimdefbpoddoaaaGreat.PFnVerdicts
-- thin
