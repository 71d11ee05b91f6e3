/- The law's functions as plain functions, and their calls. No condition. -/
import Derived.Test.YtimdefbpoddoaaaGreatPFnVerdictsx0
import Derived.Test.YtimdefbpoddoaaaGreatPFnVerdictsx18
import Derived.Test.YtimdefbpoddoaaaGreatPFnVerdictsx21
namespace Go.Proofs.YtimdefbpoddoaaaGreat.PFnVerdicts
open Go.RowKit Go.Proofs.YtimdefbpoddoaaaGreatW.PrintWords Go.Proofs.YtimdefbpoddoaaaGreatW.PrintLast Go.Proofs.YtimdefbpoddoaaaGreatW.PrintMore
attribute [local go_sem] max2_int min2_int max_two min_two max_three min_three max_four min_four
set_option linter.unusedVariables false
set_option maxHeartbeats 8000000
set_option maxRecDepth 100000
set_option linter.unusedSimpArgs false

theorem tkl_ {α : Type} {l : List α} {x : Int} (h : x ≤ (l.length : Int)) : (l.take x.toNat).length = x.toNat := by
 rw [List.length_take]
 omega

/-! ### spec_IsOrder: function 50 -/
mutual
def spec_IsOrder.j0 : Nat → List (S98) → List Int → Bool → Option (Bool)
 | 0, _, _, _ => none
 | k + 1, x0, x1, x14 => if x14 = true then (some false) else (spec_IsOrder.l0 k x0 x1 0)
def spec_IsOrder.l0 : Nat → List (S98) → List Int → Int → Option (Bool)
 | 0, _, _, _ => none
 | k + 1, x0, x1, x5 => if x5 < 128 then ((spec_l03Find.f k x1 x5).bind fun t591 => (if t591 = true then (spec_IsOrder.l0 k x0 x1 (wrap64 (x5 + 1))) else (some false))) else (spec_IsOrder.l1 k x0 x1 0)
def spec_IsOrder.l1 : Nat → List (S98) → List Int → Int → Option (Bool)
 | 0, _, _, _ => none
 | k + 1, x0, x1, x6 => if x6 < (x0.length : Int) then (if 0 ≤ x6 then (if 0 ≤ ((rd_T98 x0 x6).f0) then (if ((rd_T98 x0 x6).f0) < (x1.length : Int) then (if 0 ≤ ((rd_T98 x0 x6).f1) then (if ((rd_T98 x0 x6).f1) < (x1.length : Int) then (if (rd x1 ((rd_T98 x0 x6).f0)) ≥ (rd x1 ((rd_T98 x0 x6).f1)) then (some false) else (spec_IsOrder.l1 k x0 x1 (wrap64 (x6 + 1)))) else (none)) else (none)) else (none)) else (none)) else (none)) else (some true)
end
def spec_IsOrder.f (k : Nat) (l0 : List (S98)) (l1 : List Int) : Option (Bool) := (spec_DependsOk.f k l0).bind fun t590 => (if t590 = true then (spec_IsOrder.j0 k l0 l1 ((l1.length : Int) != 128)) else (spec_IsOrder.j0 k l0 l1 true))
theorem spec_IsOrder.mono_l : ∀ k, (∀ y0 y1 y2, LeO (spec_IsOrder.j0 k y0 y1 y2) (spec_IsOrder.j0 (k + 1) y0 y1 y2)) ∧ (∀ y0 y1 y2, LeO (spec_IsOrder.l0 k y0 y1 y2) (spec_IsOrder.l0 (k + 1) y0 y1 y2)) ∧ (∀ y0 y1 y2, LeO (spec_IsOrder.l1 k y0 y1 y2) (spec_IsOrder.l1 (k + 1) y0 y1 y2))
 | 0 => ⟨fun _ _ _ r h => by simp [spec_IsOrder.j0] at h, fun _ _ _ r h => by simp [spec_IsOrder.l0] at h, fun _ _ _ r h => by simp [spec_IsOrder.l1] at h⟩
 | k + 1 => by
  obtain ⟨ih0, ih1, ih2⟩ := spec_IsOrder.mono_l k
  refine ⟨?_, ?_, ?_⟩
  ·intro y0 y1 y2
   unfold spec_IsOrder.j0
   repeat' (with_reducible first | exact ih0 .. | exact ih1 .. | exact ih2 .. | exact spec_DependsOk.mono .. | exact spec_l03Find.mono .. | exact LeO.refl .. | exact LeO.none .. | refine LeO.ite ?_ ?_ | refine LeO.bind ?_ (fun _ => ?_))
  ·intro y0 y1 y2
   unfold spec_IsOrder.l0
   repeat' (with_reducible first | exact ih0 .. | exact ih1 .. | exact ih2 .. | exact spec_DependsOk.mono .. | exact spec_l03Find.mono .. | exact LeO.refl .. | exact LeO.none .. | refine LeO.ite ?_ ?_ | refine LeO.bind ?_ (fun _ => ?_))
  ·intro y0 y1 y2
   unfold spec_IsOrder.l1
   repeat' (with_reducible first | exact ih0 .. | exact ih1 .. | exact ih2 .. | exact spec_DependsOk.mono .. | exact spec_l03Find.mono .. | exact LeO.refl .. | exact LeO.none .. | refine LeO.ite ?_ ?_ | refine LeO.bind ?_ (fun _ => ?_))
theorem spec_IsOrder.mono : ∀ a0 a1 k, LeO (spec_IsOrder.f k a0 a1) (spec_IsOrder.f (k + 1) a0 a1) := by
 intro a0 a1 k
 obtain ⟨ih0, ih1, ih2⟩ := spec_IsOrder.mono_l k
 unfold spec_IsOrder.f
 repeat' (with_reducible first | exact ih0 .. | exact ih1 .. | exact ih2 .. | exact spec_DependsOk.mono .. | exact spec_l03Find.mono .. | exact LeO.refl .. | exact LeO.none .. | refine LeO.ite ?_ ?_ | refine LeO.bind ?_ (fun _ => ?_))
theorem spec_IsOrder.calls (k : Nat) (A0 : Option Addr) (c0 : Nat) (l0 : List (S98)) (A1 : Option Addr) (c1 : Nat) (l1 : List Int) (r : Bool) (w : World) (hr0 : Kd.C k98 w A0 l0.length l0) (hc0 : l0.length ≤ c0) (hr1 : Kd.C (Kd.int .i64) w A1 l1.length l1) (hc1 : l1.length ≤ c1) (h : spec_IsOrder.f k l0 l1 = some r) :
  Calls Tryz.prog 50 #[.slice A0 l0.length c0, .slice A1 l1.length c1] w fun e w' => e = .returned (.bool r) ∧ Below w.heap.size w w' := by
 have HR0 := Aside0.mk hr0
 have HC0 := Aside0.mk hc0
 clear hr0 hc0
 have HR1 := Aside0.mk hr1
 have HC1 := Aside0.mk hc1
 clear hr1 hc1
 have HB := Aside0.mk (Below.refl w.heap.size w)
 have H : ((spec_DependsOk.f k l0).bind fun t590 => (if t590 = true then (spec_IsOrder.j0 k l0 l1 ((l1.length : Int) != 128)) else (spec_IsOrder.j0 k l0 l1 true))) = some r := h
 clear h
 have HC3 := Aside0.mk H
 clear H
 go_enter Tryz.func50, Tryz.ntmps50
 go_upto_region 1 with (fail)
 repeat (go_quiet (fail); go_upto_region 1 with (fail))
 go_cut [14] (fun v14 wc => ∃ (kq : Nat) (x14_2 : Bool), v14 = .bool x14_2 ∧ Aside0 (spec_IsOrder.j0 kq l0 l1 x14_2 = some r) ∧ Aside0 (kq ≤ k) ∧ Aside0 (Below w.heap.size w wc))
 case first =>
  have H := HC3.out
  clear HC3
  obtain ⟨t590, A4, H⟩ := bi_ H
  by_cases c5 : t590 = true
  ·subst c5
   rw [if_pos rfl] at H
   have H' := Aside0.mk H
   clear H
   go_wp2_with (first | (go_at_call 60; (with_reducible refine (spec_DependsOk.calls k _ _ l0 true _ ?side1 HC0.out A4.out).mono ?_); (case side1 => exact cb_ HR0.out HB.out); rintro e w6 ⟨rfl, hb⟩; replace HB := hs_ HB hb; (try clear hb)))
   repeat (go_quiet (first | (go_at_call 60; (with_reducible refine (spec_DependsOk.calls k _ _ l0 true _ ?side1 HC0.out A4.out).mono ?_); (case side1 => exact cb_ HR0.out HB.out); rintro e w6 ⟨rfl, hb⟩; replace HB := hs_ HB hb; (try clear hb))); try go_wp2_with (first | (go_at_call 60; (with_reducible refine (spec_DependsOk.calls k _ _ l0 true _ ?side1 HC0.out A4.out).mono ?_); (case side1 => exact cb_ HR0.out HB.out); rintro e w6 ⟨rfl, hb⟩; replace HB := hs_ HB hb; (try clear hb))))
   go_meet
   case rel => exact ⟨_, (((l1.length : Int) != 128)), ef_, H', ⟨kq_⟩, ⟨bb_ HB.out⟩⟩
  replace c5 := Bool.eq_false_iff.mpr c5
  subst c5
  rw [if_neg (show ¬ (false = true) by decide)] at H
  have H' := Aside0.mk H
  clear H
  go_wp2_with (first | (go_at_call 60; (with_reducible refine (spec_DependsOk.calls k _ _ l0 false _ ?side1 HC0.out A4.out).mono ?_); (case side1 => exact cb_ HR0.out HB.out); rintro e w7 ⟨rfl, hb⟩; replace HB := hs_ HB hb; (try clear hb)))
  repeat (go_quiet (first | (go_at_call 60; (with_reducible refine (spec_DependsOk.calls k _ _ l0 false _ ?side1 HC0.out A4.out).mono ?_); (case side1 => exact cb_ HR0.out HB.out); rintro e w7 ⟨rfl, hb⟩; replace HB := hs_ HB hb; (try clear hb))); try go_wp2_with (first | (go_at_call 60; (with_reducible refine (spec_DependsOk.calls k _ _ l0 false _ ?side1 HC0.out A4.out).mono ?_); (case side1 => exact cb_ HR0.out HB.out); rintro e w7 ⟨rfl, hb⟩; replace HB := hs_ HB hb; (try clear hb))))
  go_meet
  case rel => exact ⟨_, (true), ef_, H', ⟨kq_⟩, ⟨bb_ HB.out⟩⟩
 case rest =>
  clear HC3
  obtain ⟨kq, x14_2, rfl, HA, HJ2, HB⟩ := hcut
  cases kq with
  | zero => exact absurd HA.out (by simp [spec_IsOrder.j0])
  | succ kj2 =>
   have H := HA.out
   clear HA
   simp only [spec_IsOrder.j0] at H
   by_cases c8 : x14_2 = true
   ·subst c8
    rw [if_pos rfl] at H
    obtain rfl := Option.some.inj H
    go_wp2
    repeat (go_quiet (fail); try go_wp2)
    go_ret
    exact ⟨fin_, bb_ HB.out⟩
   ·replace c8 := Bool.eq_false_iff.mpr c8
    subst c8
    rw [if_neg (show ¬ (false = true) by decide)] at H
    have H' := Aside0.mk H
    clear H
    go_wp2
    repeat (go_quiet (fail); try go_wp2)
    go_loopg [5] kj2 (fun kq v5 w' => ∃ (x5_2 : Int), v5 = .int .i64 x5_2 ∧ Aside0 (spec_IsOrder.l0 kq l0 l1 x5_2 = some r) ∧ Aside0 (kq ≤ kj2) ∧ Aside0 (Below w.heap.size w w'))
    case atStart => exact ⟨(0), ef_, H', ⟨Nat.le_refl _⟩, ⟨bb_ HB.out⟩⟩
    clear H'
    try clear c8
    obtain ⟨x5_2, rfl, HA, HK2, HB⟩ := hrel
    obtain _ | k2 := gk
    ·exact absurd HA.out (by simp [spec_IsOrder.l0])
    have H := HA.out
    clear HA
    simp only [spec_IsOrder.l0] at H
    by_cases c9 : x5_2 < 128
    ·rw [if_pos c9] at H
     have c9b0 : decide (x5_2 < 128) = true := decide_eq_true c9
     clear c9
     obtain ⟨t591, A10, H⟩ := bi_ H
     by_cases c11 : t591 = true
     rotate_left
     ·replace c11 := Bool.eq_false_iff.mpr c11
      subst c11
      rw [if_neg (show ¬ (false = true) by decide)] at H
      obtain rfl := Option.some.inj H
      go_wp2_with (first | (go_at_call 83; (with_reducible refine (spec_l03Find.calls k2 _ _ l1 x5_2 false _ ?side1 HC1.out A10.out).mono ?_); (case side1 => exact cb_ HR1.out HB.out); rintro e w' ⟨rfl, ⟨nd, rfl⟩⟩; (try first | exact ⟨rfl, _, World.drewN_drewN _ _ _⟩ | exact ⟨rfl, _, Eq.trans (World.drewN_drewN _ _ _) (congrArg (World.drewN _) (Nat.add_assoc _ _ _))⟩)))
      repeat (go_quiet (first | (go_at_call 83; (with_reducible refine (spec_l03Find.calls k2 _ _ l1 x5_2 false _ ?side1 HC1.out A10.out).mono ?_); (case side1 => exact cb_ HR1.out HB.out); rintro e w' ⟨rfl, ⟨nd, rfl⟩⟩; (try first | exact ⟨rfl, _, World.drewN_drewN _ _ _⟩ | exact ⟨rfl, _, Eq.trans (World.drewN_drewN _ _ _) (congrArg (World.drewN _) (Nat.add_assoc _ _ _))⟩))); try go_wp2_with (first | (go_at_call 83; (with_reducible refine (spec_l03Find.calls k2 _ _ l1 x5_2 false _ ?side1 HC1.out A10.out).mono ?_); (case side1 => exact cb_ HR1.out HB.out); rintro e w' ⟨rfl, ⟨nd, rfl⟩⟩; (try first | exact ⟨rfl, _, World.drewN_drewN _ _ _⟩ | exact ⟨rfl, _, Eq.trans (World.drewN_drewN _ _ _) (congrArg (World.drewN _) (Nat.add_assoc _ _ _))⟩))))
      go_ret
      exact ⟨fin_, bb_ HB.out⟩
     subst c11
     rw [if_pos rfl] at H
     have H' := Aside0.mk H
     clear H
     go_wp2_with (first | (go_at_call 83; (with_reducible refine (spec_l03Find.calls k2 _ _ l1 x5_2 true _ ?side1 HC1.out A10.out).mono ?_); (case side1 => exact cb_ HR1.out HB.out); rintro e w' ⟨rfl, ⟨nd, rfl⟩⟩; (try first | exact ⟨rfl, _, World.drewN_drewN _ _ _⟩ | exact ⟨rfl, _, Eq.trans (World.drewN_drewN _ _ _) (congrArg (World.drewN _) (Nat.add_assoc _ _ _))⟩)))
     repeat (go_quiet (first | (go_at_call 83; (with_reducible refine (spec_l03Find.calls k2 _ _ l1 x5_2 true _ ?side1 HC1.out A10.out).mono ?_); (case side1 => exact cb_ HR1.out HB.out); rintro e w' ⟨rfl, ⟨nd, rfl⟩⟩; (try first | exact ⟨rfl, _, World.drewN_drewN _ _ _⟩ | exact ⟨rfl, _, Eq.trans (World.drewN_drewN _ _ _) (congrArg (World.drewN _) (Nat.add_assoc _ _ _))⟩))); try go_wp2_with (first | (go_at_call 83; (with_reducible refine (spec_l03Find.calls k2 _ _ l1 x5_2 true _ ?side1 HC1.out A10.out).mono ?_); (case side1 => exact cb_ HR1.out HB.out); rintro e w' ⟨rfl, ⟨nd, rfl⟩⟩; (try first | exact ⟨rfl, _, World.drewN_drewN _ _ _⟩ | exact ⟨rfl, _, Eq.trans (World.drewN_drewN _ _ _) (congrArg (World.drewN _) (Nat.add_assoc _ _ _))⟩))))
     go_roundg k2
     case measure => have := HJ2.out; have := HK2.out; omega
     case rel => exact ⟨(wrap64 (x5_2 + 1)), ef_, H', ⟨by have := HJ2.out; have := HK2.out; omega⟩, ⟨bb_ HB.out⟩⟩
    rw [if_neg c9] at H
    have c9b0 : decide (x5_2 < 128) = false := decide_eq_false c9
    clear c9
    have H' := Aside0.mk H
    clear H
    go_wp2
    repeat (go_quiet (fail); try go_wp2)
    go_loopg [6] k2 (fun kq v6 w' => ∃ (x6_3 : Int), v6 = .int .i64 x6_3 ∧ Aside0 (spec_IsOrder.l1 kq l0 l1 x6_3 = some r) ∧ Aside0 (kq ≤ k2) ∧ Aside0 (Below w.heap.size w w'))
    case atStart => exact ⟨(0), ef_, H', ⟨Nat.le_refl _⟩, ⟨bb_ HB.out⟩⟩
    clear H'
    try clear c8
    try clear c9
    try clear c9b0
    obtain ⟨x6_3, rfl, HA, HK3, HB⟩ := hrel
    obtain _ | k3 := gk
    ·exact absurd HA.out (by simp [spec_IsOrder.l1])
    have H := HA.out
    clear HA
    simp only [spec_IsOrder.l1] at H
    by_cases c12 : x6_3 < (l0.length : Int)
    rotate_left
    ·rw [if_neg c12] at H
     have c12b0 : decide (x6_3 < (l0.length : Int)) = false := decide_eq_false c12
     clear c12
     obtain rfl := Option.some.inj H
     go_wp2
     repeat (go_quiet (fail); try go_wp2)
     go_ret
     exact ⟨fin_, bb_ HB.out⟩
    rw [if_pos c12] at H
    have c12b0 : decide (x6_3 < (l0.length : Int)) = true := decide_eq_true c12
    clear c12
    by_cases c13 : 0 ≤ x6_3
    rotate_left
    ·rw [if_neg c13] at H
     exact absurd H (by simp)
    rw [if_pos c13] at H
    have c13b0 : decide (0 ≤ x6_3) = true := decide_eq_true c13
    clear c13
    by_cases c14 : 0 ≤ ((rd_T98 l0 x6_3).f0)
    rotate_left
    ·rw [if_neg c14] at H
     exact absurd H (by simp)
    rw [if_pos c14] at H
    have c14b0 : decide (0 ≤ ((rd_T98 l0 x6_3).f0)) = true := decide_eq_true c14
    clear c14
    by_cases c15 : ((rd_T98 l0 x6_3).f0) < (l1.length : Int)
    rotate_left
    ·rw [if_neg c15] at H
     exact absurd H (by simp)
    rw [if_pos c15] at H
    have c15b0 : decide (((rd_T98 l0 x6_3).f0) < (l1.length : Int)) = true := decide_eq_true c15
    clear c15
    by_cases c16 : 0 ≤ ((rd_T98 l0 x6_3).f1)
    rotate_left
    ·rw [if_neg c16] at H
     exact absurd H (by simp)
    rw [if_pos c16] at H
    have c16b0 : decide (0 ≤ ((rd_T98 l0 x6_3).f1)) = true := decide_eq_true c16
    clear c16
    by_cases c17 : ((rd_T98 l0 x6_3).f1) < (l1.length : Int)
    rotate_left
    ·rw [if_neg c17] at H
     exact absurd H (by simp)
    rw [if_pos c17] at H
    have c17b0 : decide (((rd_T98 l0 x6_3).f1) < (l1.length : Int)) = true := decide_eq_true c17
    clear c17
    by_cases c18 : (rd l1 ((rd_T98 l0 x6_3).f0)) ≥ (rd l1 ((rd_T98 l0 x6_3).f1))
    ·rw [if_pos c18] at H
     have c18b0 : decide ((rd l1 ((rd_T98 l0 x6_3).f1)) ≤ (rd l1 ((rd_T98 l0 x6_3).f0))) = true := decide_eq_true c18
     clear c18
     obtain rfl := Option.some.inj H
     have p592 : 0 ≤ (x6_3 : Int) := of_decide_eq_true dg_
     have q592 : x6_3 < (l0.length : Int) := of_decide_eq_true dg_
     obtain ⟨ad592, e592, hx592_0, hx592_1⟩ := at_T98 HR0.out x6_3 p592 q592
     cases e592
     replace hx592_0 := hc_ HB hx592_0
     replace hx592_1 := hc_ HB hx592_1
     replace p592 := eq_true p592
     replace q592 := eq_true q592
     have p593 : 0 ≤ (((rd_T98 l0 x6_3).f0) : Int) := of_decide_eq_true dg_
     have q593 : ((rd_T98 l0 x6_3).f0) < (l1.length : Int) := of_decide_eq_true dg_
     obtain ⟨ad593, e593, hx593_0⟩ := Kd.at_int HR1.out ((rd_T98 l0 x6_3).f0) p593 q593
     cases e593
     replace hx593_0 := hc_ HB hx593_0
     replace p593 := eq_true p593
     replace q593 := eq_true q593
     have p594 : 0 ≤ (x6_3 : Int) := of_decide_eq_true dg_
     have q594 : x6_3 < (l0.length : Int) := of_decide_eq_true dg_
     obtain ⟨ad594, e594, hx594_0, hx594_1⟩ := at_T98 HR0.out x6_3 p594 q594
     obtain rfl : ad592 = ad594 := (by injection e594)
     replace hx594_0 := hc_ HB hx594_0
     replace hx594_1 := hc_ HB hx594_1
     replace p594 := eq_true p594
     replace q594 := eq_true q594
     have p595 : 0 ≤ (((rd_T98 l0 x6_3).f1) : Int) := of_decide_eq_true dg_
     have q595 : ((rd_T98 l0 x6_3).f1) < (l1.length : Int) := of_decide_eq_true dg_
     obtain ⟨ad595, e595, hx595_0⟩ := Kd.at_int HR1.out ((rd_T98 l0 x6_3).f1) p595 q595
     obtain rfl : ad593 = ad595 := (by injection e595)
     replace hx595_0 := hc_ HB hx595_0
     replace p595 := eq_true p595
     replace q595 := eq_true q595
     go_wp2
     repeat (go_quiet (fail); try go_wp2)
     go_ret
     exact ⟨fin_, bb_ HB.out⟩
    rw [if_neg c18] at H
    have c18b0 : decide ((rd l1 ((rd_T98 l0 x6_3).f1)) ≤ (rd l1 ((rd_T98 l0 x6_3).f0))) = false := decide_eq_false c18
    clear c18
    have H' := Aside0.mk H
    clear H
    have p592 : 0 ≤ (x6_3 : Int) := of_decide_eq_true dg_
    have q592 : x6_3 < (l0.length : Int) := of_decide_eq_true dg_
    obtain ⟨ad592, e592, hx592_0, hx592_1⟩ := at_T98 HR0.out x6_3 p592 q592
    cases e592
    replace hx592_0 := hc_ HB hx592_0
    replace hx592_1 := hc_ HB hx592_1
    replace p592 := eq_true p592
    replace q592 := eq_true q592
    have p593 : 0 ≤ (((rd_T98 l0 x6_3).f0) : Int) := of_decide_eq_true dg_
    have q593 : ((rd_T98 l0 x6_3).f0) < (l1.length : Int) := of_decide_eq_true dg_
    obtain ⟨ad593, e593, hx593_0⟩ := Kd.at_int HR1.out ((rd_T98 l0 x6_3).f0) p593 q593
    cases e593
    replace hx593_0 := hc_ HB hx593_0
    replace p593 := eq_true p593
    replace q593 := eq_true q593
    have p594 : 0 ≤ (x6_3 : Int) := of_decide_eq_true dg_
    have q594 : x6_3 < (l0.length : Int) := of_decide_eq_true dg_
    obtain ⟨ad594, e594, hx594_0, hx594_1⟩ := at_T98 HR0.out x6_3 p594 q594
    obtain rfl : ad592 = ad594 := (by injection e594)
    replace hx594_0 := hc_ HB hx594_0
    replace hx594_1 := hc_ HB hx594_1
    replace p594 := eq_true p594
    replace q594 := eq_true q594
    have p595 : 0 ≤ (((rd_T98 l0 x6_3).f1) : Int) := of_decide_eq_true dg_
    have q595 : ((rd_T98 l0 x6_3).f1) < (l1.length : Int) := of_decide_eq_true dg_
    obtain ⟨ad595, e595, hx595_0⟩ := Kd.at_int HR1.out ((rd_T98 l0 x6_3).f1) p595 q595
    obtain rfl : ad593 = ad595 := (by injection e595)
    replace hx595_0 := hc_ HB hx595_0
    replace p595 := eq_true p595
    replace q595 := eq_true q595
    go_wp2
    repeat (go_quiet (fail); try go_wp2)
    go_roundg k3
    case measure => have := HJ2.out; have := HK2.out; have := HK3.out; omega
    case rel => exact ⟨(wrap64 (x6_3 + 1)), ef_, H', ⟨by have := HJ2.out; have := HK2.out; have := HK3.out; omega⟩, ⟨bb_ HB.out⟩⟩

/-! ### spec_l10Has: function 84 -/
def spec_l10Has.l0 : Nat → List (S98) → Int → Int → Int → Option (Bool)
 | 0, _, _, _, _ => none
 | k + 1, x0, x1, x2, x7 => if x7 < (x0.length : Int) then (if 0 ≤ x7 then (if ((rd_T98 x0 x7).f0) = x1 then (if ((rd_T98 x0 x7).f1) = x2 then (some true) else (spec_l10Has.l0 k x0 x1 x2 (wrap64 (x7 + 1)))) else (spec_l10Has.l0 k x0 x1 x2 (wrap64 (x7 + 1)))) else (none)) else (some false)
def spec_l10Has.f (k : Nat) (l0 : List (S98)) (a1 : Int) (a2 : Int) : Option (Bool) := spec_l10Has.l0 k l0 a1 a2 0
theorem spec_l10Has.mono_l : ∀ k, (∀ y0 y1 y2 y3, LeO (spec_l10Has.l0 k y0 y1 y2 y3) (spec_l10Has.l0 (k + 1) y0 y1 y2 y3))
 | 0 => fun _ _ _ _ r h => by simp [spec_l10Has.l0] at h
 | k + 1 => by
  have ih0 := spec_l10Has.mono_l k
  ·intro y0 y1 y2 y3
   unfold spec_l10Has.l0
   repeat' (with_reducible first | exact ih0 .. | exact LeO.refl .. | exact LeO.none .. | refine LeO.ite ?_ ?_ | refine LeO.bind ?_ (fun _ => ?_))
theorem spec_l10Has.mono : ∀ a0 a1 a2 k, LeO (spec_l10Has.f k a0 a1 a2) (spec_l10Has.f (k + 1) a0 a1 a2) := by
 intro a0 a1 a2 k
 have ih0 := spec_l10Has.mono_l k
 unfold spec_l10Has.f
 repeat' (with_reducible first | exact ih0 .. | exact LeO.refl .. | exact LeO.none .. | refine LeO.ite ?_ ?_ | refine LeO.bind ?_ (fun _ => ?_))
theorem spec_l10Has.e0 {P : Prop} (h : P := by
 go_wp2
 go_roundg k1
 case measure => have := HK1.out; omega
 case rel => exact ⟨(wrap64 (x7_1 + 1)), ef_, H', ⟨by have := HK1.out; omega⟩, by repeat (first | exact Drawn0.refl _ | apply Drawn0.step)⟩) : P := h
theorem spec_l10Has.calls (k : Nat) (A0 : Option Addr) (c0 : Nat) (l0 : List (S98)) (a1 : Int) (a2 : Int) (r : Bool) (w : World) (hr0 : Kd.C k98 w A0 l0.length l0) (hc0 : l0.length ≤ c0) (h : spec_l10Has.f k l0 a1 a2 = some r) :
  Calls Tryz.prog 84 #[.slice A0 l0.length c0, .int .i64 a1, .int .i64 a2] w fun e w' => e = .returned (.bool r) ∧ Drawn0 w w' := by
 have HR0 := Aside0.mk hr0
 have HC0 := Aside0.mk hc0
 clear hr0 hc0
 have H : (spec_l10Has.l0 k l0 a1 a2 0) = some r := h
 clear h
 have H' := Aside0.mk H
 clear H
 go_enter Tryz.func84, Tryz.ntmps84
 go_wp2
 go_loopg [7] k (fun kq v7 w' => ∃ (x7_1 : Int), v7 = .int .i64 x7_1 ∧ Aside0 (spec_l10Has.l0 kq l0 a1 a2 x7_1 = some r) ∧ Aside0 (kq ≤ k) ∧ Drawn0 w w')
 case atStart => exact ⟨(0), ef_, H', ⟨Nat.le_refl _⟩, by repeat (first | exact Drawn0.refl _ | apply Drawn0.step)⟩
 clear H'
 obtain ⟨x7_1, rfl, HA, HK1, ⟨m1, rfl⟩⟩ := hrel
 obtain _ | k1 := gk
 ·exact absurd HA.out (by simp [spec_l10Has.l0])
 have H := HA.out
 clear HA
 simp only [spec_l10Has.l0] at H
 by_cases c4 : x7_1 < (l0.length : Int)
 rotate_left
 ·rw [if_neg c4] at H
  have c4b0 : decide (x7_1 < (l0.length : Int)) = false := decide_eq_false c4
  clear c4
  obtain rfl := Option.some.inj H
  go_wp2
  go_ret
  exact ⟨by first | rfl | (simp; done) | (simp [*]; done), by repeat (first | exact Drawn0.refl _ | apply Drawn0.step)⟩
 rw [if_pos c4] at H
 have c4b0 : decide (x7_1 < (l0.length : Int)) = true := decide_eq_true c4
 clear c4
 by_cases c5 : 0 ≤ x7_1
 rotate_left
 ·rw [if_neg c5] at H
  exact absurd H (by simp)
 rw [if_pos c5] at H
 have c5b0 : decide (0 ≤ x7_1) = true := decide_eq_true c5
 clear c5
 by_cases c6 : ((rd_T98 l0 x7_1).f0) = a1
 rotate_left
 ·rw [if_neg c6] at H
  have c6b0 : (((rd_T98 l0 x7_1).f0) == a1) = false := beq_eq_false_iff_ne.mpr c6
  have c6b1 : (((rd_T98 l0 x7_1).f0) != a1) = true := bne_iff_ne.mpr c6
  have H' := Aside0.mk H
  clear H
  have p596 : 0 ≤ (x7_1 : Int) := of_decide_eq_true dg_
  have q596 : x7_1 < (l0.length : Int) := of_decide_eq_true dg_
  obtain ⟨ad596, e596, hx596_0, hx596_1⟩ := at_T98 HR0.out x7_1 p596 q596
  cases e596
  replace p596 := eq_true p596
  replace q596 := eq_true q596
  exact spec_l10Has.e0
 rw [if_pos c6] at H
 have c6b0 : (((rd_T98 l0 x7_1).f0) == a1) = true := beq_iff_eq.mpr c6
 have c6b1 : (((rd_T98 l0 x7_1).f0) != a1) = false := bne_eq_false_iff_eq.mpr c6
 clear c6
 by_cases c7 : ((rd_T98 l0 x7_1).f1) = a2
 rotate_left
 ·rw [if_neg c7] at H
  have c7b0 : (((rd_T98 l0 x7_1).f1) == a2) = false := beq_eq_false_iff_ne.mpr c7
  have c7b1 : (((rd_T98 l0 x7_1).f1) != a2) = true := bne_iff_ne.mpr c7
  have H' := Aside0.mk H
  clear H
  have p596 : 0 ≤ (x7_1 : Int) := of_decide_eq_true dg_
  have q596 : x7_1 < (l0.length : Int) := of_decide_eq_true dg_
  obtain ⟨ad596, e596, hx596_0, hx596_1⟩ := at_T98 HR0.out x7_1 p596 q596
  cases e596
  replace p596 := eq_true p596
  replace q596 := eq_true q596
  have p597 : 0 ≤ (x7_1 : Int) := of_decide_eq_true dg_
  have q597 : x7_1 < (l0.length : Int) := of_decide_eq_true dg_
  obtain ⟨ad597, e597, hx597_0, hx597_1⟩ := at_T98 HR0.out x7_1 p597 q597
  obtain rfl : ad596 = ad597 := (by injection e597)
  replace p597 := eq_true p597
  replace q597 := eq_true q597
  exact spec_l10Has.e0
 rw [if_pos c7] at H
 have c7b0 : (((rd_T98 l0 x7_1).f1) == a2) = true := beq_iff_eq.mpr c7
 have c7b1 : (((rd_T98 l0 x7_1).f1) != a2) = false := bne_eq_false_iff_eq.mpr c7
 clear c7
 obtain rfl := Option.some.inj H
 have p596 : 0 ≤ (x7_1 : Int) := of_decide_eq_true dg_
 have q596 : x7_1 < (l0.length : Int) := of_decide_eq_true dg_
 obtain ⟨ad596, e596, hx596_0, hx596_1⟩ := at_T98 HR0.out x7_1 p596 q596
 cases e596
 replace p596 := eq_true p596
 replace q596 := eq_true q596
 have p597 : 0 ≤ (x7_1 : Int) := of_decide_eq_true dg_
 have q597 : x7_1 < (l0.length : Int) := of_decide_eq_true dg_
 obtain ⟨ad597, e597, hx597_0, hx597_1⟩ := at_T98 HR0.out x7_1 p597 q597
 obtain rfl : ad596 = ad597 := (by injection e597)
 replace p597 := eq_true p597
 replace q597 := eq_true q597
 go_wp2
 go_ret
 exact ⟨by first | rfl | (simp; done) | (simp [*]; done), by repeat (first | exact Drawn0.refl _ | apply Drawn0.step)⟩

/-! ### spec_IsCycle: function 51 -/
def spec_IsCycle.l0 : Nat → List (S98) → List Int → Int → Option (Bool)
 | 0, _, _, _ => none
 | k + 1, x0, x1, x5 => if x5 < (x1.length : Int) then (if 0 ≤ x5 then (if x5 ≤ (x1.length : Int) then ((spec_l03Find.f k (x1.take (x5 : Int).toNat) (rd x1 x5)).bind fun t601 => (if t601 = true then (some false) else (if (x1.length : Int) = 0 then (none) else (if 0 ≤ (Int.tmod (wrap64 (x5 + 1)) (x1.length : Int)) then (if (Int.tmod (wrap64 (x5 + 1)) (x1.length : Int)) < (x1.length : Int) then ((spec_l10Has.f k x0 (rd x1 x5) (rd x1 (Int.tmod (wrap64 (x5 + 1)) (x1.length : Int)))).bind fun t604 => (if t604 = true then (spec_IsCycle.l0 k x0 x1 (wrap64 (x5 + 1))) else (some false))) else (none)) else (none))))) else (none)) else (none)) else (some (decide ((x1.length : Int) > 0)))
def spec_IsCycle.f (k : Nat) (l0 : List (S98)) (l1 : List Int) : Option (Bool) := (spec_DependsOk.f k l0).bind fun t598 => (if t598 = true then (spec_IsCycle.l0 k l0 l1 0) else (some false))
theorem spec_IsCycle.mono_l : ∀ k, (∀ y0 y1 y2, LeO (spec_IsCycle.l0 k y0 y1 y2) (spec_IsCycle.l0 (k + 1) y0 y1 y2))
 | 0 => fun _ _ _ r h => by simp [spec_IsCycle.l0] at h
 | k + 1 => by
  have ih0 := spec_IsCycle.mono_l k
  ·intro y0 y1 y2
   unfold spec_IsCycle.l0
   repeat' (with_reducible first | exact ih0 .. | exact spec_DependsOk.mono .. | exact spec_l03Find.mono .. | exact spec_l10Has.mono .. | exact LeO.refl .. | exact LeO.none .. | refine LeO.ite ?_ ?_ | refine LeO.bind ?_ (fun _ => ?_))
theorem spec_IsCycle.mono : ∀ a0 a1 k, LeO (spec_IsCycle.f k a0 a1) (spec_IsCycle.f (k + 1) a0 a1) := by
 intro a0 a1 k
 have ih0 := spec_IsCycle.mono_l k
 unfold spec_IsCycle.f
 repeat' (with_reducible first | exact ih0 .. | exact spec_DependsOk.mono .. | exact spec_l03Find.mono .. | exact spec_l10Has.mono .. | exact LeO.refl .. | exact LeO.none .. | refine LeO.ite ?_ ?_ | refine LeO.bind ?_ (fun _ => ?_))
theorem spec_IsCycle.calls (k : Nat) (A0 : Option Addr) (c0 : Nat) (l0 : List (S98)) (A1 : Option Addr) (c1 : Nat) (l1 : List Int) (r : Bool) (w : World) (hr0 : Kd.C k98 w A0 l0.length l0) (hc0 : l0.length ≤ c0) (hr1 : Kd.C (Kd.int .i64) w A1 l1.length l1) (hc1 : l1.length ≤ c1) (h : spec_IsCycle.f k l0 l1 = some r) :
  Calls Tryz.prog 51 #[.slice A0 l0.length c0, .slice A1 l1.length c1] w fun e w' => e = .returned (.bool r) ∧ Below w.heap.size w w' := by
 have HR0 := Aside0.mk hr0
 have HC0 := Aside0.mk hc0
 clear hr0 hc0
 have HR1 := Aside0.mk hr1
 have HC1 := Aside0.mk hc1
 clear hr1 hc1
 have HB := Aside0.mk (Below.refl w.heap.size w)
 have H : ((spec_DependsOk.f k l0).bind fun t598 => (if t598 = true then (spec_IsCycle.l0 k l0 l1 0) else (some false))) = some r := h
 clear h
 obtain ⟨t598, A3, H⟩ := bi_ H
 by_cases c4 : t598 = true
 ·subst c4
  rw [if_pos rfl] at H
  have H' := Aside0.mk H
  clear H
  go_enter Tryz.func51, Tryz.ntmps51
  go_wp2_with (first | (go_at_call 60; (with_reducible refine (spec_DependsOk.calls k _ _ l0 true _ ?side1 HC0.out A3.out).mono ?_); (case side1 => repeat (first | exact HR0.out | (with_reducible refine Kd.C_alloc ?_ _) | (with_reducible refine Kd.C_drewN ?_ _) | (with_reducible refine Kd.C_drew ?_))); rintro e w5 ⟨rfl, hb⟩; replace HB := hs_ HB hb; (try clear hb)))
  repeat (go_quiet (first | (go_at_call 60; (with_reducible refine (spec_DependsOk.calls k _ _ l0 true _ ?side1 HC0.out A3.out).mono ?_); (case side1 => repeat (first | exact HR0.out | (with_reducible refine Kd.C_alloc ?_ _) | (with_reducible refine Kd.C_drewN ?_ _) | (with_reducible refine Kd.C_drew ?_))); rintro e w5 ⟨rfl, hb⟩; replace HB := hs_ HB hb; (try clear hb))); try go_wp2_with (first | (go_at_call 60; (with_reducible refine (spec_DependsOk.calls k _ _ l0 true _ ?side1 HC0.out A3.out).mono ?_); (case side1 => repeat (first | exact HR0.out | (with_reducible refine Kd.C_alloc ?_ _) | (with_reducible refine Kd.C_drewN ?_ _) | (with_reducible refine Kd.C_drew ?_))); rintro e w5 ⟨rfl, hb⟩; replace HB := hs_ HB hb; (try clear hb))))
  go_loopg [5] k (fun kq v5 w' => ∃ (x5_1 : Int), v5 = .int .i64 x5_1 ∧ Aside0 (spec_IsCycle.l0 kq l0 l1 x5_1 = some r) ∧ Aside0 (kq ≤ k) ∧ Aside0 (Below w.heap.size w w'))
  case atStart => exact ⟨(0), ef_, H', ⟨Nat.le_refl _⟩, ⟨bb_ HB.out⟩⟩
  clear H'
  try clear c4
  obtain ⟨x5_1, rfl, HA, HK1, HB⟩ := hrel
  obtain _ | k1 := gk
  ·exact absurd HA.out (by simp [spec_IsCycle.l0])
  have H := HA.out
  clear HA
  simp only [spec_IsCycle.l0] at H
  by_cases c6 : x5_1 < (l1.length : Int)
  rotate_left
  ·rw [if_neg c6] at H
   have c6b0 : decide (x5_1 < (l1.length : Int)) = false := decide_eq_false c6
   clear c6
   obtain rfl := Option.some.inj H
   go_wp2
   repeat (go_quiet (fail); try go_wp2)
   go_ret
   exact ⟨fin_, bb_ HB.out⟩
  rw [if_pos c6] at H
  have c6b0 : decide (x5_1 < (l1.length : Int)) = true := decide_eq_true c6
  clear c6
  by_cases c7 : 0 ≤ x5_1
  rotate_left
  ·rw [if_neg c7] at H
   exact absurd H (by simp)
  rw [if_pos c7] at H
  have c7b0 := eq_true c7
  have c7b1 : decide (0 ≤ x5_1) = true := decide_eq_true c7
  clear c7
  by_cases c8 : x5_1 ≤ (l1.length : Int)
  rotate_left
  ·rw [if_neg c8] at H
   exact absurd H (by simp)
  rw [if_pos c8] at H
  have c8b0 := eq_true c8
  have c8b1 : decide (x5_1 ≤ (l1.length : Int)) = true := decide_eq_true c8
  clear c8
  obtain ⟨t601, A9, H⟩ := bi_ H
  by_cases c10 : t601 = true
  ·subst c10
   rw [if_pos rfl] at H
   obtain rfl := Option.some.inj H
   obtain ⟨i011, hi011, _, hsz11, _⟩ := info_parts info3
   obtain ⟨hcut11, hA11, hC11⟩ := print_take_of (P := Tryz.prog) (Value.int .i64) 0 24 3 .i64 Tryz.underlying24 hi011 hsz11 A1 c1 l1 x5_1 (of_decide_eq_true dg_) (of_decide_eq_true dg_) HC1.out
   have hlT_ : (l1.take (x5_1 : Int).toNat).length = (x5_1 : Int).toNat := tkl_ (of_decide_eq_true dg_)
   have HR599 := Aside0.mk (Kd.C_of_reads (h1 := fun _ => rfl) (hA11 _ (Kd.reads_of_C HR1.out)))
   have HC599 := Aside0.mk hC11
   clear hA11 hC11 hi011 hsz11
   have p600 : 0 ≤ (x5_1 : Int) := of_decide_eq_true dg_
   have q600 : x5_1 < (l1.length : Int) := of_decide_eq_true dg_
   obtain ⟨ad600, e600, hx600_0⟩ := Kd.at_int HR1.out x5_1 p600 q600
   cases e600
   replace hx600_0 := hc_ HB hx600_0
   replace p600 := eq_true p600
   replace q600 := eq_true q600
   go_wp2_with (first | (go_at_call 83; (conv => arg 3; rw [← hlT_]); (with_reducible refine (spec_l03Find.calls k1 _ _ (l1.take (x5_1 : Int).toNat) (rd l1 x5_1) true _ ?side1 HC599.out A9.out).mono ?_); (case side1 => exact cb_ HR599.out HB.out); rintro e w' ⟨rfl, ⟨nd, rfl⟩⟩; (try first | exact ⟨rfl, _, World.drewN_drewN _ _ _⟩ | exact ⟨rfl, _, Eq.trans (World.drewN_drewN _ _ _) (congrArg (World.drewN _) (Nat.add_assoc _ _ _))⟩)))
   repeat (go_quiet (first | (go_at_call 83; (conv => arg 3; rw [← hlT_]); (with_reducible refine (spec_l03Find.calls k1 _ _ (l1.take (x5_1 : Int).toNat) (rd l1 x5_1) true _ ?side1 HC599.out A9.out).mono ?_); (case side1 => exact cb_ HR599.out HB.out); rintro e w' ⟨rfl, ⟨nd, rfl⟩⟩; (try first | exact ⟨rfl, _, World.drewN_drewN _ _ _⟩ | exact ⟨rfl, _, Eq.trans (World.drewN_drewN _ _ _) (congrArg (World.drewN _) (Nat.add_assoc _ _ _))⟩))); try go_wp2_with (first | (go_at_call 83; (conv => arg 3; rw [← hlT_]); (with_reducible refine (spec_l03Find.calls k1 _ _ (l1.take (x5_1 : Int).toNat) (rd l1 x5_1) true _ ?side1 HC599.out A9.out).mono ?_); (case side1 => exact cb_ HR599.out HB.out); rintro e w' ⟨rfl, ⟨nd, rfl⟩⟩; (try first | exact ⟨rfl, _, World.drewN_drewN _ _ _⟩ | exact ⟨rfl, _, Eq.trans (World.drewN_drewN _ _ _) (congrArg (World.drewN _) (Nat.add_assoc _ _ _))⟩))))
   go_ret
   exact ⟨fin_, bb_ HB.out⟩
  replace c10 := Bool.eq_false_iff.mpr c10
  subst c10
  rw [if_neg (show ¬ (false = true) by decide)] at H
  by_cases c12 : (l1.length : Int) = 0
  ·rw [if_pos c12] at H
   exact absurd H (by simp)
  rw [if_neg c12] at H
  have c12b0 : ((l1.length : Int) == 0) = false := beq_eq_false_iff_ne.mpr c12
  have c12b1 : ((l1.length : Int) != 0) = true := bne_iff_ne.mpr c12
  have c12b2 : ¬ (l1 = []) := fun h_ => c12 (by rw [h_]; rfl)
  obtain ⟨ji13, hji13⟩ : ∃ j_ : Int, (Int.tmod (wrap64 (x5_1 + 1)) (l1.length : Int)) = j_ := ⟨_, rfl⟩
  replace H : (if 0 ≤ (ji13) then (if (ji13) < (l1.length : Int) then ((spec_l10Has.f k1 l0 (rd l1 x5_1) (rd l1 (ji13))).bind fun t604 => (if t604 = true then (spec_IsCycle.l0 k1 l0 l1 (wrap64 (x5_1 + 1))) else (some false))) else (none)) else (none)) = some r := by first | (rw [hji13] at H; exact H) | (simp only [hji13] at H ⊢; exact H)
  (try rw [hji13] at A9)
  by_cases c14 : 0 ≤ (ji13)
  rotate_left
  ·rw [if_neg c14] at H
   exact absurd H (by simp)
  rw [if_pos c14] at H
  have c14b0 : decide (0 ≤ (ji13)) = true := decide_eq_true c14
  clear c14
  by_cases c15 : (ji13) < (l1.length : Int)
  rotate_left
  ·rw [if_neg c15] at H
   exact absurd H (by simp)
  rw [if_pos c15] at H
  have c15b0 : decide ((ji13) < (l1.length : Int)) = true := decide_eq_true c15
  clear c15
  obtain ⟨t604, A16, H⟩ := bi_ H
  by_cases c17 : t604 = true
  ·subst c17
   rw [if_pos rfl] at H
   have H' := Aside0.mk H
   clear H
   obtain ⟨i018, hi018, _, hsz18, _⟩ := info_parts info3
   obtain ⟨hcut18, hA18, hC18⟩ := print_take_of (P := Tryz.prog) (Value.int .i64) 0 24 3 .i64 Tryz.underlying24 hi018 hsz18 A1 c1 l1 x5_1 (of_decide_eq_true dg_) (of_decide_eq_true dg_) HC1.out
   have hlT_ : (l1.take (x5_1 : Int).toNat).length = (x5_1 : Int).toNat := tkl_ (of_decide_eq_true dg_)
   have HR599 := Aside0.mk (Kd.C_of_reads (h1 := fun _ => rfl) (hA18 _ (Kd.reads_of_C HR1.out)))
   have HC599 := Aside0.mk hC18
   clear hA18 hC18 hi018 hsz18
   have p600 : 0 ≤ (x5_1 : Int) := of_decide_eq_true dg_
   have q600 : x5_1 < (l1.length : Int) := of_decide_eq_true dg_
   obtain ⟨ad600, e600, hx600_0⟩ := Kd.at_int HR1.out x5_1 p600 q600
   cases e600
   replace hx600_0 := hc_ HB hx600_0
   replace p600 := eq_true p600
   replace q600 := eq_true q600
   have p602 : 0 ≤ (x5_1 : Int) := of_decide_eq_true dg_
   have q602 : x5_1 < (l1.length : Int) := of_decide_eq_true dg_
   obtain ⟨ad602, e602, hx602_0⟩ := Kd.at_int HR1.out x5_1 p602 q602
   obtain rfl : ad600 = ad602 := (by injection e602)
   replace hx602_0 := hc_ HB hx602_0
   replace p602 := eq_true p602
   replace q602 := eq_true q602
   have p603 : 0 ≤ ((ji13) : Int) := of_decide_eq_true dg_
   have q603 : (ji13) < (l1.length : Int) := of_decide_eq_true dg_
   obtain ⟨ad603, e603, hx603_0⟩ := Kd.at_int HR1.out (ji13) p603 q603
   obtain rfl : ad600 = ad603 := (by injection e603)
   replace hx603_0 := hc_ HB hx603_0
   replace p603 := eq_true p603
   replace q603 := eq_true q603
   go_wp2_with (first | (go_at_call 83; (conv => arg 3; rw [← hlT_]); (with_reducible refine (spec_l03Find.calls k1 _ _ (l1.take (x5_1 : Int).toNat) (rd l1 x5_1) false _ ?side1 HC599.out A9.out).mono ?_); (case side1 => exact cb_ HR599.out HB.out); rintro e w' ⟨rfl, ⟨nd, rfl⟩⟩; (try first | exact ⟨rfl, _, World.drewN_drewN _ _ _⟩ | exact ⟨rfl, _, Eq.trans (World.drewN_drewN _ _ _) (congrArg (World.drewN _) (Nat.add_assoc _ _ _))⟩)) | (go_at_call 84; (with_reducible refine (spec_l10Has.calls k1 _ _ l0 (rd l1 x5_1) (rd l1 (ji13)) true _ ?side1 HC0.out A16.out).mono ?_); (case side1 => exact cb_ HR0.out HB.out); rintro e w' ⟨rfl, ⟨nd, rfl⟩⟩; (try first | exact ⟨rfl, _, World.drewN_drewN _ _ _⟩ | exact ⟨rfl, _, Eq.trans (World.drewN_drewN _ _ _) (congrArg (World.drewN _) (Nat.add_assoc _ _ _))⟩)))
   repeat (go_quiet (first | (go_at_call 83; (conv => arg 3; rw [← hlT_]); (with_reducible refine (spec_l03Find.calls k1 _ _ (l1.take (x5_1 : Int).toNat) (rd l1 x5_1) false _ ?side1 HC599.out A9.out).mono ?_); (case side1 => exact cb_ HR599.out HB.out); rintro e w' ⟨rfl, ⟨nd, rfl⟩⟩; (try first | exact ⟨rfl, _, World.drewN_drewN _ _ _⟩ | exact ⟨rfl, _, Eq.trans (World.drewN_drewN _ _ _) (congrArg (World.drewN _) (Nat.add_assoc _ _ _))⟩)) | (go_at_call 84; (with_reducible refine (spec_l10Has.calls k1 _ _ l0 (rd l1 x5_1) (rd l1 (ji13)) true _ ?side1 HC0.out A16.out).mono ?_); (case side1 => exact cb_ HR0.out HB.out); rintro e w' ⟨rfl, ⟨nd, rfl⟩⟩; (try first | exact ⟨rfl, _, World.drewN_drewN _ _ _⟩ | exact ⟨rfl, _, Eq.trans (World.drewN_drewN _ _ _) (congrArg (World.drewN _) (Nat.add_assoc _ _ _))⟩))); try go_wp2_with (first | (go_at_call 83; (conv => arg 3; rw [← hlT_]); (with_reducible refine (spec_l03Find.calls k1 _ _ (l1.take (x5_1 : Int).toNat) (rd l1 x5_1) false _ ?side1 HC599.out A9.out).mono ?_); (case side1 => exact cb_ HR599.out HB.out); rintro e w' ⟨rfl, ⟨nd, rfl⟩⟩; (try first | exact ⟨rfl, _, World.drewN_drewN _ _ _⟩ | exact ⟨rfl, _, Eq.trans (World.drewN_drewN _ _ _) (congrArg (World.drewN _) (Nat.add_assoc _ _ _))⟩)) | (go_at_call 84; (with_reducible refine (spec_l10Has.calls k1 _ _ l0 (rd l1 x5_1) (rd l1 (ji13)) true _ ?side1 HC0.out A16.out).mono ?_); (case side1 => exact cb_ HR0.out HB.out); rintro e w' ⟨rfl, ⟨nd, rfl⟩⟩; (try first | exact ⟨rfl, _, World.drewN_drewN _ _ _⟩ | exact ⟨rfl, _, Eq.trans (World.drewN_drewN _ _ _) (congrArg (World.drewN _) (Nat.add_assoc _ _ _))⟩))))
   go_roundg k1
   case measure => have := HK1.out; omega
   case rel => exact ⟨(wrap64 (x5_1 + 1)), ef_, H', ⟨by have := HK1.out; omega⟩, ⟨bb_ HB.out⟩⟩
  replace c17 := Bool.eq_false_iff.mpr c17
  subst c17
  rw [if_neg (show ¬ (false = true) by decide)] at H
  obtain rfl := Option.some.inj H
  obtain ⟨i019, hi019, _, hsz19, _⟩ := info_parts info3
  obtain ⟨hcut19, hA19, hC19⟩ := print_take_of (P := Tryz.prog) (Value.int .i64) 0 24 3 .i64 Tryz.underlying24 hi019 hsz19 A1 c1 l1 x5_1 (of_decide_eq_true dg_) (of_decide_eq_true dg_) HC1.out
  have hlT_ : (l1.take (x5_1 : Int).toNat).length = (x5_1 : Int).toNat := tkl_ (of_decide_eq_true dg_)
  have HR599 := Aside0.mk (Kd.C_of_reads (h1 := fun _ => rfl) (hA19 _ (Kd.reads_of_C HR1.out)))
  have HC599 := Aside0.mk hC19
  clear hA19 hC19 hi019 hsz19
  have p600 : 0 ≤ (x5_1 : Int) := of_decide_eq_true dg_
  have q600 : x5_1 < (l1.length : Int) := of_decide_eq_true dg_
  obtain ⟨ad600, e600, hx600_0⟩ := Kd.at_int HR1.out x5_1 p600 q600
  cases e600
  replace hx600_0 := hc_ HB hx600_0
  replace p600 := eq_true p600
  replace q600 := eq_true q600
  have p602 : 0 ≤ (x5_1 : Int) := of_decide_eq_true dg_
  have q602 : x5_1 < (l1.length : Int) := of_decide_eq_true dg_
  obtain ⟨ad602, e602, hx602_0⟩ := Kd.at_int HR1.out x5_1 p602 q602
  obtain rfl : ad600 = ad602 := (by injection e602)
  replace hx602_0 := hc_ HB hx602_0
  replace p602 := eq_true p602
  replace q602 := eq_true q602
  have p603 : 0 ≤ ((ji13) : Int) := of_decide_eq_true dg_
  have q603 : (ji13) < (l1.length : Int) := of_decide_eq_true dg_
  obtain ⟨ad603, e603, hx603_0⟩ := Kd.at_int HR1.out (ji13) p603 q603
  obtain rfl : ad600 = ad603 := (by injection e603)
  replace hx603_0 := hc_ HB hx603_0
  replace p603 := eq_true p603
  replace q603 := eq_true q603
  go_wp2_with (first | (go_at_call 83; (conv => arg 3; rw [← hlT_]); (with_reducible refine (spec_l03Find.calls k1 _ _ (l1.take (x5_1 : Int).toNat) (rd l1 x5_1) false _ ?side1 HC599.out A9.out).mono ?_); (case side1 => exact cb_ HR599.out HB.out); rintro e w' ⟨rfl, ⟨nd, rfl⟩⟩; (try first | exact ⟨rfl, _, World.drewN_drewN _ _ _⟩ | exact ⟨rfl, _, Eq.trans (World.drewN_drewN _ _ _) (congrArg (World.drewN _) (Nat.add_assoc _ _ _))⟩)) | (go_at_call 84; (with_reducible refine (spec_l10Has.calls k1 _ _ l0 (rd l1 x5_1) (rd l1 (ji13)) false _ ?side1 HC0.out A16.out).mono ?_); (case side1 => exact cb_ HR0.out HB.out); rintro e w' ⟨rfl, ⟨nd, rfl⟩⟩; (try first | exact ⟨rfl, _, World.drewN_drewN _ _ _⟩ | exact ⟨rfl, _, Eq.trans (World.drewN_drewN _ _ _) (congrArg (World.drewN _) (Nat.add_assoc _ _ _))⟩)))
  repeat (go_quiet (first | (go_at_call 83; (conv => arg 3; rw [← hlT_]); (with_reducible refine (spec_l03Find.calls k1 _ _ (l1.take (x5_1 : Int).toNat) (rd l1 x5_1) false _ ?side1 HC599.out A9.out).mono ?_); (case side1 => exact cb_ HR599.out HB.out); rintro e w' ⟨rfl, ⟨nd, rfl⟩⟩; (try first | exact ⟨rfl, _, World.drewN_drewN _ _ _⟩ | exact ⟨rfl, _, Eq.trans (World.drewN_drewN _ _ _) (congrArg (World.drewN _) (Nat.add_assoc _ _ _))⟩)) | (go_at_call 84; (with_reducible refine (spec_l10Has.calls k1 _ _ l0 (rd l1 x5_1) (rd l1 (ji13)) false _ ?side1 HC0.out A16.out).mono ?_); (case side1 => exact cb_ HR0.out HB.out); rintro e w' ⟨rfl, ⟨nd, rfl⟩⟩; (try first | exact ⟨rfl, _, World.drewN_drewN _ _ _⟩ | exact ⟨rfl, _, Eq.trans (World.drewN_drewN _ _ _) (congrArg (World.drewN _) (Nat.add_assoc _ _ _))⟩))); try go_wp2_with (first | (go_at_call 83; (conv => arg 3; rw [← hlT_]); (with_reducible refine (spec_l03Find.calls k1 _ _ (l1.take (x5_1 : Int).toNat) (rd l1 x5_1) false _ ?side1 HC599.out A9.out).mono ?_); (case side1 => exact cb_ HR599.out HB.out); rintro e w' ⟨rfl, ⟨nd, rfl⟩⟩; (try first | exact ⟨rfl, _, World.drewN_drewN _ _ _⟩ | exact ⟨rfl, _, Eq.trans (World.drewN_drewN _ _ _) (congrArg (World.drewN _) (Nat.add_assoc _ _ _))⟩)) | (go_at_call 84; (with_reducible refine (spec_l10Has.calls k1 _ _ l0 (rd l1 x5_1) (rd l1 (ji13)) false _ ?side1 HC0.out A16.out).mono ?_); (case side1 => exact cb_ HR0.out HB.out); rintro e w' ⟨rfl, ⟨nd, rfl⟩⟩; (try first | exact ⟨rfl, _, World.drewN_drewN _ _ _⟩ | exact ⟨rfl, _, Eq.trans (World.drewN_drewN _ _ _) (congrArg (World.drewN _) (Nat.add_assoc _ _ _))⟩))))
  go_ret
  exact ⟨by first | rfl | (simp [errW_none, errW_some] <;> rfl) | (simp only [← hji13]; first | rfl | (simp [errW_none, errW_some] <;> rfl)) | (simp [*, errW_none, errW_some] <;> rfl), bb_ HB.out⟩
 ·replace c4 := Bool.eq_false_iff.mpr c4
  subst c4
  rw [if_neg (show ¬ (false = true) by decide)] at H
  obtain rfl := Option.some.inj H
  go_enter Tryz.func51, Tryz.ntmps51
  go_wp2_with (first | (go_at_call 60; (with_reducible refine (spec_DependsOk.calls k _ _ l0 false _ ?side1 HC0.out A3.out).mono ?_); (case side1 => repeat (first | exact HR0.out | (with_reducible refine Kd.C_alloc ?_ _) | (with_reducible refine Kd.C_drewN ?_ _) | (with_reducible refine Kd.C_drew ?_))); rintro e w20 ⟨rfl, hb⟩; replace HB := hs_ HB hb; (try clear hb)))
  repeat (go_quiet (first | (go_at_call 60; (with_reducible refine (spec_DependsOk.calls k _ _ l0 false _ ?side1 HC0.out A3.out).mono ?_); (case side1 => repeat (first | exact HR0.out | (with_reducible refine Kd.C_alloc ?_ _) | (with_reducible refine Kd.C_drewN ?_ _) | (with_reducible refine Kd.C_drew ?_))); rintro e w20 ⟨rfl, hb⟩; replace HB := hs_ HB hb; (try clear hb))); try go_wp2_with (first | (go_at_call 60; (with_reducible refine (spec_DependsOk.calls k _ _ l0 false _ ?side1 HC0.out A3.out).mono ?_); (case side1 => repeat (first | exact HR0.out | (with_reducible refine Kd.C_alloc ?_ _) | (with_reducible refine Kd.C_drewN ?_ _) | (with_reducible refine Kd.C_drew ?_))); rintro e w20 ⟨rfl, hb⟩; replace HB := hs_ HB hb; (try clear hb))))
  go_ret
  exact ⟨fin_, bb_ HB.out⟩

end Go.Proofs.YtimdefbpoddoaaaGreat.PFnVerdicts
-- thin
