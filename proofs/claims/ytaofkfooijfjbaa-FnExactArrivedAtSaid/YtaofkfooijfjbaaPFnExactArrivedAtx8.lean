/- Each function that the law comes to, as a plain function, with the proof that the call in the model gives what that function says (written by a program of this session out of the translation). No condition. -/
import Derived.Test.YtaofkfooijfjbaaPFnExactArrivedAtx0
import Derived.Test.YtaofkfooijfjbaaPFnExactArrivedAtx4
import Derived.Test.YtaofkfooijfjbaaPFnExactArrivedAtx6
import Derived.Test.YtaofkfooijfjbaaPFnExactArrivedAtx7
namespace Go.Proofs.Ytaofkfooijfjbaa.PFnExactArrivedAt
open Go.RowKit Go.Proofs.YtaofkfooijfjbaaW.PrintWords Go.Proofs.YtaofkfooijfjbaaW.PrintLast Go.Proofs.YtaofkfooijfjbaaW.PrintMore
attribute [local go_sem] max2_int min2_int max_two min_two max_three min_three max_four min_four   -- for this text's walks alone
set_option linter.unusedVariables false
set_option linter.unusedSimpArgs false

/-! ### spec_NetOk: function 69 -/
mutual
def spec_NetOk.j0 : Nat → Int → Bool → Int → Int → List Int → List Int → List Int → List (List (S112)) → List Int → List Int → List (List (S112)) → List (List (S112)) → Int → Option (Bool)
 | 0, _, _, _, _, _, _, _, _, _, _, _, _, _ => none
 | k + 1, x3, x62, x328000, x328001, x328002, x328003, x328004, x328005, x328006, x328007, x328008, x328009, x328010 => if x62 = true then (some false) else (spec_NetOk.l0 k x3 0 x328000 x328001 x328002 x328003 x328004 x328005 x328006 x328007 x328008 x328009 x328010)
def spec_NetOk.l0 : Nat → Int → Int → Int → Int → List Int → List Int → List Int → List (List (S112)) → List Int → List Int → List (List (S112)) → List (List (S112)) → Int → Option (Bool)
 | 0, _, _, _, _, _, _, _, _, _, _, _, _, _ => none
 | k + 1, x3, x4, x328000, x328001, x328002, x328003, x328004, x328005, x328006, x328007, x328008, x328009, x328010 => if x4 < (wrap64 (10 * x3)) then (if 0 ≤ x4 then (if x4 < (x328005.length : Int) then (if ((rd_L3 x328005 x4).length : Int) > 3 then (spec_NetOk.j2 k x3 x4 (rd_L3 x328005 x4) true x328000 x328001 x328002 x328003 x328004 x328005 x328006 x328007 x328008 x328009 x328010) else ((spec_l15Flits.f k x328000 x328001 (rd_L3 x328005 x4)).bind fun t332 => (if t332 = true then (if x4 < (x328006.length : Int) then ((spec_l01In.f (rd x328006 x4) (-1) 4).bind fun t334 => (spec_NetOk.j2 k x3 x4 (rd_L3 x328005 x4) (!t334) x328000 x328001 x328002 x328003 x328004 x328005 x328006 x328007 x328008 x328009 x328010)) else (none)) else (spec_NetOk.j2 k x3 x4 (rd_L3 x328005 x4) true x328000 x328001 x328002 x328003 x328004 x328005 x328006 x328007 x328008 x328009 x328010)))) else (none)) else (none)) else (spec_NetOk.l2 k x3 0 x328000 x328001 x328002 x328003 x328004 x328005 x328006 x328007 x328008 x328009 x328010)
def spec_NetOk.j2 : Nat → Int → Int → List (S112) → Bool → Int → Int → List Int → List Int → List Int → List (List (S112)) → List Int → List Int → List (List (S112)) → List (List (S112)) → Int → Option (Bool)
 | 0, _, _, _, _, _, _, _, _, _, _, _, _, _, _, _ => none
 | k + 1, x3, x4, x5, x93, x328000, x328001, x328002, x328003, x328004, x328005, x328006, x328007, x328008, x328009, x328010 => if x93 = true then (some false) else (spec_NetOk.l1 k x3 x4 x5 0 x328000 x328001 x328002 x328003 x328004 x328005 x328006 x328007 x328008 x328009 x328010)
def spec_NetOk.l1 : Nat → Int → Int → List (S112) → Int → Int → Int → List Int → List Int → List Int → List (List (S112)) → List Int → List Int → List (List (S112)) → List (List (S112)) → Int → Option (Bool)
 | 0, _, _, _, _, _, _, _, _, _, _, _, _, _, _, _ => none
 | k + 1, x3, x4, x5, x6, x328000, x328001, x328002, x328003, x328004, x328005, x328006, x328007, x328008, x328009, x328010 => if x6 < (x5.length : Int) then (if 0 ≤ x6 then (if ((rd_T112 x5 x6).f2) = (Int.tmod x4 2) then (spec_NetOk.l1 k x3 x4 x5 (wrap64 (x6 + 1)) x328000 x328001 x328002 x328003 x328004 x328005 x328006 x328007 x328008 x328009 x328010) else (some false)) else (none)) else (spec_NetOk.l0 k x3 (wrap64 (x4 + 1)) x328000 x328001 x328002 x328003 x328004 x328005 x328006 x328007 x328008 x328009 x328010)
def spec_NetOk.l2 : Nat → Int → Int → Int → Int → List Int → List Int → List Int → List (List (S112)) → List Int → List Int → List (List (S112)) → List (List (S112)) → Int → Option (Bool)
 | 0, _, _, _, _, _, _, _, _, _, _, _, _, _ => none
 | k + 1, x3, x7, x328000, x328001, x328002, x328003, x328004, x328005, x328006, x328007, x328008, x328009, x328010 => if x7 < (wrap64 (5 * x3)) then (if 0 ≤ x7 then (if x7 < (x328007.length : Int) then ((spec_l01In.f (rd x328007 x7) 0 9).bind fun t337 => (if t337 = true then (spec_NetOk.l2 k x3 (wrap64 (x7 + 1)) x328000 x328001 x328002 x328003 x328004 x328005 x328006 x328007 x328008 x328009 x328010) else (some false))) else (none)) else (none)) else (spec_NetOk.l3 k x3 0 x328000 x328001 x328002 x328003 x328004 x328005 x328006 x328007 x328008 x328009 x328010)
def spec_NetOk.l3 : Nat → Int → Int → Int → Int → List Int → List Int → List Int → List (List (S112)) → List Int → List Int → List (List (S112)) → List (List (S112)) → Int → Option (Bool)
 | 0, _, _, _, _, _, _, _, _, _, _, _, _, _ => none
 | k + 1, x3, x8, x328000, x328001, x328002, x328003, x328004, x328005, x328006, x328007, x328008, x328009, x328010 => if x8 < x3 then (if 0 ≤ x8 then (if x8 < (x328008.length : Int) then (if ((rd_L3 x328008 x8).length : Int) > 60 then (some false) else ((spec_l15Flits.f k x328000 x328001 (rd_L3 x328008 x8)).bind fun t340 => (if t340 = true then (spec_NetOk.l3 k x3 (wrap64 (x8 + 1)) x328000 x328001 x328002 x328003 x328004 x328005 x328006 x328007 x328008 x328009 x328010) else (some false)))) else (none)) else (none)) else (some true)
end
def spec_NetOk.f (k : Nat) (a0_0 : Int) (a0_1 : Int) (l0_2 : List Int) (l0_3 : List Int) (l0_4 : List Int) (l0_5 : List (List (S112))) (l0_6 : List Int) (l0_7 : List Int) (l0_8 : List (List (S112))) (l0_9 : List (List (S112))) (a0_10 : Int) : Option (Bool) := (spec_NodeCount.f a0_0 a0_1).bind fun t328 => ((spec_ClassesOk.f k a0_0 a0_1 l0_2 l0_3 l0_4).bind fun t329 => (if t329 = true then (if (l0_5.length : Int) = (wrap64 (10 * t328)) then (if (l0_6.length : Int) = (wrap64 (10 * t328)) then (if (l0_7.length : Int) = (wrap64 (5 * t328)) then (if (l0_8.length : Int) = t328 then (if (l0_9.length : Int) = t328 then ((spec_l01In.f a0_10 0 1000000).bind fun t330 => (spec_NetOk.j0 k t328 (!t330) a0_0 a0_1 l0_2 l0_3 l0_4 l0_5 l0_6 l0_7 l0_8 l0_9 a0_10)) else (spec_NetOk.j0 k t328 true a0_0 a0_1 l0_2 l0_3 l0_4 l0_5 l0_6 l0_7 l0_8 l0_9 a0_10)) else (spec_NetOk.j0 k t328 true a0_0 a0_1 l0_2 l0_3 l0_4 l0_5 l0_6 l0_7 l0_8 l0_9 a0_10)) else (spec_NetOk.j0 k t328 true a0_0 a0_1 l0_2 l0_3 l0_4 l0_5 l0_6 l0_7 l0_8 l0_9 a0_10)) else (spec_NetOk.j0 k t328 true a0_0 a0_1 l0_2 l0_3 l0_4 l0_5 l0_6 l0_7 l0_8 l0_9 a0_10)) else (spec_NetOk.j0 k t328 true a0_0 a0_1 l0_2 l0_3 l0_4 l0_5 l0_6 l0_7 l0_8 l0_9 a0_10)) else (spec_NetOk.j0 k t328 true a0_0 a0_1 l0_2 l0_3 l0_4 l0_5 l0_6 l0_7 l0_8 l0_9 a0_10)))
theorem spec_NetOk.mono_l : ∀ k, (∀ y0 y1 y2 y3 y4 y5 y6 y7 y8 y9 y10 y11 y12, LeO (spec_NetOk.j0 k y0 y1 y2 y3 y4 y5 y6 y7 y8 y9 y10 y11 y12) (spec_NetOk.j0 (k + 1) y0 y1 y2 y3 y4 y5 y6 y7 y8 y9 y10 y11 y12)) ∧ (∀ y0 y1 y2 y3 y4 y5 y6 y7 y8 y9 y10 y11 y12, LeO (spec_NetOk.l0 k y0 y1 y2 y3 y4 y5 y6 y7 y8 y9 y10 y11 y12) (spec_NetOk.l0 (k + 1) y0 y1 y2 y3 y4 y5 y6 y7 y8 y9 y10 y11 y12)) ∧ (∀ y0 y1 y2 y3 y4 y5 y6 y7 y8 y9 y10 y11 y12 y13 y14, LeO (spec_NetOk.j2 k y0 y1 y2 y3 y4 y5 y6 y7 y8 y9 y10 y11 y12 y13 y14) (spec_NetOk.j2 (k + 1) y0 y1 y2 y3 y4 y5 y6 y7 y8 y9 y10 y11 y12 y13 y14)) ∧ (∀ y0 y1 y2 y3 y4 y5 y6 y7 y8 y9 y10 y11 y12 y13 y14, LeO (spec_NetOk.l1 k y0 y1 y2 y3 y4 y5 y6 y7 y8 y9 y10 y11 y12 y13 y14) (spec_NetOk.l1 (k + 1) y0 y1 y2 y3 y4 y5 y6 y7 y8 y9 y10 y11 y12 y13 y14)) ∧ (∀ y0 y1 y2 y3 y4 y5 y6 y7 y8 y9 y10 y11 y12, LeO (spec_NetOk.l2 k y0 y1 y2 y3 y4 y5 y6 y7 y8 y9 y10 y11 y12) (spec_NetOk.l2 (k + 1) y0 y1 y2 y3 y4 y5 y6 y7 y8 y9 y10 y11 y12)) ∧ (∀ y0 y1 y2 y3 y4 y5 y6 y7 y8 y9 y10 y11 y12, LeO (spec_NetOk.l3 k y0 y1 y2 y3 y4 y5 y6 y7 y8 y9 y10 y11 y12) (spec_NetOk.l3 (k + 1) y0 y1 y2 y3 y4 y5 y6 y7 y8 y9 y10 y11 y12))
 | 0 => ⟨fun _ _ _ _ _ _ _ _ _ _ _ _ _ r h => by simp [spec_NetOk.j0] at h, fun _ _ _ _ _ _ _ _ _ _ _ _ _ r h => by simp [spec_NetOk.l0] at h, fun _ _ _ _ _ _ _ _ _ _ _ _ _ _ _ r h => by simp [spec_NetOk.j2] at h, fun _ _ _ _ _ _ _ _ _ _ _ _ _ _ _ r h => by simp [spec_NetOk.l1] at h, fun _ _ _ _ _ _ _ _ _ _ _ _ _ r h => by simp [spec_NetOk.l2] at h, fun _ _ _ _ _ _ _ _ _ _ _ _ _ r h => by simp [spec_NetOk.l3] at h⟩
 | k + 1 => by
  obtain ⟨ih0, ih1, ih2, ih3, ih4, ih5⟩ := spec_NetOk.mono_l k
  refine ⟨?_, ?_, ?_, ?_, ?_, ?_⟩
  ·intro y0 y1 y2 y3 y4 y5 y6 y7 y8 y9 y10 y11 y12
   unfold spec_NetOk.j0
   repeat' first
   | (with_reducible exact ih0 _ _ _ _ _ _ _ _ _ _ _ _ _)
   | (with_reducible exact ih1 _ _ _ _ _ _ _ _ _ _ _ _ _)
   | (with_reducible exact ih2 _ _ _ _ _ _ _ _ _ _ _ _ _ _ _)
   | (with_reducible exact ih3 _ _ _ _ _ _ _ _ _ _ _ _ _ _ _)
   | (with_reducible exact ih4 _ _ _ _ _ _ _ _ _ _ _ _ _)
   | (with_reducible exact ih5 _ _ _ _ _ _ _ _ _ _ _ _ _)
   | (with_reducible exact spec_ClassesOk.mono _ _ _ _ _ _)
   | (with_reducible exact spec_l15Flits.mono _ _ _ _)
   | (with_reducible exact LeO.refl _)
   | (with_reducible exact LeO.none _)
   | (with_reducible refine LeO.ite ?_ ?_)
   | (with_reducible refine LeO.bind ?_ (fun _ => ?_))
   | exact ih0 _ _ _ _ _ _ _ _ _ _ _ _ _
   | exact ih1 _ _ _ _ _ _ _ _ _ _ _ _ _
   | exact ih2 _ _ _ _ _ _ _ _ _ _ _ _ _ _ _
   | exact ih3 _ _ _ _ _ _ _ _ _ _ _ _ _ _ _
   | exact ih4 _ _ _ _ _ _ _ _ _ _ _ _ _
   | exact ih5 _ _ _ _ _ _ _ _ _ _ _ _ _
   | exact spec_ClassesOk.mono _ _ _ _ _ _
   | exact spec_l15Flits.mono _ _ _ _
   | exact LeO.none _
   | refine LeO.ite ?_ ?_
   | refine LeO.bind ?_ (fun _ => ?_)
  ·intro y0 y1 y2 y3 y4 y5 y6 y7 y8 y9 y10 y11 y12
   unfold spec_NetOk.l0
   repeat' first
   | (with_reducible exact ih0 _ _ _ _ _ _ _ _ _ _ _ _ _)
   | (with_reducible exact ih1 _ _ _ _ _ _ _ _ _ _ _ _ _)
   | (with_reducible exact ih2 _ _ _ _ _ _ _ _ _ _ _ _ _ _ _)
   | (with_reducible exact ih3 _ _ _ _ _ _ _ _ _ _ _ _ _ _ _)
   | (with_reducible exact ih4 _ _ _ _ _ _ _ _ _ _ _ _ _)
   | (with_reducible exact ih5 _ _ _ _ _ _ _ _ _ _ _ _ _)
   | (with_reducible exact spec_ClassesOk.mono _ _ _ _ _ _)
   | (with_reducible exact spec_l15Flits.mono _ _ _ _)
   | (with_reducible exact LeO.refl _)
   | (with_reducible exact LeO.none _)
   | (with_reducible refine LeO.ite ?_ ?_)
   | (with_reducible refine LeO.bind ?_ (fun _ => ?_))
   | exact ih0 _ _ _ _ _ _ _ _ _ _ _ _ _
   | exact ih1 _ _ _ _ _ _ _ _ _ _ _ _ _
   | exact ih2 _ _ _ _ _ _ _ _ _ _ _ _ _ _ _
   | exact ih3 _ _ _ _ _ _ _ _ _ _ _ _ _ _ _
   | exact ih4 _ _ _ _ _ _ _ _ _ _ _ _ _
   | exact ih5 _ _ _ _ _ _ _ _ _ _ _ _ _
   | exact spec_ClassesOk.mono _ _ _ _ _ _
   | exact spec_l15Flits.mono _ _ _ _
   | exact LeO.none _
   | refine LeO.ite ?_ ?_
   | refine LeO.bind ?_ (fun _ => ?_)
  ·intro y0 y1 y2 y3 y4 y5 y6 y7 y8 y9 y10 y11 y12 y13 y14
   unfold spec_NetOk.j2
   repeat' first
   | (with_reducible exact ih0 _ _ _ _ _ _ _ _ _ _ _ _ _)
   | (with_reducible exact ih1 _ _ _ _ _ _ _ _ _ _ _ _ _)
   | (with_reducible exact ih2 _ _ _ _ _ _ _ _ _ _ _ _ _ _ _)
   | (with_reducible exact ih3 _ _ _ _ _ _ _ _ _ _ _ _ _ _ _)
   | (with_reducible exact ih4 _ _ _ _ _ _ _ _ _ _ _ _ _)
   | (with_reducible exact ih5 _ _ _ _ _ _ _ _ _ _ _ _ _)
   | (with_reducible exact spec_ClassesOk.mono _ _ _ _ _ _)
   | (with_reducible exact spec_l15Flits.mono _ _ _ _)
   | (with_reducible exact LeO.refl _)
   | (with_reducible exact LeO.none _)
   | (with_reducible refine LeO.ite ?_ ?_)
   | (with_reducible refine LeO.bind ?_ (fun _ => ?_))
   | exact ih0 _ _ _ _ _ _ _ _ _ _ _ _ _
   | exact ih1 _ _ _ _ _ _ _ _ _ _ _ _ _
   | exact ih2 _ _ _ _ _ _ _ _ _ _ _ _ _ _ _
   | exact ih3 _ _ _ _ _ _ _ _ _ _ _ _ _ _ _
   | exact ih4 _ _ _ _ _ _ _ _ _ _ _ _ _
   | exact ih5 _ _ _ _ _ _ _ _ _ _ _ _ _
   | exact spec_ClassesOk.mono _ _ _ _ _ _
   | exact spec_l15Flits.mono _ _ _ _
   | exact LeO.none _
   | refine LeO.ite ?_ ?_
   | refine LeO.bind ?_ (fun _ => ?_)
  ·intro y0 y1 y2 y3 y4 y5 y6 y7 y8 y9 y10 y11 y12 y13 y14
   unfold spec_NetOk.l1
   repeat' first
   | (with_reducible exact ih0 _ _ _ _ _ _ _ _ _ _ _ _ _)
   | (with_reducible exact ih1 _ _ _ _ _ _ _ _ _ _ _ _ _)
   | (with_reducible exact ih2 _ _ _ _ _ _ _ _ _ _ _ _ _ _ _)
   | (with_reducible exact ih3 _ _ _ _ _ _ _ _ _ _ _ _ _ _ _)
   | (with_reducible exact ih4 _ _ _ _ _ _ _ _ _ _ _ _ _)
   | (with_reducible exact ih5 _ _ _ _ _ _ _ _ _ _ _ _ _)
   | (with_reducible exact spec_ClassesOk.mono _ _ _ _ _ _)
   | (with_reducible exact spec_l15Flits.mono _ _ _ _)
   | (with_reducible exact LeO.refl _)
   | (with_reducible exact LeO.none _)
   | (with_reducible refine LeO.ite ?_ ?_)
   | (with_reducible refine LeO.bind ?_ (fun _ => ?_))
   | exact ih0 _ _ _ _ _ _ _ _ _ _ _ _ _
   | exact ih1 _ _ _ _ _ _ _ _ _ _ _ _ _
   | exact ih2 _ _ _ _ _ _ _ _ _ _ _ _ _ _ _
   | exact ih3 _ _ _ _ _ _ _ _ _ _ _ _ _ _ _
   | exact ih4 _ _ _ _ _ _ _ _ _ _ _ _ _
   | exact ih5 _ _ _ _ _ _ _ _ _ _ _ _ _
   | exact spec_ClassesOk.mono _ _ _ _ _ _
   | exact spec_l15Flits.mono _ _ _ _
   | exact LeO.none _
   | refine LeO.ite ?_ ?_
   | refine LeO.bind ?_ (fun _ => ?_)
  ·intro y0 y1 y2 y3 y4 y5 y6 y7 y8 y9 y10 y11 y12
   unfold spec_NetOk.l2
   repeat' first
   | (with_reducible exact ih0 _ _ _ _ _ _ _ _ _ _ _ _ _)
   | (with_reducible exact ih1 _ _ _ _ _ _ _ _ _ _ _ _ _)
   | (with_reducible exact ih2 _ _ _ _ _ _ _ _ _ _ _ _ _ _ _)
   | (with_reducible exact ih3 _ _ _ _ _ _ _ _ _ _ _ _ _ _ _)
   | (with_reducible exact ih4 _ _ _ _ _ _ _ _ _ _ _ _ _)
   | (with_reducible exact ih5 _ _ _ _ _ _ _ _ _ _ _ _ _)
   | (with_reducible exact spec_ClassesOk.mono _ _ _ _ _ _)
   | (with_reducible exact spec_l15Flits.mono _ _ _ _)
   | (with_reducible exact LeO.refl _)
   | (with_reducible exact LeO.none _)
   | (with_reducible refine LeO.ite ?_ ?_)
   | (with_reducible refine LeO.bind ?_ (fun _ => ?_))
   | exact ih0 _ _ _ _ _ _ _ _ _ _ _ _ _
   | exact ih1 _ _ _ _ _ _ _ _ _ _ _ _ _
   | exact ih2 _ _ _ _ _ _ _ _ _ _ _ _ _ _ _
   | exact ih3 _ _ _ _ _ _ _ _ _ _ _ _ _ _ _
   | exact ih4 _ _ _ _ _ _ _ _ _ _ _ _ _
   | exact ih5 _ _ _ _ _ _ _ _ _ _ _ _ _
   | exact spec_ClassesOk.mono _ _ _ _ _ _
   | exact spec_l15Flits.mono _ _ _ _
   | exact LeO.none _
   | refine LeO.ite ?_ ?_
   | refine LeO.bind ?_ (fun _ => ?_)
  ·intro y0 y1 y2 y3 y4 y5 y6 y7 y8 y9 y10 y11 y12
   unfold spec_NetOk.l3
   repeat' first
   | (with_reducible exact ih0 _ _ _ _ _ _ _ _ _ _ _ _ _)
   | (with_reducible exact ih1 _ _ _ _ _ _ _ _ _ _ _ _ _)
   | (with_reducible exact ih2 _ _ _ _ _ _ _ _ _ _ _ _ _ _ _)
   | (with_reducible exact ih3 _ _ _ _ _ _ _ _ _ _ _ _ _ _ _)
   | (with_reducible exact ih4 _ _ _ _ _ _ _ _ _ _ _ _ _)
   | (with_reducible exact ih5 _ _ _ _ _ _ _ _ _ _ _ _ _)
   | (with_reducible exact spec_ClassesOk.mono _ _ _ _ _ _)
   | (with_reducible exact spec_l15Flits.mono _ _ _ _)
   | (with_reducible exact LeO.refl _)
   | (with_reducible exact LeO.none _)
   | (with_reducible refine LeO.ite ?_ ?_)
   | (with_reducible refine LeO.bind ?_ (fun _ => ?_))
   | exact ih0 _ _ _ _ _ _ _ _ _ _ _ _ _
   | exact ih1 _ _ _ _ _ _ _ _ _ _ _ _ _
   | exact ih2 _ _ _ _ _ _ _ _ _ _ _ _ _ _ _
   | exact ih3 _ _ _ _ _ _ _ _ _ _ _ _ _ _ _
   | exact ih4 _ _ _ _ _ _ _ _ _ _ _ _ _
   | exact ih5 _ _ _ _ _ _ _ _ _ _ _ _ _
   | exact spec_ClassesOk.mono _ _ _ _ _ _
   | exact spec_l15Flits.mono _ _ _ _
   | exact LeO.none _
   | refine LeO.ite ?_ ?_
   | refine LeO.bind ?_ (fun _ => ?_)
theorem spec_NetOk.mono : ∀ a0 a1 a2 a3 a4 a5 a6 a7 a8 a9 a10 k, LeO (spec_NetOk.f k a0 a1 a2 a3 a4 a5 a6 a7 a8 a9 a10) (spec_NetOk.f (k + 1) a0 a1 a2 a3 a4 a5 a6 a7 a8 a9 a10) := by
 intro a0 a1 a2 a3 a4 a5 a6 a7 a8 a9 a10 k
 obtain ⟨ih0, ih1, ih2, ih3, ih4, ih5⟩ := spec_NetOk.mono_l k
 unfold spec_NetOk.f
 repeat' first
   | (with_reducible exact ih0 _ _ _ _ _ _ _ _ _ _ _ _ _)
   | (with_reducible exact ih1 _ _ _ _ _ _ _ _ _ _ _ _ _)
   | (with_reducible exact ih2 _ _ _ _ _ _ _ _ _ _ _ _ _ _ _)
   | (with_reducible exact ih3 _ _ _ _ _ _ _ _ _ _ _ _ _ _ _)
   | (with_reducible exact ih4 _ _ _ _ _ _ _ _ _ _ _ _ _)
   | (with_reducible exact ih5 _ _ _ _ _ _ _ _ _ _ _ _ _)
   | (with_reducible exact spec_ClassesOk.mono _ _ _ _ _ _)
   | (with_reducible exact spec_l15Flits.mono _ _ _ _)
   | (with_reducible exact LeO.refl _)
   | (with_reducible exact LeO.none _)
   | (with_reducible refine LeO.ite ?_ ?_)
   | (with_reducible refine LeO.bind ?_ (fun _ => ?_))
   | exact ih0 _ _ _ _ _ _ _ _ _ _ _ _ _
   | exact ih1 _ _ _ _ _ _ _ _ _ _ _ _ _
   | exact ih2 _ _ _ _ _ _ _ _ _ _ _ _ _ _ _
   | exact ih3 _ _ _ _ _ _ _ _ _ _ _ _ _ _ _
   | exact ih4 _ _ _ _ _ _ _ _ _ _ _ _ _
   | exact ih5 _ _ _ _ _ _ _ _ _ _ _ _ _
   | exact spec_ClassesOk.mono _ _ _ _ _ _
   | exact spec_l15Flits.mono _ _ _ _
   | exact LeO.none _
   | refine LeO.ite ?_ ?_
   | refine LeO.bind ?_ (fun _ => ?_)
def spec_NetOk.T23 : Bool × List (List Nat × List Nat) := (true, [([], []), ([0], [0]), ([], []), ([1, 2], [1, 2]), ([3], [3]), ([4], [4]), ([5], [5]), ([6], [6]), ([7], [7]), ([8, 7], [7, 8]), ([9, 7], [7, 9]), ([7], [7]), ([11, 7], [7, 11]), ([7], [7]), ([12, 13, 7], [7, 12, 13]), ([14, 7], [7, 14]), ([10, 15, 7, 7], [7, 10, 15]), ([16, 7], [7, 16]), ([7, 17], [7, 17])])
def spec_NetOk.B23 : List Nat := [0, 1, 0, 7, 15, 31, 63, 127, 255, 511, 1023, 255, 2303, 255, 14591, 30975, 65535, 131071, 262143]
theorem spec_NetOk.tab23 : rtab .any (opsOf Try.f69 23) = spec_NetOk.T23 := by kernel_rfl
theorem spec_NetOk.bits23 : waitsOk spec_NetOk.T23.2 spec_NetOk.B23 = true := by kernel_rfl
theorem spec_NetOk.e0 {P : Prop} (h : P := by
 obtain ⟨hcz_0, hcz_1, hcz_2, hcz_3, hcz_4, hcz_5, hcz_6, hcz_7, hcz_8, hcz_9, hcz_10, hfz_0, hfz_1, hfz_2, hfz_3, hfz_4, hfz_5, hfz_6, hfz_7, hfz_8, hfz_9, hfz_10⟩ := cz11_ BK327.out
 go_wp2_with (first | ((with_reducible refine gate_callee (f := 53) rfl ?_); refine gm_ (some 17) Try.func53 #[.agg #[.int .i64 a0_0, .int .i64 a0_1, .slice A0_2 l0_2.length c0_2], .agg #[.slice A0_3 l0_3.length c0_3, .slice A0_4 l0_4.length c0_4]] rfl ?_; (with_reducible refine (spec_ClassesOk.calls k a0_0 a0_1 _ _ l0_2 _ _ l0_3 _ _ l0_4 _ _ ?side1 HC0_2.out ?side3 HC0_3.out ?side5 HC0_4.out A7.out).mono ?_); (case side1 => exact cb_ HR0_2.out HB.out); (case side3 => exact cb_ HR0_3.out HB.out); (case side5 => exact cb_ HR0_4.out HB.out); rintro e w_0 ⟨rfl, hb⟩; refine ⟨_, rfl, ?_⟩; replace BK327 := Aside0.mk (bk_ BK327.out hb); replace HB := Aside0.mk (bs_ HB.out hb); (try clear hb); obtain ⟨hcz_0, hcz_1, hcz_2, hcz_3, hcz_4, hcz_5, hcz_6, hcz_7, hcz_8, hcz_9, hcz_10, hfz_0, hfz_1, hfz_2, hfz_3, hfz_4, hfz_5, hfz_6, hfz_7, hfz_8, hfz_9, hfz_10⟩ := cz11_ BK327.out))
 go_meet
 case rel => exact ⟨_, (true), ef_, H', ⟨kq_⟩, ⟨bq_ BK327.out⟩, ⟨bb_ HB.out⟩⟩) : P := h
set_option maxHeartbeats 8000000 in
set_option maxRecDepth 100000 in
theorem spec_NetOk.calls (k : Nat) (a0_0 : Int) (a0_1 : Int) (A0_2 : Option Addr) (c0_2 : Nat) (l0_2 : List Int) (A0_3 : Option Addr) (c0_3 : Nat) (l0_3 : List Int) (A0_4 : Option Addr) (c0_4 : Nat) (l0_4 : List Int) (A0_5 : Option Addr) (c0_5 : Nat) (l0_5 : List (List (S112))) (A0_6 : Option Addr) (c0_6 : Nat) (l0_6 : List Int) (A0_7 : Option Addr) (c0_7 : Nat) (l0_7 : List Int) (A0_8 : Option Addr) (c0_8 : Nat) (l0_8 : List (List (S112))) (A0_9 : Option Addr) (c0_9 : Nat) (l0_9 : List (List (S112))) (a0_10 : Int) (r : Bool) (w : World) (hr0_2 : Kd.C (Kd.int .i64) w A0_2 l0_2.length l0_2) (hc0_2 : l0_2.length ≤ c0_2) (hr0_3 : Kd.C (Kd.int .i64) w A0_3 l0_3.length l0_3) (hc0_3 : l0_3.length ≤ c0_3) (hr0_4 : Kd.C (Kd.int .i64) w A0_4 l0_4.length l0_4) (hc0_4 : l0_4.length ≤ c0_4) (hr0_5 : Kd.C (Kd.slice 112 k112) w A0_5 l0_5.length l0_5) (hc0_5 : l0_5.length ≤ c0_5) (hr0_6 : Kd.C (Kd.int .i64) w A0_6 l0_6.length l0_6) (hc0_6 : l0_6.length ≤ c0_6) (hr0_7 : Kd.C (Kd.int .i64) w A0_7 l0_7.length l0_7) (hc0_7 : l0_7.length ≤ c0_7) (hr0_8 : Kd.C (Kd.slice 112 k112) w A0_8 l0_8.length l0_8) (hc0_8 : l0_8.length ≤ c0_8) (hr0_9 : Kd.C (Kd.slice 112 k112) w A0_9 l0_9.length l0_9) (hc0_9 : l0_9.length ≤ c0_9) (h : spec_NetOk.f k a0_0 a0_1 l0_2 l0_3 l0_4 l0_5 l0_6 l0_7 l0_8 l0_9 a0_10 = some r) :
  Calls Try.prog 69 #[.agg #[.int .i64 a0_0, .int .i64 a0_1, .slice A0_2 l0_2.length c0_2, .slice A0_3 l0_3.length c0_3, .slice A0_4 l0_4.length c0_4, .slice A0_5 l0_5.length c0_5, .slice A0_6 l0_6.length c0_6, .slice A0_7 l0_7.length c0_7, .slice A0_8 l0_8.length c0_8, .slice A0_9 l0_9.length c0_9, .int .i64 a0_10]] w fun e w' => e = .returned (.bool r) ∧ Below w.heap.size w w' := by
 have hu37 := Try.underlying37
 have hu25 := Try.underlying25
 have hu28 := Try.underlying28
 have hu32 := Try.underlying32
 have HR0_2 := Aside0.mk hr0_2
 have HC0_2 := Aside0.mk hc0_2
 clear hr0_2 hc0_2
 have HR0_3 := Aside0.mk hr0_3
 have HC0_3 := Aside0.mk hc0_3
 clear hr0_3 hc0_3
 have HR0_4 := Aside0.mk hr0_4
 have HC0_4 := Aside0.mk hc0_4
 clear hr0_4 hc0_4
 have HR0_5 := Aside0.mk hr0_5
 have HC0_5 := Aside0.mk hc0_5
 clear hr0_5 hc0_5
 have HR0_6 := Aside0.mk hr0_6
 have HC0_6 := Aside0.mk hc0_6
 clear hr0_6 hc0_6
 have HR0_7 := Aside0.mk hr0_7
 have HC0_7 := Aside0.mk hc0_7
 clear hr0_7 hc0_7
 have HR0_8 := Aside0.mk hr0_8
 have HC0_8 := Aside0.mk hc0_8
 clear hr0_8 hc0_8
 have HR0_9 := Aside0.mk hr0_9
 have HC0_9 := Aside0.mk hc0_9
 clear hr0_9 hc0_9
 have HB := Aside0.mk (Below.refl w.heap.size w)
 have H : ((spec_NodeCount.f a0_0 a0_1).bind fun t328 => ((spec_ClassesOk.f k a0_0 a0_1 l0_2 l0_3 l0_4).bind fun t329 => (if t329 = true then (if (l0_5.length : Int) = (wrap64 (10 * t328)) then (if (l0_6.length : Int) = (wrap64 (10 * t328)) then (if (l0_7.length : Int) = (wrap64 (5 * t328)) then (if (l0_8.length : Int) = t328 then (if (l0_9.length : Int) = t328 then ((spec_l01In.f a0_10 0 1000000).bind fun t330 => (spec_NetOk.j0 k t328 (!t330) a0_0 a0_1 l0_2 l0_3 l0_4 l0_5 l0_6 l0_7 l0_8 l0_9 a0_10)) else (spec_NetOk.j0 k t328 true a0_0 a0_1 l0_2 l0_3 l0_4 l0_5 l0_6 l0_7 l0_8 l0_9 a0_10)) else (spec_NetOk.j0 k t328 true a0_0 a0_1 l0_2 l0_3 l0_4 l0_5 l0_6 l0_7 l0_8 l0_9 a0_10)) else (spec_NetOk.j0 k t328 true a0_0 a0_1 l0_2 l0_3 l0_4 l0_5 l0_6 l0_7 l0_8 l0_9 a0_10)) else (spec_NetOk.j0 k t328 true a0_0 a0_1 l0_2 l0_3 l0_4 l0_5 l0_6 l0_7 l0_8 l0_9 a0_10)) else (spec_NetOk.j0 k t328 true a0_0 a0_1 l0_2 l0_3 l0_4 l0_5 l0_6 l0_7 l0_8 l0_9 a0_10)) else (spec_NetOk.j0 k t328 true a0_0 a0_1 l0_2 l0_3 l0_4 l0_5 l0_6 l0_7 l0_8 l0_9 a0_10)))) = some r := h
 clear h
 replace H := Option.bind_eq_some_iff.mp H
 obtain ⟨t328, A20, H⟩ := H
 try dsimp only at H
 have A2 := Aside0.mk A20
 clear A20
 have HC3 := Aside0.mk H
 clear H
 go_enter Try.func69, Try.ntmps69
 go_upto_region 2 with (first | ((with_reducible refine gate_dst (N := 1) rfl ?_); (try (refine gate_guard (by rfl) ?_; dsimp only)); refine box_event ?hg (N := 1) ?hd (cs := #[.int .i64 a0_0, .int .i64 a0_1, .slice A0_2 l0_2.length c0_2, .slice A0_3 l0_3.length c0_3, .slice A0_4 l0_4.length c0_4, .slice A0_5 l0_5.length c0_5, .slice A0_6 l0_6.length c0_6, .slice A0_7 l0_7.length c0_7, .slice A0_8 l0_8.length c0_8, .slice A0_9 l0_9.length c0_9, .int .i64 a0_10]) (t := 37) ?hr ?_; (case hd => rfl); (case hg => rfl); (case hr => first | (go_simp; done) | (go_simp; rfl)); intro gb327 hg w4 hbox hb; have BK327 := Aside0.mk (hbox); have GW327 := Aside0.mk ((by rw [hg]; exact (bz_ HB.out) : w.heap.size ≤ gb327)); have GE327 := Aside0.mk ((by rw [hg]; exact (bz_ HB.out) : w.heap.size ≤ gb327)); replace HB := Aside0.mk (bs_ HB.out hb); clear hb hbox hg; obtain ⟨hcz5_0, hcz5_1, hcz5_2, hcz5_3, hcz5_4, hcz5_5, hcz5_6, hcz5_7, hcz5_8, hcz5_9, hcz5_10, hfz5_0, hfz5_1, hfz5_2, hfz5_3, hfz5_4, hfz5_5, hfz5_6, hfz5_7, hfz5_8, hfz5_9, hfz5_10⟩ := cz11_ BK327.out) | ((with_reducible refine gate_callee (f := 54) rfl ?_); refine gm_ (some 12) Try.func54 #[.agg #[.int .i64 a0_0, .int .i64 a0_1]] rfl ?_; (with_reducible refine (spec_NodeCount.calls a0_0 a0_1 t328 _ A2.out).mono ?_); rintro e w6 ⟨rfl, hb⟩; refine ⟨_, rfl, ?_⟩; replace BK327 := Aside0.mk (bk_ BK327.out hb); replace HB := Aside0.mk (bs_ HB.out hb); (try clear hb)))
 (try simp only [Act.put, List.setIfInBounds_toArray, List.set_cons_zero, List.set_cons_succ])
 go_cut [62] (fun v62 wc => ∃ (kq : Nat) (x62_2 : Bool), v62 = .bool x62_2 ∧ Aside0 (spec_NetOk.j0 kq t328 x62_2 a0_0 a0_1 l0_2 l0_3 l0_4 l0_5 l0_6 l0_7 l0_8 l0_9 a0_10 = some r) ∧ Aside0 (kq ≤ k) ∧ Aside0 (wc.heap[gb327]? = some (.cells #[.int .i64 a0_0, .int .i64 a0_1, (.slice A0_2 l0_2.length c0_2), (.slice A0_3 l0_3.length c0_3), (.slice A0_4 l0_4.length c0_4), (.slice A0_5 l0_5.length c0_5), (.slice A0_6 l0_6.length c0_6), (.slice A0_7 l0_7.length c0_7), (.slice A0_8 l0_8.length c0_8), (.slice A0_9 l0_9.length c0_9), .int .i64 a0_10] 37 (0, 0))) ∧ Aside0 (Below w.heap.size w wc))
 case first =>
  have H := HC3.out
  clear HC3
  replace H := Option.bind_eq_some_iff.mp H
  obtain ⟨t329, A70, H⟩ := H
  try dsimp only at H
  have A7 := Aside0.mk A70
  clear A70
  by_cases c8 : t329 = true
  ·subst c8
   rw [if_pos rfl] at H
   by_cases c9 : (l0_5.length : Int) = (wrap64 (10 * t328))
   ·rw [if_pos c9] at H
    have c9b0 : ((l0_5.length : Int) == (wrap64 (10 * t328))) = true := beq_iff_eq.mpr c9
    have c9b1 : ((l0_5.length : Int) != (wrap64 (10 * t328))) = false := bne_eq_false_iff_eq.mpr c9
    clear c9
    (first | rw [c9b0] | (simp only [i64_w, i32_w]; rw [c9b0]) | skip)
    by_cases c10 : (l0_6.length : Int) = (wrap64 (10 * t328))
    ·rw [if_pos c10] at H
     have c10b0 : ((l0_6.length : Int) == (wrap64 (10 * t328))) = true := beq_iff_eq.mpr c10
     have c10b1 : ((l0_6.length : Int) != (wrap64 (10 * t328))) = false := bne_eq_false_iff_eq.mpr c10
     clear c10
     by_cases c11 : (l0_7.length : Int) = (wrap64 (5 * t328))
     ·rw [if_pos c11] at H
      have c11b0 : ((l0_7.length : Int) == (wrap64 (5 * t328))) = true := beq_iff_eq.mpr c11
      have c11b1 : ((l0_7.length : Int) != (wrap64 (5 * t328))) = false := bne_eq_false_iff_eq.mpr c11
      clear c11
      by_cases c12 : (l0_8.length : Int) = t328
      ·rw [if_pos c12] at H
       have c12b0 : ((l0_8.length : Int) == t328) = true := beq_iff_eq.mpr c12
       have c12b1 : ((l0_8.length : Int) != t328) = false := bne_eq_false_iff_eq.mpr c12
       clear c12
       by_cases c13 : (l0_9.length : Int) = t328
       ·rw [if_pos c13] at H
        have c13b0 : ((l0_9.length : Int) == t328) = true := beq_iff_eq.mpr c13
        have c13b1 : ((l0_9.length : Int) != t328) = false := bne_eq_false_iff_eq.mpr c13
        clear c13
        replace H := Option.bind_eq_some_iff.mp H
        obtain ⟨t330, A140, H⟩ := H
        try dsimp only at H
        have A14 := Aside0.mk A140
        clear A140
        have H' := Aside0.mk H
        clear H
        obtain ⟨hcz15_0, hcz15_1, hcz15_2, hcz15_3, hcz15_4, hcz15_5, hcz15_6, hcz15_7, hcz15_8, hcz15_9, hcz15_10, hfz15_0, hfz15_1, hfz15_2, hfz15_3, hfz15_4, hfz15_5, hfz15_6, hfz15_7, hfz15_8, hfz15_9, hfz15_10⟩ := cz11_ BK327.out
        go_wp2_with (first | ((with_reducible refine gate_callee (f := 53) rfl ?_); refine gm_ (some 17) Try.func53 #[.agg #[.int .i64 a0_0, .int .i64 a0_1, .slice A0_2 l0_2.length c0_2], .agg #[.slice A0_3 l0_3.length c0_3, .slice A0_4 l0_4.length c0_4]] rfl ?_; (with_reducible refine (spec_ClassesOk.calls k a0_0 a0_1 _ _ l0_2 _ _ l0_3 _ _ l0_4 true _ ?side1 HC0_2.out ?side3 HC0_3.out ?side5 HC0_4.out A7.out).mono ?_); (case side1 => exact cb_ HR0_2.out HB.out); (case side3 => exact cb_ HR0_3.out HB.out); (case side5 => exact cb_ HR0_4.out HB.out); rintro e w16 ⟨rfl, hb⟩; refine ⟨_, rfl, ?_⟩; replace BK327 := Aside0.mk (bk_ BK327.out hb); replace HB := Aside0.mk (bs_ HB.out hb); (try clear hb); obtain ⟨hcz17_0, hcz17_1, hcz17_2, hcz17_3, hcz17_4, hcz17_5, hcz17_6, hcz17_7, hcz17_8, hcz17_9, hcz17_10, hfz17_0, hfz17_1, hfz17_2, hfz17_3, hfz17_4, hfz17_5, hfz17_6, hfz17_7, hfz17_8, hfz17_9, hfz17_10⟩ := cz11_ BK327.out) | (go_at_call 76; (with_reducible refine (spec_l01In.calls a0_10 0 1000000 t330 _ A14.out).mono ?_); rintro e w' ⟨rfl, ⟨nd, rfl⟩⟩))
        go_meet
        case rel => exact ⟨_, (!t330), ef_, H', ⟨kq_⟩, ⟨bq_ BK327.out⟩, ⟨bb_ HB.out⟩⟩
       ·rw [if_neg c13] at H
        have c13b0 : ((l0_9.length : Int) == t328) = false := beq_eq_false_iff_ne.mpr c13
        have c13b1 : ((l0_9.length : Int) != t328) = true := bne_iff_ne.mpr c13
        have H' := Aside0.mk H
        clear H
        exact spec_NetOk.e0
      ·rw [if_neg c12] at H
       have c12b0 : ((l0_8.length : Int) == t328) = false := beq_eq_false_iff_ne.mpr c12
       have c12b1 : ((l0_8.length : Int) != t328) = true := bne_iff_ne.mpr c12
       have H' := Aside0.mk H
       clear H
       exact spec_NetOk.e0
     ·rw [if_neg c11] at H
      have c11b0 : ((l0_7.length : Int) == (wrap64 (5 * t328))) = false := beq_eq_false_iff_ne.mpr c11
      have c11b1 : ((l0_7.length : Int) != (wrap64 (5 * t328))) = true := bne_iff_ne.mpr c11
      have H' := Aside0.mk H
      clear H
      exact spec_NetOk.e0
    ·rw [if_neg c10] at H
     have c10b0 : ((l0_6.length : Int) == (wrap64 (10 * t328))) = false := beq_eq_false_iff_ne.mpr c10
     have c10b1 : ((l0_6.length : Int) != (wrap64 (10 * t328))) = true := bne_iff_ne.mpr c10
     have H' := Aside0.mk H
     clear H
     exact spec_NetOk.e0
   ·rw [if_neg c9] at H
    have c9b0 : ((l0_5.length : Int) == (wrap64 (10 * t328))) = false := beq_eq_false_iff_ne.mpr c9
    have c9b1 : ((l0_5.length : Int) != (wrap64 (10 * t328))) = true := bne_iff_ne.mpr c9
    (first | rw [c9b0] | (simp only [i64_w, i32_w]; rw [c9b0]) | skip)
    have H' := Aside0.mk H
    clear H
    exact spec_NetOk.e0
  ·replace c8 := Bool.eq_false_iff.mpr c8
   subst c8
   rw [if_neg (show ¬ (false = true) by decide)] at H
   have H' := Aside0.mk H
   clear H
   exact spec_NetOk.e0
 case rest =>
  clear HC3
  try clear hcz5_0 hcz5_1 hcz5_10 hcz5_2 hcz5_3 hcz5_4 hcz5_5 hcz5_6 hcz5_7 hcz5_8 hcz5_9 hfz5_0 hfz5_1 hfz5_10 hfz5_2 hfz5_3 hfz5_4 hfz5_5 hfz5_6 hfz5_7 hfz5_8 hfz5_9
  obtain ⟨kq, x62_2, rfl, HA, HJ2, BK327, HB⟩ := hcut
  cases kq with
  | zero => exact absurd HA.out (by simp [spec_NetOk.j0])
  | succ kj2 =>
   have H := HA.out
   clear HA
   simp only [spec_NetOk.j0] at H
   by_cases c35 : x62_2 = true
   ·subst c35
    rw [if_pos rfl] at H
    obtain rfl := Option.some.inj H
    go_wp2
    go_ret
    exact ⟨fin_, bb_ HB.out⟩
   ·replace c35 := Bool.eq_false_iff.mpr c35
    subst c35
    rw [if_neg (show ¬ (false = true) by decide)] at H
    have H' := Aside0.mk H
    clear H
    go_wp2
    go_loopg [4] kj2 (fun kq v4 w' => ∃ (x4_2 : Int), v4 = .int .i64 x4_2 ∧ Aside0 (spec_NetOk.l0 kq t328 x4_2 a0_0 a0_1 l0_2 l0_3 l0_4 l0_5 l0_6 l0_7 l0_8 l0_9 a0_10 = some r) ∧ Aside0 (kq ≤ kj2) ∧ Aside0 (w'.heap[gb327]? = some (.cells #[.int .i64 a0_0, .int .i64 a0_1, (.slice A0_2 l0_2.length c0_2), (.slice A0_3 l0_3.length c0_3), (.slice A0_4 l0_4.length c0_4), (.slice A0_5 l0_5.length c0_5), (.slice A0_6 l0_6.length c0_6), (.slice A0_7 l0_7.length c0_7), (.slice A0_8 l0_8.length c0_8), (.slice A0_9 l0_9.length c0_9), .int .i64 a0_10] 37 (0, 0))) ∧ Aside0 (Below w.heap.size w w'))
    case atStart => exact ⟨(0), ef_, H', ⟨Nat.le_refl _⟩, ⟨bq_ BK327.out⟩, ⟨bb_ HB.out⟩⟩
    case round =>
     clear H'
     try clear c35
     try clear hcz5_0 hcz5_1 hcz5_10 hcz5_2 hcz5_3 hcz5_4 hcz5_5 hcz5_6 hcz5_7 hcz5_8 hcz5_9 hfz5_0 hfz5_1 hfz5_10 hfz5_2 hfz5_3 hfz5_4 hfz5_5 hfz5_6 hfz5_7 hfz5_8 hfz5_9
     obtain ⟨x4_2, rfl, HA, HK2, BK327, HB⟩ := hrel
     cases gk with
     | zero => exact absurd HA.out (by simp [spec_NetOk.l0])
     | succ k2 =>
      have H := HA.out
      clear HA
      simp only [spec_NetOk.l0] at H
      by_cases c36 : x4_2 < (wrap64 (10 * t328))
      ·rw [if_pos c36] at H
       have c36b0 : decide (x4_2 < (wrap64 (10 * t328))) = true := decide_eq_true c36
       clear c36
       by_cases c37 : 0 ≤ x4_2
       ·rw [if_pos c37] at H
        have c37b0 : decide (0 ≤ x4_2) = true := decide_eq_true c37
        clear c37
        by_cases c38 : x4_2 < (l0_5.length : Int)
        ·rw [if_pos c38] at H
         have c38b0 : decide (x4_2 < (l0_5.length : Int)) = true := decide_eq_true c38
         clear c38
         have HC39 := Aside0.mk H
         clear H
         obtain ⟨hcz40_0, hcz40_1, hcz40_2, hcz40_3, hcz40_4, hcz40_5, hcz40_6, hcz40_7, hcz40_8, hcz40_9, hcz40_10, hfz40_0, hfz40_1, hfz40_2, hfz40_3, hfz40_4, hfz40_5, hfz40_6, hfz40_7, hfz40_8, hfz40_9, hfz40_10⟩ := cz11_ BK327.out
         have p331 : 0 ≤ (x4_2 : Int) := of_decide_eq_true dg_
         have q331 : x4_2 < (l0_5.length : Int) := of_decide_eq_true dg_
         obtain ⟨ad331, A331_0, c331_0, e331, hx331_0, hl331_0, hi331_0⟩ := at_L3 HR0_5.out x4_2 p331 q331
         cases e331
         replace hx331_0 := (HB.out.cell (World.block_lt_of_cell? w _ hx331_0)).trans hx331_0
         have HR331_0 := Aside0.mk hi331_0
         have HC331_0 := Aside0.mk hl331_0
         clear hi331_0 hl331_0
         replace p331 := eq_true p331
         replace q331 := eq_true q331
         go_upto_region 8 with (fail)
         go_cut [93] (fun v93 wc => ∃ (kq : Nat) (x93_38 : Bool), v93 = .bool x93_38 ∧ Aside0 (spec_NetOk.j2 kq t328 x4_2 (rd_L3 l0_5 x4_2) x93_38 a0_0 a0_1 l0_2 l0_3 l0_4 l0_5 l0_6 l0_7 l0_8 l0_9 a0_10 = some r) ∧ Aside0 (kq ≤ k2) ∧ Aside0 (wc.heap[gb327]? = some (.cells #[.int .i64 a0_0, .int .i64 a0_1, (.slice A0_2 l0_2.length c0_2), (.slice A0_3 l0_3.length c0_3), (.slice A0_4 l0_4.length c0_4), (.slice (some ad331) l0_5.length c0_5), (.slice A0_6 l0_6.length c0_6), (.slice A0_7 l0_7.length c0_7), (.slice A0_8 l0_8.length c0_8), (.slice A0_9 l0_9.length c0_9), .int .i64 a0_10] 37 (0, 0))) ∧ Aside0 (Below w.heap.size w wc))
         case first =>
          have H := HC39.out
          clear HC39
          by_cases c41 : ((rd_L3 l0_5 x4_2).length : Int) > 3
          ·rw [if_pos c41] at H
           have c41b0 : decide (3 < ((rd_L3 l0_5 x4_2).length : Int)) = true := decide_eq_true c41
           have c41b1 : decide (3 < (rd_L3 l0_5 x4_2).length) = true := decide_eq_true (by omega)
           clear c41
           (first | rw [c41b0] | (simp only [i64_w, i32_w]; rw [c41b0]) | skip)
           have H' := Aside0.mk H
           clear H
           go_wp2
           go_meet
           case rel => exact ⟨_, (true), ef_, H', ⟨by have := HJ2.out; have := HK2.out; first | omega | exact Nat.le_refl _⟩, ⟨bq_ BK327.out⟩, ⟨bb_ HB.out⟩⟩
          ·rw [if_neg c41] at H
           have c41b0 : decide (3 < ((rd_L3 l0_5 x4_2).length : Int)) = false := decide_eq_false c41
           have c41b1 : decide (3 < (rd_L3 l0_5 x4_2).length) = false := decide_eq_false (by omega)
           clear c41
           (first | rw [c41b0] | (simp only [i64_w, i32_w]; rw [c41b0]) | skip)
           replace H := Option.bind_eq_some_iff.mp H
           obtain ⟨t332, A420, H⟩ := H
           try dsimp only at H
           have A42 := Aside0.mk A420
           clear A420
           by_cases c43 : t332 = true
           ·subst c43
            rw [if_pos rfl] at H
            by_cases c44 : x4_2 < (l0_6.length : Int)
            ·rw [if_pos c44] at H
             have c44b0 : decide (x4_2 < (l0_6.length : Int)) = true := decide_eq_true c44
             clear c44
             replace H := Option.bind_eq_some_iff.mp H
             obtain ⟨t334, A450, H⟩ := H
             try dsimp only at H
             have A45 := Aside0.mk A450
             clear A450
             have H' := Aside0.mk H
             clear H
             obtain ⟨hcz46_0, hcz46_1, hcz46_2, hcz46_3, hcz46_4, hcz46_5, hcz46_6, hcz46_7, hcz46_8, hcz46_9, hcz46_10, hfz46_0, hfz46_1, hfz46_2, hfz46_3, hfz46_4, hfz46_5, hfz46_6, hfz46_7, hfz46_8, hfz46_9, hfz46_10⟩ := cz11_ BK327.out
             go_wp2_with (first | (go_at_call 95; (with_reducible refine (spec_l15Flits.calls k2 a0_0 a0_1 _ _ (rd_L3 l0_5 x4_2) true _ ?side1 HC331_0.out A42.out).mono ?_); (case side1 => exact cb_ HR331_0.out HB.out); rintro e w47 ⟨rfl, hb⟩; replace BK327 := Aside0.mk (bk_ BK327.out hb); replace HB := Aside0.mk (bs_ HB.out hb); (try clear hb); obtain ⟨hcz48_0, hcz48_1, hcz48_2, hcz48_3, hcz48_4, hcz48_5, hcz48_6, hcz48_7, hcz48_8, hcz48_9, hcz48_10, hfz48_0, hfz48_1, hfz48_2, hfz48_3, hfz48_4, hfz48_5, hfz48_6, hfz48_7, hfz48_8, hfz48_9, hfz48_10⟩ := cz11_ BK327.out; have p333 : 0 ≤ (x4_2 : Int) := of_decide_eq_true dg_; have q333 : x4_2 < (l0_6.length : Int) := of_decide_eq_true dg_; obtain ⟨ad333, e333, hx333_0⟩ := Kd.at_int HR0_6.out x4_2 p333 q333; cases e333; replace hx333_0 := (HB.out.cell (World.block_lt_of_cell? w _ hx333_0)).trans hx333_0; replace p333 := eq_true p333; replace q333 := eq_true q333) | (go_at_call 76; (with_reducible refine (spec_l01In.calls (rd l0_6 x4_2) (-1) 4 t334 _ A45.out).mono ?_); rintro e w' ⟨rfl, ⟨nd, rfl⟩⟩))
             go_meet
             case rel => exact ⟨_, (!t334), ef_, H', ⟨by have := HJ2.out; have := HK2.out; first | omega | exact Nat.le_refl _⟩, ⟨bq_ BK327.out⟩, ⟨bb_ HB.out⟩⟩
            ·rw [if_neg c44] at H
             exact absurd H (by simp)
           ·replace c43 := Bool.eq_false_iff.mpr c43
            subst c43
            rw [if_neg (show ¬ (false = true) by decide)] at H
            have H' := Aside0.mk H
            clear H
            obtain ⟨hcz49_0, hcz49_1, hcz49_2, hcz49_3, hcz49_4, hcz49_5, hcz49_6, hcz49_7, hcz49_8, hcz49_9, hcz49_10, hfz49_0, hfz49_1, hfz49_2, hfz49_3, hfz49_4, hfz49_5, hfz49_6, hfz49_7, hfz49_8, hfz49_9, hfz49_10⟩ := cz11_ BK327.out
            go_wp2_with (first | (go_at_call 95; (with_reducible refine (spec_l15Flits.calls k2 a0_0 a0_1 _ _ (rd_L3 l0_5 x4_2) false _ ?side1 HC331_0.out A42.out).mono ?_); (case side1 => exact cb_ HR331_0.out HB.out); rintro e w50 ⟨rfl, hb⟩; replace BK327 := Aside0.mk (bk_ BK327.out hb); replace HB := Aside0.mk (bs_ HB.out hb); (try clear hb)))
            go_meet
            case rel => exact ⟨_, (true), ef_, H', ⟨by have := HJ2.out; have := HK2.out; first | omega | exact Nat.le_refl _⟩, ⟨bq_ BK327.out⟩, ⟨bb_ HB.out⟩⟩
         case rest =>
          clear HC39
          try clear c35
          try clear c36
          try clear c36b0
          try clear c37
          try clear c37b0
          try clear c38
          try clear c38b0
          try clear hcz40_0 hcz40_1 hcz40_10 hcz40_2 hcz40_3 hcz40_4 hcz40_5 hcz40_6 hcz40_7 hcz40_8 hcz40_9 hfz40_0 hfz40_1 hfz40_10 hfz40_2 hfz40_3 hfz40_4 hfz40_5 hfz40_6 hfz40_7 hfz40_8 hfz40_9
          try clear hcz5_0 hcz5_1 hcz5_10 hcz5_2 hcz5_3 hcz5_4 hcz5_5 hcz5_6 hcz5_7 hcz5_8 hcz5_9 hfz5_0 hfz5_1 hfz5_10 hfz5_2 hfz5_3 hfz5_4 hfz5_5 hfz5_6 hfz5_7 hfz5_8 hfz5_9
          try clear hx331_0
          try clear p331
          try clear q331
          obtain ⟨kq, x93_38, rfl, HA, HJ38, BK327, HB⟩ := hcut
          cases kq with
          | zero => exact absurd HA.out (by simp [spec_NetOk.j2])
          | succ kj38 =>
           have H := HA.out
           clear HA
           simp only [spec_NetOk.j2] at H
           by_cases c51 : x93_38 = true
           ·subst c51
            rw [if_pos rfl] at H
            obtain rfl := Option.some.inj H
            go_wp2
            go_ret
            exact ⟨fin_, bb_ HB.out⟩
           ·replace c51 := Bool.eq_false_iff.mpr c51
            subst c51
            rw [if_neg (show ¬ (false = true) by decide)] at H
            have H' := Aside0.mk H
            clear H
            go_wp2
            go_loopg [6] kj38 (fun kq v6 w' => ∃ (x6_4 : Int), v6 = .int .i64 x6_4 ∧ Aside0 (spec_NetOk.l1 kq t328 x4_2 (rd_L3 l0_5 x4_2) x6_4 a0_0 a0_1 l0_2 l0_3 l0_4 l0_5 l0_6 l0_7 l0_8 l0_9 a0_10 = some r) ∧ Aside0 (kq ≤ kj38) ∧ Aside0 (w'.heap[gb327]? = some (.cells #[.int .i64 a0_0, .int .i64 a0_1, (.slice A0_2 l0_2.length c0_2), (.slice A0_3 l0_3.length c0_3), (.slice A0_4 l0_4.length c0_4), (.slice (some ad331) l0_5.length c0_5), (.slice A0_6 l0_6.length c0_6), (.slice A0_7 l0_7.length c0_7), (.slice A0_8 l0_8.length c0_8), (.slice A0_9 l0_9.length c0_9), .int .i64 a0_10] 37 (0, 0))) ∧ Aside0 (Below w.heap.size w w'))
            case atStart => exact ⟨(0), ef_, H', ⟨Nat.le_refl _⟩, ⟨bq_ BK327.out⟩, ⟨bb_ HB.out⟩⟩
            case round =>
             clear H'
             try clear c35
             try clear c36
             try clear c36b0
             try clear c37
             try clear c37b0
             try clear c38
             try clear c38b0
             try clear c51
             try clear hcz40_0 hcz40_1 hcz40_10 hcz40_2 hcz40_3 hcz40_4 hcz40_5 hcz40_6 hcz40_7 hcz40_8 hcz40_9 hfz40_0 hfz40_1 hfz40_10 hfz40_2 hfz40_3 hfz40_4 hfz40_5 hfz40_6 hfz40_7 hfz40_8 hfz40_9
             try clear hcz5_0 hcz5_1 hcz5_10 hcz5_2 hcz5_3 hcz5_4 hcz5_5 hcz5_6 hcz5_7 hcz5_8 hcz5_9 hfz5_0 hfz5_1 hfz5_10 hfz5_2 hfz5_3 hfz5_4 hfz5_5 hfz5_6 hfz5_7 hfz5_8 hfz5_9
             try clear hx331_0
             try clear p331
             try clear q331
             obtain ⟨x6_4, rfl, HA, HK4, BK327, HB⟩ := hrel
             cases gk with
             | zero => exact absurd HA.out (by simp [spec_NetOk.l1])
             | succ k4 =>
              have H := HA.out
              clear HA
              simp only [spec_NetOk.l1] at H
              by_cases c52 : x6_4 < ((rd_L3 l0_5 x4_2).length : Int)
              ·rw [if_pos c52] at H
               have c52b0 : decide (x6_4 < ((rd_L3 l0_5 x4_2).length : Int)) = true := decide_eq_true c52
               clear c52
               by_cases c53 : 0 ≤ x6_4
               ·rw [if_pos c53] at H
                have c53b0 : decide (0 ≤ x6_4) = true := decide_eq_true c53
                clear c53
                by_cases c54 : ((rd_T112 (rd_L3 l0_5 x4_2) x6_4).f2) = (Int.tmod x4_2 2)
                ·rw [if_pos c54] at H
                 have c54b0 : (((rd_T112 (rd_L3 l0_5 x4_2) x6_4).f2) == (Int.tmod x4_2 2)) = true := beq_iff_eq.mpr c54
                 have c54b1 : (((rd_T112 (rd_L3 l0_5 x4_2) x6_4).f2) != (Int.tmod x4_2 2)) = false := bne_eq_false_iff_eq.mpr c54
                 clear c54
                 have H' := Aside0.mk H
                 clear H
                 have p335 : 0 ≤ (x6_4 : Int) := of_decide_eq_true dg_
                 have q335 : x6_4 < ((rd_L3 l0_5 x4_2).length : Int) := of_decide_eq_true dg_
                 obtain ⟨ad335, e335, hx335_0, hx335_1, hx335_2, hx335_3, hx335_4⟩ := at_T112 HR331_0.out x6_4 p335 q335
                 cases e335
                 replace hx335_0 := (HB.out.cell (World.block_lt_of_cell? w _ hx335_0)).trans hx335_0
                 replace hx335_1 := (HB.out.cell (World.block_lt_of_cell? w _ hx335_1)).trans hx335_1
                 replace hx335_2 := (HB.out.cell (World.block_lt_of_cell? w _ hx335_2)).trans hx335_2
                 replace hx335_3 := (HB.out.cell (World.block_lt_of_cell? w _ hx335_3)).trans hx335_3
                 replace hx335_4 := (HB.out.cell (World.block_lt_of_cell? w _ hx335_4)).trans hx335_4
                 replace p335 := eq_true p335
                 replace q335 := eq_true q335
                 go_wp2
                 go_roundg k4
                 case measure => have := HJ2.out; have := HK2.out; have := HJ38.out; have := HK4.out; omega
                 case rel => exact ⟨(wrap64 (x6_4 + 1)), ef_, H', ⟨by have := HJ2.out; have := HK2.out; have := HJ38.out; have := HK4.out; omega⟩, ⟨bq_ BK327.out⟩, ⟨bb_ HB.out⟩⟩
                ·rw [if_neg c54] at H
                 have c54b0 : (((rd_T112 (rd_L3 l0_5 x4_2) x6_4).f2) == (Int.tmod x4_2 2)) = false := beq_eq_false_iff_ne.mpr c54
                 have c54b1 : (((rd_T112 (rd_L3 l0_5 x4_2) x6_4).f2) != (Int.tmod x4_2 2)) = true := bne_iff_ne.mpr c54
                 obtain rfl := Option.some.inj H
                 have p335 : 0 ≤ (x6_4 : Int) := of_decide_eq_true dg_
                 have q335 : x6_4 < ((rd_L3 l0_5 x4_2).length : Int) := of_decide_eq_true dg_
                 obtain ⟨ad335, e335, hx335_0, hx335_1, hx335_2, hx335_3, hx335_4⟩ := at_T112 HR331_0.out x6_4 p335 q335
                 cases e335
                 replace hx335_0 := (HB.out.cell (World.block_lt_of_cell? w _ hx335_0)).trans hx335_0
                 replace hx335_1 := (HB.out.cell (World.block_lt_of_cell? w _ hx335_1)).trans hx335_1
                 replace hx335_2 := (HB.out.cell (World.block_lt_of_cell? w _ hx335_2)).trans hx335_2
                 replace hx335_3 := (HB.out.cell (World.block_lt_of_cell? w _ hx335_3)).trans hx335_3
                 replace hx335_4 := (HB.out.cell (World.block_lt_of_cell? w _ hx335_4)).trans hx335_4
                 replace p335 := eq_true p335
                 replace q335 := eq_true q335
                 go_wp2
                 go_ret
                 exact ⟨fin_, bb_ HB.out⟩
               ·rw [if_neg c53] at H
                exact absurd H (by simp)
              ·rw [if_neg c52] at H
               have c52b0 : decide (x6_4 < ((rd_L3 l0_5 x4_2).length : Int)) = false := decide_eq_false c52
               clear c52
               have H' := Aside0.mk H
               clear H
               go_wp2
               go_roundg k4
               case measure => have := HJ2.out; have := HK2.out; have := HJ38.out; have := HK4.out; omega
               case rel => exact ⟨(wrap64 (x4_2 + 1)), ef_, H', ⟨by have := HJ2.out; have := HK2.out; have := HJ38.out; have := HK4.out; omega⟩, ⟨bq_ BK327.out⟩, ⟨bb_ HB.out⟩⟩
        ·rw [if_neg c38] at H
         exact absurd H (by simp)
       ·rw [if_neg c37] at H
        exact absurd H (by simp)
      ·rw [if_neg c36] at H
       have c36b0 : decide (x4_2 < (wrap64 (10 * t328))) = false := decide_eq_false c36
       clear c36
       have H' := Aside0.mk H
       clear H
       go_wp2
       go_loopg [7] k2 (fun kq v7 w' => ∃ (x7_3 : Int), v7 = .int .i64 x7_3 ∧ Aside0 (spec_NetOk.l2 kq t328 x7_3 a0_0 a0_1 l0_2 l0_3 l0_4 l0_5 l0_6 l0_7 l0_8 l0_9 a0_10 = some r) ∧ Aside0 (kq ≤ k2) ∧ Aside0 (w'.heap[gb327]? = some (.cells #[.int .i64 a0_0, .int .i64 a0_1, (.slice A0_2 l0_2.length c0_2), (.slice A0_3 l0_3.length c0_3), (.slice A0_4 l0_4.length c0_4), (.slice A0_5 l0_5.length c0_5), (.slice A0_6 l0_6.length c0_6), (.slice A0_7 l0_7.length c0_7), (.slice A0_8 l0_8.length c0_8), (.slice A0_9 l0_9.length c0_9), .int .i64 a0_10] 37 (0, 0))) ∧ Aside0 (Below w.heap.size w w'))
       case atStart => exact ⟨(0), ef_, H', ⟨Nat.le_refl _⟩, ⟨bq_ BK327.out⟩, ⟨bb_ HB.out⟩⟩
       case round =>
        clear H'
        try clear c35
        try clear c36
        try clear c36b0
        try clear hcz5_0 hcz5_1 hcz5_10 hcz5_2 hcz5_3 hcz5_4 hcz5_5 hcz5_6 hcz5_7 hcz5_8 hcz5_9 hfz5_0 hfz5_1 hfz5_10 hfz5_2 hfz5_3 hfz5_4 hfz5_5 hfz5_6 hfz5_7 hfz5_8 hfz5_9
        obtain ⟨x7_3, rfl, HA, HK3, BK327, HB⟩ := hrel
        cases gk with
        | zero => exact absurd HA.out (by simp [spec_NetOk.l2])
        | succ k3 =>
         have H := HA.out
         clear HA
         simp only [spec_NetOk.l2] at H
         by_cases c55 : x7_3 < (wrap64 (5 * t328))
         ·rw [if_pos c55] at H
          have c55b0 : decide (x7_3 < (wrap64 (5 * t328))) = true := decide_eq_true c55
          clear c55
          by_cases c56 : 0 ≤ x7_3
          ·rw [if_pos c56] at H
           have c56b0 : decide (0 ≤ x7_3) = true := decide_eq_true c56
           clear c56
           by_cases c57 : x7_3 < (l0_7.length : Int)
           ·rw [if_pos c57] at H
            have c57b0 : decide (x7_3 < (l0_7.length : Int)) = true := decide_eq_true c57
            clear c57
            replace H := Option.bind_eq_some_iff.mp H
            obtain ⟨t337, A580, H⟩ := H
            try dsimp only at H
            have A58 := Aside0.mk A580
            clear A580
            by_cases c59 : t337 = true
            ·subst c59
             rw [if_pos rfl] at H
             have H' := Aside0.mk H
             clear H
             obtain ⟨hcz60_0, hcz60_1, hcz60_2, hcz60_3, hcz60_4, hcz60_5, hcz60_6, hcz60_7, hcz60_8, hcz60_9, hcz60_10, hfz60_0, hfz60_1, hfz60_2, hfz60_3, hfz60_4, hfz60_5, hfz60_6, hfz60_7, hfz60_8, hfz60_9, hfz60_10⟩ := cz11_ BK327.out
             have p336 : 0 ≤ (x7_3 : Int) := of_decide_eq_true dg_
             have q336 : x7_3 < (l0_7.length : Int) := of_decide_eq_true dg_
             obtain ⟨ad336, e336, hx336_0⟩ := Kd.at_int HR0_7.out x7_3 p336 q336
             cases e336
             replace hx336_0 := (HB.out.cell (World.block_lt_of_cell? w _ hx336_0)).trans hx336_0
             replace p336 := eq_true p336
             replace q336 := eq_true q336
             go_wp2_with (first | ((with_reducible refine gate_callee (f := 76) rfl ?_); refine gm_ (some 119) Try.func76 #[.int .i64 (rd l0_7 x7_3), .int .i64 0, .int .i64 9] rfl ?_; (with_reducible refine (spec_l01In.calls (rd l0_7 x7_3) 0 9 true _ A58.out).mono ?_); rintro e w' ⟨rfl, ⟨nd, rfl⟩⟩; refine ⟨_, rfl, ?_⟩))
             go_roundg k3
             case measure => have := HJ2.out; have := HK2.out; have := HK3.out; omega
             case rel => exact ⟨(wrap64 (x7_3 + 1)), ef_, H', ⟨by have := HJ2.out; have := HK2.out; have := HK3.out; omega⟩, ⟨bq_ BK327.out⟩, ⟨bb_ HB.out⟩⟩
            ·replace c59 := Bool.eq_false_iff.mpr c59
             subst c59
             rw [if_neg (show ¬ (false = true) by decide)] at H
             obtain rfl := Option.some.inj H
             obtain ⟨hcz61_0, hcz61_1, hcz61_2, hcz61_3, hcz61_4, hcz61_5, hcz61_6, hcz61_7, hcz61_8, hcz61_9, hcz61_10, hfz61_0, hfz61_1, hfz61_2, hfz61_3, hfz61_4, hfz61_5, hfz61_6, hfz61_7, hfz61_8, hfz61_9, hfz61_10⟩ := cz11_ BK327.out
             have p336 : 0 ≤ (x7_3 : Int) := of_decide_eq_true dg_
             have q336 : x7_3 < (l0_7.length : Int) := of_decide_eq_true dg_
             obtain ⟨ad336, e336, hx336_0⟩ := Kd.at_int HR0_7.out x7_3 p336 q336
             cases e336
             replace hx336_0 := (HB.out.cell (World.block_lt_of_cell? w _ hx336_0)).trans hx336_0
             replace p336 := eq_true p336
             replace q336 := eq_true q336
             go_wp2_with (first | ((with_reducible refine gate_callee (f := 76) rfl ?_); refine gm_ (some 119) Try.func76 #[.int .i64 (rd l0_7 x7_3), .int .i64 0, .int .i64 9] rfl ?_; (with_reducible refine (spec_l01In.calls (rd l0_7 x7_3) 0 9 false _ A58.out).mono ?_); rintro e w' ⟨rfl, ⟨nd, rfl⟩⟩; refine ⟨_, rfl, ?_⟩))
             go_ret
             exact ⟨fin_, bb_ HB.out⟩
           ·rw [if_neg c57] at H
            exact absurd H (by simp)
          ·rw [if_neg c56] at H
           exact absurd H (by simp)
         ·rw [if_neg c55] at H
          have c55b0 : decide (x7_3 < (wrap64 (5 * t328))) = false := decide_eq_false c55
          clear c55
          have H' := Aside0.mk H
          clear H
          go_wp2
          go_loopg [8] k3 (fun kq v8 w' => ∃ (x8_4 : Int), v8 = .int .i64 x8_4 ∧ Aside0 (spec_NetOk.l3 kq t328 x8_4 a0_0 a0_1 l0_2 l0_3 l0_4 l0_5 l0_6 l0_7 l0_8 l0_9 a0_10 = some r) ∧ Aside0 (kq ≤ k3) ∧ Aside0 (w'.heap[gb327]? = some (.cells #[.int .i64 a0_0, .int .i64 a0_1, (.slice A0_2 l0_2.length c0_2), (.slice A0_3 l0_3.length c0_3), (.slice A0_4 l0_4.length c0_4), (.slice A0_5 l0_5.length c0_5), (.slice A0_6 l0_6.length c0_6), (.slice A0_7 l0_7.length c0_7), (.slice A0_8 l0_8.length c0_8), (.slice A0_9 l0_9.length c0_9), .int .i64 a0_10] 37 (0, 0))) ∧ Aside0 (Below w.heap.size w w'))
          case atStart => exact ⟨(0), ef_, H', ⟨Nat.le_refl _⟩, ⟨bq_ BK327.out⟩, ⟨bb_ HB.out⟩⟩
          case round =>
           clear H'
           try clear c35
           try clear c36
           try clear c36b0
           try clear c55
           try clear c55b0
           try clear hcz5_0 hcz5_1 hcz5_10 hcz5_2 hcz5_3 hcz5_4 hcz5_5 hcz5_6 hcz5_7 hcz5_8 hcz5_9 hfz5_0 hfz5_1 hfz5_10 hfz5_2 hfz5_3 hfz5_4 hfz5_5 hfz5_6 hfz5_7 hfz5_8 hfz5_9
           obtain ⟨x8_4, rfl, HA, HK4, BK327, HB⟩ := hrel
           cases gk with
           | zero => exact absurd HA.out (by simp [spec_NetOk.l3])
           | succ k4 =>
            have H := HA.out
            clear HA
            simp only [spec_NetOk.l3] at H
            by_cases c62 : x8_4 < t328
            ·rw [if_pos c62] at H
             have c62b0 : decide (x8_4 < t328) = true := decide_eq_true c62
             clear c62
             by_cases c63 : 0 ≤ x8_4
             ·rw [if_pos c63] at H
              have c63b0 : decide (0 ≤ x8_4) = true := decide_eq_true c63
              clear c63
              by_cases c64 : x8_4 < (l0_8.length : Int)
              ·rw [if_pos c64] at H
               have c64b0 : decide (x8_4 < (l0_8.length : Int)) = true := decide_eq_true c64
               clear c64
               by_cases c65 : ((rd_L3 l0_8 x8_4).length : Int) > 60
               ·rw [if_pos c65] at H
                have c65b0 : decide (60 < ((rd_L3 l0_8 x8_4).length : Int)) = true := decide_eq_true c65
                have c65b1 : decide (60 < (rd_L3 l0_8 x8_4).length) = true := decide_eq_true (by omega)
                clear c65
                obtain rfl := Option.some.inj H
                try go_wp2
                have n0_ := Aside0.mk (blk_drew BK327.out)
                have n1_ := Aside0.mk (below_drew1 HB.out)
                clear BK327
                clear HB
                have BK327 := n0_
                have HB := n1_
                clear n0_ n1_
                have p338 : 0 ≤ (x8_4 : Int) := of_decide_eq_true dg_
                have q338 : x8_4 < (l0_8.length : Int) := of_decide_eq_true dg_
                obtain ⟨ad338, A338_0, c338_0, e338, hx338_0, hl338_0, hi338_0⟩ := at_L3 HR0_8.out x8_4 p338 q338
                have hw338_0 := hx338_0
                cases e338
                replace hx338_0 := (HB.out.cell (World.block_lt_of_cell? w _ hx338_0)).trans hx338_0
                have HR338_0 := Aside0.mk hi338_0
                have HC338_0 := Aside0.mk hl338_0
                clear hi338_0 hl338_0
                replace p338 := eq_true p338
                replace q338 := eq_true q338
                refine start_ (n := 19) (S := fun w' => w'.cell? ⟨gb327, 0, none⟩ = some (.int .i64 a0_0) ∧ w'.cell? ⟨gb327, 1, none⟩ = some (.int .i64 a0_1) ∧ w'.cell? ⟨gb327, 2, none⟩ = some (.slice A0_2 l0_2.length c0_2) ∧ w'.cell? ⟨gb327, 3, none⟩ = some (.slice A0_3 l0_3.length c0_3) ∧ w'.cell? ⟨gb327, 4, none⟩ = some (.slice A0_4 l0_4.length c0_4) ∧ w'.cell? ⟨gb327, 5, none⟩ = some (.slice A0_5 l0_5.length c0_5) ∧ w'.cell? ⟨gb327, 6, none⟩ = some (.slice A0_6 l0_6.length c0_6) ∧ w'.cell? ⟨gb327, 7, none⟩ = some (.slice A0_7 l0_7.length c0_7) ∧ w'.cell? ⟨gb327, 8, none⟩ = some (.slice (some ad338) l0_8.length c0_8) ∧ w'.cell? ⟨gb327, 9, none⟩ = some (.slice A0_9 l0_9.length c0_9) ∧ w'.cell? ⟨gb327, 10, none⟩ = some (.int .i64 a0_10) ∧ w'.cell? (ad338.add (x8_4).toNat) = some (.slice A338_0 (rd_L3 l0_8 x8_4).length c338_0)) (ds := []) #[false, false, false, false, false, false, false, false, false, false, false, false, false, false, false, false, false, false, false] (by kernel_rfl) rfl rfl ⟨(blk_cell BK327.out 0).trans rfl, (blk_cell BK327.out 1).trans rfl, (blk_cell BK327.out 2).trans rfl, (blk_cell BK327.out 3).trans rfl, (blk_cell BK327.out 4).trans rfl, (blk_cell BK327.out 5).trans rfl, (blk_cell BK327.out 6).trans rfl, (blk_cell BK327.out 7).trans rfl, (blk_cell BK327.out 8).trans rfl, (blk_cell BK327.out 9).trans rfl, (blk_cell BK327.out 10).trans rfl, ((HB.out.cell (World.block_lt_of_cell? w _ hw338_0)).trans hw338_0)⟩ (fun hHeld => ?_); refine with_tabW spec_NetOk.tab23 spec_NetOk.bits23 (fun HT_ HW_ => ?_)
                generalize wr.drew = w66 at BK327 HB HR338_0 hx338_0 hHeld ⊢
                refine pu_ 0 126 (bt_ 19 1) HT_ ?_
                refine pu_ 2 128 (bt_ 19 5) HT_ ?_
                refine take_ (i := 1) (N := some 127) (v := ?_) (a' := ?_) (bt_ 19 7) rfl rfl (take_ofW HT_.out HW_.out (by kernel_rfl)) (fun _ _ _ h => h) (Or.inl ⟨by rfl, ?_⟩) hHeld ?_ ?_
                rotate_left
                ·rintro w' ⟨s0, s1, s2, s3, s4, s5, s6, s7, s8, s9, s10, s11⟩
                 go_simp
                 with_reducible rfl
                rotate_left
                ·simp only [Act.put, List.setIfInBounds_toArray, List.set_cons_zero, List.set_cons_succ, i64_w, i32_w]
                 rfl
                refine pu_ 3 129 (bt_ 19 15) HT_ ?_
                refine take_ (i := 4) (N := some 130) (v := ?_) (a' := ?_) (bt_ 19 31) rfl rfl (take_ofW HT_.out HW_.out (by kernel_rfl)) (fun _ _ _ h => h) (Or.inl ⟨by rfl, ?_⟩) hHeld ?_ ?_
                rotate_left
                ·rintro w' ⟨s0, s1, s2, s3, s4, s5, s6, s7, s8, s9, s10, s11⟩
                 go_simp
                 with_reducible rfl
                rotate_left
                ·simp only [Act.put, List.setIfInBounds_toArray, List.set_cons_zero, List.set_cons_succ, i64_w, i32_w]
                 rfl
                refine pu_ 5 131 (bt_ 19 63) HT_ ?_
                refine pu_ 6 132 (bt_ 19 127) HT_ ?_
                refine pu_ 7 133 (bt_ 19 255) HT_ ?_
                refine un_ 8 134 (bt_ 19 511) HT_ ?_
                refine un_ 9 135 (bt_ 19 1023) HT_ ?_
                refine un_ 10 136 (bt_ 19 2047) HT_ ?_
                refine un_ 11 137 (bt_ 19 4095) HT_ ?_
                refine un_ 12 138 (bt_ 19 8191) HT_ ?_
                refine un_ 13 139 (bt_ 19 16383) HT_ ?_
                refine un_ 14 140 (bt_ 19 32767) HT_ ?_
                refine un_ 15 141 (bt_ 19 65535) HT_ ?_
                refine un_ 16 142 (bt_ 19 131071) HT_ ?_
                refine un_ 17 143 (bt_ 19 262143) HT_ ?_
                refine pu_ 18 144 (bt_ 19 524287) HT_ ?_
                refine done_ (done_of HT_.out (by kernel_rfl)) ?_
                try go_wp2
                go_ret
                exact ⟨fin_, bb_ HB.out⟩
               ·rw [if_neg c65] at H
                have c65b0 : decide (60 < ((rd_L3 l0_8 x8_4).length : Int)) = false := decide_eq_false c65
                have c65b1 : decide (60 < (rd_L3 l0_8 x8_4).length) = false := decide_eq_false (by omega)
                clear c65
                replace H := Option.bind_eq_some_iff.mp H
                obtain ⟨t340, A670, H⟩ := H
                try dsimp only at H
                have A67 := Aside0.mk A670
                clear A670
                by_cases c68 : t340 = true
                ·subst c68
                 rw [if_pos rfl] at H
                 have H' := Aside0.mk H
                 clear H
                 try go_wp2
                 have n0_ := Aside0.mk (blk_drew BK327.out)
                 have n1_ := Aside0.mk (below_drew1 HB.out)
                 clear BK327
                 clear HB
                 have BK327 := n0_
                 have HB := n1_
                 clear n0_ n1_
                 have p338 : 0 ≤ (x8_4 : Int) := of_decide_eq_true dg_
                 have q338 : x8_4 < (l0_8.length : Int) := of_decide_eq_true dg_
                 obtain ⟨ad338, A338_0, c338_0, e338, hx338_0, hl338_0, hi338_0⟩ := at_L3 HR0_8.out x8_4 p338 q338
                 have hw338_0 := hx338_0
                 cases e338
                 replace hx338_0 := (HB.out.cell (World.block_lt_of_cell? w _ hx338_0)).trans hx338_0
                 have HR338_0 := Aside0.mk hi338_0
                 have HC338_0 := Aside0.mk hl338_0
                 clear hi338_0 hl338_0
                 replace p338 := eq_true p338
                 replace q338 := eq_true q338
                 have p339 : 0 ≤ (x8_4 : Int) := of_decide_eq_true dg_
                 have q339 : x8_4 < (l0_8.length : Int) := of_decide_eq_true dg_
                 obtain ⟨ad339, A339_0, c339_0, e339, hx339_0, hl339_0, hi339_0⟩ := at_L3 HR0_8.out x8_4 p339 q339
                 have hw339_0 := hx339_0
                 obtain rfl : ad338 = ad339 := (by injection e339)
                 replace hx339_0 := (HB.out.cell (World.block_lt_of_cell? w _ hx339_0)).trans hx339_0
                 have HR339_0 := Aside0.mk hi339_0
                 have HC339_0 := Aside0.mk hl339_0
                 clear hi339_0 hl339_0
                 replace p339 := eq_true p339
                 replace q339 := eq_true q339
                 have ea_ := Option.some.inj (hx338_0.symm.trans hx339_0)
                 injection ea_ with ea_ en_ ec_
                 subst ea_
                 subst ec_
                 clear en_
                 refine start_ (n := 19) (S := fun w' => w'.cell? ⟨gb327, 0, none⟩ = some (.int .i64 a0_0) ∧ w'.cell? ⟨gb327, 1, none⟩ = some (.int .i64 a0_1) ∧ w'.cell? ⟨gb327, 2, none⟩ = some (.slice A0_2 l0_2.length c0_2) ∧ w'.cell? ⟨gb327, 3, none⟩ = some (.slice A0_3 l0_3.length c0_3) ∧ w'.cell? ⟨gb327, 4, none⟩ = some (.slice A0_4 l0_4.length c0_4) ∧ w'.cell? ⟨gb327, 5, none⟩ = some (.slice A0_5 l0_5.length c0_5) ∧ w'.cell? ⟨gb327, 6, none⟩ = some (.slice A0_6 l0_6.length c0_6) ∧ w'.cell? ⟨gb327, 7, none⟩ = some (.slice A0_7 l0_7.length c0_7) ∧ w'.cell? ⟨gb327, 8, none⟩ = some (.slice (some ad338) l0_8.length c0_8) ∧ w'.cell? ⟨gb327, 9, none⟩ = some (.slice A0_9 l0_9.length c0_9) ∧ w'.cell? ⟨gb327, 10, none⟩ = some (.int .i64 a0_10) ∧ w'.cell? (ad338.add (x8_4).toNat) = some (.slice A338_0 (rd_L3 l0_8 x8_4).length c338_0) ∧ w'.cell? (ad338.add (x8_4).toNat) = some (.slice A338_0 (rd_L3 l0_8 x8_4).length c338_0)) (ds := []) #[false, false, false, false, false, false, false, false, false, false, false, false, false, false, false, false, false, false, false] (by kernel_rfl) rfl rfl ⟨(blk_cell BK327.out 0).trans rfl, (blk_cell BK327.out 1).trans rfl, (blk_cell BK327.out 2).trans rfl, (blk_cell BK327.out 3).trans rfl, (blk_cell BK327.out 4).trans rfl, (blk_cell BK327.out 5).trans rfl, (blk_cell BK327.out 6).trans rfl, (blk_cell BK327.out 7).trans rfl, (blk_cell BK327.out 8).trans rfl, (blk_cell BK327.out 9).trans rfl, (blk_cell BK327.out 10).trans rfl, ((HB.out.cell (World.block_lt_of_cell? w _ hw338_0)).trans hw338_0), ((HB.out.cell (World.block_lt_of_cell? w _ hw339_0)).trans hw339_0)⟩ (fun hHeld => ?_); refine with_tabW spec_NetOk.tab23 spec_NetOk.bits23 (fun HT_ HW_ => ?_)
                 generalize wr.drew = w69 at BK327 HB HR338_0 HR339_0 hx338_0 hx339_0 hHeld ⊢
                 refine pu_ 0 126 (bt_ 19 1) HT_ ?_
                 refine pu_ 2 128 (bt_ 19 5) HT_ ?_
                 refine take_ (i := 1) (N := some 127) (v := ?_) (a' := ?_) (bt_ 19 7) rfl rfl (take_ofW HT_.out HW_.out (by kernel_rfl)) (fun _ _ _ h => h) (Or.inl ⟨by rfl, ?_⟩) hHeld ?_ ?_
                 rotate_left
                 ·rintro w' ⟨s0, s1, s2, s3, s4, s5, s6, s7, s8, s9, s10, s11, s12⟩
                  go_simp
                  with_reducible rfl
                 rotate_left
                 ·simp only [Act.put, List.setIfInBounds_toArray, List.set_cons_zero, List.set_cons_succ, i64_w, i32_w]
                  rfl
                 refine pu_ 3 129 (bt_ 19 15) HT_ ?_
                 refine take_ (i := 4) (N := some 130) (v := ?_) (a' := ?_) (bt_ 19 31) rfl rfl (take_ofW HT_.out HW_.out (by kernel_rfl)) (fun _ _ _ h => h) (Or.inl ⟨by rfl, ?_⟩) hHeld ?_ ?_
                 rotate_left
                 ·rintro w' ⟨s0, s1, s2, s3, s4, s5, s6, s7, s8, s9, s10, s11, s12⟩
                  go_simp
                  with_reducible rfl
                 rotate_left
                 ·simp only [Act.put, List.setIfInBounds_toArray, List.set_cons_zero, List.set_cons_succ, i64_w, i32_w]
                  rfl
                 refine pu_ 5 131 (bt_ 19 63) HT_ ?_
                 refine pu_ 6 132 (bt_ 19 127) HT_ ?_
                 refine pu_ 7 133 (bt_ 19 255) HT_ ?_
                 refine pu_ 8 134 (bt_ 19 511) HT_ ?_
                 refine pu_ 9 135 (bt_ 19 1023) HT_ ?_
                 refine pu_ 11 137 (bt_ 19 3071) HT_ ?_
                 refine pu_ 13 139 (bt_ 19 11263) HT_ ?_
                 refine take_ (i := 10) (N := some 136) (v := ?_) (a' := ?_) (bt_ 19 12287) rfl rfl (take_ofW HT_.out HW_.out (by kernel_rfl)) (fun _ _ _ h => h) (Or.inl ⟨by rfl, ?_⟩) hHeld ?_ ?_
                 rotate_left
                 ·rintro w' ⟨s0, s1, s2, s3, s4, s5, s6, s7, s8, s9, s10, s11, s12⟩
                  go_simp
                  with_reducible rfl
                 rotate_left
                 ·simp only [Act.put, List.setIfInBounds_toArray, List.set_cons_zero, List.set_cons_succ, i64_w, i32_w]
                  rfl
                 refine take_ (i := 12) (N := some 138) (v := ?_) (a' := ?_) (bt_ 19 16383) rfl rfl (take_ofW HT_.out HW_.out (by kernel_rfl)) (fun _ _ _ h => h) (Or.inl ⟨by rfl, ?_⟩) hHeld ?_ ?_
                 rotate_left
                 ·rintro w' ⟨s0, s1, s2, s3, s4, s5, s6, s7, s8, s9, s10, s11, s12⟩
                  go_simp
                  with_reducible rfl
                 rotate_left
                 ·simp only [Act.put, List.setIfInBounds_toArray, List.set_cons_zero, List.set_cons_succ, i64_w, i32_w]
                  rfl
                 refine pu_ 14 140 (bt_ 19 32767) HT_ ?_
                 refine take_ (i := 15) (N := some 141) (v := ?_) (a' := ?_) (bt_ 19 65535) rfl rfl (take_ofW HT_.out HW_.out (by kernel_rfl)) (fun _ _ _ h => h) (Or.inl ⟨by rfl, ?_⟩) hHeld ?_ ?_
                 rotate_left
                 ·rintro w' ⟨s0, s1, s2, s3, s4, s5, s6, s7, s8, s9, s10, s11, s12⟩
                  go_simp
                  with_reducible rfl
                 rotate_left
                 ·simp only [Act.put, List.setIfInBounds_toArray, List.set_cons_zero, List.set_cons_succ, i64_w, i32_w]
                  rfl
                 refine one_ (i := 16) (N := some 142) (bt_ 19 131071) rfl rfl (one_of HT_.out (by kernel_rfl)) (by decide) (fun K hK => ?_)
                 refine goes_ Try.func95 (by kernel_rfl) rfl #[.agg #[.int .i64 a0_0, .int .i64 a0_1], .slice A338_0 (rd_L3 l0_8 x8_4).length c338_0] (by rfl) rfl rfl (by (try simp only [List.map_toArray, List.map_cons, List.map_nil]); first | done | rfl | (simp only [List.length_drop, List.length_take]; rfl)) ?_
                 with_reducible refine (spec_l15Flits.calls k4 a0_0 a0_1 _ _ (rd_L3 l0_8 x8_4) true _ ?side1 ?side2 A67.out).mono ?_
                 (case side1 => exact cb_ HR339_0.out HB.out)
                 (case side2 => exact HC339_0.out)
                 rintro e w70 ⟨rfl, hb⟩
                 refine ⟨_, rfl, ?_⟩
                 have n0_ := Aside0.mk (bk_ BK327.out hb)
                 have n1_ := Aside0.mk (bs_ HB.out hb)
                 clear BK327
                 clear HB
                 have BK327 := n0_
                 have HB := n1_
                 clear n0_ n1_
                 (try clear hb)
                 (try clear hb2)
                 (try clear hk)
                 (try clear hi)
                 refine hK.out _ _ ⟨(blk_cell BK327.out 0).trans rfl, (blk_cell BK327.out 1).trans rfl, (blk_cell BK327.out 2).trans rfl, (blk_cell BK327.out 3).trans rfl, (blk_cell BK327.out 4).trans rfl, (blk_cell BK327.out 5).trans rfl, (blk_cell BK327.out 6).trans rfl, (blk_cell BK327.out 7).trans rfl, (blk_cell BK327.out 8).trans rfl, (blk_cell BK327.out 9).trans rfl, (blk_cell BK327.out 10).trans rfl, ((HB.out.cell (World.block_lt_of_cell? w _ hw338_0)).trans hw338_0), ((HB.out.cell (World.block_lt_of_cell? w _ hw339_0)).trans hw339_0)⟩ (fun hHeld => ?_)
                 clear hK K
                 refine norm_ (a' := ?_) ?_ ?_
                 rotate_left
                 ·show Act.put _ (some 142) _ = _
                  simp only [Act.put, List.setIfInBounds_toArray, List.set_cons_zero, List.set_cons_succ, i64_w, i32_w]
                  rfl
                 refine pu_ 17 143 (bt_ 19 262143) HT_ ?_
                 refine pu_ 18 144 (bt_ 19 524287) HT_ ?_
                 refine done_ (done_of HT_.out (by kernel_rfl)) ?_
                 try go_wp2
                 go_roundg k4
                 case measure => have := HJ2.out; have := HK2.out; have := HK3.out; have := HK4.out; omega
                 case rel => exact ⟨(wrap64 (x8_4 + 1)), ef_, H', ⟨by have := HJ2.out; have := HK2.out; have := HK3.out; have := HK4.out; omega⟩, ⟨bq_ BK327.out⟩, ⟨bb_ HB.out⟩⟩
                ·replace c68 := Bool.eq_false_iff.mpr c68
                 subst c68
                 rw [if_neg (show ¬ (false = true) by decide)] at H
                 obtain rfl := Option.some.inj H
                 try go_wp2
                 have n0_ := Aside0.mk (blk_drew BK327.out)
                 have n1_ := Aside0.mk (below_drew1 HB.out)
                 clear BK327
                 clear HB
                 have BK327 := n0_
                 have HB := n1_
                 clear n0_ n1_
                 have p338 : 0 ≤ (x8_4 : Int) := of_decide_eq_true dg_
                 have q338 : x8_4 < (l0_8.length : Int) := of_decide_eq_true dg_
                 obtain ⟨ad338, A338_0, c338_0, e338, hx338_0, hl338_0, hi338_0⟩ := at_L3 HR0_8.out x8_4 p338 q338
                 have hw338_0 := hx338_0
                 cases e338
                 replace hx338_0 := (HB.out.cell (World.block_lt_of_cell? w _ hx338_0)).trans hx338_0
                 have HR338_0 := Aside0.mk hi338_0
                 have HC338_0 := Aside0.mk hl338_0
                 clear hi338_0 hl338_0
                 replace p338 := eq_true p338
                 replace q338 := eq_true q338
                 have p339 : 0 ≤ (x8_4 : Int) := of_decide_eq_true dg_
                 have q339 : x8_4 < (l0_8.length : Int) := of_decide_eq_true dg_
                 obtain ⟨ad339, A339_0, c339_0, e339, hx339_0, hl339_0, hi339_0⟩ := at_L3 HR0_8.out x8_4 p339 q339
                 have hw339_0 := hx339_0
                 obtain rfl : ad338 = ad339 := (by injection e339)
                 replace hx339_0 := (HB.out.cell (World.block_lt_of_cell? w _ hx339_0)).trans hx339_0
                 have HR339_0 := Aside0.mk hi339_0
                 have HC339_0 := Aside0.mk hl339_0
                 clear hi339_0 hl339_0
                 replace p339 := eq_true p339
                 replace q339 := eq_true q339
                 have ea_ := Option.some.inj (hx338_0.symm.trans hx339_0)
                 injection ea_ with ea_ en_ ec_
                 subst ea_
                 subst ec_
                 clear en_
                 refine start_ (n := 19) (S := fun w' => w'.cell? ⟨gb327, 0, none⟩ = some (.int .i64 a0_0) ∧ w'.cell? ⟨gb327, 1, none⟩ = some (.int .i64 a0_1) ∧ w'.cell? ⟨gb327, 2, none⟩ = some (.slice A0_2 l0_2.length c0_2) ∧ w'.cell? ⟨gb327, 3, none⟩ = some (.slice A0_3 l0_3.length c0_3) ∧ w'.cell? ⟨gb327, 4, none⟩ = some (.slice A0_4 l0_4.length c0_4) ∧ w'.cell? ⟨gb327, 5, none⟩ = some (.slice A0_5 l0_5.length c0_5) ∧ w'.cell? ⟨gb327, 6, none⟩ = some (.slice A0_6 l0_6.length c0_6) ∧ w'.cell? ⟨gb327, 7, none⟩ = some (.slice A0_7 l0_7.length c0_7) ∧ w'.cell? ⟨gb327, 8, none⟩ = some (.slice (some ad338) l0_8.length c0_8) ∧ w'.cell? ⟨gb327, 9, none⟩ = some (.slice A0_9 l0_9.length c0_9) ∧ w'.cell? ⟨gb327, 10, none⟩ = some (.int .i64 a0_10) ∧ w'.cell? (ad338.add (x8_4).toNat) = some (.slice A338_0 (rd_L3 l0_8 x8_4).length c338_0) ∧ w'.cell? (ad338.add (x8_4).toNat) = some (.slice A338_0 (rd_L3 l0_8 x8_4).length c338_0)) (ds := []) #[false, false, false, false, false, false, false, false, false, false, false, false, false, false, false, false, false, false, false] (by kernel_rfl) rfl rfl ⟨(blk_cell BK327.out 0).trans rfl, (blk_cell BK327.out 1).trans rfl, (blk_cell BK327.out 2).trans rfl, (blk_cell BK327.out 3).trans rfl, (blk_cell BK327.out 4).trans rfl, (blk_cell BK327.out 5).trans rfl, (blk_cell BK327.out 6).trans rfl, (blk_cell BK327.out 7).trans rfl, (blk_cell BK327.out 8).trans rfl, (blk_cell BK327.out 9).trans rfl, (blk_cell BK327.out 10).trans rfl, ((HB.out.cell (World.block_lt_of_cell? w _ hw338_0)).trans hw338_0), ((HB.out.cell (World.block_lt_of_cell? w _ hw339_0)).trans hw339_0)⟩ (fun hHeld => ?_); refine with_tabW spec_NetOk.tab23 spec_NetOk.bits23 (fun HT_ HW_ => ?_)
                 generalize wr.drew = w71 at BK327 HB HR338_0 HR339_0 hx338_0 hx339_0 hHeld ⊢
                 refine pu_ 0 126 (bt_ 19 1) HT_ ?_
                 refine pu_ 2 128 (bt_ 19 5) HT_ ?_
                 refine take_ (i := 1) (N := some 127) (v := ?_) (a' := ?_) (bt_ 19 7) rfl rfl (take_ofW HT_.out HW_.out (by kernel_rfl)) (fun _ _ _ h => h) (Or.inl ⟨by rfl, ?_⟩) hHeld ?_ ?_
                 rotate_left
                 ·rintro w' ⟨s0, s1, s2, s3, s4, s5, s6, s7, s8, s9, s10, s11, s12⟩
                  go_simp
                  with_reducible rfl
                 rotate_left
                 ·simp only [Act.put, List.setIfInBounds_toArray, List.set_cons_zero, List.set_cons_succ, i64_w, i32_w]
                  rfl
                 refine pu_ 3 129 (bt_ 19 15) HT_ ?_
                 refine take_ (i := 4) (N := some 130) (v := ?_) (a' := ?_) (bt_ 19 31) rfl rfl (take_ofW HT_.out HW_.out (by kernel_rfl)) (fun _ _ _ h => h) (Or.inl ⟨by rfl, ?_⟩) hHeld ?_ ?_
                 rotate_left
                 ·rintro w' ⟨s0, s1, s2, s3, s4, s5, s6, s7, s8, s9, s10, s11, s12⟩
                  go_simp
                  with_reducible rfl
                 rotate_left
                 ·simp only [Act.put, List.setIfInBounds_toArray, List.set_cons_zero, List.set_cons_succ, i64_w, i32_w]
                  rfl
                 refine pu_ 5 131 (bt_ 19 63) HT_ ?_
                 refine pu_ 6 132 (bt_ 19 127) HT_ ?_
                 refine pu_ 7 133 (bt_ 19 255) HT_ ?_
                 refine pu_ 8 134 (bt_ 19 511) HT_ ?_
                 refine pu_ 9 135 (bt_ 19 1023) HT_ ?_
                 refine pu_ 11 137 (bt_ 19 3071) HT_ ?_
                 refine pu_ 13 139 (bt_ 19 11263) HT_ ?_
                 refine take_ (i := 10) (N := some 136) (v := ?_) (a' := ?_) (bt_ 19 12287) rfl rfl (take_ofW HT_.out HW_.out (by kernel_rfl)) (fun _ _ _ h => h) (Or.inl ⟨by rfl, ?_⟩) hHeld ?_ ?_
                 rotate_left
                 ·rintro w' ⟨s0, s1, s2, s3, s4, s5, s6, s7, s8, s9, s10, s11, s12⟩
                  go_simp
                  with_reducible rfl
                 rotate_left
                 ·simp only [Act.put, List.setIfInBounds_toArray, List.set_cons_zero, List.set_cons_succ, i64_w, i32_w]
                  rfl
                 refine take_ (i := 12) (N := some 138) (v := ?_) (a' := ?_) (bt_ 19 16383) rfl rfl (take_ofW HT_.out HW_.out (by kernel_rfl)) (fun _ _ _ h => h) (Or.inl ⟨by rfl, ?_⟩) hHeld ?_ ?_
                 rotate_left
                 ·rintro w' ⟨s0, s1, s2, s3, s4, s5, s6, s7, s8, s9, s10, s11, s12⟩
                  go_simp
                  with_reducible rfl
                 rotate_left
                 ·simp only [Act.put, List.setIfInBounds_toArray, List.set_cons_zero, List.set_cons_succ, i64_w, i32_w]
                  rfl
                 refine pu_ 14 140 (bt_ 19 32767) HT_ ?_
                 refine take_ (i := 15) (N := some 141) (v := ?_) (a' := ?_) (bt_ 19 65535) rfl rfl (take_ofW HT_.out HW_.out (by kernel_rfl)) (fun _ _ _ h => h) (Or.inl ⟨by rfl, ?_⟩) hHeld ?_ ?_
                 rotate_left
                 ·rintro w' ⟨s0, s1, s2, s3, s4, s5, s6, s7, s8, s9, s10, s11, s12⟩
                  go_simp
                  with_reducible rfl
                 rotate_left
                 ·simp only [Act.put, List.setIfInBounds_toArray, List.set_cons_zero, List.set_cons_succ, i64_w, i32_w]
                  rfl
                 refine one_ (i := 16) (N := some 142) (bt_ 19 131071) rfl rfl (one_of HT_.out (by kernel_rfl)) (by decide) (fun K hK => ?_)
                 refine goes_ Try.func95 (by kernel_rfl) rfl #[.agg #[.int .i64 a0_0, .int .i64 a0_1], .slice A338_0 (rd_L3 l0_8 x8_4).length c338_0] (by rfl) rfl rfl (by (try simp only [List.map_toArray, List.map_cons, List.map_nil]); first | done | rfl | (simp only [List.length_drop, List.length_take]; rfl)) ?_
                 with_reducible refine (spec_l15Flits.calls k4 a0_0 a0_1 _ _ (rd_L3 l0_8 x8_4) false _ ?side1 ?side2 A67.out).mono ?_
                 (case side1 => exact cb_ HR339_0.out HB.out)
                 (case side2 => exact HC339_0.out)
                 rintro e w72 ⟨rfl, hb⟩
                 refine ⟨_, rfl, ?_⟩
                 have n0_ := Aside0.mk (bk_ BK327.out hb)
                 have n1_ := Aside0.mk (bs_ HB.out hb)
                 clear BK327
                 clear HB
                 have BK327 := n0_
                 have HB := n1_
                 clear n0_ n1_
                 (try clear hb)
                 (try clear hb2)
                 (try clear hk)
                 (try clear hi)
                 refine hK.out _ _ ⟨(blk_cell BK327.out 0).trans rfl, (blk_cell BK327.out 1).trans rfl, (blk_cell BK327.out 2).trans rfl, (blk_cell BK327.out 3).trans rfl, (blk_cell BK327.out 4).trans rfl, (blk_cell BK327.out 5).trans rfl, (blk_cell BK327.out 6).trans rfl, (blk_cell BK327.out 7).trans rfl, (blk_cell BK327.out 8).trans rfl, (blk_cell BK327.out 9).trans rfl, (blk_cell BK327.out 10).trans rfl, ((HB.out.cell (World.block_lt_of_cell? w _ hw338_0)).trans hw338_0), ((HB.out.cell (World.block_lt_of_cell? w _ hw339_0)).trans hw339_0)⟩ (fun hHeld => ?_)
                 clear hK K
                 refine norm_ (a' := ?_) ?_ ?_
                 rotate_left
                 ·show Act.put _ (some 142) _ = _
                  simp only [Act.put, List.setIfInBounds_toArray, List.set_cons_zero, List.set_cons_succ, i64_w, i32_w]
                  rfl
                 refine pu_ 17 143 (bt_ 19 262143) HT_ ?_
                 refine pu_ 18 144 (bt_ 19 524287) HT_ ?_
                 refine done_ (done_of HT_.out (by kernel_rfl)) ?_
                 try go_wp2
                 go_ret
                 exact ⟨fin_, bb_ HB.out⟩
              ·rw [if_neg c64] at H
               exact absurd H (by simp)
             ·rw [if_neg c63] at H
              exact absurd H (by simp)
            ·rw [if_neg c62] at H
             have c62b0 : decide (x8_4 < t328) = false := decide_eq_false c62
             clear c62
             obtain rfl := Option.some.inj H
             go_wp2
             go_ret
             exact ⟨fin_, bb_ HB.out⟩

end Go.Proofs.Ytaofkfooijfjbaa.PFnExactArrivedAt
-- thin
