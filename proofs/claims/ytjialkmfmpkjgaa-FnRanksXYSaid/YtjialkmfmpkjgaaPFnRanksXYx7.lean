/- Each function that the law comes to, as a plain function, with the proof that the call in the model gives what that function says (written by a program of this session out of the translation). No condition. -/
import Derived.Test.YtjialkmfmpkjgaaPFnRanksXYx0
import Derived.Test.YtjialkmfmpkjgaaPFnRanksXYx1
import Derived.Test.YtjialkmfmpkjgaaPFnRanksXYx3
import Derived.Test.YtjialkmfmpkjgaaPFnRanksXYx5
import Derived.Test.YtjialkmfmpkjgaaPFnRanksXYx6
namespace Go.Proofs.Ytjialkmfmpkjgaa.PFnRanksXY
open Go.RowKit Go.Proofs.YtjialkmfmpkjgaaW.PrintWords Go.Proofs.YtjialkmfmpkjgaaW.PrintLast Go.Proofs.YtjialkmfmpkjgaaW.PrintMore
attribute [local go_sem] max2_int min2_int max_two min_two max_three min_three max_four min_four   -- for this text's walks alone
set_option linter.unusedVariables false
set_option linter.unusedSimpArgs false

/-! ### impl_RisesAlong: function 36 -/
def impl_RisesAlong.l0 : Nat → List Int → List Int → List Int → Int → Int → Option (Bool)
 | 0, _, _, _, _, _ => none
 | k + 1, x0, x1, x7, x8, x9 => if x9 < x8 then (if 0 ≤ x9 then (if x9 < (x7.length : Int) then ((impl_inside.f (rd x7 x9) 0 (wrap64 ((x0.length : Int) - 1))).bind fun t245 => (if t245 = true then (if x9 > 0 then (if 0 ≤ (wrap64 (x9 - 1)) then (if (wrap64 (x9 - 1)) < (x1.length : Int) then (if 0 ≤ (rd x1 (wrap64 (x9 - 1))) then (if (rd x1 (wrap64 (x9 - 1))) < (x0.length : Int) then (if 0 ≤ (rd x7 x9) then (if (rd x7 x9) < (x0.length : Int) then (if (rd x0 (rd x1 (wrap64 (x9 - 1)))) ≥ (rd x0 (rd x7 x9)) then (some false) else (impl_RisesAlong.l0 k x0 x1 x7 x8 (wrap64 (x9 + 1)))) else (none)) else (none)) else (none)) else (none)) else (none)) else (none)) else (impl_RisesAlong.l0 k x0 x1 x7 x8 (wrap64 (x9 + 1)))) else (some false))) else (none)) else (none)) else (some true)
def impl_RisesAlong.f (k : Nat) (l0 : List Int) (l1 : List Int) : Option (Bool) := impl_RisesAlong.l0 k l0 l1 l1 (l1.length : Int) 0
theorem impl_RisesAlong.mono_l : ∀ k, (∀ y0 y1 y2 y3 y4, LeO (impl_RisesAlong.l0 k y0 y1 y2 y3 y4) (impl_RisesAlong.l0 (k + 1) y0 y1 y2 y3 y4))
 | 0 => fun _ _ _ _ _ r h => by simp [impl_RisesAlong.l0] at h
 | k + 1 => by
  have ih0 := impl_RisesAlong.mono_l k
  ·intro y0 y1 y2 y3 y4
   unfold impl_RisesAlong.l0
   repeat' first
   | (with_reducible exact ih0 _ _ _ _ _)
   | (with_reducible exact LeO.refl _)
   | (with_reducible exact LeO.none _)
   | (with_reducible refine LeO.ite ?_ ?_)
   | (with_reducible refine LeO.bind ?_ (fun _ => ?_))
   | exact ih0 _ _ _ _ _
   | exact LeO.none _
   | refine LeO.ite ?_ ?_
   | refine LeO.bind ?_ (fun _ => ?_)
theorem impl_RisesAlong.mono : ∀ a0 a1 k, LeO (impl_RisesAlong.f k a0 a1) (impl_RisesAlong.f (k + 1) a0 a1) := by
 intro a0 a1 k
 have ih0 := impl_RisesAlong.mono_l k
 unfold impl_RisesAlong.f
 repeat' first
   | (with_reducible exact ih0 _ _ _ _ _)
   | (with_reducible exact LeO.refl _)
   | (with_reducible exact LeO.none _)
   | (with_reducible refine LeO.ite ?_ ?_)
   | (with_reducible refine LeO.bind ?_ (fun _ => ?_))
   | exact ih0 _ _ _ _ _
   | exact LeO.none _
   | refine LeO.ite ?_ ?_
   | refine LeO.bind ?_ (fun _ => ?_)
set_option maxHeartbeats 8000000 in
set_option maxRecDepth 100000 in
theorem impl_RisesAlong.calls (k : Nat) (A0 : Option Addr) (c0 : Nat) (l0 : List Int) (A1 : Option Addr) (c1 : Nat) (l1 : List Int) (r : Bool) (w : World) (hr0 : Kd.C (Kd.int .i64) w A0 l0.length l0) (hc0 : l0.length ≤ c0) (hr1 : Kd.C (Kd.int .i64) w A1 l1.length l1) (hc1 : l1.length ≤ c1) (h : impl_RisesAlong.f k l0 l1 = some r) :
  Calls Try.prog 36 #[.slice A0 l0.length c0, .slice A1 l1.length c1] w fun e w' => e = .returned (.bool r) ∧ Drawn0 w w' := by
 have HR0 := Aside0.mk hr0
 have HC0 := Aside0.mk hc0
 clear hr0 hc0
 have HR1 := Aside0.mk hr1
 have HC1 := Aside0.mk hc1
 clear hr1 hc1
 have H : (impl_RisesAlong.l0 k l0 l1 l1 (l1.length : Int) 0) = some r := h
 clear h
 have H' := Aside0.mk H
 clear H
 go_enter Try.func36, Try.ntmps36
 go_wp2
 repeat (go_quiet (fail); try go_wp2)
 go_loopg [9] k (fun kq v9 w' => ∃ (x9_1 : Int), v9 = .int .i64 x9_1 ∧ Aside0 (impl_RisesAlong.l0 kq l0 l1 l1 (l1.length : Int) x9_1 = some r) ∧ Aside0 (kq ≤ k) ∧ Drawn0 w w')
 case atStart => exact ⟨(0), ef_, H', ⟨Nat.le_refl _⟩, by repeat (first | exact Drawn0.refl _ | apply Drawn0.step)⟩
 case round =>
  clear H'
  obtain ⟨x9_1, rfl, HA, HK1, ⟨m1, rfl⟩⟩ := hrel
  cases gk with
  | zero => exact absurd HA.out (by simp [impl_RisesAlong.l0])
  | succ k1 =>
   have H := HA.out
   clear HA
   simp only [impl_RisesAlong.l0] at H
   by_cases c3 : x9_1 < (l1.length : Int)
   ·rw [if_pos c3] at H
    have c3b0 : decide (x9_1 < (l1.length : Int)) = true := decide_eq_true c3
    clear c3
    by_cases c4 : 0 ≤ x9_1
    ·rw [if_pos c4] at H
     have c4b0 : decide (0 ≤ x9_1) = true := decide_eq_true c4
     clear c4
     by_cases c5 : x9_1 < (l1.length : Int)
     ·rw [if_pos c5] at H
      have c5b0 : decide (x9_1 < (l1.length : Int)) = true := decide_eq_true c5
      clear c5
      replace H := Option.bind_eq_some_iff.mp H
      obtain ⟨t245, A60, H⟩ := H
      try dsimp only at H
      have A6 := Aside0.mk A60
      clear A60
      by_cases c7 : t245 = true
      ·subst c7
       rw [if_pos rfl] at H
       by_cases c8 : x9_1 > 0
       ·rw [if_pos c8] at H
        have c8b0 : decide (0 < x9_1) = true := decide_eq_true c8
        clear c8
        obtain ⟨ji9, hji9⟩ : ∃ j_ : Int, (wrap64 (x9_1 - 1)) = j_ := ⟨_, rfl⟩
        replace H : (if 0 ≤ (ji9) then (if (ji9) < (l1.length : Int) then (if 0 ≤ (rd l1 (ji9)) then (if (rd l1 (ji9)) < (l0.length : Int) then (if 0 ≤ (rd l1 x9_1) then (if (rd l1 x9_1) < (l0.length : Int) then (if (rd l0 (rd l1 (ji9))) ≥ (rd l0 (rd l1 x9_1)) then (some false) else (impl_RisesAlong.l0 k1 l0 l1 l1 (l1.length : Int) (wrap64 (x9_1 + 1)))) else (none)) else (none)) else (none)) else (none)) else (none)) else (none)) = some r := by first | (rw [hji9] at H; exact H) | (simp only [hji9] at H ⊢; exact H)
        (try rw [hji9] at A6)
        have hji9w : (IntKind.i64.wrap (x9_1 - 1)) = ji9 := (i64_w _).trans hji9
        by_cases c10 : 0 ≤ (ji9)
        ·rw [if_pos c10] at H
         have c10b0 : decide (0 ≤ (ji9)) = true := decide_eq_true c10
         clear c10
         by_cases c11 : (ji9) < (l1.length : Int)
         ·rw [if_pos c11] at H
          have c11b0 : decide ((ji9) < (l1.length : Int)) = true := decide_eq_true c11
          clear c11
          by_cases c12 : 0 ≤ (rd l1 (ji9))
          ·rw [if_pos c12] at H
           have c12b0 : decide (0 ≤ (rd l1 (ji9))) = true := decide_eq_true c12
           clear c12
           by_cases c13 : (rd l1 (ji9)) < (l0.length : Int)
           ·rw [if_pos c13] at H
            have c13b0 : decide ((rd l1 (ji9)) < (l0.length : Int)) = true := decide_eq_true c13
            clear c13
            by_cases c14 : 0 ≤ (rd l1 x9_1)
            ·rw [if_pos c14] at H
             have c14b0 : decide (0 ≤ (rd l1 x9_1)) = true := decide_eq_true c14
             clear c14
             by_cases c15 : (rd l1 x9_1) < (l0.length : Int)
             ·rw [if_pos c15] at H
              have c15b0 : decide ((rd l1 x9_1) < (l0.length : Int)) = true := decide_eq_true c15
              clear c15
              by_cases c16 : (rd l0 (rd l1 (ji9))) ≥ (rd l0 (rd l1 x9_1))
              ·rw [if_pos c16] at H
               have c16b0 : decide ((rd l0 (rd l1 x9_1)) ≤ (rd l0 (rd l1 (ji9)))) = true := decide_eq_true c16
               clear c16
               obtain rfl := Option.some.inj H
               have p244 : 0 ≤ (x9_1 : Int) := of_decide_eq_true dg_
               have q244 : x9_1 < (l1.length : Int) := of_decide_eq_true dg_
               obtain ⟨ad244, e244, hx244_0⟩ := Kd.at_int HR1.out x9_1 p244 q244
               cases e244
               replace p244 := eq_true p244
               replace q244 := eq_true q244
               have p246 : 0 ≤ ((ji9) : Int) := of_decide_eq_true dg_
               have q246 : (ji9) < (l1.length : Int) := of_decide_eq_true dg_
               obtain ⟨ad246, e246, hx246_0⟩ := Kd.at_int HR1.out (ji9) p246 q246
               obtain rfl : ad244 = ad246 := (by injection e246)
               replace p246 := eq_true p246
               replace q246 := eq_true q246
               have p247 : 0 ≤ ((rd l1 (ji9)) : Int) := of_decide_eq_true dg_
               have q247 : (rd l1 (ji9)) < (l0.length : Int) := of_decide_eq_true dg_
               obtain ⟨ad247, e247, hx247_0⟩ := Kd.at_int HR0.out (rd l1 (ji9)) p247 q247
               cases e247
               replace p247 := eq_true p247
               replace q247 := eq_true q247
               have p248 : 0 ≤ ((rd l1 x9_1) : Int) := of_decide_eq_true dg_
               have q248 : (rd l1 x9_1) < (l0.length : Int) := of_decide_eq_true dg_
               obtain ⟨ad248, e248, hx248_0⟩ := Kd.at_int HR0.out (rd l1 x9_1) p248 q248
               obtain rfl : ad247 = ad248 := (by injection e248)
               replace p248 := eq_true p248
               replace q248 := eq_true q248
               go_wp2_with (first | (go_at_call 43; (with_reducible refine (impl_inside.calls (rd l1 x9_1) 0 (wrap64 ((l0.length : Int) - 1)) true _ A6.out).mono ?_); rintro e w' ⟨rfl, ⟨nd, rfl⟩⟩; (try first | exact ⟨rfl, _, World.drewN_drewN _ _ _⟩ | exact ⟨rfl, _, Eq.trans (World.drewN_drewN _ _ _) (congrArg (World.drewN _) (Nat.add_assoc _ _ _))⟩)))
               go_quiet (first | (go_at_call 43; (with_reducible refine (impl_inside.calls (rd l1 x9_1) 0 (wrap64 ((l0.length : Int) - 1)) true _ A6.out).mono ?_); rintro e w' ⟨rfl, ⟨nd, rfl⟩⟩; (try first | exact ⟨rfl, _, World.drewN_drewN _ _ _⟩ | exact ⟨rfl, _, Eq.trans (World.drewN_drewN _ _ _) (congrArg (World.drewN _) (Nat.add_assoc _ _ _))⟩)))
               go_wp2
               go_ret
               exact ⟨by first | rfl | (simp; done) | (simp only [← hji9] <;> (first | rfl | simp)) | (simp [*]; done), by repeat (first | exact Drawn0.refl _ | apply Drawn0.step)⟩
              ·rw [if_neg c16] at H
               have c16b0 : decide ((rd l0 (rd l1 x9_1)) ≤ (rd l0 (rd l1 (ji9)))) = false := decide_eq_false c16
               clear c16
               have H' := Aside0.mk H
               clear H
               have p244 : 0 ≤ (x9_1 : Int) := of_decide_eq_true dg_
               have q244 : x9_1 < (l1.length : Int) := of_decide_eq_true dg_
               obtain ⟨ad244, e244, hx244_0⟩ := Kd.at_int HR1.out x9_1 p244 q244
               cases e244
               replace p244 := eq_true p244
               replace q244 := eq_true q244
               have p246 : 0 ≤ ((ji9) : Int) := of_decide_eq_true dg_
               have q246 : (ji9) < (l1.length : Int) := of_decide_eq_true dg_
               obtain ⟨ad246, e246, hx246_0⟩ := Kd.at_int HR1.out (ji9) p246 q246
               obtain rfl : ad244 = ad246 := (by injection e246)
               replace p246 := eq_true p246
               replace q246 := eq_true q246
               have p247 : 0 ≤ ((rd l1 (ji9)) : Int) := of_decide_eq_true dg_
               have q247 : (rd l1 (ji9)) < (l0.length : Int) := of_decide_eq_true dg_
               obtain ⟨ad247, e247, hx247_0⟩ := Kd.at_int HR0.out (rd l1 (ji9)) p247 q247
               cases e247
               replace p247 := eq_true p247
               replace q247 := eq_true q247
               have p248 : 0 ≤ ((rd l1 x9_1) : Int) := of_decide_eq_true dg_
               have q248 : (rd l1 x9_1) < (l0.length : Int) := of_decide_eq_true dg_
               obtain ⟨ad248, e248, hx248_0⟩ := Kd.at_int HR0.out (rd l1 x9_1) p248 q248
               obtain rfl : ad247 = ad248 := (by injection e248)
               replace p248 := eq_true p248
               replace q248 := eq_true q248
               go_wp2_with (first | (go_at_call 43; (with_reducible refine (impl_inside.calls (rd l1 x9_1) 0 (wrap64 ((l0.length : Int) - 1)) true _ A6.out).mono ?_); rintro e w' ⟨rfl, ⟨nd, rfl⟩⟩; (try first | exact ⟨rfl, _, World.drewN_drewN _ _ _⟩ | exact ⟨rfl, _, Eq.trans (World.drewN_drewN _ _ _) (congrArg (World.drewN _) (Nat.add_assoc _ _ _))⟩)))
               go_quiet (first | (go_at_call 43; (with_reducible refine (impl_inside.calls (rd l1 x9_1) 0 (wrap64 ((l0.length : Int) - 1)) true _ A6.out).mono ?_); rintro e w' ⟨rfl, ⟨nd, rfl⟩⟩; (try first | exact ⟨rfl, _, World.drewN_drewN _ _ _⟩ | exact ⟨rfl, _, Eq.trans (World.drewN_drewN _ _ _) (congrArg (World.drewN _) (Nat.add_assoc _ _ _))⟩)))
               go_wp2
               go_roundg k1
               case measure => have := HK1.out; omega
               case rel => exact ⟨(wrap64 (x9_1 + 1)), ef_, H', ⟨by have := HK1.out; omega⟩, by repeat (first | exact Drawn0.refl _ | apply Drawn0.step)⟩
             ·rw [if_neg c15] at H
              exact absurd H (by simp)
            ·rw [if_neg c14] at H
             exact absurd H (by simp)
           ·rw [if_neg c13] at H
            exact absurd H (by simp)
          ·rw [if_neg c12] at H
           exact absurd H (by simp)
         ·rw [if_neg c11] at H
          exact absurd H (by simp)
        ·rw [if_neg c10] at H
         exact absurd H (by simp)
       ·rw [if_neg c8] at H
        have c8b0 : decide (0 < x9_1) = false := decide_eq_false c8
        clear c8
        have H' := Aside0.mk H
        clear H
        have p244 : 0 ≤ (x9_1 : Int) := of_decide_eq_true dg_
        have q244 : x9_1 < (l1.length : Int) := of_decide_eq_true dg_
        obtain ⟨ad244, e244, hx244_0⟩ := Kd.at_int HR1.out x9_1 p244 q244
        cases e244
        replace p244 := eq_true p244
        replace q244 := eq_true q244
        go_wp2_with (first | (go_at_call 43; (with_reducible refine (impl_inside.calls (rd l1 x9_1) 0 (wrap64 ((l0.length : Int) - 1)) true _ A6.out).mono ?_); rintro e w' ⟨rfl, ⟨nd, rfl⟩⟩; (try first | exact ⟨rfl, _, World.drewN_drewN _ _ _⟩ | exact ⟨rfl, _, Eq.trans (World.drewN_drewN _ _ _) (congrArg (World.drewN _) (Nat.add_assoc _ _ _))⟩)))
        go_quiet (first | (go_at_call 43; (with_reducible refine (impl_inside.calls (rd l1 x9_1) 0 (wrap64 ((l0.length : Int) - 1)) true _ A6.out).mono ?_); rintro e w' ⟨rfl, ⟨nd, rfl⟩⟩; (try first | exact ⟨rfl, _, World.drewN_drewN _ _ _⟩ | exact ⟨rfl, _, Eq.trans (World.drewN_drewN _ _ _) (congrArg (World.drewN _) (Nat.add_assoc _ _ _))⟩)))
        go_wp2
        go_roundg k1
        case measure => have := HK1.out; omega
        case rel => exact ⟨(wrap64 (x9_1 + 1)), ef_, H', ⟨by have := HK1.out; omega⟩, by repeat (first | exact Drawn0.refl _ | apply Drawn0.step)⟩
      ·replace c7 := Bool.eq_false_iff.mpr c7
       subst c7
       rw [if_neg (show ¬ (false = true) by decide)] at H
       obtain rfl := Option.some.inj H
       have p244 : 0 ≤ (x9_1 : Int) := of_decide_eq_true dg_
       have q244 : x9_1 < (l1.length : Int) := of_decide_eq_true dg_
       obtain ⟨ad244, e244, hx244_0⟩ := Kd.at_int HR1.out x9_1 p244 q244
       cases e244
       replace p244 := eq_true p244
       replace q244 := eq_true q244
       go_wp2_with (first | (go_at_call 43; (with_reducible refine (impl_inside.calls (rd l1 x9_1) 0 (wrap64 ((l0.length : Int) - 1)) false _ A6.out).mono ?_); rintro e w' ⟨rfl, ⟨nd, rfl⟩⟩; (try first | exact ⟨rfl, _, World.drewN_drewN _ _ _⟩ | exact ⟨rfl, _, Eq.trans (World.drewN_drewN _ _ _) (congrArg (World.drewN _) (Nat.add_assoc _ _ _))⟩)))
       go_quiet (first | (go_at_call 43; (with_reducible refine (impl_inside.calls (rd l1 x9_1) 0 (wrap64 ((l0.length : Int) - 1)) false _ A6.out).mono ?_); rintro e w' ⟨rfl, ⟨nd, rfl⟩⟩; (try first | exact ⟨rfl, _, World.drewN_drewN _ _ _⟩ | exact ⟨rfl, _, Eq.trans (World.drewN_drewN _ _ _) (congrArg (World.drewN _) (Nat.add_assoc _ _ _))⟩)))
       go_wp2
       go_ret
       exact ⟨by first | rfl | (simp; done) | (simp [*]; done), by repeat (first | exact Drawn0.refl _ | apply Drawn0.step)⟩
     ·rw [if_neg c5] at H
      exact absurd H (by simp)
    ·rw [if_neg c4] at H
     exact absurd H (by simp)
   ·rw [if_neg c3] at H
    have c3b0 : decide (x9_1 < (l1.length : Int)) = false := decide_eq_false c3
    clear c3
    obtain rfl := Option.some.inj H
    go_wp2
    repeat (go_quiet (fail); try go_wp2)
    go_ret
    exact ⟨by first | rfl | (simp; done) | (simp [*]; done), by repeat (first | exact Drawn0.refl _ | apply Drawn0.step)⟩

/-! ### laws_FnRanksXY: function 7 -/
def laws_FnRanksXY.l0 : Nat → Bool → Int → List Int → List Int → Int → Int → Int → Option (Bool)
 | 0, _, _, _, _, _, _, _ => none
 | k + 1, x6, x8, x9, x10, x11, x253000, x253001 => if x11 < (wrap64 (4 * x8)) then ((impl_RankRule.f k x253000 x253001 1 x11).bind fun t270 => (if x10.length < 17592186044416 then (laws_FnRanksXY.l0 k x6 x8 x9 (x10 ++ [t270]) (wrap64 (x11 + 1)) x253000 x253001) else (none))) else (if x6 = true then ((impl_RisesAlong.f k x10 x9).bind fun t274 => (some t274)) else (none))
def laws_FnRanksXY.f (k : Nat) (l0 : List Int) : Option (Bool) := (laws_big.f l0).bind fun t249 => (if t249 = true then (some true) else ((spec_DrawGrid.f k l0).bind fun bt250 => ((impl_StandardTable.f k bt250.1 bt250.2 1).bind fun bt254 => ((spec_DrawPlaces.f k l0).bind fun t259 => (if 0 < (t259.length : Int) then (if (wrap64 (bt250.1 * bt250.2)) = 0 then (none) else (if 1 < (t259.length : Int) then ((impl_WalkTable.f k bt250.1 bt250.2 ([] : List Int) bt254.1 (Int.tmod (rd t259 0) (wrap64 (bt250.1 * bt250.2))) (Int.tmod (rd t259 1) (wrap64 (bt250.1 * bt250.2)))).bind fun t264 => (laws_FnRanksXY.l0 k bt254.2 (wrap64 (bt250.1 * bt250.2)) t264 (([] : List Int)) 0 bt250.1 bt250.2)) else (none))) else (none))))))
theorem laws_FnRanksXY.mono_l : ∀ k, (∀ y0 y1 y2 y3 y4 y5 y6, LeO (laws_FnRanksXY.l0 k y0 y1 y2 y3 y4 y5 y6) (laws_FnRanksXY.l0 (k + 1) y0 y1 y2 y3 y4 y5 y6))
 | 0 => fun _ _ _ _ _ _ _ r h => by simp [laws_FnRanksXY.l0] at h
 | k + 1 => by
  have ih0 := laws_FnRanksXY.mono_l k
  ·intro y0 y1 y2 y3 y4 y5 y6
   unfold laws_FnRanksXY.l0
   repeat' first
   | (with_reducible exact ih0 _ _ _ _ _ _ _)
   | (with_reducible exact impl_RankRule.mono _ _ _ _ _)
   | (with_reducible exact impl_RisesAlong.mono _ _ _)
   | (with_reducible exact impl_StandardTable.mono _ _ _ _)
   | (with_reducible exact impl_WalkTable.mono _ _ _ _ _ _ _)
   | (with_reducible exact spec_DrawGrid.mono _ _)
   | (with_reducible exact spec_DrawPlaces.mono _ _)
   | (with_reducible exact LeO.refl _)
   | (with_reducible exact LeO.none _)
   | (with_reducible refine LeO.ite ?_ ?_)
   | (with_reducible refine LeO.bind ?_ (fun _ => ?_))
   | exact ih0 _ _ _ _ _ _ _
   | exact impl_RankRule.mono _ _ _ _ _
   | exact impl_RisesAlong.mono _ _ _
   | exact impl_StandardTable.mono _ _ _ _
   | exact impl_WalkTable.mono _ _ _ _ _ _ _
   | exact spec_DrawGrid.mono _ _
   | exact spec_DrawPlaces.mono _ _
   | exact LeO.none _
   | refine LeO.ite ?_ ?_
   | refine LeO.bind ?_ (fun _ => ?_)
theorem laws_FnRanksXY.mono : ∀ a0 k, LeO (laws_FnRanksXY.f k a0) (laws_FnRanksXY.f (k + 1) a0) := by
 intro a0 k
 have ih0 := laws_FnRanksXY.mono_l k
 unfold laws_FnRanksXY.f
 repeat' first
   | (with_reducible exact ih0 _ _ _ _ _ _ _)
   | (with_reducible exact impl_RankRule.mono _ _ _ _ _)
   | (with_reducible exact impl_RisesAlong.mono _ _ _)
   | (with_reducible exact impl_StandardTable.mono _ _ _ _)
   | (with_reducible exact impl_WalkTable.mono _ _ _ _ _ _ _)
   | (with_reducible exact spec_DrawGrid.mono _ _)
   | (with_reducible exact spec_DrawPlaces.mono _ _)
   | (with_reducible exact LeO.refl _)
   | (with_reducible exact LeO.none _)
   | (with_reducible refine LeO.ite ?_ ?_)
   | (with_reducible refine LeO.bind ?_ (fun _ => ?_))
   | exact ih0 _ _ _ _ _ _ _
   | exact impl_RankRule.mono _ _ _ _ _
   | exact impl_RisesAlong.mono _ _ _
   | exact impl_StandardTable.mono _ _ _ _
   | exact impl_WalkTable.mono _ _ _ _ _ _ _
   | exact spec_DrawGrid.mono _ _
   | exact spec_DrawPlaces.mono _ _
   | exact LeO.none _
   | refine LeO.ite ?_ ?_
   | refine LeO.bind ?_ (fun _ => ?_)
def laws_FnRanksXY.T8 : Bool × List (List Nat × List Nat) := (true, [([], []), ([], []), ([], []), ([2], [2]), ([3], [3]), ([], []), ([4, 5], [4, 5]), ([], []), ([7], [7]), ([8], [8]), ([], []), ([9, 10], [9, 10]), ([0, 1, 6, 11], [0, 1, 6, 11]), ([12, 12, 0, 1, 2, 3, 4, 5, 6, 7, 8, 9, 10, 11, 12], [12])])
def laws_FnRanksXY.B8 : List Nat := [0, 0, 0, 4, 12, 0, 60, 0, 128, 384, 0, 1920, 4095, 8191]
theorem laws_FnRanksXY.tab8 : rtab .any (opsOf Try.f7 8) = laws_FnRanksXY.T8 := by kernel_rfl
theorem laws_FnRanksXY.bits8 : waitsOk laws_FnRanksXY.T8.2 laws_FnRanksXY.B8 = true := by kernel_rfl
set_option maxHeartbeats 8000000 in
set_option maxRecDepth 100000 in
theorem laws_FnRanksXY.calls (k : Nat) (A0 : Option Addr) (c0 : Nat) (l0 : List Int) (r : Bool) (w : World) (hr0 : Kd.C (Kd.int .u8) w A0 l0.length l0) (hc0 : l0.length ≤ c0) (h : laws_FnRanksXY.f k l0 = some r) :
  Calls Try.prog 7 #[.slice A0 l0.length c0] w fun e w' => e = .returned (.bool r) ∧ Below w.heap.size w w' := by
 have hu38 := Try.underlying38
 have hu59 := Try.underlying59
 have hu61 := Try.underlying61
 have HR0 := Aside0.mk hr0
 have HC0 := Aside0.mk hc0
 clear hr0 hc0
 have HB := Aside0.mk (Below.refl w.heap.size w)
 have H : ((laws_big.f l0).bind fun t249 => (if t249 = true then (some true) else ((spec_DrawGrid.f k l0).bind fun bt250 => ((impl_StandardTable.f k bt250.1 bt250.2 1).bind fun bt254 => ((spec_DrawPlaces.f k l0).bind fun t259 => (if 0 < (t259.length : Int) then (if (wrap64 (bt250.1 * bt250.2)) = 0 then (none) else (if 1 < (t259.length : Int) then ((impl_WalkTable.f k bt250.1 bt250.2 ([] : List Int) bt254.1 (Int.tmod (rd t259 0) (wrap64 (bt250.1 * bt250.2))) (Int.tmod (rd t259 1) (wrap64 (bt250.1 * bt250.2)))).bind fun t264 => (laws_FnRanksXY.l0 k bt254.2 (wrap64 (bt250.1 * bt250.2)) t264 (([] : List Int)) 0 bt250.1 bt250.2)) else (none))) else (none))))))) = some r := h
 clear h
 replace H := Option.bind_eq_some_iff.mp H
 obtain ⟨t249, A20, H⟩ := H
 try dsimp only at H
 have A2 := Aside0.mk A20
 clear A20
 by_cases c3 : t249 = true
 ·subst c3
  rw [if_pos rfl] at H
  obtain rfl := Option.some.inj H
  go_enter Try.func7, Try.ntmps7
  go_wp2_with (first | ((with_reducible refine gate_callee (f := 19) rfl ?_); refine gm_ (some 13) Try.func19 #[.slice A0 l0.length c0] rfl ?_; (with_reducible refine (laws_big.calls _ _ l0 true _ ?side1 HC0.out A2.out).mono ?_); (case side1 => repeat (first | exact HR0.out | (with_reducible refine Kd.C_alloc ?_ _) | (with_reducible refine Kd.C_drewN ?_ _) | (with_reducible refine Kd.C_drew ?_))); rintro e w' ⟨rfl, ⟨nd, rfl⟩⟩; refine ⟨_, rfl, ?_⟩))
  go_ret
  exact ⟨fin_, bb_ HB.out⟩
 ·replace c3 := Bool.eq_false_iff.mpr c3
  subst c3
  rw [if_neg (show ¬ (false = true) by decide)] at H
  replace H := Option.bind_eq_some_iff.mp H
  obtain ⟨⟨t250, t251⟩, A40, H⟩ := H
  try dsimp only at H
  have A4 := Aside0.mk A40
  clear A40
  replace H := Option.bind_eq_some_iff.mp H
  obtain ⟨⟨t254, t257⟩, A50, H⟩ := H
  try dsimp only at H
  have A5 := Aside0.mk A50
  clear A50
  replace H := Option.bind_eq_some_iff.mp H
  obtain ⟨t259, A60, H⟩ := H
  try dsimp only at H
  have A6 := Aside0.mk A60
  clear A60
  by_cases c7 : 0 < (t259.length : Int)
  ·rw [if_pos c7] at H
   have c7b0 : decide (0 < (t259.length : Int)) = true := decide_eq_true c7
   have c7b1 : decide (0 < t259.length) = true := decide_eq_true (by omega)
   clear c7
   by_cases c8 : (wrap64 (t250 * t251)) = 0
   ·rw [if_pos c8] at H
    exact absurd H (by simp)
   ·rw [if_neg c8] at H
    have c8b0 : ((wrap64 (t250 * t251)) == 0) = false := beq_eq_false_iff_ne.mpr c8
    have c8b1 : ((wrap64 (t250 * t251)) != 0) = true := bne_iff_ne.mpr c8
    by_cases c9 : 1 < (t259.length : Int)
    ·rw [if_pos c9] at H
     have c9b0 : decide (1 < (t259.length : Int)) = true := decide_eq_true c9
     have c9b1 : decide (1 < t259.length) = true := decide_eq_true (by omega)
     clear c9
     replace H := Option.bind_eq_some_iff.mp H
     obtain ⟨t264, A100, H⟩ := H
     try dsimp only at H
     have A10 := Aside0.mk A100
     clear A100
     obtain ⟨y267, hy267⟩ : ∃ y_ : List Int, y_ = (([] : List Int)) := ⟨_, rfl⟩
     replace H : (laws_FnRanksXY.l0 k t257 (wrap64 (t250 * t251)) t264 y267 0 t250 t251) = some r := by first | (rw [hy267]; with_reducible exact H) | (have H2_ := (Option.bind_some _ _).symm.trans H; rw [hy267]; with_reducible exact H2_) | (have H2_ := (Option.bind_some _ _).symm.trans H; with_reducible exact H2_) | with_reducible exact H | (rw [hy267]; exact H) | exact H
     have Ny267 := Aside0.mk hy267
     clear hy267
     have H' := Aside0.mk H
     clear H
     go_enter Try.func7, Try.ntmps7
     try go_wp2_with (first | ((with_reducible refine gate_callee (f := 19) rfl ?_); refine gm_ (some 13) Try.func19 #[.slice A0 l0.length c0] rfl ?_; (with_reducible refine (laws_big.calls _ _ l0 false _ ?side1 HC0.out A2.out).mono ?_); (case side1 => repeat (first | exact HR0.out | (with_reducible refine Kd.C_alloc ?_ _) | (with_reducible refine Kd.C_drewN ?_ _) | (with_reducible refine Kd.C_drew ?_))); rintro e w' ⟨rfl, ⟨nd, rfl⟩⟩; refine ⟨_, rfl, ?_⟩) | ((with_reducible refine gate_callee (f := 32) rfl ?_); refine gm_ (some 15) Try.func32 #[.slice A0 l0.length c0] rfl ?_; (with_reducible refine (spec_DrawGrid.calls k _ _ l0 t250 t251 _ ?side1 HC0.out A4.out).mono ?_); (case side1 => repeat (first | exact HR0.out | (with_reducible refine Kd.C_alloc ?_ _) | (with_reducible refine Kd.C_drewN ?_ _) | (with_reducible refine Kd.C_drew ?_))); rintro e w11 ⟨rfl, hb⟩; refine ⟨_, rfl, ?_⟩; replace HB := Aside0.mk (bs_ HB.out hb); (try clear hb)) | ((with_reducible refine gate_dst (N := 3) rfl ?_); refine box_event ?hg (N := 3) ?hd (cs := #[.int .i64 0, .int .i64 0]) (t := 38) ?hr ?_; (case hd => rfl); (case hg => rfl); (case hr => first | (go_simp; done) | (go_simp; rfl)); intro gb252 hg w12 hbox hb; have BK252 := Aside0.mk (hbox); have GW252 := Aside0.mk ((by rw [hg]; exact (bz_ HB.out) : w.heap.size ≤ gb252)); have GE252 := Aside0.mk ((by rw [hg]; exact (bz_ HB.out) : w.heap.size ≤ gb252)); replace HB := Aside0.mk (bs_ HB.out hb); clear hb hbox hg; obtain ⟨hcz13_0, hcz13_1, hfz13_0, hfz13_1⟩ := cz2_ BK252.out) | ((with_reducible refine gate_dst (N := 4) rfl ?_); refine box_event ?hg (N := 4) ?hd (cs := #[.int .i64 0, .int .i64 0, .slice none 0 0]) (t := 59) ?hr ?_; (case hd => rfl); (case hg => rfl); (case hr => first | (go_simp; done) | (go_simp; rfl)); intro gb253 hg w14 hbox hb; have BK253 := Aside0.mk (hbox); have GW253 := Aside0.mk ((by rw [hg]; exact (bz_ HB.out) : w.heap.size ≤ gb253)); have GE253 := Aside0.mk ((by rw [hg]; exact (bz_ HB.out) : w.heap.size ≤ gb253)); replace HB := Aside0.mk (bs_ HB.out hb); have NB252_253 := Aside0.mk ((by rw [hg]; exact Nat.ne_of_lt (blk_lt (g := gb252) (o := .cells #[.int .i64 t250, .int .i64 t251] 38 (0, 0)) (by (with_reducible repeat (first | refine blk_drewN ?_ _ | refine blk_drew ?_ | refine blk_alloc ?_ _)); refine blk_put (cs := #[.int .i64 t250, .int .i64 0]) ?_ 1 _ rfl; (with_reducible repeat (first | refine blk_drewN ?_ _ | refine blk_drew ?_ | refine blk_alloc ?_ _)); refine blk_put (cs := #[.int .i64 0, .int .i64 0]) ?_ 0 _ rfl; (with_reducible repeat (first | refine blk_drewN ?_ _ | refine blk_drew ?_ | refine blk_alloc ?_ _)); exact BK252.out)) : gb252 ≠ gb253)); have NB253_252 := Aside0.mk ((by rw [hg]; exact Nat.ne_of_gt (blk_lt (g := gb252) (o := .cells #[.int .i64 t250, .int .i64 t251] 38 (0, 0)) (by (with_reducible repeat (first | refine blk_drewN ?_ _ | refine blk_drew ?_ | refine blk_alloc ?_ _)); refine blk_put (cs := #[.int .i64 t250, .int .i64 0]) ?_ 1 _ rfl; (with_reducible repeat (first | refine blk_drewN ?_ _ | refine blk_drew ?_ | refine blk_alloc ?_ _)); refine blk_put (cs := #[.int .i64 0, .int .i64 0]) ?_ 0 _ rfl; (with_reducible repeat (first | refine blk_drewN ?_ _ | refine blk_drew ?_ | refine blk_alloc ?_ _)); exact BK252.out)) : gb253 ≠ gb252)); replace BK252 := Aside0.mk (blk_below (g := gb252) (o := .cells #[.int .i64 t250, .int .i64 t251] 38 (0, 0)) (by (with_reducible repeat (first | refine blk_drewN ?_ _ | refine blk_drew ?_ | refine blk_alloc ?_ _)); refine blk_put (cs := #[.int .i64 t250, .int .i64 0]) ?_ 1 _ rfl; (with_reducible repeat (first | refine blk_drewN ?_ _ | refine blk_drew ?_ | refine blk_alloc ?_ _)); refine blk_put (cs := #[.int .i64 0, .int .i64 0]) ?_ 0 _ rfl; (with_reducible repeat (first | refine blk_drewN ?_ _ | refine blk_drew ?_ | refine blk_alloc ?_ _)); exact BK252.out) hb); clear hb hbox hg; have hnb15 := NB253_252.out; have hnc15 := NB252_253.out; obtain ⟨hcz16_0, hcz16_1, hcz16_2, hfz16_0, hfz16_1, hfz16_2⟩ := cz3_ BK253.out; obtain ⟨hcz17_0, hcz17_1, hfz17_0, hfz17_1⟩ := cz2_ BK252.out) | ((with_reducible refine gate_callee (f := 33) rfl ?_); refine gm_ (some 20) Try.func33 #[.agg #[.int .i64 t250, .int .i64 t251], .int .i64 1] rfl ?_; (with_reducible refine (impl_StandardTable.calls k t250 t251 1 t254 t257 _ A5.out).mono ?_); rintro e w18 ⟨v255, rfl, ho0, hb⟩; refine ⟨_, rfl, ?_⟩; have HO256 := Aside0.mk (Kd.R_lower ho0 (bz_ HB.out)); replace BK252 := Aside0.mk (blk_below (bf_ BK252.out) hb); replace BK253 := Aside0.mk (blk_below (g := gb253) (o := .cells #[.int .i64 t250, .int .i64 t251, .slice none 0 0] 59 (0, 0)) (by (with_reducible repeat (first | refine blk_drewN ?_ _ | refine blk_drew ?_ | refine blk_alloc ?_ _)); refine blk_put (cs := #[.int .i64 t250, .int .i64 t251, .slice none 0 0]) ?_ 2 _ rfl; (with_reducible repeat (first | refine blk_drewN ?_ _ | refine blk_drew ?_ | refine blk_alloc ?_ _)); refine blk_put (cs := #[.int .i64 t250, .int .i64 0, .slice none 0 0]) ?_ 1 _ rfl; (with_reducible repeat (first | refine blk_drewN ?_ _ | refine blk_drew ?_ | refine blk_alloc ?_ _)); refine blk_put (cs := #[.int .i64 0, .int .i64 0, .slice none 0 0]) ?_ 0 _ rfl; (with_reducible repeat (first | refine blk_drewN ?_ _ | refine blk_drew ?_ | refine blk_alloc ?_ _)); exact BK253.out) hb); replace HB := Aside0.mk (bs_ HB.out hb); (try clear hb); (try clear ho0)) | ((with_reducible refine gate_dst (N := 5) rfl ?_); refine box_event ?hg (N := 5) ?hd (cs := #[.slice none 0 0]) (t := 61) ?hr ?_; (case hd => rfl); (case hg => rfl); (case hr => first | (go_simp; done) | (go_simp; rfl)); intro gb258 hg w19 hbox hb; replace HO256 := Aside0.mk (Kd.R_below (ra_ HO256.out) hb); have BK258 := Aside0.mk (hbox); have GW258 := Aside0.mk ((by rw [hg]; exact (bz_ HB.out) : w.heap.size ≤ gb258)); have GE258 := Aside0.mk ((by rw [hg]; exact (bz_ HB.out) : w.heap.size ≤ gb258)); replace HB := Aside0.mk (bs_ HB.out hb); have NB252_258 := Aside0.mk ((by rw [hg]; exact Nat.ne_of_lt (bl_ BK252.out) : gb252 ≠ gb258)); have NB258_252 := Aside0.mk ((by rw [hg]; exact Nat.ne_of_gt (bl_ BK252.out) : gb258 ≠ gb252)); replace BK252 := Aside0.mk (bk_ BK252.out hb); have NB253_258 := Aside0.mk ((by rw [hg]; exact Nat.ne_of_lt (bl_ BK253.out) : gb253 ≠ gb258)); have NB258_253 := Aside0.mk ((by rw [hg]; exact Nat.ne_of_gt (bl_ BK253.out) : gb258 ≠ gb253)); replace BK253 := Aside0.mk (bk_ BK253.out hb); clear hb hbox hg; obtain ⟨Ao20, co20, eo20⟩ := Kd.R_slice HO256.out; subst eo20; have hnb21 := NB258_252.out; have hnc21 := NB252_258.out; have hnb22 := NB258_253.out; have hnc22 := NB253_258.out; obtain ⟨hcz23_0, hfz23_0⟩ := cz1_ BK258.out) | ((with_reducible refine gate_callee (f := 22) rfl ?_); refine gm_ (some 24) Try.func22 #[.slice A0 l0.length c0] rfl ?_; (with_reducible refine (spec_DrawPlaces.calls k _ _ l0 t259 _ ?side1 HC0.out A6.out).mono ?_); (case side1 => exact Kd.C_below HR0.out (by repeat (first | (with_reducible first | exact HB.out | apply below_alloc | apply pw_below_drewN | apply below_drew1 | refine below_set ?_ GE252.out | refine below_set ?_ GE253.out | refine below_set ?_ GE258.out) | exact HB.out))); rintro e w24 ⟨v260, rfl, ho0, hb⟩; refine ⟨_, rfl, ?_⟩; have HO261 := Aside0.mk (Kd.R_lower (Kd.R_new' ho0 (Kd.R_lt (rm_ (Kd.R_types HO256.out BK258.out (by decide)) (fun _ h_ => h_.1)))) (bz_ HB.out)); replace HO256 := Aside0.mk (Kd.R_elder' (rm_ (Kd.R_types HO256.out BK258.out (by decide)) (fun _ h_ => h_.1)) (Kd.R_base ho0) hb); replace BK252 := Aside0.mk (blk_below (bf_ BK252.out) hb); replace BK253 := Aside0.mk (blk_below (bf_ BK253.out) hb); replace BK258 := Aside0.mk (blk_below (g := gb258) (o := .cells #[.slice Ao20 t254.length co20] 61 (0, 0)) (by (with_reducible repeat (first | refine blk_drewN ?_ _ | refine blk_drew ?_ | refine blk_alloc ?_ _)); refine blk_put (cs := #[.slice none 0 0]) ?_ 0 _ rfl; (with_reducible repeat (first | refine blk_drewN ?_ _ | refine blk_drew ?_ | refine blk_alloc ?_ _)); exact BK258.out) hb); replace HB := Aside0.mk (bs_ HB.out hb); (try clear hb); (try clear ho0); obtain ⟨hcz25_0, hcz25_1, hfz25_0, hfz25_1⟩ := cz2_ BK252.out))
     have n0_ := Aside0.mk (Kd.R_drew HO256.out)
     have n1_ := Aside0.mk (Kd.R_drew HO261.out)
     have n2_ := Aside0.mk (blk_drew BK252.out)
     have n3_ := Aside0.mk (blk_drew BK253.out)
     have n4_ := Aside0.mk (blk_drew BK258.out)
     have n5_ := Aside0.mk (below_drew1 HB.out)
     clear HO256
     clear HO261
     clear BK252
     clear BK253
     clear BK258
     clear HB
     have HO256 := n0_
     have HO261 := n1_
     have BK252 := n2_
     have BK253 := n3_
     have BK258 := n4_
     have HB := n5_
     clear n0_ n1_ n2_ n3_ n4_ n5_
     obtain ⟨Ao27, co27, eo27⟩ := Kd.R_slice HO261.out
     (first | subst eo27 | (injection eo27 with f1_ f2_ f3_; have f4_ := f1_.symm; have f5_ := f3_.symm; clear f1_ f2_ f3_; subst f4_; subst f5_))
     have p262 : 0 ≤ (0 : Int) := (by omega)
     have q262 : 0 < (t259.length : Int) := of_decide_eq_true dg_
     obtain ⟨ad262, e262, hx262_0⟩ := Kd.at_int (Kd.R_reads' HO261.out).2.2 0 p262 q262
     cases e262
     have qi262 : (0 < t259.length) = True := eq_true (by omega)
     (try rw [show ((0 : Int)).toNat = 0 from rfl] at hx262_0)
     (try rw [Addr.add_zero'] at hx262_0)
     replace p262 := eq_true p262
     replace q262 := eq_true q262
     have p263 : 0 ≤ (1 : Int) := (by omega)
     have q263 : 1 < (t259.length : Int) := of_decide_eq_true dg_
     obtain ⟨ad263, e263, hx263_0⟩ := Kd.at_int (Kd.R_reads' HO261.out).2.2 1 p263 q263
     obtain rfl : ad262 = ad263 := (by injection e263)
     (try simp only [show (1 : Int).toNat = 1 from rfl, Nat.reduceMul, Nat.reduceEqDiff, Go.Addr.add, ↓reduceIte] at hx263_0)
     have qi263 : (1 < t259.length) = True := eq_true (by omega)
     (try rw [show ((1 : Int)).toNat = 1 from rfl] at hx263_0)
     replace p263 := eq_true p263
     replace q263 := eq_true q263
     refine start_ (n := 14) (S := fun w' => w'.cell? ⟨gb253, 0, none⟩ = some (.int .i64 t250) ∧ w'.cell? ⟨gb253, 1, none⟩ = some (.int .i64 t251) ∧ w'.cell? ⟨gb253, 2, none⟩ = some (.slice none 0 0) ∧ w'.cell? ⟨gb258, 0, none⟩ = some (.slice Ao20 t254.length co20) ∧ w'.cell? ad262 = some (.int .i64 (rd t259 0)) ∧ w'.cell? ⟨ad262.block, ad262.off + 1, none⟩ = some (.int .i64 (rd t259 1))) (ds := []) #[false, false, false, false, false, false, false, false, false, false, false, false, false, false] (by kernel_rfl) rfl rfl ⟨(blk_cell BK253.out 0).trans rfl, (blk_cell BK253.out 1).trans rfl, (blk_cell BK253.out 2).trans rfl, (blk_cell BK258.out 0).trans rfl, hx262_0, hx263_0⟩ (fun hHeld => ?_); refine with_tabW laws_FnRanksXY.tab8 laws_FnRanksXY.bits8 (fun HT_ HW_ => ?_)
     generalize w24.drew = w26 at HO256 HO261 BK252 BK253 BK258 HB hx262_0 hx263_0 hHeld ⊢
     refine pu_ 2 32 (bt_ 14 4) HT_ ?_
     refine pu_ 3 33 (bt_ 14 12) HT_ ?_
     refine pu_ 5 35 (bt_ 14 44) HT_ ?_
     refine pu_ 7 37 (bt_ 14 172) HT_ ?_
     refine pu_ 8 38 (bt_ 14 428) HT_ ?_
     refine pu_ 10 40 (bt_ 14 1452) HT_ ?_
     refine take_ (i := 0) (N := some 30) (v := ?_) (a' := ?_) (bt_ 14 1453) rfl rfl (take_ofW HT_.out HW_.out (by kernel_rfl)) (fun _ _ _ h => h) (Or.inl ⟨by rfl, ?_⟩) hHeld ?_ ?_
     rotate_left
     ·rintro w' ⟨s0, s1, s2, s3, s4, s5⟩
      go_simp
      with_reducible rfl
     rotate_left
     ·simp only [Act.put, List.setIfInBounds_toArray, List.set_cons_zero, List.set_cons_succ, i64_w, i32_w]
      rfl
     refine take_ (i := 1) (N := some 31) (v := ?_) (a' := ?_) (bt_ 14 1455) rfl rfl (take_ofW HT_.out HW_.out (by kernel_rfl)) (fun _ _ _ h => h) (Or.inl ⟨by rfl, ?_⟩) hHeld ?_ ?_
     rotate_left
     ·rintro w' ⟨s0, s1, s2, s3, s4, s5⟩
      go_simp
      with_reducible rfl
     rotate_left
     ·simp only [Act.put, List.setIfInBounds_toArray, List.set_cons_zero, List.set_cons_succ, i64_w, i32_w]
      rfl
     refine take_ (i := 4) (N := some 34) (v := ?_) (a' := ?_) (bt_ 14 1471) rfl rfl (take_ofW HT_.out HW_.out (by kernel_rfl)) (fun _ _ _ h => h) (Or.inl ⟨by rfl, ?_⟩) hHeld ?_ ?_
     rotate_left
     ·rintro w' ⟨s0, s1, s2, s3, s4, s5⟩
      go_simp
      with_reducible rfl
     rotate_left
     ·simp only [Act.put, List.setIfInBounds_toArray, List.set_cons_zero, List.set_cons_succ, i64_w, i32_w]
      rfl
     refine pu_ 6 36 (bt_ 14 1535) HT_ ?_
     refine take_ (i := 9) (N := some 39) (v := ?_) (a' := ?_) (bt_ 14 2047) rfl rfl (take_ofW HT_.out HW_.out (by kernel_rfl)) (fun _ _ _ h => h) (Or.inl ⟨by rfl, ?_⟩) hHeld ?_ ?_
     rotate_left
     ·rintro w' ⟨s0, s1, s2, s3, s4, s5⟩
      go_simp
      with_reducible rfl
     rotate_left
     ·simp only [Act.put, List.setIfInBounds_toArray, List.set_cons_zero, List.set_cons_succ, i64_w, i32_w]
      rfl
     refine pu_ 11 41 (bt_ 14 4095) HT_ ?_
     refine one_ (i := 12) (N := some 42) (bt_ 14 8191) rfl rfl (one_of HT_.out (by kernel_rfl)) (by decide) (fun K hK => ?_)
     refine goes_ Try.func34 (by kernel_rfl) rfl #[.agg #[.int .i64 t250, .int .i64 t251, .slice none 0 0], .agg #[.slice Ao20 t254.length co20], .int .i64 (Int.tmod (rd t259 0) (wrap64 (t250 * t251))), .int .i64 (Int.tmod (rd t259 1) (wrap64 (t250 * t251)))] (by rfl) rfl rfl (by (try simp only [List.map_toArray, List.map_cons, List.map_nil]); first | done | rfl | (simp only [List.length_drop, List.length_take]; rfl)) ?_
     refine (impl_WalkTable.calls k t250 t251 _ _ ([] : List Int) _ _ t254 (Int.tmod (rd t259 0) (wrap64 (t250 * t251))) (Int.tmod (rd t259 1) (wrap64 (t250 * t251))) t264 _ ?side1 ?side2 ?side3 ?side4 A10.out).mono ?_
     (case side1 => exact Kd.C_nil _ _)
     (case side2 => exact Nat.le_refl _)
     (case side3 => repeat (first | exact (Kd.R_reads' HO256.out).2.2 | (with_reducible refine Kd.C_alloc ?_ _) | (with_reducible refine Kd.C_drewN ?_ _) | (with_reducible refine Kd.C_drew ?_)))
     (case side4 => exact (Kd.R_reads' HO256.out).2.1)
     rintro e w28 ⟨v265, rfl, ho0, hb⟩
     have HS4_ := (hb.cell (World.block_lt_of_cell? _ _ (hHeld.2.2.2.2.1))).trans (hHeld.2.2.2.2.1)
     have HS5_ := (hb.cell (World.block_lt_of_cell? _ _ (hHeld.2.2.2.2.2))).trans (hHeld.2.2.2.2.2)
     refine ⟨_, rfl, ?_⟩
     have n0_ := Aside0.mk (Kd.R_elder' (ra_ HO256.out) (Kd.R_base ho0) hb)
     have n1_ := Aside0.mk (Kd.R_elder' (ra_ HO261.out) (Kd.R_base ho0) hb)
     have n2_ := Aside0.mk (Kd.R_lower (Kd.R_new' (Kd.R_new' ho0 (rl_ HO256.out)) (rl_ HO261.out)) (bz_ HB.out))
     have n3_ := Aside0.mk (bk_ BK252.out hb)
     have n4_ := Aside0.mk (bk_ BK253.out hb)
     have n5_ := Aside0.mk (bk_ BK258.out hb)
     have n6_ := Aside0.mk (bs_ HB.out hb)
     clear HO256
     clear HO261
     clear BK252
     clear BK253
     clear BK258
     clear HB
     have HO256 := n0_
     have HO261 := n1_
     have HO266 := n2_
     have BK252 := n3_
     have BK253 := n4_
     have BK258 := n5_
     have HB := n6_
     clear n0_ n1_ n2_ n3_ n4_ n5_ n6_
     (try clear hb)
     (try clear hb2)
     (try clear hk)
     (try clear hi)
     (try clear ho0)
     refine hK.out _ _ ⟨(blk_cell BK253.out 0).trans rfl, (blk_cell BK253.out 1).trans rfl, (blk_cell BK253.out 2).trans rfl, (blk_cell BK258.out 0).trans rfl, HS4_, HS5_⟩ (fun hHeld => ?_)
     clear hK K
     refine norm_ (a' := ?_) ?_ ?_
     rotate_left
     ·show Act.put _ (some 42) _ = _
      simp only [Act.put, List.setIfInBounds_toArray, List.set_cons_zero, List.set_cons_succ, i64_w, i32_w]
      rfl
     refine pu_ 13 9 (bt_ 14 16383) HT_ ?_
     refine done_ (done_of HT_.out (by kernel_rfl)) ?_
     try go_wp2_with (first | ((with_reducible refine gate_dst (N := 43) rfl ?_); refine Kd.R_lit (Kd.int .i64) _ 3 ?hg (N := 43) ?hd (xs := ([] : List Int)) (inner := []) (ok := fun _ => True) (okp := fun _ => True) ?hr ?hp (fun _ hk => hk) trivial (Below.refl _ _) (Nat.le_refl _) (by simp) ?_; (case hd => rfl); (case hg => rfl); (case hr => first | (go_simp; done) | (go_simp; rfl)); (case hp => exact (Reps.none _ _)); intro v268 w29 ho30 hb hg_ hnew_; clear hg_ hnew_; (first | rw [← Ny267.out] at ho30 | (simp only [Int.reduceToNat] at ho30; rw [← Ny267.out] at ho30)); have HO269 := Aside0.mk (Kd.R_lower (Kd.R_new' (Kd.R_new' (Kd.R_new' ho30 (rl_ HO256.out)) (rl_ HO261.out)) (rl_ HO266.out)) (bz_ HB.out)); replace HO256 := Aside0.mk (Kd.R_elder' (ra_ HO256.out) (Kd.R_base ho30) hb); replace HO261 := Aside0.mk (Kd.R_elder' (ra_ HO261.out) (Kd.R_base ho30) hb); replace HO266 := Aside0.mk (Kd.R_elder' (ra_ HO266.out) (Kd.R_base ho30) hb); replace BK252 := Aside0.mk (bk_ BK252.out hb); replace BK253 := Aside0.mk (bk_ BK253.out hb); replace BK258 := Aside0.mk (bk_ BK258.out hb); replace HB := Aside0.mk (bs_ HB.out hb); clear hb ho30))
     go_loopg [10, 11] k (fun kq v10 v11 w' => ∃ (x10_1 : List Int) (x11_1 : Int), v11 = .int .i64 x11_1 ∧ Aside0 (laws_FnRanksXY.l0 kq t257 (wrap64 (t250 * t251)) t264 x10_1 x11_1 t250 t251 = some r) ∧ Aside0 (kq ≤ k) ∧ Aside0 (Kd.R (Kd.int .i64) 3 w' w.heap.size (fun k_ => some k_ ≠ (v10 : Value).ownBlock ∧ some k_ ≠ ((.slice Ao20 t254.length co20) : Value).ownBlock) v265 t264) ∧ Aside0 (Kd.R (Kd.int .i64) 3 w' w.heap.size (fun k_ => some k_ ≠ (v265 : Value).ownBlock ∧ some k_ ≠ ((.slice Ao20 t254.length co20) : Value).ownBlock) v10 x10_1) ∧ Aside0 (Kd.R (Kd.int .i64) 3 w' w.heap.size (fun k_ => some k_ ≠ (v265 : Value).ownBlock ∧ some k_ ≠ (v10 : Value).ownBlock) (.slice Ao20 t254.length co20) t254) ∧ Aside0 (w'.heap[gb252]? = some (.cells #[.int .i64 t250, .int .i64 t251] 38 (0, 0))) ∧ Aside0 (w'.heap[gb253]? = some (.cells #[.int .i64 t250, .int .i64 t251, (.slice none 0 0)] 59 (0, 0))) ∧ Aside0 (w'.heap[gb258]? = some (.cells #[(.slice Ao20 t254.length co20)] 61 (0, 0))) ∧ Aside0 (Below w.heap.size w w'))
     case atStart => exact ⟨(y267), (0), ef_, H', ⟨Nat.le_refl _⟩, ⟨by (with_reducible repeat (first | apply Kd.R_alloc | apply Kd.R_drewN | apply Kd.R_drew)); exact Kd.R_mono HO266.out (fun _ hk => ⟨hk.2, hk.1.1.2⟩)⟩, ⟨by (with_reducible repeat (first | apply Kd.R_alloc | apply Kd.R_drewN | apply Kd.R_drew)); exact Kd.R_mono HO269.out (fun _ hk => ⟨hk.2, hk.1.1.2⟩)⟩, ⟨by (with_reducible repeat (first | apply Kd.R_alloc | apply Kd.R_drewN | apply Kd.R_drew)); exact Kd.R_mono HO256.out (fun _ hk => ⟨hk.1.2, hk.2⟩)⟩, ⟨bq_ BK252.out⟩, ⟨bq_ BK253.out⟩, ⟨bq_ BK258.out⟩, ⟨bb_ HB.out⟩⟩
     case round =>
      clear H'
      try clear c3
      try clear c7
      try clear c7b0
      try clear c7b1
      try clear c8
      try clear c8b0
      try clear c8b1
      try clear c9
      try clear c9b0
      try clear c9b1
      try clear hcz13_0 hcz13_1 hfz13_0 hfz13_1
      try clear hcz16_0 hcz16_1 hcz16_2 hfz16_0 hfz16_1 hfz16_2
      try clear hcz17_0 hcz17_1 hfz17_0 hfz17_1
      try clear hcz23_0 hfz23_0
      try clear hcz25_0 hcz25_1 hfz25_0 hfz25_1
      try clear hx262_0
      try clear hx263_0
      try clear p262
      try clear p263
      try clear q262
      try clear q263
      obtain ⟨x10_1, x11_1, rfl, HA, HK1, HO_9, HO_10, HO_259000, BK252, BK253, BK258, HB⟩ := hrel
      cases gk with
      | zero => exact absurd HA.out (by simp [laws_FnRanksXY.l0])
      | succ k1 =>
       have H := HA.out
       clear HA
       simp only [laws_FnRanksXY.l0] at H
       by_cases c31 : x11_1 < (wrap64 (4 * (wrap64 (t250 * t251))))
       ·rw [if_pos c31] at H
        have c31b0 : decide (x11_1 < (wrap64 (4 * (wrap64 (t250 * t251))))) = true := decide_eq_true c31
        clear c31
        replace H := Option.bind_eq_some_iff.mp H
        obtain ⟨t270, A320, H⟩ := H
        try dsimp only at H
        have A32 := Aside0.mk A320
        clear A320
        by_cases c33 : x10_1.length < 17592186044416
        ·rw [if_pos c33] at H
         have LMc33 := Aside0.mk c33
         clear c33
         obtain ⟨y271, hy271⟩ : ∃ y_ : List Int, y_ = (x10_1 ++ [t270]) := ⟨_, rfl⟩
         replace H : (laws_FnRanksXY.l0 k1 t257 (wrap64 (t250 * t251)) t264 y271 (wrap64 (x11_1 + 1)) t250 t251) = some r := by first | (rw [hy271]; with_reducible exact H) | (have H2_ := (Option.bind_some _ _).symm.trans H; rw [hy271]; with_reducible exact H2_) | (have H2_ := (Option.bind_some _ _).symm.trans H; with_reducible exact H2_) | with_reducible exact H | (rw [hy271]; exact H) | exact H
         have Ny271 := Aside0.mk hy271
         clear hy271
         have H' := Aside0.mk H
         clear H
         have hnb34 := NB252_253.out
         have hnc34 := NB253_252.out
         have hnb35 := NB252_258.out
         have hnc35 := NB258_252.out
         obtain ⟨hcz36_0, hcz36_1, hfz36_0, hfz36_1⟩ := cz2_ BK252.out
         go_wp2_with (first | ((with_reducible refine gate_callee (f := 35) rfl ?_); refine gm_ (some 53) Try.func35 #[.agg #[.int .i64 t250, .int .i64 t251], .int .i64 1, .int .i64 x11_1] rfl ?_; (with_reducible refine (impl_RankRule.calls k1 t250 t251 1 x11_1 t270 _ A32.out).mono ?_); rintro e w37 ⟨rfl, hb⟩; refine ⟨_, rfl, ?_⟩; replace HO_9 := Aside0.mk (Kd.R_below (ra_ HO_9.out) hb); replace HO_10 := Aside0.mk (Kd.R_below (ra_ HO_10.out) hb); replace HO_259000 := Aside0.mk (Kd.R_below (ra_ HO_259000.out) hb); replace BK252 := Aside0.mk (bk_ BK252.out hb); replace BK253 := Aside0.mk (bk_ BK253.out hb); replace BK258 := Aside0.mk (bk_ BK258.out hb); replace HB := Aside0.mk (bs_ HB.out hb); (try clear hb)) | ((with_reducible refine gate_builtin (b := .append) (xs := #[.tmp 50, .tmp 54]) rfl ?_); at_builtin; refine Kd.R_append (Kd.int .i64) (w0 := w) w.heap.size rfl (.tmp 50) (.tmp 54) 29 3 (.int .i64 0) 8 rfl Try.underlying29 info3 rfl (by decide) (by omega) u10 x10_1 t270 [.int .i64 t270] (fun k_ => some k_ ≠ (v265 : Value).ownBlock ∧ some k_ ≠ (.slice Ao20 t254.length co20 : Value).ownBlock) (fun _ => False) rfl rfl ?aP (fun _ hk => hk.elim) ?aF ?aO ?aB ?aS ?aL ?_; (case aP => exact rfl); (case aB => exact (by repeat (first | (with_reducible first | exact HB.out | apply below_alloc | apply pw_below_drewN | apply below_drew1 | refine below_set ?_ GE252.out | refine below_set ?_ GE253.out | refine below_set ?_ GE258.out) | exact HB.out))); (case aF => exact (fun k_ hk => ⟨Kd.fresh' (rl_ HO_9.out) k_ hk, Kd.fresh' (rl_ HO_259000.out) k_ hk⟩)); (case aO => exact (ra_ HO_10.out)); (case aS => exact (bz_ HB.out)); (case aL => have := LMc33.out; omega); intro v272 w38 ho hb hg hat; rw [← Ny271.out] at ho; have n0_ := Aside0.mk (Kd.R_after (ok := (fun k_ => some k_ ≠ (.slice Ao20 t254.length co20 : Value).ownBlock)) (by (with_reducible repeat (first | apply Kd.R_alloc | apply Kd.R_drewN | apply Kd.R_drew)); exact Kd.R_mono HO_9.out (fun _ hk => ⟨hk.2, hk.1⟩)) hg hat); have n1_ := Aside0.mk (Kd.R_after (ok := (fun k_ => some k_ ≠ (v265 : Value).ownBlock)) (ra_ HO_259000.out) hg hat); have n2_ := Aside0.mk (blk_grown (g := gb252) (o := .cells #[.int .i64 t250, .int .i64 t251] 38 (0, 0)) (by (with_reducible repeat (first | refine blk_drewN ?_ _ | refine blk_drew ?_ | refine blk_alloc ?_ _)); exact BK252.out) hg (Kd.R_ne HO_10.out BK252.out (by decide))); have n3_ := Aside0.mk (blk_grown (g := gb253) (o := .cells #[.int .i64 t250, .int .i64 t251, .slice none 0 0] 59 (0, 0)) (by (with_reducible repeat (first | refine blk_drewN ?_ _ | refine blk_drew ?_ | refine blk_alloc ?_ _)); exact BK253.out) hg (Kd.R_ne HO_10.out BK253.out (by decide))); have n4_ := Aside0.mk (blk_grown (g := gb258) (o := .cells #[.slice Ao20 t254.length co20] 61 (0, 0)) (by (with_reducible repeat (first | refine blk_drewN ?_ _ | refine blk_drew ?_ | refine blk_alloc ?_ _)); exact BK258.out) hg (Kd.R_ne HO_10.out BK258.out (by decide))); have n5_ := Aside0.mk (hb); have n6_ := Aside0.mk (ho); clear HO_9; clear HO_259000; clear BK252; clear BK253; clear BK258; clear HB; clear HO_10; have HO_9 := n0_; have HO_259000 := n1_; have BK252 := n2_; have BK253 := n3_; have BK258 := n4_; have HB := n5_; have HO273 := n6_; clear n0_ n1_ n2_ n3_ n4_ n5_ n6_; clear ho hb hg hat))
         go_roundg k1
         case measure => have := HK1.out; omega
         case rel => exact ⟨(y271), (wrap64 (x11_1 + 1)), ef_, H', ⟨by have := HK1.out; omega⟩, ⟨by (with_reducible repeat (first | apply Kd.R_alloc | apply Kd.R_drewN | apply Kd.R_drew)); exact Kd.R_mono HO_9.out (fun _ hk => ⟨hk.2, hk.1⟩)⟩, ⟨by (with_reducible repeat (first | apply Kd.R_alloc | apply Kd.R_drewN | apply Kd.R_drew)); exact HO273.out⟩, ⟨by (with_reducible repeat (first | apply Kd.R_alloc | apply Kd.R_drewN | apply Kd.R_drew)); exact HO_259000.out⟩, ⟨bq_ BK252.out⟩, ⟨bq_ BK253.out⟩, ⟨bq_ BK258.out⟩, ⟨bb_ HB.out⟩⟩
        ·rw [if_neg c33] at H
         exact absurd H (by simp)
       ·rw [if_neg c31] at H
        have c31b0 : decide (x11_1 < (wrap64 (4 * (wrap64 (t250 * t251))))) = false := decide_eq_false c31
        clear c31
        by_cases c39 : t257 = true
        ·subst c39
         rw [if_pos rfl] at H
         replace H := Option.bind_eq_some_iff.mp H
         obtain ⟨t274, A400, H⟩ := H
         try dsimp only at H
         have A40 := Aside0.mk A400
         clear A400
         obtain rfl := Option.some.inj H
         obtain ⟨Ao41, co41, eo41⟩ := Kd.R_slice HO_10.out
         subst eo41
         obtain ⟨Ao42, co42, eo42⟩ := Kd.R_slice HO_9.out
         subst eo42
         go_wp2_with (first | (go_at_call 36; (with_reducible refine (impl_RisesAlong.calls k1 _ _ x10_1 _ _ t264 t274 _ ?side1 ?side2 ?side3 ?side4 A40.out).mono ?_); (case side1 => repeat (first | exact (Kd.R_reads' HO_10.out).2.2 | (with_reducible refine Kd.C_alloc ?_ _) | (with_reducible refine Kd.C_drewN ?_ _) | (with_reducible refine Kd.C_drew ?_))); (case side2 => exact (Kd.R_reads' HO_10.out).2.1); (case side3 => repeat (first | exact (Kd.R_reads' HO_9.out).2.2 | (with_reducible refine Kd.C_alloc ?_ _) | (with_reducible refine Kd.C_drewN ?_ _) | (with_reducible refine Kd.C_drew ?_))); (case side4 => exact (Kd.R_reads' HO_9.out).2.1); rintro e w' ⟨rfl, ⟨nd, rfl⟩⟩))
         go_ret
         exact ⟨fin_, bb_ HB.out⟩
        ·replace c39 := Bool.eq_false_iff.mpr c39
         subst c39
         rw [if_neg (show ¬ (false = true) by decide)] at H
         exact absurd H (by simp)
    ·rw [if_neg c9] at H
     exact absurd H (by simp)
  ·rw [if_neg c7] at H
   exact absurd H (by simp)

/-- THE ONE PURE STATEMENT of laws_FnRanksXY: yours. -/
def laws_FnRanksXY.Pure : Prop := ∀ (l0 : List Int), l0.length ≤ maxLen → l0.length * 1 ≤ 140737488351232 → (∀ x ∈ l0, (Lit.int .u8 x).wf = true) → ∃ k, laws_FnRanksXY.f k l0 = some true
theorem laws_FnRanksXY.walk (P : laws_FnRanksXY.Pure) (a0 : Option Addr) (len0 cap0 : Nat) (z0 : List Int) (w : World) (w0 : (a0 = none ∧ len0 = 0 ∧ cap0 = 0 ∧ z0 = []) ∨ ∃ x, a0 = some x ∧ len0 ≤ cap0 ∧ cap0 ≤ maxLen ∧ z0.length = cap0 ∧ (∀ i, i < z0.length → w.cell? (x.add i) = some (.int .u8 (z0.getD i 0))) ∧ ∀ n ∈ z0, (Lit.int .u8 n).wf = true) (y0 : len0 * 1 ≤ 140737488351232) :
  Calls Try.prog 7 #[.slice a0 len0 cap0] w fun e w' => e = .returned (.bool true) ∧ Below w.heap.size w w' := by
 obtain ⟨l0, rfl, hr0, hm0, hw0, hc0⟩ := ReadsInt.ofRowC w0
 obtain ⟨k, h⟩ := P l0 hm0 y0 hw0
 refine (laws_FnRanksXY.calls k _ _ l0 true w (Kd.C_of_reads (d := (0 : Int)) (h1 := fun _ => rfl) hr0) hc0 h).mono ?_
 rintro e w' ⟨rfl, hd⟩
 exact ⟨rfl, hd⟩

end Go.Proofs.Ytjialkmfmpkjgaa.PFnRanksXY
-- thin
