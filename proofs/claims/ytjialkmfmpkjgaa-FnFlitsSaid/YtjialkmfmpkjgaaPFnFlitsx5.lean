/- Each function that the law comes to, as a plain function, with the proof that the call in the model gives what that function says (written by a program of this session out of the translation). No condition. -/
import Derived.Test.YtjialkmfmpkjgaaPFnFlitsx0
import Derived.Test.YtjialkmfmpkjgaaPFnFlitsx2
import Derived.Test.YtjialkmfmpkjgaaPFnFlitsx3
import Derived.Test.YtjialkmfmpkjgaaPFnFlitsx4
namespace Go.Proofs.Ytjialkmfmpkjgaa.PFnFlits
open Go.RowKit Go.Proofs.YtjialkmfmpkjgaaW.PrintWords Go.Proofs.YtjialkmfmpkjgaaW.PrintLast Go.Proofs.YtjialkmfmpkjgaaW.PrintMore
attribute [local go_sem] max2_int min2_int max_two min_two max_three min_three max_four min_four   -- for this text's walks alone
set_option linter.unusedVariables false
set_option linter.unusedSimpArgs false

/-! ### laws_FnFlits: function 5 -/
def laws_FnFlits.f (k : Nat) (l0 : List Int) : Option (Bool) := (laws_big.f l0).bind fun t227 => (if t227 = true then (some true) else ((spec_DrawPacket.f k l0).bind fun bt228 => ((impl_FlitsOf.f k bt228.1 bt228.2.1 bt228.2.2.1 bt228.2.2.2.1 bt228.2.2.2.2.1 bt228.2.2.2.2.2.1 bt228.2.2.2.2.2.2).bind fun t237 => ((spec_DrawPlaces.f k l0).bind fun t240 => (if (t237.length : Int) = bt228.2.2.2.2.2.2 then (if 0 < (t240.length : Int) then (if (t237.length : Int) = 0 then (none) else ((impl_PacketOk.f bt228.1 bt228.2.1 bt228.2.2.1 bt228.2.2.2.1 bt228.2.2.2.2.1 bt228.2.2.2.2.2.1 bt228.2.2.2.2.2.2).bind fun t244 => (if t244 = true then ((impl_IsWhole.f k t237).bind fun t245 => (if t245 = true then (if 0 ≤ (Int.tmod (rd t240 0) (t237.length : Int)) then (if (Int.tmod (rd t240 0) (t237.length : Int)) ≤ (t237.length : Int) then ((impl_IsWhole.f k (t237.take ((Int.tmod (rd t240 0) (t237.length : Int)) : Int).toNat)).bind fun t250 => (if t250 = true then (none) else (if (Int.tmod (rd t240 0) (t237.length : Int)) = 0 then ((impl_CountPackets.f k t237).bind fun t251 => (if t251 = 1 then ((impl_SameFlits.f k t237 t237).bind fun t252 => (if t252 = true then (if 0 < (t237.length : Int) then (some (((rd_T48 t237 0).f0) == bt228.2.2.1)) else (none)) else (none))) else (none))) else ((impl_IsWhole.f k (t237.drop ((Int.tmod (rd t240 0) (t237.length : Int)) : Int).toNat)).bind fun t258 => (if t258 = true then (none) else ((impl_CountPackets.f k t237).bind fun t259 => (if t259 = 1 then ((impl_SameFlits.f k t237 t237).bind fun t260 => (if t260 = true then (if 0 < (t237.length : Int) then (some (((rd_T48 t237 0).f0) == bt228.2.2.1)) else (none)) else (none))) else (none)))))))) else (none)) else (none)) else (none))) else (none)))) else (none)) else (none))))))
theorem laws_FnFlits.mono : ∀ a0 k, LeO (laws_FnFlits.f k a0) (laws_FnFlits.f (k + 1) a0) := by
 intro a0 k
 unfold laws_FnFlits.f
 repeat' first
   | (with_reducible exact impl_CountPackets.mono _ _)
   | (with_reducible exact impl_FlitsOf.mono _ _ _ _ _ _ _ _)
   | (with_reducible exact impl_IsWhole.mono _ _)
   | (with_reducible exact impl_SameFlits.mono _ _ _)
   | (with_reducible exact spec_DrawPacket.mono _ _)
   | (with_reducible exact spec_DrawPlaces.mono _ _)
   | (with_reducible exact LeO.refl _)
   | (with_reducible exact LeO.none _)
   | (with_reducible refine LeO.ite ?_ ?_)
   | (with_reducible refine LeO.bind ?_ (fun _ => ?_))
   | exact impl_CountPackets.mono _ _
   | exact impl_FlitsOf.mono _ _ _ _ _ _ _ _
   | exact impl_IsWhole.mono _ _
   | exact impl_SameFlits.mono _ _ _
   | exact spec_DrawPacket.mono _ _
   | exact spec_DrawPlaces.mono _ _
   | exact LeO.none _
   | refine LeO.ite ?_ ?_
   | refine LeO.bind ?_ (fun _ => ?_)
def laws_FnFlits.T9 : Bool × List (List Nat × List Nat) := (true, [([], []), ([], []), ([0, 1], [0, 1]), ([2, 2], [2]), ([3], [3]), ([4, 3, 3], [3, 4]), ([3, 5], [3, 5]), ([6, 5], [6]), ([7], [7]), ([7], [7]), ([8, 9, 7], [7, 8, 9]), ([10, 7, 7], [7, 10]), ([11, 7], [7, 11]), ([7, 12], [7, 12]), ([13, 11], [13]), ([14], [14]), ([15, 14], [14, 15]), ([16, 14, 14], [14, 16]), ([17], [17]), ([17], [17]), ([18, 19, 17], [17, 18, 19]), ([20, 17, 17], [17, 20]), ([21, 17], [17, 21]), ([17, 22, 14], [14, 17, 22]), ([14, 23], [14, 23]), ([24, 21], [24]), ([25], [25]), ([26, 25, 25], [25, 26]), ([27, 25], [25, 27]), ([25, 28], [25, 28]), ([29, 27], [29]), ([30], [30]), ([30], [30]), ([31, 32, 30, 30], [30, 31, 32]), ([30, 33], [30, 33]), ([34, 33], [34]), ([35], [35]), ([36, 35], [35, 36]), ([37, 35], [35, 37]), ([38, 35], [35, 38]), ([35], [35]), ([40, 35], [35, 40]), ([39, 41, 35], [35, 39, 41]), ([35, 42], [35, 42]), ([43, 35, 0, 1, 2, 3, 4, 5, 6, 7, 8, 9, 10, 11, 12, 13, 14, 15, 16, 17, 18, 19, 20, 21, 22, 23, 24, 25, 26, 27, 28, 29, 30, 31, 32, 33, 34, 35, 36, 37, 38, 39, 40, 41, 42, 43], [43])])
def laws_FnFlits.B9 : List Nat := [0, 0, 3, 7, 15, 31, 63, 127, 255, 255, 1023, 2047, 4095, 8191, 16383, 32767, 65535, 131071, 262143, 262143, 1048575, 2097151, 4194303, 8388607, 16777215, 33554431, 67108863, 134217727, 268435455, 536870911, 1073741823, 2147483647, 2147483647, 8589934591, 17179869183, 34359738367, 68719476735, 137438953471, 274877906943, 549755813887, 68719476735, 1168231104511, 4398046511103, 8796093022207, 17592186044415]
theorem laws_FnFlits.tab9 : rtab .any (opsOf Try.f5 9) = laws_FnFlits.T9 := by kernel_rfl
theorem laws_FnFlits.bits9 : waitsOk laws_FnFlits.T9.2 laws_FnFlits.B9 = true := by kernel_rfl
set_option maxHeartbeats 8000000 in
set_option maxRecDepth 100000 in
theorem laws_FnFlits.calls (k : Nat) (A0 : Option Addr) (c0 : Nat) (l0 : List Int) (r : Bool) (w : World) (hr0 : Kd.C (Kd.int .u8) w A0 l0.length l0) (hc0 : l0.length ≤ c0) (h : laws_FnFlits.f k l0 = some r) :
  Calls Try.prog 5 #[.slice A0 l0.length c0] w fun e w' => e = .returned (.bool r) ∧ Below w.heap.size w w' := by
 have hu38 := Try.underlying38
 have hu40 := Try.underlying40
 have HR0 := Aside0.mk hr0
 have HC0 := Aside0.mk hc0
 clear hr0 hc0
 have HB := Aside0.mk (Below.refl w.heap.size w)
 have H : ((laws_big.f l0).bind fun t227 => (if t227 = true then (some true) else ((spec_DrawPacket.f k l0).bind fun bt228 => ((impl_FlitsOf.f k bt228.1 bt228.2.1 bt228.2.2.1 bt228.2.2.2.1 bt228.2.2.2.2.1 bt228.2.2.2.2.2.1 bt228.2.2.2.2.2.2).bind fun t237 => ((spec_DrawPlaces.f k l0).bind fun t240 => (if (t237.length : Int) = bt228.2.2.2.2.2.2 then (if 0 < (t240.length : Int) then (if (t237.length : Int) = 0 then (none) else ((impl_PacketOk.f bt228.1 bt228.2.1 bt228.2.2.1 bt228.2.2.2.1 bt228.2.2.2.2.1 bt228.2.2.2.2.2.1 bt228.2.2.2.2.2.2).bind fun t244 => (if t244 = true then ((impl_IsWhole.f k t237).bind fun t245 => (if t245 = true then (if 0 ≤ (Int.tmod (rd t240 0) (t237.length : Int)) then (if (Int.tmod (rd t240 0) (t237.length : Int)) ≤ (t237.length : Int) then ((impl_IsWhole.f k (t237.take ((Int.tmod (rd t240 0) (t237.length : Int)) : Int).toNat)).bind fun t250 => (if t250 = true then (none) else (if (Int.tmod (rd t240 0) (t237.length : Int)) = 0 then ((impl_CountPackets.f k t237).bind fun t251 => (if t251 = 1 then ((impl_SameFlits.f k t237 t237).bind fun t252 => (if t252 = true then (if 0 < (t237.length : Int) then (some (((rd_T48 t237 0).f0) == bt228.2.2.1)) else (none)) else (none))) else (none))) else ((impl_IsWhole.f k (t237.drop ((Int.tmod (rd t240 0) (t237.length : Int)) : Int).toNat)).bind fun t258 => (if t258 = true then (none) else ((impl_CountPackets.f k t237).bind fun t259 => (if t259 = 1 then ((impl_SameFlits.f k t237 t237).bind fun t260 => (if t260 = true then (if 0 < (t237.length : Int) then (some (((rd_T48 t237 0).f0) == bt228.2.2.1)) else (none)) else (none))) else (none)))))))) else (none)) else (none)) else (none))) else (none)))) else (none)) else (none))))))) = some r := h
 clear h
 replace H := Option.bind_eq_some_iff.mp H
 obtain ⟨t227, A20, H⟩ := H
 try dsimp only at H
 have A2 := Aside0.mk A20
 clear A20
 by_cases c3 : t227 = true
 ·subst c3
  rw [if_pos rfl] at H
  obtain rfl := Option.some.inj H
  go_enter Try.func5, Try.ntmps5
  go_wp2_with (first | ((with_reducible refine gate_callee (f := 19) rfl ?_); refine gm_ (some 9) Try.func19 #[.slice A0 l0.length c0] rfl ?_; (with_reducible refine (laws_big.calls _ _ l0 true _ ?side1 HC0.out A2.out).mono ?_); (case side1 => repeat (first | exact HR0.out | (with_reducible refine Kd.C_alloc ?_ _) | (with_reducible refine Kd.C_drewN ?_ _) | (with_reducible refine Kd.C_drew ?_))); rintro e w' ⟨rfl, ⟨nd, rfl⟩⟩; refine ⟨_, rfl, ?_⟩))
  go_ret
  exact ⟨fin_, bb_ HB.out⟩
 ·replace c3 := Bool.eq_false_iff.mpr c3
  subst c3
  rw [if_neg (show ¬ (false = true) by decide)] at H
  replace H := Option.bind_eq_some_iff.mp H
  obtain ⟨⟨t228, t229, t230, t231, t232, t233, t234⟩, A40, H⟩ := H
  try dsimp only at H
  have A4 := Aside0.mk A40
  clear A40
  replace H := Option.bind_eq_some_iff.mp H
  obtain ⟨t237, A50, H⟩ := H
  try dsimp only at H
  have A5 := Aside0.mk A50
  clear A50
  replace H := Option.bind_eq_some_iff.mp H
  obtain ⟨t240, A60, H⟩ := H
  try dsimp only at H
  have A6 := Aside0.mk A60
  clear A60
  by_cases c7 : (t237.length : Int) = t234
  ·rw [if_pos c7] at H
   have c7b0 : ((t237.length : Int) == t234) = true := beq_iff_eq.mpr c7
   have c7b1 : ((t237.length : Int) != t234) = false := bne_eq_false_iff_eq.mpr c7
   clear c7
   by_cases c8 : 0 < (t240.length : Int)
   ·rw [if_pos c8] at H
    have c8b0 : decide (0 < (t240.length : Int)) = true := decide_eq_true c8
    have c8b1 : decide (0 < t240.length) = true := decide_eq_true (by omega)
    clear c8
    by_cases c9 : (t237.length : Int) = 0
    ·rw [if_pos c9] at H
     exact absurd H (by simp)
    ·rw [if_neg c9] at H
     have c9b0 : ((t237.length : Int) == 0) = false := beq_eq_false_iff_ne.mpr c9
     have c9b1 : ((t237.length : Int) != 0) = true := bne_iff_ne.mpr c9
     have c9b2 : ¬ (t237 = []) := fun h_ => c9 (by rw [h_]; rfl)
     replace H := Option.bind_eq_some_iff.mp H
     obtain ⟨t244, A100, H⟩ := H
     try dsimp only at H
     have A10 := Aside0.mk A100
     clear A100
     by_cases c11 : t244 = true
     ·subst c11
      rw [if_pos rfl] at H
      replace H := Option.bind_eq_some_iff.mp H
      obtain ⟨t245, A120, H⟩ := H
      try dsimp only at H
      have A12 := Aside0.mk A120
      clear A120
      by_cases c13 : t245 = true
      ·subst c13
       rw [if_pos rfl] at H
       obtain ⟨ji14, hji14⟩ : ∃ j_ : Int, (Int.tmod (rd t240 0) (t237.length : Int)) = j_ := ⟨_, rfl⟩
       replace H : (if 0 ≤ (ji14) then (if (ji14) ≤ (t237.length : Int) then ((impl_IsWhole.f k (t237.take ((ji14) : Int).toNat)).bind fun t250 => (if t250 = true then (none) else (if (ji14) = 0 then ((impl_CountPackets.f k t237).bind fun t251 => (if t251 = 1 then ((impl_SameFlits.f k t237 t237).bind fun t252 => (if t252 = true then (if 0 < (t237.length : Int) then (some (((rd_T48 t237 0).f0) == t230)) else (none)) else (none))) else (none))) else ((impl_IsWhole.f k (t237.drop ((ji14) : Int).toNat)).bind fun t258 => (if t258 = true then (none) else ((impl_CountPackets.f k t237).bind fun t259 => (if t259 = 1 then ((impl_SameFlits.f k t237 t237).bind fun t260 => (if t260 = true then (if 0 < (t237.length : Int) then (some (((rd_T48 t237 0).f0) == t230)) else (none)) else (none))) else (none)))))))) else (none)) else (none)) = some r := by first | (rw [hji14] at H; exact H) | (simp only [hji14] at H ⊢; exact H)
       (try rw [hji14] at A2)
       (try rw [hji14] at A4)
       (try rw [hji14] at A5)
       (try rw [hji14] at A6)
       (try rw [hji14] at A10)
       (try rw [hji14] at A12)
       by_cases c15 : 0 ≤ (ji14)
       ·rw [if_pos c15] at H
        have c15b0 := eq_true c15
        have c15b1 : decide (0 ≤ (ji14)) = true := decide_eq_true c15
        clear c15
        by_cases c16 : (ji14) ≤ (t237.length : Int)
        ·rw [if_pos c16] at H
         have c16b0 := eq_true c16
         have c16b1 : decide ((ji14) ≤ (t237.length : Int)) = true := decide_eq_true c16
         clear c16
         obtain ⟨y246, hy246⟩ : ∃ y_ : List (S48), y_ = (t237.take ((ji14) : Int).toNat) := ⟨_, rfl⟩
         replace H : ((impl_IsWhole.f k y246).bind fun t250 => (if t250 = true then (none) else (if (ji14) = 0 then ((impl_CountPackets.f k t237).bind fun t251 => (if t251 = 1 then ((impl_SameFlits.f k t237 t237).bind fun t252 => (if t252 = true then (if 0 < (t237.length : Int) then (some (((rd_T48 t237 0).f0) == t230)) else (none)) else (none))) else (none))) else ((impl_IsWhole.f k (t237.drop ((ji14) : Int).toNat)).bind fun t258 => (if t258 = true then (none) else ((impl_CountPackets.f k t237).bind fun t259 => (if t259 = 1 then ((impl_SameFlits.f k t237 t237).bind fun t260 => (if t260 = true then (if 0 < (t237.length : Int) then (some (((rd_T48 t237 0).f0) == t230)) else (none)) else (none))) else (none)))))))) = some r := by first | (rw [hy246]; with_reducible exact H) | (have H2_ := (Option.bind_some _ _).symm.trans H; rw [hy246]; with_reducible exact H2_) | (have H2_ := (Option.bind_some _ _).symm.trans H; with_reducible exact H2_) | with_reducible exact H | (rw [hy246]; exact H) | exact H
         have Ny246 := Aside0.mk hy246
         clear hy246
         replace H := Option.bind_eq_some_iff.mp H
         obtain ⟨t250, A170, H⟩ := H
         try dsimp only at H
         have A17 := Aside0.mk A170
         clear A170
         by_cases c18 : t250 = true
         ·subst c18
          rw [if_pos rfl] at H
          exact absurd H (by simp)
         ·replace c18 := Bool.eq_false_iff.mpr c18
          subst c18
          rw [if_neg (show ¬ (false = true) by decide)] at H
          by_cases c19 : (ji14) = 0
          ·rw [if_pos c19] at H
           have c19b0 : ((ji14) == 0) = true := beq_iff_eq.mpr c19
           have c19b1 : ((ji14) != 0) = false := bne_eq_false_iff_eq.mpr c19
           clear c19
           replace H := Option.bind_eq_some_iff.mp H
           obtain ⟨t251, A200, H⟩ := H
           try dsimp only at H
           have A20 := Aside0.mk A200
           clear A200
           by_cases c21 : t251 = 1
           ·rw [if_pos c21] at H
            have c21b0 : (t251 == 1) = true := beq_iff_eq.mpr c21
            have c21b1 : (t251 != 1) = false := bne_eq_false_iff_eq.mpr c21
            clear c21
            replace H := Option.bind_eq_some_iff.mp H
            obtain ⟨t252, A220, H⟩ := H
            try dsimp only at H
            have A22 := Aside0.mk A220
            clear A220
            by_cases c23 : t252 = true
            ·subst c23
             rw [if_pos rfl] at H
             by_cases c24 : 0 < (t237.length : Int)
             ·rw [if_pos c24] at H
              have c24b0 : decide (0 < (t237.length : Int)) = true := decide_eq_true c24
              have c24b1 : decide (0 < t237.length) = true := decide_eq_true (by omega)
              clear c24
              obtain rfl := Option.some.inj H
              go_enter Try.func5, Try.ntmps5
              try go_wp2_with (first | ((with_reducible refine gate_callee (f := 19) rfl ?_); refine gm_ (some 9) Try.func19 #[.slice A0 l0.length c0] rfl ?_; (with_reducible refine (laws_big.calls _ _ l0 false _ ?side1 HC0.out A2.out).mono ?_); (case side1 => repeat (first | exact HR0.out | (with_reducible refine Kd.C_alloc ?_ _) | (with_reducible refine Kd.C_drewN ?_ _) | (with_reducible refine Kd.C_drew ?_))); rintro e w' ⟨rfl, ⟨nd, rfl⟩⟩; refine ⟨_, rfl, ?_⟩) | ((with_reducible refine gate_callee (f := 20) rfl ?_); refine gm_ (some 12) Try.func20 #[.slice A0 l0.length c0] rfl ?_; (with_reducible refine (spec_DrawPacket.calls k _ _ l0 t228 t229 t230 t231 t232 t233 t234 _ ?side1 HC0.out A4.out).mono ?_); (case side1 => repeat (first | exact HR0.out | (with_reducible refine Kd.C_alloc ?_ _) | (with_reducible refine Kd.C_drewN ?_ _) | (with_reducible refine Kd.C_drew ?_))); rintro e w25 ⟨rfl, hb⟩; refine ⟨_, rfl, ?_⟩; replace HB := Aside0.mk (bs_ HB.out hb); (try clear hb)) | ((with_reducible refine gate_dst (N := 3) rfl ?_); refine box_event ?hg (N := 3) ?hd (cs := #[.int .i64 0, .int .i64 0]) (t := 38) ?hr ?_; (case hd => rfl); (case hg => rfl); (case hr => first | (go_simp; done) | (go_simp; rfl)); intro gb235 hg w26 hbox hb; have BK235 := Aside0.mk (hbox); have GW235 := Aside0.mk ((by rw [hg]; exact (bz_ HB.out) : w.heap.size ≤ gb235)); have GE235 := Aside0.mk ((by rw [hg]; exact (bz_ HB.out) : w.heap.size ≤ gb235)); replace HB := Aside0.mk (bs_ HB.out hb); clear hb hbox hg) | ((with_reducible refine gate_dst (N := 4) rfl ?_); refine box_event ?hg (N := 4) ?hd (cs := #[.int .i64 0, .int .i64 0, .int .i64 0, .int .i64 0, .int .i64 0]) (t := 40) ?hr ?_; (case hd => rfl); (case hg => rfl); (case hr => first | (go_simp; done) | (go_simp; rfl)); intro gb236 hg w27 hbox hb; have BK236 := Aside0.mk (hbox); have GW236 := Aside0.mk ((by rw [hg]; exact (bz_ HB.out) : w.heap.size ≤ gb236)); have GE236 := Aside0.mk ((by rw [hg]; exact (bz_ HB.out) : w.heap.size ≤ gb236)); replace HB := Aside0.mk (bs_ HB.out hb); have NB235_236 := Aside0.mk ((by rw [hg]; exact Nat.ne_of_lt (bl_ BK235.out) : gb235 ≠ gb236)); have NB236_235 := Aside0.mk ((by rw [hg]; exact Nat.ne_of_gt (bl_ BK235.out) : gb236 ≠ gb235)); replace BK235 := Aside0.mk (bk_ BK235.out hb); clear hb hbox hg; have hnb28 := NB235_236.out; have hnc28 := NB236_235.out; obtain ⟨hcz29_0, hcz29_1, hfz29_0, hfz29_1⟩ := cz2_ BK235.out; obtain ⟨hcz30_0, hcz30_1, hcz30_2, hcz30_3, hcz30_4, hfz30_0, hfz30_1, hfz30_2, hfz30_3, hfz30_4⟩ := cz5_ BK236.out) | ((with_reducible refine gate_callee (f := 21) rfl ?_); refine gm_ (some 17) Try.func21 #[.agg #[.int .i64 t228, .int .i64 t229], .agg #[.int .i64 t230, .int .i64 t231, .int .i64 t232, .int .i64 t233, .int .i64 t234]] rfl ?_; (with_reducible refine (impl_FlitsOf.calls k t228 t229 t230 t231 t232 t233 t234 t237 _ A5.out).mono ?_); rintro e w31 ⟨v238, rfl, ho0, hb⟩; refine ⟨_, rfl, ?_⟩; have HO239 := Aside0.mk (Kd.R_lower ho0 (bz_ HB.out)); replace BK235 := Aside0.mk (blk_below (g := gb235) (o := .cells #[.int .i64 t228, .int .i64 t229] 38 (0, 0)) (by (with_reducible repeat (first | refine blk_drewN ?_ _ | refine blk_drew ?_ | refine blk_alloc ?_ _)); refine blk_far ?_ NB235_236.out _; (with_reducible repeat (first | refine blk_drewN ?_ _ | refine blk_drew ?_ | refine blk_alloc ?_ _)); refine blk_far ?_ NB235_236.out _; (with_reducible repeat (first | refine blk_drewN ?_ _ | refine blk_drew ?_ | refine blk_alloc ?_ _)); refine blk_far ?_ NB235_236.out _; (with_reducible repeat (first | refine blk_drewN ?_ _ | refine blk_drew ?_ | refine blk_alloc ?_ _)); refine blk_far ?_ NB235_236.out _; (with_reducible repeat (first | refine blk_drewN ?_ _ | refine blk_drew ?_ | refine blk_alloc ?_ _)); refine blk_far ?_ NB235_236.out _; (with_reducible repeat (first | refine blk_drewN ?_ _ | refine blk_drew ?_ | refine blk_alloc ?_ _)); refine blk_put (cs := #[.int .i64 t228, .int .i64 0]) ?_ 1 _ rfl; (with_reducible repeat (first | refine blk_drewN ?_ _ | refine blk_drew ?_ | refine blk_alloc ?_ _)); refine blk_put (cs := #[.int .i64 0, .int .i64 0]) ?_ 0 _ rfl; (with_reducible repeat (first | refine blk_drewN ?_ _ | refine blk_drew ?_ | refine blk_alloc ?_ _)); exact BK235.out) hb); replace BK236 := Aside0.mk (blk_below (g := gb236) (o := .cells #[.int .i64 t230, .int .i64 t231, .int .i64 t232, .int .i64 t233, .int .i64 t234] 40 (0, 0)) (by (with_reducible repeat (first | refine blk_drewN ?_ _ | refine blk_drew ?_ | refine blk_alloc ?_ _)); refine blk_put (cs := #[.int .i64 t230, .int .i64 t231, .int .i64 t232, .int .i64 t233, .int .i64 0]) ?_ 4 _ rfl; (with_reducible repeat (first | refine blk_drewN ?_ _ | refine blk_drew ?_ | refine blk_alloc ?_ _)); refine blk_put (cs := #[.int .i64 t230, .int .i64 t231, .int .i64 t232, .int .i64 0, .int .i64 0]) ?_ 3 _ rfl; (with_reducible repeat (first | refine blk_drewN ?_ _ | refine blk_drew ?_ | refine blk_alloc ?_ _)); refine blk_put (cs := #[.int .i64 t230, .int .i64 t231, .int .i64 0, .int .i64 0, .int .i64 0]) ?_ 2 _ rfl; (with_reducible repeat (first | refine blk_drewN ?_ _ | refine blk_drew ?_ | refine blk_alloc ?_ _)); refine blk_put (cs := #[.int .i64 t230, .int .i64 0, .int .i64 0, .int .i64 0, .int .i64 0]) ?_ 1 _ rfl; (with_reducible repeat (first | refine blk_drewN ?_ _ | refine blk_drew ?_ | refine blk_alloc ?_ _)); refine blk_put (cs := #[.int .i64 0, .int .i64 0, .int .i64 0, .int .i64 0, .int .i64 0]) ?_ 0 _ rfl; (with_reducible repeat (first | refine blk_drewN ?_ _ | refine blk_drew ?_ | refine blk_alloc ?_ _)); refine blk_far ?_ NB236_235.out _; (with_reducible repeat (first | refine blk_drewN ?_ _ | refine blk_drew ?_ | refine blk_alloc ?_ _)); refine blk_far ?_ NB236_235.out _; (with_reducible repeat (first | refine blk_drewN ?_ _ | refine blk_drew ?_ | refine blk_alloc ?_ _)); exact BK236.out) hb); replace HB := Aside0.mk (bs_ HB.out hb); (try clear hb); (try clear ho0)) | ((with_reducible refine gate_callee (f := 22) rfl ?_); refine gm_ (some 19) Try.func22 #[.slice A0 l0.length c0] rfl ?_; (with_reducible refine (spec_DrawPlaces.calls k _ _ l0 t240 _ ?side1 HC0.out A6.out).mono ?_); (case side1 => exact cb_ HR0.out HB.out); rintro e w32 ⟨v241, rfl, ho0, hb⟩; refine ⟨_, rfl, ?_⟩; replace HO239 := Aside0.mk (Kd.R_below (ra_ HO239.out) hb); have HO242 := Aside0.mk (Kd.R_lower ho0 (bz_ HB.out)); replace BK235 := Aside0.mk (bk_ BK235.out hb); replace BK236 := Aside0.mk (bk_ BK236.out hb); replace HB := Aside0.mk (bs_ HB.out hb); (try clear hb); (try clear ho0); obtain ⟨Ao33, co33, eo33⟩ := Kd.R_slice HO239.out; subst eo33; obtain ⟨hcz34_0, hcz34_1, hcz34_2, hcz34_3, hcz34_4, hfz34_0, hfz34_1, hfz34_2, hfz34_3, hfz34_4⟩ := cz5_ BK236.out; obtain ⟨Ao35, co35, eo35⟩ := Kd.R_slice HO242.out; subst eo35; have p243 : 0 ≤ (0 : Int) := (by omega); have q243 : 0 < (t240.length : Int) := of_decide_eq_true dg_; obtain ⟨ad243, e243, hx243_0⟩ := Kd.at_int (Kd.R_reads' HO242.out).2.2 0 p243 q243; cases e243; have qi243 : (0 < t240.length) = True := eq_true (by omega); (try rw [show ((0 : Int)).toNat = 0 from rfl] at hx243_0); (try rw [Addr.add_zero'] at hx243_0); replace p243 := eq_true p243; replace q243 := eq_true q243))
              have n0_ := Aside0.mk (Kd.R_drew HO239.out)
              have n1_ := Aside0.mk (Kd.R_drew HO242.out)
              have n2_ := Aside0.mk (blk_drew BK235.out)
              have n3_ := Aside0.mk (blk_drew BK236.out)
              have n4_ := Aside0.mk (below_drew1 HB.out)
              clear HO239
              clear HO242
              clear BK235
              clear BK236
              clear HB
              have HO239 := n0_
              have HO242 := n1_
              have BK235 := n2_
              have BK236 := n3_
              have HB := n4_
              clear n0_ n1_ n2_ n3_ n4_
              have p253 : 0 ≤ (0 : Int) := (by omega)
              have q253 : 0 < (t237.length : Int) := of_decide_eq_true dg_
              obtain ⟨ad253, e253, hx253_0, hx253_1, hx253_2, hx253_3, hx253_4⟩ := at_T48 (Kd.R_reads' HO239.out).2.2 0 p253 q253
              cases e253
              have qi253 : (0 < t237.length) = True := eq_true (by omega)
              (try rw [show ((0 : Int)).toNat = 0 from rfl] at hx253_0)
              (try rw [show 0 * 5 = 0 from rfl] at hx253_0)
              (try rw [Addr.add_zero'] at hx253_0)
              (try rw [show ((0 : Int)).toNat = 0 from rfl] at hx253_1)
              (try rw [show 0 * 5 = 0 from rfl] at hx253_1)
              (try rw [Addr.add_zero'] at hx253_1)
              (try rw [show ((0 : Int)).toNat = 0 from rfl] at hx253_2)
              (try rw [show 0 * 5 = 0 from rfl] at hx253_2)
              (try rw [Addr.add_zero'] at hx253_2)
              (try rw [show ((0 : Int)).toNat = 0 from rfl] at hx253_3)
              (try rw [show 0 * 5 = 0 from rfl] at hx253_3)
              (try rw [Addr.add_zero'] at hx253_3)
              (try rw [show ((0 : Int)).toNat = 0 from rfl] at hx253_4)
              (try rw [show 0 * 5 = 0 from rfl] at hx253_4)
              (try rw [Addr.add_zero'] at hx253_4)
              replace p253 := eq_true p253
              replace q253 := eq_true q253
              refine start_ (n := 45) (S := fun w' => w'.cell? ⟨gb235, 0, none⟩ = some (.int .i64 t228) ∧ w'.cell? ⟨gb235, 1, none⟩ = some (.int .i64 t229) ∧ w'.cell? ⟨gb236, 0, none⟩ = some (.int .i64 t230) ∧ w'.cell? ⟨gb236, 1, none⟩ = some (.int .i64 t231) ∧ w'.cell? ⟨gb236, 2, none⟩ = some (.int .i64 t232) ∧ w'.cell? ⟨gb236, 3, none⟩ = some (.int .i64 t233) ∧ w'.cell? ⟨gb236, 4, none⟩ = some (.int .i64 t234) ∧ w'.cell? ad253 = some (.int .i64 ((rd_T48 t237 0).f0)) ∧ w'.cell? ⟨ad253.block, ad253.off + 1, none⟩ = some (.int .i64 ((rd_T48 t237 0).f1)) ∧ w'.cell? ⟨ad253.block, ad253.off + 2, none⟩ = some (.int .i64 ((rd_T48 t237 0).f2)) ∧ w'.cell? ⟨ad253.block, ad253.off + 3, none⟩ = some (.bool ((rd_T48 t237 0).f3)) ∧ w'.cell? ⟨ad253.block, ad253.off + 4, none⟩ = some (.bool ((rd_T48 t237 0).f4))) (ds := []) #[false, false, false, false, false, false, false, false, false, false, false, false, false, false, false, false, false, false, false, false, false, false, false, false, false, false, false, false, false, false, false, false, false, false, false, false, false, false, false, false, false, false, false, false, false] (by kernel_rfl) rfl rfl ⟨(blk_cell BK235.out 0).trans rfl, (blk_cell BK235.out 1).trans rfl, (blk_cell BK236.out 0).trans rfl, (blk_cell BK236.out 1).trans rfl, (blk_cell BK236.out 2).trans rfl, (blk_cell BK236.out 3).trans rfl, (blk_cell BK236.out 4).trans rfl, hx253_0, hx253_1, hx253_2, hx253_3, hx253_4⟩ (fun hHeld => ?_); refine with_tabW laws_FnFlits.tab9 laws_FnFlits.bits9 (fun HT_ HW_ => ?_)
              generalize w32.drew = w36 at HO239 HO242 BK235 BK236 HB hx253_0 hx253_1 hx253_2 hx253_3 hx253_4 hHeld ⊢
              refine take_ (i := 0) (N := some 31) (v := ?_) (a' := ?_) (bt_ 45 1) rfl rfl (take_ofW HT_.out HW_.out (by kernel_rfl)) (fun _ _ _ h => h) (Or.inl ⟨by rfl, ?_⟩) hHeld ?_ ?_
              rotate_left
              ·rintro w' ⟨s0, s1, s2, s3, s4, s5, s6, s7, s8, s9, s10, s11⟩
               go_simp
               with_reducible rfl
              rotate_left
              ·simp only [Act.put, List.setIfInBounds_toArray, List.set_cons_zero, List.set_cons_succ, i64_w, i32_w]
               rfl
              refine take_ (i := 1) (N := some 32) (v := ?_) (a' := ?_) (bt_ 45 3) rfl rfl (take_ofW HT_.out HW_.out (by kernel_rfl)) (fun _ _ _ h => h) (Or.inl ⟨by rfl, ?_⟩) hHeld ?_ ?_
              rotate_left
              ·rintro w' ⟨s0, s1, s2, s3, s4, s5, s6, s7, s8, s9, s10, s11⟩
               go_simp
               with_reducible rfl
              rotate_left
              ·simp only [Act.put, List.setIfInBounds_toArray, List.set_cons_zero, List.set_cons_succ, i64_w, i32_w]
               rfl
              refine one_ (i := 2) (N := some 33) (bt_ 45 7) rfl rfl (one_of HT_.out (by kernel_rfl)) (by decide) (fun K hK => ?_)
              refine goes_ Try.func23 (by kernel_rfl) rfl #[.agg #[.int .i64 t228, .int .i64 t229], .agg #[.int .i64 t230, .int .i64 t231, .int .i64 t232, .int .i64 t233, .int .i64 t234]] (by rfl) rfl rfl (by (try simp only [List.map_toArray, List.map_cons, List.map_nil]); first | done | rfl | (simp only [List.length_drop, List.length_take]; rfl)) ?_
              with_reducible refine (impl_PacketOk.calls t228 t229 t230 t231 t232 t233 t234 true _ A10.out).mono ?_
              rintro e w37 ⟨rfl, hb⟩
              have HS7_ := (hb.cell (World.block_lt_of_cell? _ _ (hHeld.2.2.2.2.2.2.2.1))).trans (hHeld.2.2.2.2.2.2.2.1)
              have HS8_ := (hb.cell (World.block_lt_of_cell? _ _ (hHeld.2.2.2.2.2.2.2.2.1))).trans (hHeld.2.2.2.2.2.2.2.2.1)
              have HS9_ := (hb.cell (World.block_lt_of_cell? _ _ (hHeld.2.2.2.2.2.2.2.2.2.1))).trans (hHeld.2.2.2.2.2.2.2.2.2.1)
              have HS10_ := (hb.cell (World.block_lt_of_cell? _ _ (hHeld.2.2.2.2.2.2.2.2.2.2.1))).trans (hHeld.2.2.2.2.2.2.2.2.2.2.1)
              have HS11_ := (hb.cell (World.block_lt_of_cell? _ _ (hHeld.2.2.2.2.2.2.2.2.2.2.2))).trans (hHeld.2.2.2.2.2.2.2.2.2.2.2)
              refine ⟨_, rfl, ?_⟩
              have n0_ := Aside0.mk (Kd.R_below (ra_ HO239.out) hb)
              have n1_ := Aside0.mk (Kd.R_below (ra_ HO242.out) hb)
              have n2_ := Aside0.mk (bk_ BK235.out hb)
              have n3_ := Aside0.mk (bk_ BK236.out hb)
              have n4_ := Aside0.mk (bs_ HB.out hb)
              clear HO239
              clear HO242
              clear BK235
              clear BK236
              clear HB
              have HO239 := n0_
              have HO242 := n1_
              have BK235 := n2_
              have BK236 := n3_
              have HB := n4_
              clear n0_ n1_ n2_ n3_ n4_
              (try clear hb)
              (try clear hb2)
              (try clear hk)
              (try clear hi)
              refine hK.out _ _ ⟨(blk_cell BK235.out 0).trans rfl, (blk_cell BK235.out 1).trans rfl, (blk_cell BK236.out 0).trans rfl, (blk_cell BK236.out 1).trans rfl, (blk_cell BK236.out 2).trans rfl, (blk_cell BK236.out 3).trans rfl, (blk_cell BK236.out 4).trans rfl, HS7_, HS8_, HS9_, HS10_, HS11_⟩ (fun hHeld => ?_)
              clear hK K
              refine norm_ (a' := ?_) ?_ ?_
              rotate_left
              ·show Act.put _ (some 33) _ = _
               simp only [Act.put, List.setIfInBounds_toArray, List.set_cons_zero, List.set_cons_succ, i64_w, i32_w]
               rfl
              refine pu_ 3 34 (bt_ 45 15) HT_ ?_
              refine pu_ 4 35 (bt_ 45 31) HT_ ?_
              refine one_ (i := 5) (N := some 36) (bt_ 45 63) rfl rfl (one_of HT_.out (by kernel_rfl)) (by decide) (fun K hK => ?_)
              refine goes_ Try.func11 (by kernel_rfl) rfl #[.slice (some ad253) t237.length co33] (by rfl) rfl rfl (by (try simp only [List.map_toArray, List.map_cons, List.map_nil]); first | done | rfl | (simp only [List.length_drop, List.length_take]; rfl)) ?_
              with_reducible refine (impl_IsWhole.calls k _ _ t237 true _ ?side1 ?side2 A12.out).mono ?_
              (case side1 => repeat (first | exact (Kd.R_reads' HO239.out).2.2 | (with_reducible refine Kd.C_alloc ?_ _) | (with_reducible refine Kd.C_drewN ?_ _) | (with_reducible refine Kd.C_drew ?_)))
              (case side2 => exact (Kd.R_reads' HO239.out).2.1)
              rintro e w38 ⟨rfl, hb⟩
              have HS7_ := (hb.cell (World.block_lt_of_cell? _ _ (hHeld.2.2.2.2.2.2.2.1))).trans (hHeld.2.2.2.2.2.2.2.1)
              have HS8_ := (hb.cell (World.block_lt_of_cell? _ _ (hHeld.2.2.2.2.2.2.2.2.1))).trans (hHeld.2.2.2.2.2.2.2.2.1)
              have HS9_ := (hb.cell (World.block_lt_of_cell? _ _ (hHeld.2.2.2.2.2.2.2.2.2.1))).trans (hHeld.2.2.2.2.2.2.2.2.2.1)
              have HS10_ := (hb.cell (World.block_lt_of_cell? _ _ (hHeld.2.2.2.2.2.2.2.2.2.2.1))).trans (hHeld.2.2.2.2.2.2.2.2.2.2.1)
              have HS11_ := (hb.cell (World.block_lt_of_cell? _ _ (hHeld.2.2.2.2.2.2.2.2.2.2.2))).trans (hHeld.2.2.2.2.2.2.2.2.2.2.2)
              refine ⟨_, rfl, ?_⟩
              have n0_ := Aside0.mk (Kd.R_below (ra_ HO239.out) hb)
              have n1_ := Aside0.mk (Kd.R_below (ra_ HO242.out) hb)
              have n2_ := Aside0.mk (bk_ BK235.out hb)
              have n3_ := Aside0.mk (bk_ BK236.out hb)
              have n4_ := Aside0.mk (bs_ HB.out hb)
              clear HO239
              clear HO242
              clear BK235
              clear BK236
              clear HB
              have HO239 := n0_
              have HO242 := n1_
              have BK235 := n2_
              have BK236 := n3_
              have HB := n4_
              clear n0_ n1_ n2_ n3_ n4_
              (try clear hb)
              (try clear hb2)
              (try clear hk)
              (try clear hi)
              have q39 : ((ji14) : Int) ≤ ((t237.length : Int) : Int) := of_decide_eq_true dg_
              obtain ⟨i039, hi039, _, hsz39, _⟩ := info_parts info48
              have hroom39 : t237.length ≤ co33 := (Kd.R_reads' HO239.out).2.1
              have hC39 : Kd.C k48 _ (some ad253) t237.length t237 := (Kd.R_reads' HO239.out).2.2
              have hcut39 := cut_to (P := Try.prog) 25 48 .i64 Try.underlying25 hi039 (some ad253) t237.length co33 (ji14) (of_decide_eq_true dg_) q39 hroom39
              have hr39 := Kd.C_take (m := ((ji14) : Int).toNat) hC39 (by omega)
              have hy39 : y246.length = ((ji14) : Int).toNat := (by rw [Ny246.out, List.length_take]; omega)
              rw [← Ny246.out] at hr39
              rw [← hy39] at hcut39
              have HR249 := Aside0.mk hr39
              have HC249 := Aside0.mk (show y246.length ≤ co33 from by omega)
              clear hr39 hC39 hroom39 hi039 hsz39
              have KY39 := Aside0.mk hy39
              clear hy39
              have KL39 := Aside0.mk (show ((ji14) : Int).toNat ≤ t237.length from by omega)
              replace q39 := eq_true q39
              refine hK.out _ _ ⟨(blk_cell BK235.out 0).trans rfl, (blk_cell BK235.out 1).trans rfl, (blk_cell BK236.out 0).trans rfl, (blk_cell BK236.out 1).trans rfl, (blk_cell BK236.out 2).trans rfl, (blk_cell BK236.out 3).trans rfl, (blk_cell BK236.out 4).trans rfl, HS7_, HS8_, HS9_, HS10_, HS11_⟩ (fun hHeld => ?_)
              clear hK K
              refine norm_ (a' := ?_) ?_ ?_
              rotate_left
              ·show Act.put _ (some 36) _ = _
               simp only [Act.put, List.setIfInBounds_toArray, List.set_cons_zero, List.set_cons_succ, i64_w, i32_w]
               rfl
              refine pu_ 6 37 (bt_ 45 127) HT_ ?_
              refine pu_ 7 38 (bt_ 45 255) HT_ ?_
              refine pu_ 8 39 (bt_ 45 511) HT_ ?_
              refine pu_ 9 40 (bt_ 45 1023) HT_ ?_
              refine pu_ 10 41 (bt_ 45 2047) HT_ ?_
              refine one_ (i := 11) (N := some 42) (bt_ 45 4095) rfl rfl (one_of HT_.out (by kernel_rfl)) (by decide) (fun K hK => ?_)
              refine goes_ Try.func11 (by kernel_rfl) rfl #[.slice (some ad253) y246.length co33] (by rfl) rfl rfl (by (try simp only [List.map_toArray, List.map_cons, List.map_nil]); first | done | rfl | (simp only [List.length_drop, List.length_take]; rfl)) ?_
              with_reducible refine (impl_IsWhole.calls k _ _ y246 false _ ?side1 ?side2 A17.out).mono ?_
              (case side1 => repeat (first | exact (by repeat (first | (with_reducible exact HR249.out) | (with_reducible refine Kd.C_alloc ?_ _) | (with_reducible refine Kd.C_drewN ?_ _) | (with_reducible refine Kd.C_drew ?_) | exact HR249.out)) | (with_reducible refine Kd.C_alloc ?_ _) | (with_reducible refine Kd.C_drewN ?_ _) | (with_reducible refine Kd.C_drew ?_)))
              (case side2 => exact HC249.out)
              rintro e w40 ⟨rfl, hb⟩
              have HS7_ := (hb.cell (World.block_lt_of_cell? _ _ (hHeld.2.2.2.2.2.2.2.1))).trans (hHeld.2.2.2.2.2.2.2.1)
              have HS8_ := (hb.cell (World.block_lt_of_cell? _ _ (hHeld.2.2.2.2.2.2.2.2.1))).trans (hHeld.2.2.2.2.2.2.2.2.1)
              have HS9_ := (hb.cell (World.block_lt_of_cell? _ _ (hHeld.2.2.2.2.2.2.2.2.2.1))).trans (hHeld.2.2.2.2.2.2.2.2.2.1)
              have HS10_ := (hb.cell (World.block_lt_of_cell? _ _ (hHeld.2.2.2.2.2.2.2.2.2.2.1))).trans (hHeld.2.2.2.2.2.2.2.2.2.2.1)
              have HS11_ := (hb.cell (World.block_lt_of_cell? _ _ (hHeld.2.2.2.2.2.2.2.2.2.2.2))).trans (hHeld.2.2.2.2.2.2.2.2.2.2.2)
              refine ⟨_, rfl, ?_⟩
              have n0_ := Aside0.mk (Kd.R_below (ra_ HO239.out) hb)
              have n1_ := Aside0.mk (Kd.R_below (ra_ HO242.out) hb)
              have n2_ := Aside0.mk (bk_ BK235.out hb)
              have n3_ := Aside0.mk (bk_ BK236.out hb)
              have n4_ := Aside0.mk (Kd.C_below (by repeat (first | (with_reducible exact HR249.out) | (with_reducible refine Kd.C_alloc ?_ _) | (with_reducible refine Kd.C_drewN ?_ _) | (with_reducible refine Kd.C_drew ?_) | exact HR249.out)) hb)
              have n5_ := Aside0.mk (bs_ HB.out hb)
              clear HO239
              clear HO242
              clear BK235
              clear BK236
              clear HR249
              clear HB
              have HO239 := n0_
              have HO242 := n1_
              have BK235 := n2_
              have BK236 := n3_
              have HR249 := n4_
              have HB := n5_
              clear n0_ n1_ n2_ n3_ n4_ n5_
              (try clear hb)
              (try clear hb2)
              (try clear hk)
              (try clear hi)
              refine hK.out _ _ ⟨(blk_cell BK235.out 0).trans rfl, (blk_cell BK235.out 1).trans rfl, (blk_cell BK236.out 0).trans rfl, (blk_cell BK236.out 1).trans rfl, (blk_cell BK236.out 2).trans rfl, (blk_cell BK236.out 3).trans rfl, (blk_cell BK236.out 4).trans rfl, HS7_, HS8_, HS9_, HS10_, HS11_⟩ (fun hHeld => ?_)
              clear hK K
              refine norm_ (a' := ?_) ?_ ?_
              rotate_left
              ·show Act.put _ (some 42) _ = _
               simp only [Act.put, List.setIfInBounds_toArray, List.set_cons_zero, List.set_cons_succ, i64_w, i32_w]
               rfl
              refine pu_ 12 43 (bt_ 45 8191) HT_ ?_
              refine pu_ 13 44 (bt_ 45 16383) HT_ ?_
              refine pu_ 14 45 (bt_ 45 32767) HT_ ?_
              refine pu_ 15 46 (bt_ 45 65535) HT_ ?_
              refine pu_ 16 47 (bt_ 45 131071) HT_ ?_
              refine pu_ 17 48 (bt_ 45 262143) HT_ ?_
              refine un_ 18 49 (bt_ 45 524287) HT_ ?_
              refine un_ 19 50 (bt_ 45 1048575) HT_ ?_
              refine un_ 20 51 (bt_ 45 2097151) HT_ ?_
              refine un_ 21 52 (bt_ 45 4194303) HT_ ?_
              refine un_ 22 53 (bt_ 45 8388607) HT_ ?_
              refine pu_ 23 54 (bt_ 45 16777215) HT_ ?_
              refine pu_ 24 55 (bt_ 45 33554431) HT_ ?_
              refine pu_ 25 56 (bt_ 45 67108863) HT_ ?_
              refine pu_ 26 57 (bt_ 45 134217727) HT_ ?_
              refine one_ (i := 27) (N := some 58) (bt_ 45 268435455) rfl rfl (one_of HT_.out (by kernel_rfl)) (by decide) (fun K hK => ?_)
              refine goes_ Try.func24 (by kernel_rfl) rfl #[.slice (some ad253) t237.length co33] (by rfl) rfl rfl (by (try simp only [List.map_toArray, List.map_cons, List.map_nil]); first | done | rfl | (simp only [List.length_drop, List.length_take]; rfl)) ?_
              with_reducible refine (impl_CountPackets.calls k _ _ t237 t251 _ ?side1 ?side2 A20.out).mono ?_
              (case side1 => repeat (first | exact (Kd.R_reads' HO239.out).2.2 | (with_reducible refine Kd.C_alloc ?_ _) | (with_reducible refine Kd.C_drewN ?_ _) | (with_reducible refine Kd.C_drew ?_)))
              (case side2 => exact (Kd.R_reads' HO239.out).2.1)
              rintro e w41 ⟨rfl, hb⟩
              have HS7_ := (hb.cell (World.block_lt_of_cell? _ _ (hHeld.2.2.2.2.2.2.2.1))).trans (hHeld.2.2.2.2.2.2.2.1)
              have HS8_ := (hb.cell (World.block_lt_of_cell? _ _ (hHeld.2.2.2.2.2.2.2.2.1))).trans (hHeld.2.2.2.2.2.2.2.2.1)
              have HS9_ := (hb.cell (World.block_lt_of_cell? _ _ (hHeld.2.2.2.2.2.2.2.2.2.1))).trans (hHeld.2.2.2.2.2.2.2.2.2.1)
              have HS10_ := (hb.cell (World.block_lt_of_cell? _ _ (hHeld.2.2.2.2.2.2.2.2.2.2.1))).trans (hHeld.2.2.2.2.2.2.2.2.2.2.1)
              have HS11_ := (hb.cell (World.block_lt_of_cell? _ _ (hHeld.2.2.2.2.2.2.2.2.2.2.2))).trans (hHeld.2.2.2.2.2.2.2.2.2.2.2)
              refine ⟨_, rfl, ?_⟩
              have n0_ := Aside0.mk (Kd.R_below (ra_ HO239.out) hb)
              have n1_ := Aside0.mk (Kd.R_below (ra_ HO242.out) hb)
              have n2_ := Aside0.mk (bk_ BK235.out hb)
              have n3_ := Aside0.mk (bk_ BK236.out hb)
              have n4_ := Aside0.mk (Kd.C_below (by repeat (first | (with_reducible exact HR249.out) | (with_reducible refine Kd.C_alloc ?_ _) | (with_reducible refine Kd.C_drewN ?_ _) | (with_reducible refine Kd.C_drew ?_) | exact HR249.out)) hb)
              have n5_ := Aside0.mk (bs_ HB.out hb)
              clear HO239
              clear HO242
              clear BK235
              clear BK236
              clear HR249
              clear HB
              have HO239 := n0_
              have HO242 := n1_
              have BK235 := n2_
              have BK236 := n3_
              have HR249 := n4_
              have HB := n5_
              clear n0_ n1_ n2_ n3_ n4_ n5_
              (try clear hb)
              (try clear hb2)
              (try clear hk)
              (try clear hi)
              refine hK.out _ _ ⟨(blk_cell BK235.out 0).trans rfl, (blk_cell BK235.out 1).trans rfl, (blk_cell BK236.out 0).trans rfl, (blk_cell BK236.out 1).trans rfl, (blk_cell BK236.out 2).trans rfl, (blk_cell BK236.out 3).trans rfl, (blk_cell BK236.out 4).trans rfl, HS7_, HS8_, HS9_, HS10_, HS11_⟩ (fun hHeld => ?_)
              clear hK K
              refine norm_ (a' := ?_) ?_ ?_
              rotate_left
              ·show Act.put _ (some 58) _ = _
               simp only [Act.put, List.setIfInBounds_toArray, List.set_cons_zero, List.set_cons_succ, i64_w, i32_w]
               rfl
              refine pu_ 28 59 (bt_ 45 536870911) HT_ ?_
              refine pu_ 29 60 (bt_ 45 1073741823) HT_ ?_
              refine pu_ 30 61 (bt_ 45 2147483647) HT_ ?_
              refine pu_ 31 62 (bt_ 45 4294967295) HT_ ?_
              refine pu_ 32 63 (bt_ 45 8589934591) HT_ ?_
              refine one_ (i := 33) (N := some 64) (bt_ 45 17179869183) rfl rfl (one_of HT_.out (by kernel_rfl)) (by decide) (fun K hK => ?_)
              refine goes_ Try.func25 (by kernel_rfl) rfl #[.slice (some ad253) t237.length co33, .slice (some ad253) t237.length co33] (by rfl) rfl rfl (by (try simp only [List.map_toArray, List.map_cons, List.map_nil]); first | done | rfl | (simp only [List.length_drop, List.length_take]; rfl)) ?_
              with_reducible refine (impl_SameFlits.calls k _ _ t237 _ _ t237 true _ ?side1 ?side2 ?side3 ?side4 A22.out).mono ?_
              (case side1 => repeat (first | exact (Kd.R_reads' HO239.out).2.2 | (with_reducible refine Kd.C_alloc ?_ _) | (with_reducible refine Kd.C_drewN ?_ _) | (with_reducible refine Kd.C_drew ?_)))
              (case side2 => exact (Kd.R_reads' HO239.out).2.1)
              (case side3 => repeat (first | exact (Kd.R_reads' HO239.out).2.2 | (with_reducible refine Kd.C_alloc ?_ _) | (with_reducible refine Kd.C_drewN ?_ _) | (with_reducible refine Kd.C_drew ?_)))
              (case side4 => exact (Kd.R_reads' HO239.out).2.1)
              rintro e w' ⟨rfl, ⟨nd, rfl⟩⟩
              refine ⟨_, rfl, ?_⟩
              refine hK.out _ _ ⟨(blk_cell BK235.out 0).trans rfl, (blk_cell BK235.out 1).trans rfl, (blk_cell BK236.out 0).trans rfl, (blk_cell BK236.out 1).trans rfl, (blk_cell BK236.out 2).trans rfl, (blk_cell BK236.out 3).trans rfl, (blk_cell BK236.out 4).trans rfl, hHeld.2.2.2.2.2.2.2.1, hHeld.2.2.2.2.2.2.2.2.1, hHeld.2.2.2.2.2.2.2.2.2.1, hHeld.2.2.2.2.2.2.2.2.2.2.1, hHeld.2.2.2.2.2.2.2.2.2.2.2⟩ (fun hHeld => ?_)
              clear hK K
              refine norm_ (a' := ?_) ?_ ?_
              rotate_left
              ·show Act.put _ (some 64) _ = _
               simp only [Act.put, List.setIfInBounds_toArray, List.set_cons_zero, List.set_cons_succ, i64_w, i32_w]
               rfl
              refine pu_ 34 65 (bt_ 45 34359738367) HT_ ?_
              refine pu_ 35 66 (bt_ 45 68719476735) HT_ ?_
              refine pu_ 36 67 (bt_ 45 137438953471) HT_ ?_
              refine pu_ 37 68 (bt_ 45 274877906943) HT_ ?_
              refine pu_ 38 69 (bt_ 45 549755813887) HT_ ?_
              refine pu_ 40 71 (bt_ 45 1649267441663) HT_ ?_
              refine take_ (i := 39) (N := some 70) (v := ?_) (a' := ?_) (bt_ 45 2199023255551) rfl rfl (take_ofW HT_.out HW_.out (by kernel_rfl)) (fun _ _ _ h => h) (Or.inl ⟨by rfl, ?_⟩) hHeld ?_ ?_
              rotate_left
              ·rintro w' ⟨s0, s1, s2, s3, s4, s5, s6, s7, s8, s9, s10, s11⟩
               go_simp
               with_reducible rfl
              rotate_left
              ·simp only [Act.put, List.setIfInBounds_toArray, List.set_cons_zero, List.set_cons_succ, i64_w, i32_w]
               rfl
              refine take_ (i := 41) (N := some 72) (v := ?_) (a' := ?_) (bt_ 45 4398046511103) rfl rfl (take_ofW HT_.out HW_.out (by kernel_rfl)) (fun _ _ _ h => h) (Or.inl ⟨by rfl, ?_⟩) hHeld ?_ ?_
              rotate_left
              ·rintro w' ⟨s0, s1, s2, s3, s4, s5, s6, s7, s8, s9, s10, s11⟩
               go_simp
               with_reducible rfl
              rotate_left
              ·simp only [Act.put, List.setIfInBounds_toArray, List.set_cons_zero, List.set_cons_succ, i64_w, i32_w]
               rfl
              refine pu_ 42 73 (bt_ 45 8796093022207) HT_ ?_
              refine pu_ 43 74 (bt_ 45 17592186044415) HT_ ?_
              refine pu_ 44 2 (bt_ 45 35184372088831) HT_ ?_
              refine done_ (done_of HT_.out (by kernel_rfl)) ?_
              try go_wp2
              go_ret
              exact ⟨by first | rfl | (simp [errW_none, errW_some] <;> rfl) | (simp only [← hji14]; first | rfl | (simp [errW_none, errW_some] <;> rfl)) | (simp [*, errW_none, errW_some] <;> rfl), bb_ HB.out⟩
             ·rw [if_neg c24] at H
              exact absurd H (by simp)
            ·replace c23 := Bool.eq_false_iff.mpr c23
             subst c23
             rw [if_neg (show ¬ (false = true) by decide)] at H
             exact absurd H (by simp)
           ·rw [if_neg c21] at H
            exact absurd H (by simp)
          ·rw [if_neg c19] at H
           have c19b0 : ((ji14) == 0) = false := beq_eq_false_iff_ne.mpr c19
           have c19b1 : ((ji14) != 0) = true := bne_iff_ne.mpr c19
           have c42b0 := eq_true (of_decide_eq_true dg_ : 0 ≤ (ji14))
           have c43b0 := eq_true (of_decide_eq_true dg_ : (ji14) ≤ (t237.length : Int))
           obtain ⟨y254, hy254⟩ : ∃ y_ : List (S48), y_ = (t237.drop ((ji14) : Int).toNat) := ⟨_, rfl⟩
           replace H : ((impl_IsWhole.f k y254).bind fun t258 => (if t258 = true then (none) else ((impl_CountPackets.f k t237).bind fun t259 => (if t259 = 1 then ((impl_SameFlits.f k t237 t237).bind fun t260 => (if t260 = true then (if 0 < (t237.length : Int) then (some (((rd_T48 t237 0).f0) == t230)) else (none)) else (none))) else (none))))) = some r := by first | (rw [hy254]; with_reducible exact H) | (have H2_ := (Option.bind_some _ _).symm.trans H; rw [hy254]; with_reducible exact H2_) | (have H2_ := (Option.bind_some _ _).symm.trans H; with_reducible exact H2_) | with_reducible exact H | (rw [hy254]; exact H) | exact H
           have Ny254 := Aside0.mk hy254
           clear hy254
           replace H := Option.bind_eq_some_iff.mp H
           obtain ⟨t258, A440, H⟩ := H
           try dsimp only at H
           have A44 := Aside0.mk A440
           clear A440
           by_cases c45 : t258 = true
           ·subst c45
            rw [if_pos rfl] at H
            exact absurd H (by simp)
           ·replace c45 := Bool.eq_false_iff.mpr c45
            subst c45
            rw [if_neg (show ¬ (false = true) by decide)] at H
            replace H := Option.bind_eq_some_iff.mp H
            obtain ⟨t259, A460, H⟩ := H
            try dsimp only at H
            have A46 := Aside0.mk A460
            clear A460
            by_cases c47 : t259 = 1
            ·rw [if_pos c47] at H
             have c47b0 : (t259 == 1) = true := beq_iff_eq.mpr c47
             have c47b1 : (t259 != 1) = false := bne_eq_false_iff_eq.mpr c47
             clear c47
             replace H := Option.bind_eq_some_iff.mp H
             obtain ⟨t260, A480, H⟩ := H
             try dsimp only at H
             have A48 := Aside0.mk A480
             clear A480
             by_cases c49 : t260 = true
             ·subst c49
              rw [if_pos rfl] at H
              by_cases c50 : 0 < (t237.length : Int)
              ·rw [if_pos c50] at H
               have c50b0 : decide (0 < (t237.length : Int)) = true := decide_eq_true c50
               have c50b1 : decide (0 < t237.length) = true := decide_eq_true (by omega)
               clear c50
               obtain rfl := Option.some.inj H
               go_enter Try.func5, Try.ntmps5
               try go_wp2_with (first | ((with_reducible refine gate_callee (f := 19) rfl ?_); refine gm_ (some 9) Try.func19 #[.slice A0 l0.length c0] rfl ?_; (with_reducible refine (laws_big.calls _ _ l0 false _ ?side1 HC0.out A2.out).mono ?_); (case side1 => repeat (first | exact HR0.out | (with_reducible refine Kd.C_alloc ?_ _) | (with_reducible refine Kd.C_drewN ?_ _) | (with_reducible refine Kd.C_drew ?_))); rintro e w' ⟨rfl, ⟨nd, rfl⟩⟩; refine ⟨_, rfl, ?_⟩) | ((with_reducible refine gate_callee (f := 20) rfl ?_); refine gm_ (some 12) Try.func20 #[.slice A0 l0.length c0] rfl ?_; (with_reducible refine (spec_DrawPacket.calls k _ _ l0 t228 t229 t230 t231 t232 t233 t234 _ ?side1 HC0.out A4.out).mono ?_); (case side1 => repeat (first | exact HR0.out | (with_reducible refine Kd.C_alloc ?_ _) | (with_reducible refine Kd.C_drewN ?_ _) | (with_reducible refine Kd.C_drew ?_))); rintro e w51 ⟨rfl, hb⟩; refine ⟨_, rfl, ?_⟩; replace HB := Aside0.mk (bs_ HB.out hb); (try clear hb)) | ((with_reducible refine gate_dst (N := 3) rfl ?_); refine box_event ?hg (N := 3) ?hd (cs := #[.int .i64 0, .int .i64 0]) (t := 38) ?hr ?_; (case hd => rfl); (case hg => rfl); (case hr => first | (go_simp; done) | (go_simp; rfl)); intro gb235 hg w52 hbox hb; have BK235 := Aside0.mk (hbox); have GW235 := Aside0.mk ((by rw [hg]; exact (bz_ HB.out) : w.heap.size ≤ gb235)); have GE235 := Aside0.mk ((by rw [hg]; exact (bz_ HB.out) : w.heap.size ≤ gb235)); replace HB := Aside0.mk (bs_ HB.out hb); clear hb hbox hg) | ((with_reducible refine gate_dst (N := 4) rfl ?_); refine box_event ?hg (N := 4) ?hd (cs := #[.int .i64 0, .int .i64 0, .int .i64 0, .int .i64 0, .int .i64 0]) (t := 40) ?hr ?_; (case hd => rfl); (case hg => rfl); (case hr => first | (go_simp; done) | (go_simp; rfl)); intro gb236 hg w53 hbox hb; have BK236 := Aside0.mk (hbox); have GW236 := Aside0.mk ((by rw [hg]; exact (bz_ HB.out) : w.heap.size ≤ gb236)); have GE236 := Aside0.mk ((by rw [hg]; exact (bz_ HB.out) : w.heap.size ≤ gb236)); replace HB := Aside0.mk (bs_ HB.out hb); have NB235_236 := Aside0.mk ((by rw [hg]; exact Nat.ne_of_lt (bl_ BK235.out) : gb235 ≠ gb236)); have NB236_235 := Aside0.mk ((by rw [hg]; exact Nat.ne_of_gt (bl_ BK235.out) : gb236 ≠ gb235)); replace BK235 := Aside0.mk (bk_ BK235.out hb); clear hb hbox hg; have hnb54 := NB235_236.out; have hnc54 := NB236_235.out; obtain ⟨hcz55_0, hcz55_1, hfz55_0, hfz55_1⟩ := cz2_ BK235.out; obtain ⟨hcz56_0, hcz56_1, hcz56_2, hcz56_3, hcz56_4, hfz56_0, hfz56_1, hfz56_2, hfz56_3, hfz56_4⟩ := cz5_ BK236.out) | ((with_reducible refine gate_callee (f := 21) rfl ?_); refine gm_ (some 17) Try.func21 #[.agg #[.int .i64 t228, .int .i64 t229], .agg #[.int .i64 t230, .int .i64 t231, .int .i64 t232, .int .i64 t233, .int .i64 t234]] rfl ?_; (with_reducible refine (impl_FlitsOf.calls k t228 t229 t230 t231 t232 t233 t234 t237 _ A5.out).mono ?_); rintro e w57 ⟨v238, rfl, ho0, hb⟩; refine ⟨_, rfl, ?_⟩; have HO239 := Aside0.mk (Kd.R_lower ho0 (bz_ HB.out)); replace BK235 := Aside0.mk (blk_below (g := gb235) (o := .cells #[.int .i64 t228, .int .i64 t229] 38 (0, 0)) (by (with_reducible repeat (first | refine blk_drewN ?_ _ | refine blk_drew ?_ | refine blk_alloc ?_ _)); refine blk_far ?_ NB235_236.out _; (with_reducible repeat (first | refine blk_drewN ?_ _ | refine blk_drew ?_ | refine blk_alloc ?_ _)); refine blk_far ?_ NB235_236.out _; (with_reducible repeat (first | refine blk_drewN ?_ _ | refine blk_drew ?_ | refine blk_alloc ?_ _)); refine blk_far ?_ NB235_236.out _; (with_reducible repeat (first | refine blk_drewN ?_ _ | refine blk_drew ?_ | refine blk_alloc ?_ _)); refine blk_far ?_ NB235_236.out _; (with_reducible repeat (first | refine blk_drewN ?_ _ | refine blk_drew ?_ | refine blk_alloc ?_ _)); refine blk_far ?_ NB235_236.out _; (with_reducible repeat (first | refine blk_drewN ?_ _ | refine blk_drew ?_ | refine blk_alloc ?_ _)); refine blk_put (cs := #[.int .i64 t228, .int .i64 0]) ?_ 1 _ rfl; (with_reducible repeat (first | refine blk_drewN ?_ _ | refine blk_drew ?_ | refine blk_alloc ?_ _)); refine blk_put (cs := #[.int .i64 0, .int .i64 0]) ?_ 0 _ rfl; (with_reducible repeat (first | refine blk_drewN ?_ _ | refine blk_drew ?_ | refine blk_alloc ?_ _)); exact BK235.out) hb); replace BK236 := Aside0.mk (blk_below (g := gb236) (o := .cells #[.int .i64 t230, .int .i64 t231, .int .i64 t232, .int .i64 t233, .int .i64 t234] 40 (0, 0)) (by (with_reducible repeat (first | refine blk_drewN ?_ _ | refine blk_drew ?_ | refine blk_alloc ?_ _)); refine blk_put (cs := #[.int .i64 t230, .int .i64 t231, .int .i64 t232, .int .i64 t233, .int .i64 0]) ?_ 4 _ rfl; (with_reducible repeat (first | refine blk_drewN ?_ _ | refine blk_drew ?_ | refine blk_alloc ?_ _)); refine blk_put (cs := #[.int .i64 t230, .int .i64 t231, .int .i64 t232, .int .i64 0, .int .i64 0]) ?_ 3 _ rfl; (with_reducible repeat (first | refine blk_drewN ?_ _ | refine blk_drew ?_ | refine blk_alloc ?_ _)); refine blk_put (cs := #[.int .i64 t230, .int .i64 t231, .int .i64 0, .int .i64 0, .int .i64 0]) ?_ 2 _ rfl; (with_reducible repeat (first | refine blk_drewN ?_ _ | refine blk_drew ?_ | refine blk_alloc ?_ _)); refine blk_put (cs := #[.int .i64 t230, .int .i64 0, .int .i64 0, .int .i64 0, .int .i64 0]) ?_ 1 _ rfl; (with_reducible repeat (first | refine blk_drewN ?_ _ | refine blk_drew ?_ | refine blk_alloc ?_ _)); refine blk_put (cs := #[.int .i64 0, .int .i64 0, .int .i64 0, .int .i64 0, .int .i64 0]) ?_ 0 _ rfl; (with_reducible repeat (first | refine blk_drewN ?_ _ | refine blk_drew ?_ | refine blk_alloc ?_ _)); refine blk_far ?_ NB236_235.out _; (with_reducible repeat (first | refine blk_drewN ?_ _ | refine blk_drew ?_ | refine blk_alloc ?_ _)); refine blk_far ?_ NB236_235.out _; (with_reducible repeat (first | refine blk_drewN ?_ _ | refine blk_drew ?_ | refine blk_alloc ?_ _)); exact BK236.out) hb); replace HB := Aside0.mk (bs_ HB.out hb); (try clear hb); (try clear ho0)) | ((with_reducible refine gate_callee (f := 22) rfl ?_); refine gm_ (some 19) Try.func22 #[.slice A0 l0.length c0] rfl ?_; (with_reducible refine (spec_DrawPlaces.calls k _ _ l0 t240 _ ?side1 HC0.out A6.out).mono ?_); (case side1 => exact cb_ HR0.out HB.out); rintro e w58 ⟨v241, rfl, ho0, hb⟩; refine ⟨_, rfl, ?_⟩; replace HO239 := Aside0.mk (Kd.R_below (ra_ HO239.out) hb); have HO242 := Aside0.mk (Kd.R_lower ho0 (bz_ HB.out)); replace BK235 := Aside0.mk (bk_ BK235.out hb); replace BK236 := Aside0.mk (bk_ BK236.out hb); replace HB := Aside0.mk (bs_ HB.out hb); (try clear hb); (try clear ho0); obtain ⟨Ao59, co59, eo59⟩ := Kd.R_slice HO239.out; subst eo59; obtain ⟨hcz60_0, hcz60_1, hcz60_2, hcz60_3, hcz60_4, hfz60_0, hfz60_1, hfz60_2, hfz60_3, hfz60_4⟩ := cz5_ BK236.out; obtain ⟨Ao61, co61, eo61⟩ := Kd.R_slice HO242.out; subst eo61; have p243 : 0 ≤ (0 : Int) := (by omega); have q243 : 0 < (t240.length : Int) := of_decide_eq_true dg_; obtain ⟨ad243, e243, hx243_0⟩ := Kd.at_int (Kd.R_reads' HO242.out).2.2 0 p243 q243; cases e243; have qi243 : (0 < t240.length) = True := eq_true (by omega); (try rw [show ((0 : Int)).toNat = 0 from rfl] at hx243_0); (try rw [Addr.add_zero'] at hx243_0); replace p243 := eq_true p243; replace q243 := eq_true q243))
               have n0_ := Aside0.mk (Kd.R_drew HO239.out)
               have n1_ := Aside0.mk (Kd.R_drew HO242.out)
               have n2_ := Aside0.mk (blk_drew BK235.out)
               have n3_ := Aside0.mk (blk_drew BK236.out)
               have n4_ := Aside0.mk (below_drew1 HB.out)
               clear HO239
               clear HO242
               clear BK235
               clear BK236
               clear HB
               have HO239 := n0_
               have HO242 := n1_
               have BK235 := n2_
               have BK236 := n3_
               have HB := n4_
               clear n0_ n1_ n2_ n3_ n4_
               have p261 : 0 ≤ (0 : Int) := (by omega)
               have q261 : 0 < (t237.length : Int) := of_decide_eq_true dg_
               obtain ⟨ad261, e261, hx261_0, hx261_1, hx261_2, hx261_3, hx261_4⟩ := at_T48 (Kd.R_reads' HO239.out).2.2 0 p261 q261
               cases e261
               have qi261 : (0 < t237.length) = True := eq_true (by omega)
               (try rw [show ((0 : Int)).toNat = 0 from rfl] at hx261_0)
               (try rw [show 0 * 5 = 0 from rfl] at hx261_0)
               (try rw [Addr.add_zero'] at hx261_0)
               (try rw [show ((0 : Int)).toNat = 0 from rfl] at hx261_1)
               (try rw [show 0 * 5 = 0 from rfl] at hx261_1)
               (try rw [Addr.add_zero'] at hx261_1)
               (try rw [show ((0 : Int)).toNat = 0 from rfl] at hx261_2)
               (try rw [show 0 * 5 = 0 from rfl] at hx261_2)
               (try rw [Addr.add_zero'] at hx261_2)
               (try rw [show ((0 : Int)).toNat = 0 from rfl] at hx261_3)
               (try rw [show 0 * 5 = 0 from rfl] at hx261_3)
               (try rw [Addr.add_zero'] at hx261_3)
               (try rw [show ((0 : Int)).toNat = 0 from rfl] at hx261_4)
               (try rw [show 0 * 5 = 0 from rfl] at hx261_4)
               (try rw [Addr.add_zero'] at hx261_4)
               replace p261 := eq_true p261
               replace q261 := eq_true q261
               refine start_ (n := 45) (S := fun w' => w'.cell? ⟨gb235, 0, none⟩ = some (.int .i64 t228) ∧ w'.cell? ⟨gb235, 1, none⟩ = some (.int .i64 t229) ∧ w'.cell? ⟨gb236, 0, none⟩ = some (.int .i64 t230) ∧ w'.cell? ⟨gb236, 1, none⟩ = some (.int .i64 t231) ∧ w'.cell? ⟨gb236, 2, none⟩ = some (.int .i64 t232) ∧ w'.cell? ⟨gb236, 3, none⟩ = some (.int .i64 t233) ∧ w'.cell? ⟨gb236, 4, none⟩ = some (.int .i64 t234) ∧ w'.cell? ad261 = some (.int .i64 ((rd_T48 t237 0).f0)) ∧ w'.cell? ⟨ad261.block, ad261.off + 1, none⟩ = some (.int .i64 ((rd_T48 t237 0).f1)) ∧ w'.cell? ⟨ad261.block, ad261.off + 2, none⟩ = some (.int .i64 ((rd_T48 t237 0).f2)) ∧ w'.cell? ⟨ad261.block, ad261.off + 3, none⟩ = some (.bool ((rd_T48 t237 0).f3)) ∧ w'.cell? ⟨ad261.block, ad261.off + 4, none⟩ = some (.bool ((rd_T48 t237 0).f4))) (ds := []) #[false, false, false, false, false, false, false, false, false, false, false, false, false, false, false, false, false, false, false, false, false, false, false, false, false, false, false, false, false, false, false, false, false, false, false, false, false, false, false, false, false, false, false, false, false] (by kernel_rfl) rfl rfl ⟨(blk_cell BK235.out 0).trans rfl, (blk_cell BK235.out 1).trans rfl, (blk_cell BK236.out 0).trans rfl, (blk_cell BK236.out 1).trans rfl, (blk_cell BK236.out 2).trans rfl, (blk_cell BK236.out 3).trans rfl, (blk_cell BK236.out 4).trans rfl, hx261_0, hx261_1, hx261_2, hx261_3, hx261_4⟩ (fun hHeld => ?_); refine with_tabW laws_FnFlits.tab9 laws_FnFlits.bits9 (fun HT_ HW_ => ?_)
               generalize w58.drew = w62 at HO239 HO242 BK235 BK236 HB hx261_0 hx261_1 hx261_2 hx261_3 hx261_4 hHeld ⊢
               refine take_ (i := 0) (N := some 31) (v := ?_) (a' := ?_) (bt_ 45 1) rfl rfl (take_ofW HT_.out HW_.out (by kernel_rfl)) (fun _ _ _ h => h) (Or.inl ⟨by rfl, ?_⟩) hHeld ?_ ?_
               rotate_left
               ·rintro w' ⟨s0, s1, s2, s3, s4, s5, s6, s7, s8, s9, s10, s11⟩
                go_simp
                with_reducible rfl
               rotate_left
               ·simp only [Act.put, List.setIfInBounds_toArray, List.set_cons_zero, List.set_cons_succ, i64_w, i32_w]
                rfl
               refine take_ (i := 1) (N := some 32) (v := ?_) (a' := ?_) (bt_ 45 3) rfl rfl (take_ofW HT_.out HW_.out (by kernel_rfl)) (fun _ _ _ h => h) (Or.inl ⟨by rfl, ?_⟩) hHeld ?_ ?_
               rotate_left
               ·rintro w' ⟨s0, s1, s2, s3, s4, s5, s6, s7, s8, s9, s10, s11⟩
                go_simp
                with_reducible rfl
               rotate_left
               ·simp only [Act.put, List.setIfInBounds_toArray, List.set_cons_zero, List.set_cons_succ, i64_w, i32_w]
                rfl
               refine one_ (i := 2) (N := some 33) (bt_ 45 7) rfl rfl (one_of HT_.out (by kernel_rfl)) (by decide) (fun K hK => ?_)
               refine goes_ Try.func23 (by kernel_rfl) rfl #[.agg #[.int .i64 t228, .int .i64 t229], .agg #[.int .i64 t230, .int .i64 t231, .int .i64 t232, .int .i64 t233, .int .i64 t234]] (by rfl) rfl rfl (by (try simp only [List.map_toArray, List.map_cons, List.map_nil]); first | done | rfl | (simp only [List.length_drop, List.length_take]; rfl)) ?_
               with_reducible refine (impl_PacketOk.calls t228 t229 t230 t231 t232 t233 t234 true _ A10.out).mono ?_
               rintro e w63 ⟨rfl, hb⟩
               have HS7_ := (hb.cell (World.block_lt_of_cell? _ _ (hHeld.2.2.2.2.2.2.2.1))).trans (hHeld.2.2.2.2.2.2.2.1)
               have HS8_ := (hb.cell (World.block_lt_of_cell? _ _ (hHeld.2.2.2.2.2.2.2.2.1))).trans (hHeld.2.2.2.2.2.2.2.2.1)
               have HS9_ := (hb.cell (World.block_lt_of_cell? _ _ (hHeld.2.2.2.2.2.2.2.2.2.1))).trans (hHeld.2.2.2.2.2.2.2.2.2.1)
               have HS10_ := (hb.cell (World.block_lt_of_cell? _ _ (hHeld.2.2.2.2.2.2.2.2.2.2.1))).trans (hHeld.2.2.2.2.2.2.2.2.2.2.1)
               have HS11_ := (hb.cell (World.block_lt_of_cell? _ _ (hHeld.2.2.2.2.2.2.2.2.2.2.2))).trans (hHeld.2.2.2.2.2.2.2.2.2.2.2)
               refine ⟨_, rfl, ?_⟩
               have n0_ := Aside0.mk (Kd.R_below (ra_ HO239.out) hb)
               have n1_ := Aside0.mk (Kd.R_below (ra_ HO242.out) hb)
               have n2_ := Aside0.mk (bk_ BK235.out hb)
               have n3_ := Aside0.mk (bk_ BK236.out hb)
               have n4_ := Aside0.mk (bs_ HB.out hb)
               clear HO239
               clear HO242
               clear BK235
               clear BK236
               clear HB
               have HO239 := n0_
               have HO242 := n1_
               have BK235 := n2_
               have BK236 := n3_
               have HB := n4_
               clear n0_ n1_ n2_ n3_ n4_
               (try clear hb)
               (try clear hb2)
               (try clear hk)
               (try clear hi)
               refine hK.out _ _ ⟨(blk_cell BK235.out 0).trans rfl, (blk_cell BK235.out 1).trans rfl, (blk_cell BK236.out 0).trans rfl, (blk_cell BK236.out 1).trans rfl, (blk_cell BK236.out 2).trans rfl, (blk_cell BK236.out 3).trans rfl, (blk_cell BK236.out 4).trans rfl, HS7_, HS8_, HS9_, HS10_, HS11_⟩ (fun hHeld => ?_)
               clear hK K
               refine norm_ (a' := ?_) ?_ ?_
               rotate_left
               ·show Act.put _ (some 33) _ = _
                simp only [Act.put, List.setIfInBounds_toArray, List.set_cons_zero, List.set_cons_succ, i64_w, i32_w]
                rfl
               refine pu_ 3 34 (bt_ 45 15) HT_ ?_
               refine pu_ 4 35 (bt_ 45 31) HT_ ?_
               refine one_ (i := 5) (N := some 36) (bt_ 45 63) rfl rfl (one_of HT_.out (by kernel_rfl)) (by decide) (fun K hK => ?_)
               refine goes_ Try.func11 (by kernel_rfl) rfl #[.slice (some ad261) t237.length co59] (by rfl) rfl rfl (by (try simp only [List.map_toArray, List.map_cons, List.map_nil]); first | done | rfl | (simp only [List.length_drop, List.length_take]; rfl)) ?_
               with_reducible refine (impl_IsWhole.calls k _ _ t237 true _ ?side1 ?side2 A12.out).mono ?_
               (case side1 => repeat (first | exact (Kd.R_reads' HO239.out).2.2 | (with_reducible refine Kd.C_alloc ?_ _) | (with_reducible refine Kd.C_drewN ?_ _) | (with_reducible refine Kd.C_drew ?_)))
               (case side2 => exact (Kd.R_reads' HO239.out).2.1)
               rintro e w64 ⟨rfl, hb⟩
               have HS7_ := (hb.cell (World.block_lt_of_cell? _ _ (hHeld.2.2.2.2.2.2.2.1))).trans (hHeld.2.2.2.2.2.2.2.1)
               have HS8_ := (hb.cell (World.block_lt_of_cell? _ _ (hHeld.2.2.2.2.2.2.2.2.1))).trans (hHeld.2.2.2.2.2.2.2.2.1)
               have HS9_ := (hb.cell (World.block_lt_of_cell? _ _ (hHeld.2.2.2.2.2.2.2.2.2.1))).trans (hHeld.2.2.2.2.2.2.2.2.2.1)
               have HS10_ := (hb.cell (World.block_lt_of_cell? _ _ (hHeld.2.2.2.2.2.2.2.2.2.2.1))).trans (hHeld.2.2.2.2.2.2.2.2.2.2.1)
               have HS11_ := (hb.cell (World.block_lt_of_cell? _ _ (hHeld.2.2.2.2.2.2.2.2.2.2.2))).trans (hHeld.2.2.2.2.2.2.2.2.2.2.2)
               refine ⟨_, rfl, ?_⟩
               have n0_ := Aside0.mk (Kd.R_below (ra_ HO239.out) hb)
               have n1_ := Aside0.mk (Kd.R_below (ra_ HO242.out) hb)
               have n2_ := Aside0.mk (bk_ BK235.out hb)
               have n3_ := Aside0.mk (bk_ BK236.out hb)
               have n4_ := Aside0.mk (bs_ HB.out hb)
               clear HO239
               clear HO242
               clear BK235
               clear BK236
               clear HB
               have HO239 := n0_
               have HO242 := n1_
               have BK235 := n2_
               have BK236 := n3_
               have HB := n4_
               clear n0_ n1_ n2_ n3_ n4_
               (try clear hb)
               (try clear hb2)
               (try clear hk)
               (try clear hi)
               have q65 : ((ji14) : Int) ≤ ((t237.length : Int) : Int) := of_decide_eq_true dg_
               obtain ⟨i065, hi065, _, hsz65, _⟩ := info_parts info48
               have hroom65 : t237.length ≤ co59 := (Kd.R_reads' HO239.out).2.1
               have hC65 : Kd.C k48 _ (some ad261) t237.length t237 := (Kd.R_reads' HO239.out).2.2
               have hcut65 := cut_to (P := Try.prog) 25 48 .i64 Try.underlying25 hi065 (some ad261) t237.length co59 (ji14) (of_decide_eq_true dg_) q65 hroom65
               have hr65 := Kd.C_take (m := ((ji14) : Int).toNat) hC65 (by omega)
               have hy65 : y246.length = ((ji14) : Int).toNat := (by rw [Ny246.out, List.length_take]; omega)
               rw [← Ny246.out] at hr65
               rw [← hy65] at hcut65
               have HR249 := Aside0.mk hr65
               have HC249 := Aside0.mk (show y246.length ≤ co59 from by omega)
               clear hr65 hC65 hroom65 hi065 hsz65
               have KY65 := Aside0.mk hy65
               clear hy65
               have KL65 := Aside0.mk (show ((ji14) : Int).toNat ≤ t237.length from by omega)
               replace q65 := eq_true q65
               refine hK.out _ _ ⟨(blk_cell BK235.out 0).trans rfl, (blk_cell BK235.out 1).trans rfl, (blk_cell BK236.out 0).trans rfl, (blk_cell BK236.out 1).trans rfl, (blk_cell BK236.out 2).trans rfl, (blk_cell BK236.out 3).trans rfl, (blk_cell BK236.out 4).trans rfl, HS7_, HS8_, HS9_, HS10_, HS11_⟩ (fun hHeld => ?_)
               clear hK K
               refine norm_ (a' := ?_) ?_ ?_
               rotate_left
               ·show Act.put _ (some 36) _ = _
                simp only [Act.put, List.setIfInBounds_toArray, List.set_cons_zero, List.set_cons_succ, i64_w, i32_w]
                rfl
               refine pu_ 6 37 (bt_ 45 127) HT_ ?_
               refine pu_ 7 38 (bt_ 45 255) HT_ ?_
               refine pu_ 8 39 (bt_ 45 511) HT_ ?_
               refine pu_ 9 40 (bt_ 45 1023) HT_ ?_
               refine pu_ 10 41 (bt_ 45 2047) HT_ ?_
               refine one_ (i := 11) (N := some 42) (bt_ 45 4095) rfl rfl (one_of HT_.out (by kernel_rfl)) (by decide) (fun K hK => ?_)
               refine goes_ Try.func11 (by kernel_rfl) rfl #[.slice (some ad261) y246.length co59] (by rfl) rfl rfl (by (try simp only [List.map_toArray, List.map_cons, List.map_nil]); first | done | rfl | (simp only [List.length_drop, List.length_take]; rfl)) ?_
               with_reducible refine (impl_IsWhole.calls k _ _ y246 false _ ?side1 ?side2 A17.out).mono ?_
               (case side1 => repeat (first | exact (by repeat (first | (with_reducible exact HR249.out) | (with_reducible refine Kd.C_alloc ?_ _) | (with_reducible refine Kd.C_drewN ?_ _) | (with_reducible refine Kd.C_drew ?_) | exact HR249.out)) | (with_reducible refine Kd.C_alloc ?_ _) | (with_reducible refine Kd.C_drewN ?_ _) | (with_reducible refine Kd.C_drew ?_)))
               (case side2 => exact HC249.out)
               rintro e w66 ⟨rfl, hb⟩
               have HS7_ := (hb.cell (World.block_lt_of_cell? _ _ (hHeld.2.2.2.2.2.2.2.1))).trans (hHeld.2.2.2.2.2.2.2.1)
               have HS8_ := (hb.cell (World.block_lt_of_cell? _ _ (hHeld.2.2.2.2.2.2.2.2.1))).trans (hHeld.2.2.2.2.2.2.2.2.1)
               have HS9_ := (hb.cell (World.block_lt_of_cell? _ _ (hHeld.2.2.2.2.2.2.2.2.2.1))).trans (hHeld.2.2.2.2.2.2.2.2.2.1)
               have HS10_ := (hb.cell (World.block_lt_of_cell? _ _ (hHeld.2.2.2.2.2.2.2.2.2.2.1))).trans (hHeld.2.2.2.2.2.2.2.2.2.2.1)
               have HS11_ := (hb.cell (World.block_lt_of_cell? _ _ (hHeld.2.2.2.2.2.2.2.2.2.2.2))).trans (hHeld.2.2.2.2.2.2.2.2.2.2.2)
               refine ⟨_, rfl, ?_⟩
               have n0_ := Aside0.mk (Kd.R_below (ra_ HO239.out) hb)
               have n1_ := Aside0.mk (Kd.R_below (ra_ HO242.out) hb)
               have n2_ := Aside0.mk (bk_ BK235.out hb)
               have n3_ := Aside0.mk (bk_ BK236.out hb)
               have n4_ := Aside0.mk (Kd.C_below (by repeat (first | (with_reducible exact HR249.out) | (with_reducible refine Kd.C_alloc ?_ _) | (with_reducible refine Kd.C_drewN ?_ _) | (with_reducible refine Kd.C_drew ?_) | exact HR249.out)) hb)
               have n5_ := Aside0.mk (bs_ HB.out hb)
               clear HO239
               clear HO242
               clear BK235
               clear BK236
               clear HR249
               clear HB
               have HO239 := n0_
               have HO242 := n1_
               have BK235 := n2_
               have BK236 := n3_
               have HR249 := n4_
               have HB := n5_
               clear n0_ n1_ n2_ n3_ n4_ n5_
               (try clear hb)
               (try clear hb2)
               (try clear hk)
               (try clear hi)
               have q67 : ((ji14) : Int) ≤ ((t237.length : Int) : Int) := of_decide_eq_true dg_
               obtain ⟨i067, hi067, _, hsz67, _⟩ := info_parts info48
               have hroom67 : t237.length ≤ co59 := (Kd.R_reads' HO239.out).2.1
               have hC67 : Kd.C k48 _ (some ad261) t237.length t237 := (Kd.R_reads' HO239.out).2.2
               have q067 : (0 : Int) ≤ ((ji14) : Int) := of_decide_eq_true dg_
               have hcut67 := cut_from (P := Try.prog) 25 48 .i64 Try.underlying25 hi067 5 hsz67 (some ad261) t237.length co59 (ji14) q067 q67
               have hr67 := Kd.C_drop (m := ((ji14) : Int).toNat) (c := co59) hC67 (by omega) hroom67
               obtain ⟨A67, hA67⟩ : ∃ A1, A1 = (if co59 = ((ji14) : Int).toNat then (some ad261) else ((some ad261) : Option Addr).map (·.add (((ji14) : Int).toNat * 5))) := ⟨_, rfl⟩
               obtain ⟨c67, hc67⟩ : ∃ c1, c1 = co59 - ((ji14) : Int).toNat := ⟨_, rfl⟩
               have hy67 : y254.length = t237.length - ((ji14) : Int).toNat := (by rw [Ny254.out, List.length_drop] <;> omega)
               rw [show (t237).drop ((ji14) : Int).toNat = y254 from Ny254.out.symm] at hr67
               replace hr67 : Kd.C k48 _ A67 y254.length y254 := (by rw [hA67]; exact hr67)
               rw [← hy67, ← hA67, ← hc67] at hcut67
               have HR257 := Aside0.mk hr67
               have HC257 := Aside0.mk (show y254.length ≤ c67 from by rw [hy67, hc67]; exact Nat.sub_le_sub_right hroom67 _)
               clear hr67 hC67 hroom67 hi067 hsz67 hc67
               have KY67 := Aside0.mk hy67
               have KA67 := Aside0.mk hA67
               clear hy67 hA67
               have KL67 := Aside0.mk (show ((ji14) : Int).toNat ≤ t237.length from by omega)
               replace q67 := eq_true q67
               refine hK.out _ _ ⟨(blk_cell BK235.out 0).trans rfl, (blk_cell BK235.out 1).trans rfl, (blk_cell BK236.out 0).trans rfl, (blk_cell BK236.out 1).trans rfl, (blk_cell BK236.out 2).trans rfl, (blk_cell BK236.out 3).trans rfl, (blk_cell BK236.out 4).trans rfl, HS7_, HS8_, HS9_, HS10_, HS11_⟩ (fun hHeld => ?_)
               clear hK K
               refine norm_ (a' := ?_) ?_ ?_
               rotate_left
               ·show Act.put _ (some 42) _ = _
                simp only [Act.put, List.setIfInBounds_toArray, List.set_cons_zero, List.set_cons_succ, i64_w, i32_w]
                rfl
               refine pu_ 12 43 (bt_ 45 8191) HT_ ?_
               refine pu_ 13 44 (bt_ 45 16383) HT_ ?_
               refine pu_ 14 45 (bt_ 45 32767) HT_ ?_
               refine pu_ 15 46 (bt_ 45 65535) HT_ ?_
               refine pu_ 16 47 (bt_ 45 131071) HT_ ?_
               refine pu_ 17 48 (bt_ 45 262143) HT_ ?_
               refine pu_ 18 49 (bt_ 45 524287) HT_ ?_
               refine pu_ 19 50 (bt_ 45 1048575) HT_ ?_
               refine pu_ 20 51 (bt_ 45 2097151) HT_ ?_
               refine one_ (i := 21) (N := some 52) (bt_ 45 4194303) rfl rfl (one_of HT_.out (by kernel_rfl)) (by decide) (fun K hK => ?_)
               refine goes_ Try.func11 (by kernel_rfl) rfl #[.slice A67 y254.length c67] (by rfl) rfl rfl (by (try simp only [List.map_toArray, List.map_cons, List.map_nil]); first | done | rfl | (simp only [List.length_drop, List.length_take]; rfl)) ?_
               with_reducible refine (impl_IsWhole.calls k _ _ y254 false _ ?side1 ?side2 A44.out).mono ?_
               (case side1 => repeat (first | exact (by repeat (first | (with_reducible exact HR257.out) | (with_reducible refine Kd.C_alloc ?_ _) | (with_reducible refine Kd.C_drewN ?_ _) | (with_reducible refine Kd.C_drew ?_) | exact HR257.out)) | (with_reducible refine Kd.C_alloc ?_ _) | (with_reducible refine Kd.C_drewN ?_ _) | (with_reducible refine Kd.C_drew ?_)))
               (case side2 => exact HC257.out)
               rintro e w68 ⟨rfl, hb⟩
               have HS7_ := (hb.cell (World.block_lt_of_cell? _ _ (hHeld.2.2.2.2.2.2.2.1))).trans (hHeld.2.2.2.2.2.2.2.1)
               have HS8_ := (hb.cell (World.block_lt_of_cell? _ _ (hHeld.2.2.2.2.2.2.2.2.1))).trans (hHeld.2.2.2.2.2.2.2.2.1)
               have HS9_ := (hb.cell (World.block_lt_of_cell? _ _ (hHeld.2.2.2.2.2.2.2.2.2.1))).trans (hHeld.2.2.2.2.2.2.2.2.2.1)
               have HS10_ := (hb.cell (World.block_lt_of_cell? _ _ (hHeld.2.2.2.2.2.2.2.2.2.2.1))).trans (hHeld.2.2.2.2.2.2.2.2.2.2.1)
               have HS11_ := (hb.cell (World.block_lt_of_cell? _ _ (hHeld.2.2.2.2.2.2.2.2.2.2.2))).trans (hHeld.2.2.2.2.2.2.2.2.2.2.2)
               refine ⟨_, rfl, ?_⟩
               have n0_ := Aside0.mk (Kd.R_below (ra_ HO239.out) hb)
               have n1_ := Aside0.mk (Kd.R_below (ra_ HO242.out) hb)
               have n2_ := Aside0.mk (bk_ BK235.out hb)
               have n3_ := Aside0.mk (bk_ BK236.out hb)
               have n4_ := Aside0.mk (Kd.C_below (by repeat (first | (with_reducible exact HR249.out) | (with_reducible refine Kd.C_alloc ?_ _) | (with_reducible refine Kd.C_drewN ?_ _) | (with_reducible refine Kd.C_drew ?_) | exact HR249.out)) hb)
               have n5_ := Aside0.mk (Kd.C_below (by repeat (first | (with_reducible exact HR257.out) | (with_reducible refine Kd.C_alloc ?_ _) | (with_reducible refine Kd.C_drewN ?_ _) | (with_reducible refine Kd.C_drew ?_) | exact HR257.out)) hb)
               have n6_ := Aside0.mk (bs_ HB.out hb)
               clear HO239
               clear HO242
               clear BK235
               clear BK236
               clear HR249
               clear HR257
               clear HB
               have HO239 := n0_
               have HO242 := n1_
               have BK235 := n2_
               have BK236 := n3_
               have HR249 := n4_
               have HR257 := n5_
               have HB := n6_
               clear n0_ n1_ n2_ n3_ n4_ n5_ n6_
               (try clear hb)
               (try clear hb2)
               (try clear hk)
               (try clear hi)
               refine hK.out _ _ ⟨(blk_cell BK235.out 0).trans rfl, (blk_cell BK235.out 1).trans rfl, (blk_cell BK236.out 0).trans rfl, (blk_cell BK236.out 1).trans rfl, (blk_cell BK236.out 2).trans rfl, (blk_cell BK236.out 3).trans rfl, (blk_cell BK236.out 4).trans rfl, HS7_, HS8_, HS9_, HS10_, HS11_⟩ (fun hHeld => ?_)
               clear hK K
               refine norm_ (a' := ?_) ?_ ?_
               rotate_left
               ·show Act.put _ (some 52) _ = _
                simp only [Act.put, List.setIfInBounds_toArray, List.set_cons_zero, List.set_cons_succ, i64_w, i32_w]
                rfl
               refine pu_ 22 53 (bt_ 45 8388607) HT_ ?_
               refine pu_ 23 54 (bt_ 45 16777215) HT_ ?_
               refine pu_ 24 55 (bt_ 45 33554431) HT_ ?_
               refine pu_ 25 56 (bt_ 45 67108863) HT_ ?_
               refine pu_ 26 57 (bt_ 45 134217727) HT_ ?_
               refine one_ (i := 27) (N := some 58) (bt_ 45 268435455) rfl rfl (one_of HT_.out (by kernel_rfl)) (by decide) (fun K hK => ?_)
               refine goes_ Try.func24 (by kernel_rfl) rfl #[.slice (some ad261) t237.length co59] (by rfl) rfl rfl (by (try simp only [List.map_toArray, List.map_cons, List.map_nil]); first | done | rfl | (simp only [List.length_drop, List.length_take]; rfl)) ?_
               with_reducible refine (impl_CountPackets.calls k _ _ t237 t259 _ ?side1 ?side2 A46.out).mono ?_
               (case side1 => repeat (first | exact (Kd.R_reads' HO239.out).2.2 | (with_reducible refine Kd.C_alloc ?_ _) | (with_reducible refine Kd.C_drewN ?_ _) | (with_reducible refine Kd.C_drew ?_)))
               (case side2 => exact (Kd.R_reads' HO239.out).2.1)
               rintro e w69 ⟨rfl, hb⟩
               have HS7_ := (hb.cell (World.block_lt_of_cell? _ _ (hHeld.2.2.2.2.2.2.2.1))).trans (hHeld.2.2.2.2.2.2.2.1)
               have HS8_ := (hb.cell (World.block_lt_of_cell? _ _ (hHeld.2.2.2.2.2.2.2.2.1))).trans (hHeld.2.2.2.2.2.2.2.2.1)
               have HS9_ := (hb.cell (World.block_lt_of_cell? _ _ (hHeld.2.2.2.2.2.2.2.2.2.1))).trans (hHeld.2.2.2.2.2.2.2.2.2.1)
               have HS10_ := (hb.cell (World.block_lt_of_cell? _ _ (hHeld.2.2.2.2.2.2.2.2.2.2.1))).trans (hHeld.2.2.2.2.2.2.2.2.2.2.1)
               have HS11_ := (hb.cell (World.block_lt_of_cell? _ _ (hHeld.2.2.2.2.2.2.2.2.2.2.2))).trans (hHeld.2.2.2.2.2.2.2.2.2.2.2)
               refine ⟨_, rfl, ?_⟩
               have n0_ := Aside0.mk (Kd.R_below (ra_ HO239.out) hb)
               have n1_ := Aside0.mk (Kd.R_below (ra_ HO242.out) hb)
               have n2_ := Aside0.mk (bk_ BK235.out hb)
               have n3_ := Aside0.mk (bk_ BK236.out hb)
               have n4_ := Aside0.mk (Kd.C_below (by repeat (first | (with_reducible exact HR249.out) | (with_reducible refine Kd.C_alloc ?_ _) | (with_reducible refine Kd.C_drewN ?_ _) | (with_reducible refine Kd.C_drew ?_) | exact HR249.out)) hb)
               have n5_ := Aside0.mk (Kd.C_below (by repeat (first | (with_reducible exact HR257.out) | (with_reducible refine Kd.C_alloc ?_ _) | (with_reducible refine Kd.C_drewN ?_ _) | (with_reducible refine Kd.C_drew ?_) | exact HR257.out)) hb)
               have n6_ := Aside0.mk (bs_ HB.out hb)
               clear HO239
               clear HO242
               clear BK235
               clear BK236
               clear HR249
               clear HR257
               clear HB
               have HO239 := n0_
               have HO242 := n1_
               have BK235 := n2_
               have BK236 := n3_
               have HR249 := n4_
               have HR257 := n5_
               have HB := n6_
               clear n0_ n1_ n2_ n3_ n4_ n5_ n6_
               (try clear hb)
               (try clear hb2)
               (try clear hk)
               (try clear hi)
               refine hK.out _ _ ⟨(blk_cell BK235.out 0).trans rfl, (blk_cell BK235.out 1).trans rfl, (blk_cell BK236.out 0).trans rfl, (blk_cell BK236.out 1).trans rfl, (blk_cell BK236.out 2).trans rfl, (blk_cell BK236.out 3).trans rfl, (blk_cell BK236.out 4).trans rfl, HS7_, HS8_, HS9_, HS10_, HS11_⟩ (fun hHeld => ?_)
               clear hK K
               refine norm_ (a' := ?_) ?_ ?_
               rotate_left
               ·show Act.put _ (some 58) _ = _
                simp only [Act.put, List.setIfInBounds_toArray, List.set_cons_zero, List.set_cons_succ, i64_w, i32_w]
                rfl
               refine pu_ 28 59 (bt_ 45 536870911) HT_ ?_
               refine pu_ 29 60 (bt_ 45 1073741823) HT_ ?_
               refine pu_ 30 61 (bt_ 45 2147483647) HT_ ?_
               refine pu_ 31 62 (bt_ 45 4294967295) HT_ ?_
               refine pu_ 32 63 (bt_ 45 8589934591) HT_ ?_
               refine one_ (i := 33) (N := some 64) (bt_ 45 17179869183) rfl rfl (one_of HT_.out (by kernel_rfl)) (by decide) (fun K hK => ?_)
               refine goes_ Try.func25 (by kernel_rfl) rfl #[.slice (some ad261) t237.length co59, .slice (some ad261) t237.length co59] (by rfl) rfl rfl (by (try simp only [List.map_toArray, List.map_cons, List.map_nil]); first | done | rfl | (simp only [List.length_drop, List.length_take]; rfl)) ?_
               with_reducible refine (impl_SameFlits.calls k _ _ t237 _ _ t237 true _ ?side1 ?side2 ?side3 ?side4 A48.out).mono ?_
               (case side1 => repeat (first | exact (Kd.R_reads' HO239.out).2.2 | (with_reducible refine Kd.C_alloc ?_ _) | (with_reducible refine Kd.C_drewN ?_ _) | (with_reducible refine Kd.C_drew ?_)))
               (case side2 => exact (Kd.R_reads' HO239.out).2.1)
               (case side3 => repeat (first | exact (Kd.R_reads' HO239.out).2.2 | (with_reducible refine Kd.C_alloc ?_ _) | (with_reducible refine Kd.C_drewN ?_ _) | (with_reducible refine Kd.C_drew ?_)))
               (case side4 => exact (Kd.R_reads' HO239.out).2.1)
               rintro e w' ⟨rfl, ⟨nd, rfl⟩⟩
               refine ⟨_, rfl, ?_⟩
               refine hK.out _ _ ⟨(blk_cell BK235.out 0).trans rfl, (blk_cell BK235.out 1).trans rfl, (blk_cell BK236.out 0).trans rfl, (blk_cell BK236.out 1).trans rfl, (blk_cell BK236.out 2).trans rfl, (blk_cell BK236.out 3).trans rfl, (blk_cell BK236.out 4).trans rfl, hHeld.2.2.2.2.2.2.2.1, hHeld.2.2.2.2.2.2.2.2.1, hHeld.2.2.2.2.2.2.2.2.2.1, hHeld.2.2.2.2.2.2.2.2.2.2.1, hHeld.2.2.2.2.2.2.2.2.2.2.2⟩ (fun hHeld => ?_)
               clear hK K
               refine norm_ (a' := ?_) ?_ ?_
               rotate_left
               ·show Act.put _ (some 64) _ = _
                simp only [Act.put, List.setIfInBounds_toArray, List.set_cons_zero, List.set_cons_succ, i64_w, i32_w]
                rfl
               refine pu_ 34 65 (bt_ 45 34359738367) HT_ ?_
               refine pu_ 35 66 (bt_ 45 68719476735) HT_ ?_
               refine pu_ 36 67 (bt_ 45 137438953471) HT_ ?_
               refine pu_ 37 68 (bt_ 45 274877906943) HT_ ?_
               refine pu_ 38 69 (bt_ 45 549755813887) HT_ ?_
               refine pu_ 40 71 (bt_ 45 1649267441663) HT_ ?_
               refine take_ (i := 39) (N := some 70) (v := ?_) (a' := ?_) (bt_ 45 2199023255551) rfl rfl (take_ofW HT_.out HW_.out (by kernel_rfl)) (fun _ _ _ h => h) (Or.inl ⟨by rfl, ?_⟩) hHeld ?_ ?_
               rotate_left
               ·rintro w' ⟨s0, s1, s2, s3, s4, s5, s6, s7, s8, s9, s10, s11⟩
                go_simp
                with_reducible rfl
               rotate_left
               ·simp only [Act.put, List.setIfInBounds_toArray, List.set_cons_zero, List.set_cons_succ, i64_w, i32_w]
                rfl
               refine take_ (i := 41) (N := some 72) (v := ?_) (a' := ?_) (bt_ 45 4398046511103) rfl rfl (take_ofW HT_.out HW_.out (by kernel_rfl)) (fun _ _ _ h => h) (Or.inl ⟨by rfl, ?_⟩) hHeld ?_ ?_
               rotate_left
               ·rintro w' ⟨s0, s1, s2, s3, s4, s5, s6, s7, s8, s9, s10, s11⟩
                go_simp
                with_reducible rfl
               rotate_left
               ·simp only [Act.put, List.setIfInBounds_toArray, List.set_cons_zero, List.set_cons_succ, i64_w, i32_w]
                rfl
               refine pu_ 42 73 (bt_ 45 8796093022207) HT_ ?_
               refine pu_ 43 74 (bt_ 45 17592186044415) HT_ ?_
               refine pu_ 44 2 (bt_ 45 35184372088831) HT_ ?_
               refine done_ (done_of HT_.out (by kernel_rfl)) ?_
               try go_wp2
               go_ret
               exact ⟨by first | rfl | (simp [errW_none, errW_some] <;> rfl) | (simp only [← hji14]; first | rfl | (simp [errW_none, errW_some] <;> rfl)) | (simp [*, errW_none, errW_some] <;> rfl), bb_ HB.out⟩
              ·rw [if_neg c50] at H
               exact absurd H (by simp)
             ·replace c49 := Bool.eq_false_iff.mpr c49
              subst c49
              rw [if_neg (show ¬ (false = true) by decide)] at H
              exact absurd H (by simp)
            ·rw [if_neg c47] at H
             exact absurd H (by simp)
        ·rw [if_neg c16] at H
         exact absurd H (by simp)
       ·rw [if_neg c15] at H
        exact absurd H (by simp)
      ·replace c13 := Bool.eq_false_iff.mpr c13
       subst c13
       rw [if_neg (show ¬ (false = true) by decide)] at H
       exact absurd H (by simp)
     ·replace c11 := Bool.eq_false_iff.mpr c11
      subst c11
      rw [if_neg (show ¬ (false = true) by decide)] at H
      exact absurd H (by simp)
   ·rw [if_neg c8] at H
    exact absurd H (by simp)
  ·rw [if_neg c7] at H
   exact absurd H (by simp)

/-- THE ONE PURE STATEMENT of laws_FnFlits: yours. -/
def laws_FnFlits.Pure : Prop := ∀ (l0 : List Int), l0.length ≤ maxLen → l0.length * 1 ≤ 140737488351232 → (∀ x ∈ l0, (Lit.int .u8 x).wf = true) → ∃ k, laws_FnFlits.f k l0 = some true
theorem laws_FnFlits.walk (P : laws_FnFlits.Pure) (a0 : Option Addr) (len0 cap0 : Nat) (z0 : List Int) (w : World) (w0 : (a0 = none ∧ len0 = 0 ∧ cap0 = 0 ∧ z0 = []) ∨ ∃ x, a0 = some x ∧ len0 ≤ cap0 ∧ cap0 ≤ maxLen ∧ z0.length = cap0 ∧ (∀ i, i < z0.length → w.cell? (x.add i) = some (.int .u8 (z0.getD i 0))) ∧ ∀ n ∈ z0, (Lit.int .u8 n).wf = true) (y0 : len0 * 1 ≤ 140737488351232) :
  Calls Try.prog 5 #[.slice a0 len0 cap0] w fun e w' => e = .returned (.bool true) ∧ Below w.heap.size w w' := by
 obtain ⟨l0, rfl, hr0, hm0, hw0, hc0⟩ := ReadsInt.ofRowC w0
 obtain ⟨k, h⟩ := P l0 hm0 y0 hw0
 refine (laws_FnFlits.calls k _ _ l0 true w (Kd.C_of_reads (d := (0 : Int)) (h1 := fun _ => rfl) hr0) hc0 h).mono ?_
 rintro e w' ⟨rfl, hd⟩
 exact ⟨rfl, hd⟩

end Go.Proofs.Ytjialkmfmpkjgaa.PFnFlits
-- thin
