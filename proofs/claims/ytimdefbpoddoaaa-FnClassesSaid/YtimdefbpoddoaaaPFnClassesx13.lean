/- Each function that the law comes to, as a plain function, with the proof that the call in the model gives what that function says (written by a program of this session out of the translation). No condition. -/
import Derived.Test.YtimdefbpoddoaaaPFnClassesx0
import Derived.Test.YtimdefbpoddoaaaPFnClassesx1
import Derived.Test.YtimdefbpoddoaaaPFnClassesx4
import Derived.Test.YtimdefbpoddoaaaPFnClassesx9
import Derived.Test.YtimdefbpoddoaaaPFnClassesx10
import Derived.Test.YtimdefbpoddoaaaPFnClassesx12
namespace Go.Proofs.Ytimdefbpoddoaaa.PFnClasses
open Go.RowKit Go.Proofs.YtimdefbpoddoaaaW.PrintWords Go.Proofs.YtimdefbpoddoaaaW.PrintLast Go.Proofs.YtimdefbpoddoaaaW.PrintMore
attribute [local go_sem] max2_int min2_int max_two min_two max_three min_three max_four min_four   -- for this text's walks alone
set_option linter.unusedVariables false
set_option linter.unusedSimpArgs false

/-! ### laws_FnClasses: function 12 -/
def laws_FnClasses.f (k : Nat) (l0 : List Int) : Option (Bool) := (laws_big.f l0).bind fun t410 => (if t410 = true then (some true) else ((spec_DrawClasses.f k l0).bind fun bt411 => ((impl_CheckTable.f k bt411.1 bt411.2.1 bt411.2.2.1 bt411.2.2.2.1).bind fun bt424 => ((impl_CheckTable.f k bt411.1 bt411.2.1 bt411.2.2.1 bt411.2.2.2.2).bind fun bt432 => ((impl_CheckClasses.f k bt411.1 bt411.2.1 bt411.2.2.1 bt411.2.2.2.1 bt411.2.2.2.2).bind fun bt440 => ((impl_TableFor.f bt411.2.2.2.1 bt411.2.2.2.2 1).bind fun bt448 => (if bt424.1 = 1 then (if ((bt440.1 == 1) == (bt432.1 == 1)) = true then (if bt448.2 = true then ((laws_sameInts.f k bt448.1 bt411.2.2.2.2).bind fun t453 => (if t453 = true then ((impl_ClassDepends.f k bt411.1 bt411.2.1 bt411.2.2.1 bt411.2.2.2.1 bt411.2.2.2.2).bind fun t454 => ((impl_DependsOf.f k bt411.1 bt411.2.1 bt411.2.2.1 bt411.2.2.2.1).bind fun t457 => ((impl_DependsOf.f k bt411.1 bt411.2.1 bt411.2.2.1 bt411.2.2.2.2).bind fun t460 => (some ((t454.length : Int) == (wrap64 ((t457.length : Int) + (t460.length : Int)))))))) else (none))) else (none)) else (none)) else (if ((bt440.1 == 1) == false) = true then (if bt448.2 = true then ((laws_sameInts.f k bt448.1 bt411.2.2.2.2).bind fun t463 => (if t463 = true then ((impl_ClassDepends.f k bt411.1 bt411.2.1 bt411.2.2.1 bt411.2.2.2.1 bt411.2.2.2.2).bind fun t464 => ((impl_DependsOf.f k bt411.1 bt411.2.1 bt411.2.2.1 bt411.2.2.2.1).bind fun t467 => ((impl_DependsOf.f k bt411.1 bt411.2.1 bt411.2.2.1 bt411.2.2.2.2).bind fun t470 => (some ((t464.length : Int) == (wrap64 ((t467.length : Int) + (t470.length : Int)))))))) else (none))) else (none)) else (none)))))))))
theorem laws_FnClasses.mono : ∀ a0 k, LeO (laws_FnClasses.f k a0) (laws_FnClasses.f (k + 1) a0) := by
 intro a0 k
 unfold laws_FnClasses.f
 repeat' first
   | (with_reducible exact impl_CheckClasses.mono _ _ _ _ _ _)
   | (with_reducible exact impl_CheckTable.mono _ _ _ _ _)
   | (with_reducible exact impl_ClassDepends.mono _ _ _ _ _ _)
   | (with_reducible exact impl_DependsOf.mono _ _ _ _ _)
   | (with_reducible exact laws_sameInts.mono _ _ _)
   | (with_reducible exact spec_DrawClasses.mono _ _)
   | (with_reducible exact LeO.refl _)
   | (with_reducible exact LeO.none _)
   | (with_reducible refine LeO.ite ?_ ?_)
   | (with_reducible refine LeO.bind ?_ (fun _ => ?_))
   | exact impl_CheckClasses.mono _ _ _ _ _ _
   | exact impl_CheckTable.mono _ _ _ _ _
   | exact impl_ClassDepends.mono _ _ _ _ _ _
   | exact impl_DependsOf.mono _ _ _ _ _
   | exact laws_sameInts.mono _ _ _
   | exact spec_DrawClasses.mono _ _
   | exact LeO.none _
   | refine LeO.ite ?_ ?_
   | refine LeO.bind ?_ (fun _ => ?_)
def laws_FnClasses.T8 : Bool × List (List Nat × List Nat) := (true, [([], []), ([0], [0]), ([1], [1]), ([], []), ([3], [3]), ([4], [4]), ([5], [5]), ([6], [6]), ([7, 6], [6, 7]), ([8, 6], [6, 8]), ([6, 9], [6, 9]), ([2, 10], [2, 10]), ([11, 6], [11]), ([12], [12]), ([12, 13], [12, 13]), ([14, 12], [14]), ([15], [15]), ([16, 15], [15, 16]), ([15], [15]), ([18, 15], [15, 18]), ([19, 15], [15, 19]), ([17, 20, 15, 15], [15, 17, 20]), ([15, 21], [15, 21]), ([22, 21], [22]), ([23], [23]), ([23], [23]), ([24, 25, 23, 23], [23, 24, 25]), ([26, 23], [23, 26]), ([23], [23]), ([23], [23]), ([29, 23], [23, 29]), ([28, 30, 26, 23], [23, 28, 30]), ([31, 23], [23, 31]), ([23], [23]), ([23], [23]), ([34, 23], [23, 34]), ([33, 35, 31, 23], [23, 33, 35]), ([36, 23], [23, 36]), ([32, 37, 23], [23, 32, 37]), ([27, 38, 23], [23, 27, 38]), ([23, 39], [23, 39]), ([40, 36, 0, 1, 2, 3, 4, 5, 6, 7, 8, 9, 10, 11, 12, 13, 14, 15, 16, 17, 18, 19, 20, 21, 22, 23, 24, 25, 26, 27, 28, 29, 30, 31, 32, 33, 34, 35, 36, 37, 38, 39, 40], [40])])
def laws_FnClasses.B8 : List Nat := [0, 1, 3, 0, 8, 24, 56, 120, 248, 504, 1016, 2047, 4095, 8191, 16383, 32767, 65535, 131071, 65535, 327679, 851967, 2097151, 4194303, 8388607, 16777215, 16777215, 67108863, 134217727, 16777215, 16777215, 553648127, 2013265919, 4160749567, 16777215, 16777215, 17196646399, 64290291711, 133009768447, 274743689215, 549755813887, 1099511627775, 2199023255551]
theorem laws_FnClasses.tab8 : rtab .any (opsOf Try.f12 8) = laws_FnClasses.T8 := by kernel_rfl
theorem laws_FnClasses.bits8 : waitsOk laws_FnClasses.T8.2 laws_FnClasses.B8 = true := by kernel_rfl
set_option maxHeartbeats 8000000 in
set_option maxRecDepth 100000 in
theorem laws_FnClasses.calls (k : Nat) (A0 : Option Addr) (c0 : Nat) (l0 : List Int) (r : Bool) (w : World) (hr0 : Kd.C (Kd.int .u8) w A0 l0.length l0) (hc0 : l0.length ≤ c0) (h : laws_FnClasses.f k l0 = some r) :
  Calls Try.prog 12 #[.slice A0 l0.length c0] w fun e w' => e = .returned (.bool r) ∧ Below w.heap.size w w' := by
 have hu44 := Try.underlying44
 have hu70 := Try.underlying70
 have hu46 := Try.underlying46
 have hu40 := Try.underlying40
 have HR0 := Aside0.mk hr0
 have HC0 := Aside0.mk hc0
 clear hr0 hc0
 have HB := Aside0.mk (Below.refl w.heap.size w)
 have H : ((laws_big.f l0).bind fun t410 => (if t410 = true then (some true) else ((spec_DrawClasses.f k l0).bind fun bt411 => ((impl_CheckTable.f k bt411.1 bt411.2.1 bt411.2.2.1 bt411.2.2.2.1).bind fun bt424 => ((impl_CheckTable.f k bt411.1 bt411.2.1 bt411.2.2.1 bt411.2.2.2.2).bind fun bt432 => ((impl_CheckClasses.f k bt411.1 bt411.2.1 bt411.2.2.1 bt411.2.2.2.1 bt411.2.2.2.2).bind fun bt440 => ((impl_TableFor.f bt411.2.2.2.1 bt411.2.2.2.2 1).bind fun bt448 => (if bt424.1 = 1 then (if ((bt440.1 == 1) == (bt432.1 == 1)) = true then (if bt448.2 = true then ((laws_sameInts.f k bt448.1 bt411.2.2.2.2).bind fun t453 => (if t453 = true then ((impl_ClassDepends.f k bt411.1 bt411.2.1 bt411.2.2.1 bt411.2.2.2.1 bt411.2.2.2.2).bind fun t454 => ((impl_DependsOf.f k bt411.1 bt411.2.1 bt411.2.2.1 bt411.2.2.2.1).bind fun t457 => ((impl_DependsOf.f k bt411.1 bt411.2.1 bt411.2.2.1 bt411.2.2.2.2).bind fun t460 => (some ((t454.length : Int) == (wrap64 ((t457.length : Int) + (t460.length : Int)))))))) else (none))) else (none)) else (none)) else (if ((bt440.1 == 1) == false) = true then (if bt448.2 = true then ((laws_sameInts.f k bt448.1 bt411.2.2.2.2).bind fun t463 => (if t463 = true then ((impl_ClassDepends.f k bt411.1 bt411.2.1 bt411.2.2.1 bt411.2.2.2.1 bt411.2.2.2.2).bind fun t464 => ((impl_DependsOf.f k bt411.1 bt411.2.1 bt411.2.2.1 bt411.2.2.2.1).bind fun t467 => ((impl_DependsOf.f k bt411.1 bt411.2.1 bt411.2.2.1 bt411.2.2.2.2).bind fun t470 => (some ((t464.length : Int) == (wrap64 ((t467.length : Int) + (t470.length : Int)))))))) else (none))) else (none)) else (none)))))))))) = some r := h
 clear h
 replace H := Option.bind_eq_some_iff.mp H
 obtain ⟨t410, A20, H⟩ := H
 try dsimp only at H
 have A2 := Aside0.mk A20
 clear A20
 by_cases c3 : t410 = true
 ·subst c3
  rw [if_pos rfl] at H
  obtain rfl := Option.some.inj H
  go_enter Try.func12, Try.ntmps12
  go_wp2_with (first | ((with_reducible refine gate_callee (f := 20) rfl ?_); refine gm_ (some 11) Try.func20 #[.slice A0 l0.length c0] rfl ?_; (with_reducible refine (laws_big.calls _ _ l0 true _ ?side1 HC0.out A2.out).mono ?_); (case side1 => repeat (first | exact HR0.out | (with_reducible refine Kd.C_alloc ?_ _) | (with_reducible refine Kd.C_drewN ?_ _) | (with_reducible refine Kd.C_drew ?_))); rintro e w' ⟨rfl, ⟨nd, rfl⟩⟩; refine ⟨_, rfl, ?_⟩))
  go_ret
  exact ⟨fin_, bb_ HB.out⟩
 ·replace c3 := Bool.eq_false_iff.mpr c3
  subst c3
  rw [if_neg (show ¬ (false = true) by decide)] at H
  replace H := Option.bind_eq_some_iff.mp H
  obtain ⟨⟨t411, t412, t413, t416, t419⟩, A40, H⟩ := H
  try dsimp only at H
  have A4 := Aside0.mk A40
  clear A40
  replace H := Option.bind_eq_some_iff.mp H
  obtain ⟨⟨t424, t425, t428⟩, A50, H⟩ := H
  try dsimp only at H
  have A5 := Aside0.mk A50
  clear A50
  replace H := Option.bind_eq_some_iff.mp H
  obtain ⟨⟨t432, t433, t436⟩, A60, H⟩ := H
  try dsimp only at H
  have A6 := Aside0.mk A60
  clear A60
  replace H := Option.bind_eq_some_iff.mp H
  obtain ⟨⟨t440, t441, t444⟩, A70, H⟩ := H
  try dsimp only at H
  have A7 := Aside0.mk A70
  clear A70
  replace H := Option.bind_eq_some_iff.mp H
  obtain ⟨⟨t448, t451⟩, A80, H⟩ := H
  try dsimp only at H
  have A8 := Aside0.mk A80
  clear A80
  by_cases c9 : t424 = 1
  ·rw [if_pos c9] at H
   have c9b0 : (t424 == 1) = true := beq_iff_eq.mpr c9
   have c9b1 : (t424 != 1) = false := bne_eq_false_iff_eq.mpr c9
   clear c9
   by_cases c10 : ((t440 == 1) == (t432 == 1)) = true
   ·rw [if_pos c10] at H
    have c10b0 : ((t440 == 1) == (t432 == 1)) = true := c10
    (try (have c10b1 : decide ((t440 == 1) = (t432 == 1)) = true := by simpa using c10))
    (try (have c10b2 : ((t440 == 1) == (t432 == 1)) = true := by simpa using c10))
    clear c10
    by_cases c11 : t451 = true
    ·subst c11
     rw [if_pos rfl] at H
     replace H := Option.bind_eq_some_iff.mp H
     obtain ⟨t453, A120, H⟩ := H
     try dsimp only at H
     have A12 := Aside0.mk A120
     clear A120
     by_cases c13 : t453 = true
     ·subst c13
      rw [if_pos rfl] at H
      replace H := Option.bind_eq_some_iff.mp H
      obtain ⟨t454, A140, H⟩ := H
      try dsimp only at H
      have A14 := Aside0.mk A140
      clear A140
      replace H := Option.bind_eq_some_iff.mp H
      obtain ⟨t457, A150, H⟩ := H
      try dsimp only at H
      have A15 := Aside0.mk A150
      clear A150
      replace H := Option.bind_eq_some_iff.mp H
      obtain ⟨t460, A160, H⟩ := H
      try dsimp only at H
      have A16 := Aside0.mk A160
      clear A160
      obtain rfl := Option.some.inj H
      go_enter Try.func12, Try.ntmps12
      try go_wp2_with (first | ((with_reducible refine gate_callee (f := 20) rfl ?_); refine gm_ (some 11) Try.func20 #[.slice A0 l0.length c0] rfl ?_; (with_reducible refine (laws_big.calls _ _ l0 false _ ?side1 HC0.out A2.out).mono ?_); (case side1 => repeat (first | exact HR0.out | (with_reducible refine Kd.C_alloc ?_ _) | (with_reducible refine Kd.C_drewN ?_ _) | (with_reducible refine Kd.C_drew ?_))); rintro e w' ⟨rfl, ⟨nd, rfl⟩⟩; refine ⟨_, rfl, ?_⟩) | ((with_reducible refine gate_callee (f := 57) rfl ?_); refine gm_ (some 14) Try.func57 #[.slice A0 l0.length c0] rfl ?_; (with_reducible refine (spec_DrawClasses.calls k _ _ l0 t411 t412 t413 t416 t419 _ ?side1 HC0.out A4.out).mono ?_); (case side1 => repeat (first | exact HR0.out | (with_reducible refine Kd.C_alloc ?_ _) | (with_reducible refine Kd.C_drewN ?_ _) | (with_reducible refine Kd.C_drew ?_))); rintro e w17 ⟨v414, v417, v420, rfl, ho0, ho1, ho2, hb⟩; refine ⟨_, rfl, ?_⟩; have HO415 := Aside0.mk (Kd.R_lower ho0 (bz_ HB.out)); have HO418 := Aside0.mk (Kd.R_lower ho1 (bz_ HB.out)); have HO421 := Aside0.mk (Kd.R_lower ho2 (bz_ HB.out)); replace HB := Aside0.mk (bs_ HB.out hb); (try clear hb); (try clear ho0); (try clear ho1); (try clear ho2)) | ((with_reducible refine gate_dst (N := 3) rfl ?_); (try (refine gate_guard (by rfl) ?_; dsimp only)); refine box_event ?hg (N := 3) ?hd (cs := #[.int .i64 0, .int .i64 0, .slice none 0 0]) (t := 44) ?hr ?_; (case hd => rfl); (case hg => rfl); (case hr => first | (go_simp; done) | (go_simp; rfl)); intro gb422 hg w18 hbox hb; replace HO415 := Aside0.mk (Kd.R_below (ra_ HO415.out) hb); replace HO418 := Aside0.mk (Kd.R_below (ra_ HO418.out) hb); replace HO421 := Aside0.mk (Kd.R_below (ra_ HO421.out) hb); have BK422 := Aside0.mk (hbox); have GW422 := Aside0.mk ((by rw [hg]; exact (bz_ HB.out) : w.heap.size ≤ gb422)); have GE422 := Aside0.mk ((by rw [hg]; exact (bz_ HB.out) : w.heap.size ≤ gb422)); replace HB := Aside0.mk (bs_ HB.out hb); clear hb hbox hg) | ((with_reducible refine gate_dst (N := 4) rfl ?_); (try (refine gate_guard (by rfl) ?_; dsimp only)); refine box_event ?hg (N := 4) ?hd (cs := #[.slice none 0 0, .slice none 0 0]) (t := 70) ?hr ?_; (case hd => rfl); (case hg => rfl); (case hr => first | (go_simp; done) | (go_simp; rfl)); intro gb423 hg w19 hbox hb; replace HO415 := Aside0.mk (Kd.R_below (ra_ HO415.out) hb); replace HO418 := Aside0.mk (Kd.R_below (ra_ HO418.out) hb); replace HO421 := Aside0.mk (Kd.R_below (ra_ HO421.out) hb); have BK423 := Aside0.mk (hbox); have GW423 := Aside0.mk ((by rw [hg]; exact (bz_ HB.out) : w.heap.size ≤ gb423)); have GE423 := Aside0.mk ((by rw [hg]; exact (bz_ HB.out) : w.heap.size ≤ gb423)); replace HB := Aside0.mk (bs_ HB.out hb); have NB422_423 := Aside0.mk ((by rw [hg]; exact Nat.ne_of_lt (bl_ BK422.out) : gb422 ≠ gb423)); have NB423_422 := Aside0.mk ((by rw [hg]; exact Nat.ne_of_gt (bl_ BK422.out) : gb423 ≠ gb422)); replace BK422 := Aside0.mk (bk_ BK422.out hb); clear hb hbox hg; have hnb20 := NB422_423.out; have hnc20 := NB423_422.out; obtain ⟨hcz21_0, hcz21_1, hcz21_2, hfz21_0, hfz21_1, hfz21_2⟩ := cz3_ BK422.out; obtain ⟨Ao22, co22, eo22⟩ := Kd.R_slice HO415.out; subst eo22; obtain ⟨Ao23, co23, eo23⟩ := Kd.R_slice HO418.out; subst eo23; obtain ⟨hcz24_0, hcz24_1, hfz24_0, hfz24_1⟩ := cz2_ BK423.out; obtain ⟨Ao25, co25, eo25⟩ := Kd.R_slice HO421.out; subst eo25) | ((with_reducible refine gate_callee (f := 27) rfl ?_); refine gm_ (some 20) Try.func27 #[.agg #[.int .i64 t411, .int .i64 t412, .slice Ao22 t413.length co22], .agg #[.slice Ao23 t416.length co23]] rfl ?_; (with_reducible refine (impl_CheckTable.calls k t411 t412 _ _ t413 _ _ t416 t424 t425 t428 _ ?side1 ?side2 ?side3 ?side4 A5.out).mono ?_); (case side1 => refine (Kd.R_reads' (e := 3) (base := w.heap.size) (ok := fun k_ => (some k_ ≠ (.slice Ao23 t416.length co23 : Value).ownBlock ∧ some k_ ≠ (.slice Ao25 t419.length co25 : Value).ownBlock)) (n := t413.length) (c := co22) ?_).2.2; exact (rm_ (Kd.R_mono (Kd.R_far (p := ⟨gb423, 1, none⟩) (Kd.R_far (p := ⟨gb423, 0, none⟩) (Kd.R_far (p := ⟨gb422, 2, none⟩) (Kd.R_far (p := ⟨gb422, 1, none⟩) (Kd.R_far (p := ⟨gb422, 0, none⟩) (Kd.R_types (Kd.R_types HO415.out BK422.out (by decide)) BK423.out (by decide)) (fun _ hk => hk.1.2) (.int .i64 t411)) (fun _ hk => hk.1.2) (.int .i64 t412)) (fun _ hk => hk.1.2) (.slice Ao22 t413.length co22)) (fun _ hk => hk.2) (.slice Ao23 t416.length co23)) (fun _ hk => hk.2) (.slice Ao25 t419.length co25)) (fun _ h_ => h_.1)) (fun _ h_ => h_.1))); (case side2 => exact (Kd.R_reads' HO415.out).2.1); (case side3 => refine (Kd.R_reads' (e := 3) (base := w.heap.size) (ok := fun k_ => (some k_ ≠ (.slice Ao22 t413.length co22 : Value).ownBlock ∧ some k_ ≠ (.slice Ao25 t419.length co25 : Value).ownBlock)) (n := t416.length) (c := co23) ?_).2.2; exact (rm_ (Kd.R_mono (Kd.R_far (p := ⟨gb423, 1, none⟩) (Kd.R_far (p := ⟨gb423, 0, none⟩) (Kd.R_far (p := ⟨gb422, 2, none⟩) (Kd.R_far (p := ⟨gb422, 1, none⟩) (Kd.R_far (p := ⟨gb422, 0, none⟩) (Kd.R_types (Kd.R_types HO418.out BK422.out (by decide)) BK423.out (by decide)) (fun _ hk => hk.1.2) (.int .i64 t411)) (fun _ hk => hk.1.2) (.int .i64 t412)) (fun _ hk => hk.1.2) (.slice Ao22 t413.length co22)) (fun _ hk => hk.2) (.slice Ao23 t416.length co23)) (fun _ hk => hk.2) (.slice Ao25 t419.length co25)) (fun _ h_ => h_.1)) (fun _ h_ => h_.1))); (case side4 => exact (Kd.R_reads' HO418.out).2.1); rintro e w26 ⟨v426, v429, rfl, ho0, ho1, hb⟩; refine ⟨_, rfl, ?_⟩; have HO427 := Aside0.mk (Kd.R_lower (Kd.R_new' (Kd.R_new' (Kd.R_new' ho0 (Kd.R_lt (rm_ (Kd.R_mono (Kd.R_far (p := ⟨gb423, 1, none⟩) (Kd.R_far (p := ⟨gb423, 0, none⟩) (Kd.R_far (p := ⟨gb422, 2, none⟩) (Kd.R_far (p := ⟨gb422, 1, none⟩) (Kd.R_far (p := ⟨gb422, 0, none⟩) (Kd.R_types (Kd.R_types HO415.out BK422.out (by decide)) BK423.out (by decide)) (fun _ hk => hk.1.2) (.int .i64 t411)) (fun _ hk => hk.1.2) (.int .i64 t412)) (fun _ hk => hk.1.2) (.slice Ao22 t413.length co22)) (fun _ hk => hk.2) (.slice Ao23 t416.length co23)) (fun _ hk => hk.2) (.slice Ao25 t419.length co25)) (fun _ h_ => h_.1)) (fun _ h_ => h_.1)))) (Kd.R_lt (rm_ (Kd.R_mono (Kd.R_far (p := ⟨gb423, 1, none⟩) (Kd.R_far (p := ⟨gb423, 0, none⟩) (Kd.R_far (p := ⟨gb422, 2, none⟩) (Kd.R_far (p := ⟨gb422, 1, none⟩) (Kd.R_far (p := ⟨gb422, 0, none⟩) (Kd.R_types (Kd.R_types HO418.out BK422.out (by decide)) BK423.out (by decide)) (fun _ hk => hk.1.2) (.int .i64 t411)) (fun _ hk => hk.1.2) (.int .i64 t412)) (fun _ hk => hk.1.2) (.slice Ao22 t413.length co22)) (fun _ hk => hk.2) (.slice Ao23 t416.length co23)) (fun _ hk => hk.2) (.slice Ao25 t419.length co25)) (fun _ h_ => h_.1)) (fun _ h_ => h_.1)))) (Kd.R_lt (rm_ (Kd.R_mono (Kd.R_far (p := ⟨gb423, 1, none⟩) (Kd.R_far (p := ⟨gb423, 0, none⟩) (Kd.R_far (p := ⟨gb422, 2, none⟩) (Kd.R_far (p := ⟨gb422, 1, none⟩) (Kd.R_far (p := ⟨gb422, 0, none⟩) (Kd.R_types (Kd.R_types HO421.out BK422.out (by decide)) BK423.out (by decide)) (fun _ hk => hk.1.2) (.int .i64 t411)) (fun _ hk => hk.1.2) (.int .i64 t412)) (fun _ hk => hk.1.2) (.slice Ao22 t413.length co22)) (fun _ hk => hk.2) (.slice Ao23 t416.length co23)) (fun _ hk => hk.2) (.slice Ao25 t419.length co25)) (fun _ h_ => h_.1)) (fun _ h_ => h_.1)))) (bz_ HB.out)); have HO430 := Aside0.mk (Kd.R_lower (Kd.R_new' (Kd.R_new' (Kd.R_new' ho1 (Kd.R_lt (rm_ (Kd.R_mono (Kd.R_far (p := ⟨gb423, 1, none⟩) (Kd.R_far (p := ⟨gb423, 0, none⟩) (Kd.R_far (p := ⟨gb422, 2, none⟩) (Kd.R_far (p := ⟨gb422, 1, none⟩) (Kd.R_far (p := ⟨gb422, 0, none⟩) (Kd.R_types (Kd.R_types HO415.out BK422.out (by decide)) BK423.out (by decide)) (fun _ hk => hk.1.2) (.int .i64 t411)) (fun _ hk => hk.1.2) (.int .i64 t412)) (fun _ hk => hk.1.2) (.slice Ao22 t413.length co22)) (fun _ hk => hk.2) (.slice Ao23 t416.length co23)) (fun _ hk => hk.2) (.slice Ao25 t419.length co25)) (fun _ h_ => h_.1)) (fun _ h_ => h_.1)))) (Kd.R_lt (rm_ (Kd.R_mono (Kd.R_far (p := ⟨gb423, 1, none⟩) (Kd.R_far (p := ⟨gb423, 0, none⟩) (Kd.R_far (p := ⟨gb422, 2, none⟩) (Kd.R_far (p := ⟨gb422, 1, none⟩) (Kd.R_far (p := ⟨gb422, 0, none⟩) (Kd.R_types (Kd.R_types HO418.out BK422.out (by decide)) BK423.out (by decide)) (fun _ hk => hk.1.2) (.int .i64 t411)) (fun _ hk => hk.1.2) (.int .i64 t412)) (fun _ hk => hk.1.2) (.slice Ao22 t413.length co22)) (fun _ hk => hk.2) (.slice Ao23 t416.length co23)) (fun _ hk => hk.2) (.slice Ao25 t419.length co25)) (fun _ h_ => h_.1)) (fun _ h_ => h_.1)))) (Kd.R_lt (rm_ (Kd.R_mono (Kd.R_far (p := ⟨gb423, 1, none⟩) (Kd.R_far (p := ⟨gb423, 0, none⟩) (Kd.R_far (p := ⟨gb422, 2, none⟩) (Kd.R_far (p := ⟨gb422, 1, none⟩) (Kd.R_far (p := ⟨gb422, 0, none⟩) (Kd.R_types (Kd.R_types HO421.out BK422.out (by decide)) BK423.out (by decide)) (fun _ hk => hk.1.2) (.int .i64 t411)) (fun _ hk => hk.1.2) (.int .i64 t412)) (fun _ hk => hk.1.2) (.slice Ao22 t413.length co22)) (fun _ hk => hk.2) (.slice Ao23 t416.length co23)) (fun _ hk => hk.2) (.slice Ao25 t419.length co25)) (fun _ h_ => h_.1)) (fun _ h_ => h_.1)))) (bz_ HB.out)); replace HO415 := Aside0.mk (Kd.R_mono (Kd.R_told (Kd.R_told (Kd.R_old (rm_ (Kd.R_mono (Kd.R_far (p := ⟨gb423, 1, none⟩) (Kd.R_far (p := ⟨gb423, 0, none⟩) (Kd.R_far (p := ⟨gb422, 2, none⟩) (Kd.R_far (p := ⟨gb422, 1, none⟩) (Kd.R_far (p := ⟨gb422, 0, none⟩) (Kd.R_types (Kd.R_types HO415.out BK422.out (by decide)) BK423.out (by decide)) (fun _ hk => hk.1.2) (.int .i64 t411)) (fun _ hk => hk.1.2) (.int .i64 t412)) (fun _ hk => hk.1.2) (.slice Ao22 t413.length co22)) (fun _ hk => hk.2) (.slice Ao23 t416.length co23)) (fun _ hk => hk.2) (.slice Ao25 t419.length co25)) (fun _ h_ => h_.1)) (fun _ h_ => h_.1)) hb) (Kd.R_base ho0)) (Kd.R_base ho1)) (fun _ h_ => h_.1)); replace HO418 := Aside0.mk (Kd.R_mono (Kd.R_told (Kd.R_told (Kd.R_old (rm_ (Kd.R_mono (Kd.R_far (p := ⟨gb423, 1, none⟩) (Kd.R_far (p := ⟨gb423, 0, none⟩) (Kd.R_far (p := ⟨gb422, 2, none⟩) (Kd.R_far (p := ⟨gb422, 1, none⟩) (Kd.R_far (p := ⟨gb422, 0, none⟩) (Kd.R_types (Kd.R_types HO418.out BK422.out (by decide)) BK423.out (by decide)) (fun _ hk => hk.1.2) (.int .i64 t411)) (fun _ hk => hk.1.2) (.int .i64 t412)) (fun _ hk => hk.1.2) (.slice Ao22 t413.length co22)) (fun _ hk => hk.2) (.slice Ao23 t416.length co23)) (fun _ hk => hk.2) (.slice Ao25 t419.length co25)) (fun _ h_ => h_.1)) (fun _ h_ => h_.1)) hb) (Kd.R_base ho0)) (Kd.R_base ho1)) (fun _ h_ => h_.1)); replace HO421 := Aside0.mk (Kd.R_mono (Kd.R_told (Kd.R_told (Kd.R_old (rm_ (Kd.R_mono (Kd.R_far (p := ⟨gb423, 1, none⟩) (Kd.R_far (p := ⟨gb423, 0, none⟩) (Kd.R_far (p := ⟨gb422, 2, none⟩) (Kd.R_far (p := ⟨gb422, 1, none⟩) (Kd.R_far (p := ⟨gb422, 0, none⟩) (Kd.R_types (Kd.R_types HO421.out BK422.out (by decide)) BK423.out (by decide)) (fun _ hk => hk.1.2) (.int .i64 t411)) (fun _ hk => hk.1.2) (.int .i64 t412)) (fun _ hk => hk.1.2) (.slice Ao22 t413.length co22)) (fun _ hk => hk.2) (.slice Ao23 t416.length co23)) (fun _ hk => hk.2) (.slice Ao25 t419.length co25)) (fun _ h_ => h_.1)) (fun _ h_ => h_.1)) hb) (Kd.R_base ho0)) (Kd.R_base ho1)) (fun _ h_ => h_.1)); replace BK422 := Aside0.mk (blk_below (g := gb422) (o := .cells #[.int .i64 t411, .int .i64 t412, .slice Ao22 t413.length co22] 44 (0, 0)) (by (with_reducible repeat (first | refine blk_drewN ?_ _ | refine blk_drew ?_ | refine blk_alloc ?_ _)); refine blk_far ?_ NB422_423.out _; (with_reducible repeat (first | refine blk_drewN ?_ _ | refine blk_drew ?_ | refine blk_alloc ?_ _)); refine blk_far ?_ NB422_423.out _; (with_reducible repeat (first | refine blk_drewN ?_ _ | refine blk_drew ?_ | refine blk_alloc ?_ _)); refine blk_put (cs := #[.int .i64 t411, .int .i64 t412, .slice none 0 0]) ?_ 2 _ rfl; (with_reducible repeat (first | refine blk_drewN ?_ _ | refine blk_drew ?_ | refine blk_alloc ?_ _)); refine blk_put (cs := #[.int .i64 t411, .int .i64 0, .slice none 0 0]) ?_ 1 _ rfl; (with_reducible repeat (first | refine blk_drewN ?_ _ | refine blk_drew ?_ | refine blk_alloc ?_ _)); refine blk_put (cs := #[.int .i64 0, .int .i64 0, .slice none 0 0]) ?_ 0 _ rfl; (with_reducible repeat (first | refine blk_drewN ?_ _ | refine blk_drew ?_ | refine blk_alloc ?_ _)); exact BK422.out) hb); replace BK423 := Aside0.mk (blk_below (g := gb423) (o := .cells #[.slice Ao23 t416.length co23, .slice Ao25 t419.length co25] 70 (0, 0)) (by (with_reducible repeat (first | refine blk_drewN ?_ _ | refine blk_drew ?_ | refine blk_alloc ?_ _)); refine blk_put (cs := #[.slice Ao23 t416.length co23, .slice none 0 0]) ?_ 1 _ rfl; (with_reducible repeat (first | refine blk_drewN ?_ _ | refine blk_drew ?_ | refine blk_alloc ?_ _)); refine blk_put (cs := #[.slice none 0 0, .slice none 0 0]) ?_ 0 _ rfl; (with_reducible repeat (first | refine blk_drewN ?_ _ | refine blk_drew ?_ | refine blk_alloc ?_ _)); refine blk_far ?_ NB423_422.out _; (with_reducible repeat (first | refine blk_drewN ?_ _ | refine blk_drew ?_ | refine blk_alloc ?_ _)); refine blk_far ?_ NB423_422.out _; (with_reducible repeat (first | refine blk_drewN ?_ _ | refine blk_drew ?_ | refine blk_alloc ?_ _)); refine blk_far ?_ NB423_422.out _; (with_reducible repeat (first | refine blk_drewN ?_ _ | refine blk_drew ?_ | refine blk_alloc ?_ _)); exact BK423.out) hb); replace HB := Aside0.mk (bs_ HB.out hb); (try clear hb); (try clear ho0); (try clear ho1)) | ((with_reducible refine gate_dst (N := 5) rfl ?_); (try (refine gate_guard (by rfl) ?_; dsimp only)); refine box_event ?hg (N := 5) ?hd (cs := #[.int .i64 0, .slice none 0 0, .slice none 0 0]) (t := 40) ?hr ?_; (case hd => rfl); (case hg => rfl); (case hr => first | (go_simp; done) | (go_simp; rfl)); intro gb431 hg w27 hbox hb; replace HO415 := Aside0.mk (Kd.R_below (ra_ HO415.out) hb); replace HO418 := Aside0.mk (Kd.R_below (ra_ HO418.out) hb); replace HO421 := Aside0.mk (Kd.R_below (ra_ HO421.out) hb); replace HO427 := Aside0.mk (Kd.R_below (ra_ HO427.out) hb); replace HO430 := Aside0.mk (Kd.R_below (ra_ HO430.out) hb); have BK431 := Aside0.mk (hbox); have GW431 := Aside0.mk ((by rw [hg]; exact (bz_ HB.out) : w.heap.size ≤ gb431)); have GE431 := Aside0.mk ((by rw [hg]; exact (bz_ HB.out) : w.heap.size ≤ gb431)); replace HB := Aside0.mk (bs_ HB.out hb); have NB422_431 := Aside0.mk ((by rw [hg]; exact Nat.ne_of_lt (bl_ BK422.out) : gb422 ≠ gb431)); have NB431_422 := Aside0.mk ((by rw [hg]; exact Nat.ne_of_gt (bl_ BK422.out) : gb431 ≠ gb422)); replace BK422 := Aside0.mk (bk_ BK422.out hb); have NB423_431 := Aside0.mk ((by rw [hg]; exact Nat.ne_of_lt (bl_ BK423.out) : gb423 ≠ gb431)); have NB431_423 := Aside0.mk ((by rw [hg]; exact Nat.ne_of_gt (bl_ BK423.out) : gb431 ≠ gb423)); replace BK423 := Aside0.mk (bk_ BK423.out hb); clear hb hbox hg; have hnb28 := NB431_422.out; have hnc28 := NB422_431.out; have hnb29 := NB431_423.out; have hnc29 := NB423_431.out; obtain ⟨hcz30_0, hcz30_1, hcz30_2, hfz30_0, hfz30_1, hfz30_2⟩ := cz3_ BK431.out; obtain ⟨Ao31, co31, eo31⟩ := Kd.R_slice HO427.out; subst eo31; obtain ⟨Ao32, co32, eo32⟩ := Kd.R_slice HO430.out; subst eo32; obtain ⟨hcz33_0, hcz33_1, hcz33_2, hfz33_0, hfz33_1, hfz33_2⟩ := cz3_ BK422.out; obtain ⟨hcz34_0, hcz34_1, hfz34_0, hfz34_1⟩ := cz2_ BK423.out) | ((with_reducible refine gate_callee (f := 27) rfl ?_); refine gm_ (some 24) Try.func27 #[.agg #[.int .i64 t411, .int .i64 t412, .slice Ao22 t413.length co22], .agg #[.slice Ao25 t419.length co25]] rfl ?_; (with_reducible refine (impl_CheckTable.calls k t411 t412 _ _ t413 _ _ t419 t432 t433 t436 _ ?side1 ?side2 ?side3 ?side4 A6.out).mono ?_); (case side1 => refine (Kd.R_reads' (e := 3) (base := w.heap.size) (ok := fun k_ => (((some k_ ≠ (.slice Ao23 t416.length co23 : Value).ownBlock ∧ some k_ ≠ (.slice Ao25 t419.length co25 : Value).ownBlock) ∧ some k_ ≠ (.slice Ao31 t425.length co31 : Value).ownBlock) ∧ some k_ ≠ (.slice Ao32 t428.length co32 : Value).ownBlock)) (n := t413.length) (c := co22) ?_).2.2; exact (rm_ (Kd.R_types HO415.out BK431.out (by decide)) (fun _ h_ => h_.1))); (case side2 => exact (Kd.R_reads' HO415.out).2.1); (case side3 => refine (Kd.R_reads' (e := 3) (base := w.heap.size) (ok := fun k_ => (((some k_ ≠ (.slice Ao22 t413.length co22 : Value).ownBlock ∧ some k_ ≠ (.slice Ao23 t416.length co23 : Value).ownBlock) ∧ some k_ ≠ (.slice Ao31 t425.length co31 : Value).ownBlock) ∧ some k_ ≠ (.slice Ao32 t428.length co32 : Value).ownBlock)) (n := t419.length) (c := co25) ?_).2.2; exact (rm_ (Kd.R_types HO421.out BK431.out (by decide)) (fun _ h_ => h_.1))); (case side4 => exact (Kd.R_reads' HO421.out).2.1); rintro e w35 ⟨v434, v437, rfl, ho0, ho1, hb⟩; refine ⟨_, rfl, ?_⟩; have HO435 := Aside0.mk (Kd.R_lower (Kd.R_new' (Kd.R_new' (Kd.R_new' (Kd.R_new' (Kd.R_new' ho0 (Kd.R_lt (rm_ (Kd.R_types HO415.out BK431.out (by decide)) (fun _ h_ => h_.1)))) (Kd.R_lt (rm_ (Kd.R_types HO418.out BK431.out (by decide)) (fun _ h_ => h_.1)))) (Kd.R_lt (rm_ (Kd.R_types HO421.out BK431.out (by decide)) (fun _ h_ => h_.1)))) (Kd.R_lt (rm_ (Kd.R_types HO427.out BK431.out (by decide)) (fun _ h_ => h_.1)))) (Kd.R_lt (rm_ (Kd.R_types HO430.out BK431.out (by decide)) (fun _ h_ => h_.1)))) (bz_ HB.out)); have HO438 := Aside0.mk (Kd.R_lower (Kd.R_new' (Kd.R_new' (Kd.R_new' (Kd.R_new' (Kd.R_new' ho1 (Kd.R_lt (rm_ (Kd.R_types HO415.out BK431.out (by decide)) (fun _ h_ => h_.1)))) (Kd.R_lt (rm_ (Kd.R_types HO418.out BK431.out (by decide)) (fun _ h_ => h_.1)))) (Kd.R_lt (rm_ (Kd.R_types HO421.out BK431.out (by decide)) (fun _ h_ => h_.1)))) (Kd.R_lt (rm_ (Kd.R_types HO427.out BK431.out (by decide)) (fun _ h_ => h_.1)))) (Kd.R_lt (rm_ (Kd.R_types HO430.out BK431.out (by decide)) (fun _ h_ => h_.1)))) (bz_ HB.out)); replace HO415 := Aside0.mk (Kd.R_mono (Kd.R_told (Kd.R_told (Kd.R_old (rm_ (Kd.R_types HO415.out BK431.out (by decide)) (fun _ h_ => h_.1)) hb) (Kd.R_base ho0)) (Kd.R_base ho1)) (fun _ h_ => h_.1)); replace HO418 := Aside0.mk (Kd.R_mono (Kd.R_told (Kd.R_told (Kd.R_old (rm_ (Kd.R_types HO418.out BK431.out (by decide)) (fun _ h_ => h_.1)) hb) (Kd.R_base ho0)) (Kd.R_base ho1)) (fun _ h_ => h_.1)); replace HO421 := Aside0.mk (Kd.R_mono (Kd.R_told (Kd.R_told (Kd.R_old (rm_ (Kd.R_types HO421.out BK431.out (by decide)) (fun _ h_ => h_.1)) hb) (Kd.R_base ho0)) (Kd.R_base ho1)) (fun _ h_ => h_.1)); replace HO427 := Aside0.mk (Kd.R_mono (Kd.R_told (Kd.R_told (Kd.R_old (rm_ (Kd.R_types HO427.out BK431.out (by decide)) (fun _ h_ => h_.1)) hb) (Kd.R_base ho0)) (Kd.R_base ho1)) (fun _ h_ => h_.1)); replace HO430 := Aside0.mk (Kd.R_mono (Kd.R_told (Kd.R_told (Kd.R_old (rm_ (Kd.R_types HO430.out BK431.out (by decide)) (fun _ h_ => h_.1)) hb) (Kd.R_base ho0)) (Kd.R_base ho1)) (fun _ h_ => h_.1)); replace BK422 := Aside0.mk (blk_below (bf_ BK422.out) hb); replace BK423 := Aside0.mk (blk_below (bf_ BK423.out) hb); replace BK431 := Aside0.mk (blk_below (g := gb431) (o := .cells #[.int .i64 t424, .slice Ao31 t425.length co31, .slice Ao32 t428.length co32] 40 (0, 0)) (by (with_reducible repeat (first | refine blk_drewN ?_ _ | refine blk_drew ?_ | refine blk_alloc ?_ _)); refine blk_put (cs := #[.int .i64 t424, .slice Ao31 t425.length co31, .slice none 0 0]) ?_ 2 _ rfl; (with_reducible repeat (first | refine blk_drewN ?_ _ | refine blk_drew ?_ | refine blk_alloc ?_ _)); refine blk_put (cs := #[.int .i64 t424, .slice none 0 0, .slice none 0 0]) ?_ 1 _ rfl; (with_reducible repeat (first | refine blk_drewN ?_ _ | refine blk_drew ?_ | refine blk_alloc ?_ _)); refine blk_put (cs := #[.int .i64 0, .slice none 0 0, .slice none 0 0]) ?_ 0 _ rfl; (with_reducible repeat (first | refine blk_drewN ?_ _ | refine blk_drew ?_ | refine blk_alloc ?_ _)); exact BK431.out) hb); replace HB := Aside0.mk (bs_ HB.out hb); (try clear hb); (try clear ho0); (try clear ho1)) | ((with_reducible refine gate_dst (N := 6) rfl ?_); (try (refine gate_guard (by rfl) ?_; dsimp only)); refine box_event ?hg (N := 6) ?hd (cs := #[.int .i64 0, .slice none 0 0, .slice none 0 0]) (t := 40) ?hr ?_; (case hd => rfl); (case hg => rfl); (case hr => first | (go_simp; done) | (go_simp; rfl)); intro gb439 hg w36 hbox hb; replace HO415 := Aside0.mk (Kd.R_below (ra_ HO415.out) hb); replace HO418 := Aside0.mk (Kd.R_below (ra_ HO418.out) hb); replace HO421 := Aside0.mk (Kd.R_below (ra_ HO421.out) hb); replace HO427 := Aside0.mk (Kd.R_below (ra_ HO427.out) hb); replace HO430 := Aside0.mk (Kd.R_below (ra_ HO430.out) hb); replace HO435 := Aside0.mk (Kd.R_below (ra_ HO435.out) hb); replace HO438 := Aside0.mk (Kd.R_below (ra_ HO438.out) hb); have BK439 := Aside0.mk (hbox); have GW439 := Aside0.mk ((by rw [hg]; exact (bz_ HB.out) : w.heap.size ≤ gb439)); have GE439 := Aside0.mk ((by rw [hg]; exact (bz_ HB.out) : w.heap.size ≤ gb439)); replace HB := Aside0.mk (bs_ HB.out hb); have NB422_439 := Aside0.mk ((by rw [hg]; exact Nat.ne_of_lt (bl_ BK422.out) : gb422 ≠ gb439)); have NB439_422 := Aside0.mk ((by rw [hg]; exact Nat.ne_of_gt (bl_ BK422.out) : gb439 ≠ gb422)); replace BK422 := Aside0.mk (bk_ BK422.out hb); have NB423_439 := Aside0.mk ((by rw [hg]; exact Nat.ne_of_lt (bl_ BK423.out) : gb423 ≠ gb439)); have NB439_423 := Aside0.mk ((by rw [hg]; exact Nat.ne_of_gt (bl_ BK423.out) : gb439 ≠ gb423)); replace BK423 := Aside0.mk (bk_ BK423.out hb); have NB431_439 := Aside0.mk ((by rw [hg]; exact Nat.ne_of_lt (bl_ BK431.out) : gb431 ≠ gb439)); have NB439_431 := Aside0.mk ((by rw [hg]; exact Nat.ne_of_gt (bl_ BK431.out) : gb439 ≠ gb431)); replace BK431 := Aside0.mk (bk_ BK431.out hb); clear hb hbox hg; have hnb37 := NB439_422.out; have hnc37 := NB422_439.out; have hnb38 := NB439_423.out; have hnc38 := NB423_439.out; have hnb39 := NB439_431.out; have hnc39 := NB431_439.out; obtain ⟨hcz40_0, hcz40_1, hcz40_2, hfz40_0, hfz40_1, hfz40_2⟩ := cz3_ BK439.out; obtain ⟨Ao41, co41, eo41⟩ := Kd.R_slice HO435.out; subst eo41; obtain ⟨Ao42, co42, eo42⟩ := Kd.R_slice HO438.out; subst eo42; obtain ⟨hcz43_0, hcz43_1, hcz43_2, hfz43_0, hfz43_1, hfz43_2⟩ := cz3_ BK422.out; obtain ⟨hcz44_0, hcz44_1, hfz44_0, hfz44_1⟩ := cz2_ BK423.out) | ((with_reducible refine gate_callee (f := 56) rfl ?_); refine gm_ (some 27) Try.func56 #[.agg #[.int .i64 t411, .int .i64 t412, .slice Ao22 t413.length co22], .agg #[.slice Ao23 t416.length co23, .slice Ao25 t419.length co25]] rfl ?_; (with_reducible refine (impl_CheckClasses.calls k t411 t412 _ _ t413 _ _ t416 _ _ t419 t440 t441 t444 _ ?side1 ?side2 ?side3 ?side4 ?side5 ?side6 A7.out).mono ?_); (case side1 => refine (Kd.R_reads' (e := 3) (base := w.heap.size) (ok := fun k_ => (((((some k_ ≠ (.slice Ao23 t416.length co23 : Value).ownBlock ∧ some k_ ≠ (.slice Ao25 t419.length co25 : Value).ownBlock) ∧ some k_ ≠ (.slice Ao31 t425.length co31 : Value).ownBlock) ∧ some k_ ≠ (.slice Ao32 t428.length co32 : Value).ownBlock) ∧ some k_ ≠ (.slice Ao41 t433.length co41 : Value).ownBlock) ∧ some k_ ≠ (.slice Ao42 t436.length co42 : Value).ownBlock)) (n := t413.length) (c := co22) ?_).2.2; exact (rm_ (Kd.R_types HO415.out BK439.out (by decide)) (fun _ h_ => h_.1))); (case side2 => exact (Kd.R_reads' HO415.out).2.1); (case side3 => refine (Kd.R_reads' (e := 3) (base := w.heap.size) (ok := fun k_ => (((((some k_ ≠ (.slice Ao22 t413.length co22 : Value).ownBlock ∧ some k_ ≠ (.slice Ao25 t419.length co25 : Value).ownBlock) ∧ some k_ ≠ (.slice Ao31 t425.length co31 : Value).ownBlock) ∧ some k_ ≠ (.slice Ao32 t428.length co32 : Value).ownBlock) ∧ some k_ ≠ (.slice Ao41 t433.length co41 : Value).ownBlock) ∧ some k_ ≠ (.slice Ao42 t436.length co42 : Value).ownBlock)) (n := t416.length) (c := co23) ?_).2.2; exact (rm_ (Kd.R_types HO418.out BK439.out (by decide)) (fun _ h_ => h_.1))); (case side4 => exact (Kd.R_reads' HO418.out).2.1); (case side5 => refine (Kd.R_reads' (e := 3) (base := w.heap.size) (ok := fun k_ => (((((some k_ ≠ (.slice Ao22 t413.length co22 : Value).ownBlock ∧ some k_ ≠ (.slice Ao23 t416.length co23 : Value).ownBlock) ∧ some k_ ≠ (.slice Ao31 t425.length co31 : Value).ownBlock) ∧ some k_ ≠ (.slice Ao32 t428.length co32 : Value).ownBlock) ∧ some k_ ≠ (.slice Ao41 t433.length co41 : Value).ownBlock) ∧ some k_ ≠ (.slice Ao42 t436.length co42 : Value).ownBlock)) (n := t419.length) (c := co25) ?_).2.2; exact (rm_ (Kd.R_types HO421.out BK439.out (by decide)) (fun _ h_ => h_.1))); (case side6 => exact (Kd.R_reads' HO421.out).2.1); rintro e w45 ⟨v442, v445, rfl, ho0, ho1, hb⟩; refine ⟨_, rfl, ?_⟩; have HO443 := Aside0.mk (Kd.R_lower (Kd.R_new' (Kd.R_new' (Kd.R_new' (Kd.R_new' (Kd.R_new' (Kd.R_new' (Kd.R_new' ho0 (Kd.R_lt (rm_ (Kd.R_types HO415.out BK439.out (by decide)) (fun _ h_ => h_.1)))) (Kd.R_lt (rm_ (Kd.R_types HO418.out BK439.out (by decide)) (fun _ h_ => h_.1)))) (Kd.R_lt (rm_ (Kd.R_types HO421.out BK439.out (by decide)) (fun _ h_ => h_.1)))) (Kd.R_lt (rm_ (Kd.R_types HO427.out BK439.out (by decide)) (fun _ h_ => h_.1)))) (Kd.R_lt (rm_ (Kd.R_types HO430.out BK439.out (by decide)) (fun _ h_ => h_.1)))) (Kd.R_lt (rm_ (Kd.R_types HO435.out BK439.out (by decide)) (fun _ h_ => h_.1)))) (Kd.R_lt (rm_ (Kd.R_types HO438.out BK439.out (by decide)) (fun _ h_ => h_.1)))) (bz_ HB.out)); have HO446 := Aside0.mk (Kd.R_lower (Kd.R_new' (Kd.R_new' (Kd.R_new' (Kd.R_new' (Kd.R_new' (Kd.R_new' (Kd.R_new' ho1 (Kd.R_lt (rm_ (Kd.R_types HO415.out BK439.out (by decide)) (fun _ h_ => h_.1)))) (Kd.R_lt (rm_ (Kd.R_types HO418.out BK439.out (by decide)) (fun _ h_ => h_.1)))) (Kd.R_lt (rm_ (Kd.R_types HO421.out BK439.out (by decide)) (fun _ h_ => h_.1)))) (Kd.R_lt (rm_ (Kd.R_types HO427.out BK439.out (by decide)) (fun _ h_ => h_.1)))) (Kd.R_lt (rm_ (Kd.R_types HO430.out BK439.out (by decide)) (fun _ h_ => h_.1)))) (Kd.R_lt (rm_ (Kd.R_types HO435.out BK439.out (by decide)) (fun _ h_ => h_.1)))) (Kd.R_lt (rm_ (Kd.R_types HO438.out BK439.out (by decide)) (fun _ h_ => h_.1)))) (bz_ HB.out)); replace HO415 := Aside0.mk (Kd.R_mono (Kd.R_told (Kd.R_told (Kd.R_old (rm_ (Kd.R_types HO415.out BK439.out (by decide)) (fun _ h_ => h_.1)) hb) (Kd.R_base ho0)) (Kd.R_base ho1)) (fun _ h_ => h_.1)); replace HO418 := Aside0.mk (Kd.R_mono (Kd.R_told (Kd.R_told (Kd.R_old (rm_ (Kd.R_types HO418.out BK439.out (by decide)) (fun _ h_ => h_.1)) hb) (Kd.R_base ho0)) (Kd.R_base ho1)) (fun _ h_ => h_.1)); replace HO421 := Aside0.mk (Kd.R_mono (Kd.R_told (Kd.R_told (Kd.R_old (rm_ (Kd.R_types HO421.out BK439.out (by decide)) (fun _ h_ => h_.1)) hb) (Kd.R_base ho0)) (Kd.R_base ho1)) (fun _ h_ => h_.1)); replace HO427 := Aside0.mk (Kd.R_mono (Kd.R_told (Kd.R_told (Kd.R_old (rm_ (Kd.R_types HO427.out BK439.out (by decide)) (fun _ h_ => h_.1)) hb) (Kd.R_base ho0)) (Kd.R_base ho1)) (fun _ h_ => h_.1)); replace HO430 := Aside0.mk (Kd.R_mono (Kd.R_told (Kd.R_told (Kd.R_old (rm_ (Kd.R_types HO430.out BK439.out (by decide)) (fun _ h_ => h_.1)) hb) (Kd.R_base ho0)) (Kd.R_base ho1)) (fun _ h_ => h_.1)); replace HO435 := Aside0.mk (Kd.R_mono (Kd.R_told (Kd.R_told (Kd.R_old (rm_ (Kd.R_types HO435.out BK439.out (by decide)) (fun _ h_ => h_.1)) hb) (Kd.R_base ho0)) (Kd.R_base ho1)) (fun _ h_ => h_.1)); replace HO438 := Aside0.mk (Kd.R_mono (Kd.R_told (Kd.R_told (Kd.R_old (rm_ (Kd.R_types HO438.out BK439.out (by decide)) (fun _ h_ => h_.1)) hb) (Kd.R_base ho0)) (Kd.R_base ho1)) (fun _ h_ => h_.1)); replace BK422 := Aside0.mk (blk_below (bf_ BK422.out) hb); replace BK423 := Aside0.mk (blk_below (bf_ BK423.out) hb); replace BK431 := Aside0.mk (blk_below (bf_ BK431.out) hb); replace BK439 := Aside0.mk (blk_below (g := gb439) (o := .cells #[.int .i64 t432, .slice Ao41 t433.length co41, .slice Ao42 t436.length co42] 40 (0, 0)) (by (with_reducible repeat (first | refine blk_drewN ?_ _ | refine blk_drew ?_ | refine blk_alloc ?_ _)); refine blk_put (cs := #[.int .i64 t432, .slice Ao41 t433.length co41, .slice none 0 0]) ?_ 2 _ rfl; (with_reducible repeat (first | refine blk_drewN ?_ _ | refine blk_drew ?_ | refine blk_alloc ?_ _)); refine blk_put (cs := #[.int .i64 t432, .slice none 0 0, .slice none 0 0]) ?_ 1 _ rfl; (with_reducible repeat (first | refine blk_drewN ?_ _ | refine blk_drew ?_ | refine blk_alloc ?_ _)); refine blk_put (cs := #[.int .i64 0, .slice none 0 0, .slice none 0 0]) ?_ 0 _ rfl; (with_reducible repeat (first | refine blk_drewN ?_ _ | refine blk_drew ?_ | refine blk_alloc ?_ _)); exact BK439.out) hb); replace HB := Aside0.mk (bs_ HB.out hb); (try clear hb); (try clear ho0); (try clear ho1)) | ((with_reducible refine gate_dst (N := 7) rfl ?_); (try (refine gate_guard (by rfl) ?_; dsimp only)); refine box_event ?hg (N := 7) ?hd (cs := #[.int .i64 0, .slice none 0 0, .slice none 0 0]) (t := 40) ?hr ?_; (case hd => rfl); (case hg => rfl); (case hr => first | (go_simp; done) | (go_simp; rfl)); intro gb447 hg w46 hbox hb; replace HO415 := Aside0.mk (Kd.R_below (ra_ HO415.out) hb); replace HO418 := Aside0.mk (Kd.R_below (ra_ HO418.out) hb); replace HO421 := Aside0.mk (Kd.R_below (ra_ HO421.out) hb); replace HO427 := Aside0.mk (Kd.R_below (ra_ HO427.out) hb); replace HO430 := Aside0.mk (Kd.R_below (ra_ HO430.out) hb); replace HO435 := Aside0.mk (Kd.R_below (ra_ HO435.out) hb); replace HO438 := Aside0.mk (Kd.R_below (ra_ HO438.out) hb); replace HO443 := Aside0.mk (Kd.R_below (ra_ HO443.out) hb); replace HO446 := Aside0.mk (Kd.R_below (ra_ HO446.out) hb); have BK447 := Aside0.mk (hbox); have GW447 := Aside0.mk ((by rw [hg]; exact (bz_ HB.out) : w.heap.size ≤ gb447)); have GE447 := Aside0.mk ((by rw [hg]; exact (bz_ HB.out) : w.heap.size ≤ gb447)); replace HB := Aside0.mk (bs_ HB.out hb); have NB422_447 := Aside0.mk ((by rw [hg]; exact Nat.ne_of_lt (bl_ BK422.out) : gb422 ≠ gb447)); have NB447_422 := Aside0.mk ((by rw [hg]; exact Nat.ne_of_gt (bl_ BK422.out) : gb447 ≠ gb422)); replace BK422 := Aside0.mk (bk_ BK422.out hb); have NB423_447 := Aside0.mk ((by rw [hg]; exact Nat.ne_of_lt (bl_ BK423.out) : gb423 ≠ gb447)); have NB447_423 := Aside0.mk ((by rw [hg]; exact Nat.ne_of_gt (bl_ BK423.out) : gb447 ≠ gb423)); replace BK423 := Aside0.mk (bk_ BK423.out hb); have NB431_447 := Aside0.mk ((by rw [hg]; exact Nat.ne_of_lt (bl_ BK431.out) : gb431 ≠ gb447)); have NB447_431 := Aside0.mk ((by rw [hg]; exact Nat.ne_of_gt (bl_ BK431.out) : gb447 ≠ gb431)); replace BK431 := Aside0.mk (bk_ BK431.out hb); have NB439_447 := Aside0.mk ((by rw [hg]; exact Nat.ne_of_lt (bl_ BK439.out) : gb439 ≠ gb447)); have NB447_439 := Aside0.mk ((by rw [hg]; exact Nat.ne_of_gt (bl_ BK439.out) : gb447 ≠ gb439)); replace BK439 := Aside0.mk (bk_ BK439.out hb); clear hb hbox hg; have hnb47 := NB447_422.out; have hnc47 := NB422_447.out; have hnb48 := NB447_423.out; have hnc48 := NB423_447.out; have hnb49 := NB447_431.out; have hnc49 := NB431_447.out; have hnb50 := NB447_439.out; have hnc50 := NB439_447.out; obtain ⟨hcz51_0, hcz51_1, hcz51_2, hfz51_0, hfz51_1, hfz51_2⟩ := cz3_ BK447.out; obtain ⟨Ao52, co52, eo52⟩ := Kd.R_slice HO443.out; subst eo52; obtain ⟨Ao53, co53, eo53⟩ := Kd.R_slice HO446.out; subst eo53; obtain ⟨hcz54_0, hcz54_1, hfz54_0, hfz54_1⟩ := cz2_ BK423.out) | ((with_reducible refine gate_callee (f := 58) rfl ?_); refine gm_ (some 30) Try.func58 #[.agg #[.slice Ao23 t416.length co23, .slice Ao25 t419.length co25], .int .i64 1] rfl ?_; (with_reducible refine (impl_TableFor.calls _ _ t416 _ _ t419 1 t448 true _ ?side1 ?side2 ?side3 ?side4 A8.out).mono ?_); (case side1 => refine (Kd.R_reads' (e := 3) (base := w.heap.size) (ok := fun k_ => (((((((some k_ ≠ (.slice Ao22 t413.length co22 : Value).ownBlock ∧ some k_ ≠ (.slice Ao25 t419.length co25 : Value).ownBlock) ∧ some k_ ≠ (.slice Ao31 t425.length co31 : Value).ownBlock) ∧ some k_ ≠ (.slice Ao32 t428.length co32 : Value).ownBlock) ∧ some k_ ≠ (.slice Ao41 t433.length co41 : Value).ownBlock) ∧ some k_ ≠ (.slice Ao42 t436.length co42 : Value).ownBlock) ∧ some k_ ≠ (.slice Ao52 t441.length co52 : Value).ownBlock) ∧ some k_ ≠ (.slice Ao53 t444.length co53 : Value).ownBlock)) (n := t416.length) (c := co23) ?_).2.2; exact (rm_ (Kd.R_types HO418.out BK447.out (by decide)) (fun _ h_ => h_.1))); (case side2 => exact (Kd.R_reads' HO418.out).2.1); (case side3 => refine (Kd.R_reads' (e := 3) (base := w.heap.size) (ok := fun k_ => (((((((some k_ ≠ (.slice Ao22 t413.length co22 : Value).ownBlock ∧ some k_ ≠ (.slice Ao23 t416.length co23 : Value).ownBlock) ∧ some k_ ≠ (.slice Ao31 t425.length co31 : Value).ownBlock) ∧ some k_ ≠ (.slice Ao32 t428.length co32 : Value).ownBlock) ∧ some k_ ≠ (.slice Ao41 t433.length co41 : Value).ownBlock) ∧ some k_ ≠ (.slice Ao42 t436.length co42 : Value).ownBlock) ∧ some k_ ≠ (.slice Ao52 t441.length co52 : Value).ownBlock) ∧ some k_ ≠ (.slice Ao53 t444.length co53 : Value).ownBlock)) (n := t419.length) (c := co25) ?_).2.2; exact (rm_ (Kd.R_types HO421.out BK447.out (by decide)) (fun _ h_ => h_.1))); (case side4 => exact (Kd.R_reads' HO421.out).2.1); rintro e w55 ⟨v449, rfl, ho0, hb⟩; refine ⟨_, rfl, ?_⟩; have HO450 := Aside0.mk (Kd.R_lower (Kd.R_new' (Kd.R_new' (Kd.R_new' (Kd.R_new' (Kd.R_new' (Kd.R_new' (Kd.R_new' (Kd.R_new' (Kd.R_new' ho0 (Kd.R_lt (rm_ (Kd.R_types HO415.out BK447.out (by decide)) (fun _ h_ => h_.1)))) (Kd.R_lt (rm_ (Kd.R_types HO418.out BK447.out (by decide)) (fun _ h_ => h_.1)))) (Kd.R_lt (rm_ (Kd.R_types HO421.out BK447.out (by decide)) (fun _ h_ => h_.1)))) (Kd.R_lt (rm_ (Kd.R_types HO427.out BK447.out (by decide)) (fun _ h_ => h_.1)))) (Kd.R_lt (rm_ (Kd.R_types HO430.out BK447.out (by decide)) (fun _ h_ => h_.1)))) (Kd.R_lt (rm_ (Kd.R_types HO435.out BK447.out (by decide)) (fun _ h_ => h_.1)))) (Kd.R_lt (rm_ (Kd.R_types HO438.out BK447.out (by decide)) (fun _ h_ => h_.1)))) (Kd.R_lt (rm_ (Kd.R_types HO443.out BK447.out (by decide)) (fun _ h_ => h_.1)))) (Kd.R_lt (rm_ (Kd.R_types HO446.out BK447.out (by decide)) (fun _ h_ => h_.1)))) (bz_ HB.out)); replace HO415 := Aside0.mk (Kd.R_elder' (rm_ (Kd.R_types HO415.out BK447.out (by decide)) (fun _ h_ => h_.1)) (Kd.R_base ho0) hb); replace HO418 := Aside0.mk (Kd.R_elder' (rm_ (Kd.R_types HO418.out BK447.out (by decide)) (fun _ h_ => h_.1)) (Kd.R_base ho0) hb); replace HO421 := Aside0.mk (Kd.R_elder' (rm_ (Kd.R_types HO421.out BK447.out (by decide)) (fun _ h_ => h_.1)) (Kd.R_base ho0) hb); replace HO427 := Aside0.mk (Kd.R_elder' (rm_ (Kd.R_types HO427.out BK447.out (by decide)) (fun _ h_ => h_.1)) (Kd.R_base ho0) hb); replace HO430 := Aside0.mk (Kd.R_elder' (rm_ (Kd.R_types HO430.out BK447.out (by decide)) (fun _ h_ => h_.1)) (Kd.R_base ho0) hb); replace HO435 := Aside0.mk (Kd.R_elder' (rm_ (Kd.R_types HO435.out BK447.out (by decide)) (fun _ h_ => h_.1)) (Kd.R_base ho0) hb); replace HO438 := Aside0.mk (Kd.R_elder' (rm_ (Kd.R_types HO438.out BK447.out (by decide)) (fun _ h_ => h_.1)) (Kd.R_base ho0) hb); replace HO443 := Aside0.mk (Kd.R_elder' (rm_ (Kd.R_types HO443.out BK447.out (by decide)) (fun _ h_ => h_.1)) (Kd.R_base ho0) hb); replace HO446 := Aside0.mk (Kd.R_elder' (rm_ (Kd.R_types HO446.out BK447.out (by decide)) (fun _ h_ => h_.1)) (Kd.R_base ho0) hb); replace BK422 := Aside0.mk (blk_below (bf_ BK422.out) hb); replace BK423 := Aside0.mk (blk_below (bf_ BK423.out) hb); replace BK431 := Aside0.mk (blk_below (bf_ BK431.out) hb); replace BK439 := Aside0.mk (blk_below (bf_ BK439.out) hb); replace BK447 := Aside0.mk (blk_below (g := gb447) (o := .cells #[.int .i64 t440, .slice Ao52 t441.length co52, .slice Ao53 t444.length co53] 40 (0, 0)) (by (with_reducible repeat (first | refine blk_drewN ?_ _ | refine blk_drew ?_ | refine blk_alloc ?_ _)); refine blk_put (cs := #[.int .i64 t440, .slice Ao52 t441.length co52, .slice none 0 0]) ?_ 2 _ rfl; (with_reducible repeat (first | refine blk_drewN ?_ _ | refine blk_drew ?_ | refine blk_alloc ?_ _)); refine blk_put (cs := #[.int .i64 t440, .slice none 0 0, .slice none 0 0]) ?_ 1 _ rfl; (with_reducible repeat (first | refine blk_drewN ?_ _ | refine blk_drew ?_ | refine blk_alloc ?_ _)); refine blk_put (cs := #[.int .i64 0, .slice none 0 0, .slice none 0 0]) ?_ 0 _ rfl; (with_reducible repeat (first | refine blk_drewN ?_ _ | refine blk_drew ?_ | refine blk_alloc ?_ _)); exact BK447.out) hb); replace HB := Aside0.mk (bs_ HB.out hb); (try clear hb); (try clear ho0)) | ((with_reducible refine gate_dst (N := 8) rfl ?_); (try (refine gate_guard (by rfl) ?_; dsimp only)); refine box_event ?hg (N := 8) ?hd (cs := #[.slice none 0 0]) (t := 46) ?hr ?_; (case hd => rfl); (case hg => rfl); (case hr => first | (go_simp; done) | (go_simp; rfl)); intro gb452 hg w56 hbox hb; replace HO415 := Aside0.mk (Kd.R_below (ra_ HO415.out) hb); replace HO418 := Aside0.mk (Kd.R_below (ra_ HO418.out) hb); replace HO421 := Aside0.mk (Kd.R_below (ra_ HO421.out) hb); replace HO427 := Aside0.mk (Kd.R_below (ra_ HO427.out) hb); replace HO430 := Aside0.mk (Kd.R_below (ra_ HO430.out) hb); replace HO435 := Aside0.mk (Kd.R_below (ra_ HO435.out) hb); replace HO438 := Aside0.mk (Kd.R_below (ra_ HO438.out) hb); replace HO443 := Aside0.mk (Kd.R_below (ra_ HO443.out) hb); replace HO446 := Aside0.mk (Kd.R_below (ra_ HO446.out) hb); replace HO450 := Aside0.mk (Kd.R_below (ra_ HO450.out) hb); have BK452 := Aside0.mk (hbox); have GW452 := Aside0.mk ((by rw [hg]; exact (bz_ HB.out) : w.heap.size ≤ gb452)); have GE452 := Aside0.mk ((by rw [hg]; exact (bz_ HB.out) : w.heap.size ≤ gb452)); replace HB := Aside0.mk (bs_ HB.out hb); have NB422_452 := Aside0.mk ((by rw [hg]; exact Nat.ne_of_lt (bl_ BK422.out) : gb422 ≠ gb452)); have NB452_422 := Aside0.mk ((by rw [hg]; exact Nat.ne_of_gt (bl_ BK422.out) : gb452 ≠ gb422)); replace BK422 := Aside0.mk (bk_ BK422.out hb); have NB423_452 := Aside0.mk ((by rw [hg]; exact Nat.ne_of_lt (bl_ BK423.out) : gb423 ≠ gb452)); have NB452_423 := Aside0.mk ((by rw [hg]; exact Nat.ne_of_gt (bl_ BK423.out) : gb452 ≠ gb423)); replace BK423 := Aside0.mk (bk_ BK423.out hb); have NB431_452 := Aside0.mk ((by rw [hg]; exact Nat.ne_of_lt (bl_ BK431.out) : gb431 ≠ gb452)); have NB452_431 := Aside0.mk ((by rw [hg]; exact Nat.ne_of_gt (bl_ BK431.out) : gb452 ≠ gb431)); replace BK431 := Aside0.mk (bk_ BK431.out hb); have NB439_452 := Aside0.mk ((by rw [hg]; exact Nat.ne_of_lt (bl_ BK439.out) : gb439 ≠ gb452)); have NB452_439 := Aside0.mk ((by rw [hg]; exact Nat.ne_of_gt (bl_ BK439.out) : gb452 ≠ gb439)); replace BK439 := Aside0.mk (bk_ BK439.out hb); have NB447_452 := Aside0.mk ((by rw [hg]; exact Nat.ne_of_lt (bl_ BK447.out) : gb447 ≠ gb452)); have NB452_447 := Aside0.mk ((by rw [hg]; exact Nat.ne_of_gt (bl_ BK447.out) : gb452 ≠ gb447)); replace BK447 := Aside0.mk (bk_ BK447.out hb); clear hb hbox hg; obtain ⟨Ao57, co57, eo57⟩ := Kd.R_slice HO450.out; subst eo57; have hnb58 := NB452_422.out; have hnc58 := NB422_452.out; have hnb59 := NB452_423.out; have hnc59 := NB423_452.out; have hnb60 := NB452_431.out; have hnc60 := NB431_452.out; have hnb61 := NB452_439.out; have hnc61 := NB439_452.out; have hnb62 := NB452_447.out; have hnc62 := NB447_452.out; obtain ⟨hcz63_0, hfz63_0⟩ := cz1_ BK452.out))
      have n0_ : Aside0 (Kd.R (Kd.int .i64) 3 (w56.setCell ⟨gb452, 0, none⟩ (.slice Ao57 t448.length co57)) w.heap.size (fun k_ => some k_ ≠ (.slice Ao23 t416.length co23 : Value).ownBlock ∧ some k_ ≠ (.slice Ao25 t419.length co25 : Value).ownBlock ∧ some k_ ≠ (.slice Ao31 t425.length co31 : Value).ownBlock ∧ some k_ ≠ (.slice Ao32 t428.length co32 : Value).ownBlock ∧ some k_ ≠ (.slice Ao41 t433.length co41 : Value).ownBlock ∧ some k_ ≠ (.slice Ao42 t436.length co42 : Value).ownBlock ∧ some k_ ≠ (.slice Ao52 t441.length co52 : Value).ownBlock ∧ some k_ ≠ (.slice Ao53 t444.length co53 : Value).ownBlock ∧ some k_ ≠ (.slice Ao57 t448.length co57 : Value).ownBlock) (.slice Ao22 t413.length co22) t413) := ⟨rm_ (Kd.R_types HO415.out BK452.out (by decide)) (fun _ hk => ⟨hk.1.1.1.1.1.1.1.1.1, ⟨hk.1.1.1.1.1.1.1.1.2, ⟨hk.1.1.1.1.1.1.1.2, ⟨hk.1.1.1.1.1.1.2, ⟨hk.1.1.1.1.1.2, ⟨hk.1.1.1.1.2, ⟨hk.1.1.1.2, ⟨hk.1.1.2, hk.1.2⟩⟩⟩⟩⟩⟩⟩⟩)⟩
      have n1_ : Aside0 (Kd.R (Kd.int .i64) 3 (w56.setCell ⟨gb452, 0, none⟩ (.slice Ao57 t448.length co57)) w.heap.size (fun k_ => some k_ ≠ (.slice Ao22 t413.length co22 : Value).ownBlock ∧ some k_ ≠ (.slice Ao25 t419.length co25 : Value).ownBlock ∧ some k_ ≠ (.slice Ao31 t425.length co31 : Value).ownBlock ∧ some k_ ≠ (.slice Ao32 t428.length co32 : Value).ownBlock ∧ some k_ ≠ (.slice Ao41 t433.length co41 : Value).ownBlock ∧ some k_ ≠ (.slice Ao42 t436.length co42 : Value).ownBlock ∧ some k_ ≠ (.slice Ao52 t441.length co52 : Value).ownBlock ∧ some k_ ≠ (.slice Ao53 t444.length co53 : Value).ownBlock ∧ some k_ ≠ (.slice Ao57 t448.length co57 : Value).ownBlock) (.slice Ao23 t416.length co23) t416) := ⟨rm_ (Kd.R_types HO418.out BK452.out (by decide)) (fun _ hk => ⟨hk.1.1.1.1.1.1.1.1.1, ⟨hk.1.1.1.1.1.1.1.1.2, ⟨hk.1.1.1.1.1.1.1.2, ⟨hk.1.1.1.1.1.1.2, ⟨hk.1.1.1.1.1.2, ⟨hk.1.1.1.1.2, ⟨hk.1.1.1.2, ⟨hk.1.1.2, hk.1.2⟩⟩⟩⟩⟩⟩⟩⟩)⟩
      have n2_ : Aside0 (Kd.R (Kd.int .i64) 3 (w56.setCell ⟨gb452, 0, none⟩ (.slice Ao57 t448.length co57)) w.heap.size (fun k_ => some k_ ≠ (.slice Ao22 t413.length co22 : Value).ownBlock ∧ some k_ ≠ (.slice Ao23 t416.length co23 : Value).ownBlock ∧ some k_ ≠ (.slice Ao31 t425.length co31 : Value).ownBlock ∧ some k_ ≠ (.slice Ao32 t428.length co32 : Value).ownBlock ∧ some k_ ≠ (.slice Ao41 t433.length co41 : Value).ownBlock ∧ some k_ ≠ (.slice Ao42 t436.length co42 : Value).ownBlock ∧ some k_ ≠ (.slice Ao52 t441.length co52 : Value).ownBlock ∧ some k_ ≠ (.slice Ao53 t444.length co53 : Value).ownBlock ∧ some k_ ≠ (.slice Ao57 t448.length co57 : Value).ownBlock) (.slice Ao25 t419.length co25) t419) := ⟨rm_ (Kd.R_types HO421.out BK452.out (by decide)) (fun _ hk => ⟨hk.1.1.1.1.1.1.1.1.1, ⟨hk.1.1.1.1.1.1.1.1.2, ⟨hk.1.1.1.1.1.1.1.2, ⟨hk.1.1.1.1.1.1.2, ⟨hk.1.1.1.1.1.2, ⟨hk.1.1.1.1.2, ⟨hk.1.1.1.2, ⟨hk.1.1.2, hk.1.2⟩⟩⟩⟩⟩⟩⟩⟩)⟩
      have n3_ : Aside0 (Kd.R (Kd.int .i64) 3 (w56.setCell ⟨gb452, 0, none⟩ (.slice Ao57 t448.length co57)) w.heap.size (fun k_ => some k_ ≠ (.slice Ao22 t413.length co22 : Value).ownBlock ∧ some k_ ≠ (.slice Ao23 t416.length co23 : Value).ownBlock ∧ some k_ ≠ (.slice Ao25 t419.length co25 : Value).ownBlock ∧ some k_ ≠ (.slice Ao32 t428.length co32 : Value).ownBlock ∧ some k_ ≠ (.slice Ao41 t433.length co41 : Value).ownBlock ∧ some k_ ≠ (.slice Ao42 t436.length co42 : Value).ownBlock ∧ some k_ ≠ (.slice Ao52 t441.length co52 : Value).ownBlock ∧ some k_ ≠ (.slice Ao53 t444.length co53 : Value).ownBlock ∧ some k_ ≠ (.slice Ao57 t448.length co57 : Value).ownBlock) (.slice Ao31 t425.length co31) t425) := ⟨rm_ (Kd.R_types HO427.out BK452.out (by decide)) (fun _ hk => ⟨hk.1.1.1.1.1.1.1.1.2, ⟨hk.1.1.1.1.1.1.1.2, ⟨hk.1.1.1.1.1.1.2, ⟨hk.1.1.1.1.1.1.1.1.1, ⟨hk.1.1.1.1.1.2, ⟨hk.1.1.1.1.2, ⟨hk.1.1.1.2, ⟨hk.1.1.2, hk.1.2⟩⟩⟩⟩⟩⟩⟩⟩)⟩
      have n4_ : Aside0 (Kd.R (Kd.int .i64) 3 (w56.setCell ⟨gb452, 0, none⟩ (.slice Ao57 t448.length co57)) w.heap.size (fun k_ => some k_ ≠ (.slice Ao22 t413.length co22 : Value).ownBlock ∧ some k_ ≠ (.slice Ao23 t416.length co23 : Value).ownBlock ∧ some k_ ≠ (.slice Ao25 t419.length co25 : Value).ownBlock ∧ some k_ ≠ (.slice Ao31 t425.length co31 : Value).ownBlock ∧ some k_ ≠ (.slice Ao41 t433.length co41 : Value).ownBlock ∧ some k_ ≠ (.slice Ao42 t436.length co42 : Value).ownBlock ∧ some k_ ≠ (.slice Ao52 t441.length co52 : Value).ownBlock ∧ some k_ ≠ (.slice Ao53 t444.length co53 : Value).ownBlock ∧ some k_ ≠ (.slice Ao57 t448.length co57 : Value).ownBlock) (.slice Ao32 t428.length co32) t428) := ⟨rm_ (Kd.R_types HO430.out BK452.out (by decide)) (fun _ hk => ⟨hk.1.1.1.1.1.1.1.1.2, ⟨hk.1.1.1.1.1.1.1.2, ⟨hk.1.1.1.1.1.1.2, ⟨hk.1.1.1.1.1.1.1.1.1, ⟨hk.1.1.1.1.1.2, ⟨hk.1.1.1.1.2, ⟨hk.1.1.1.2, ⟨hk.1.1.2, hk.1.2⟩⟩⟩⟩⟩⟩⟩⟩)⟩
      have n5_ : Aside0 (Kd.R (Kd.int .i64) 3 (w56.setCell ⟨gb452, 0, none⟩ (.slice Ao57 t448.length co57)) w.heap.size (fun k_ => some k_ ≠ (.slice Ao22 t413.length co22 : Value).ownBlock ∧ some k_ ≠ (.slice Ao23 t416.length co23 : Value).ownBlock ∧ some k_ ≠ (.slice Ao25 t419.length co25 : Value).ownBlock ∧ some k_ ≠ (.slice Ao31 t425.length co31 : Value).ownBlock ∧ some k_ ≠ (.slice Ao32 t428.length co32 : Value).ownBlock ∧ some k_ ≠ (.slice Ao42 t436.length co42 : Value).ownBlock ∧ some k_ ≠ (.slice Ao52 t441.length co52 : Value).ownBlock ∧ some k_ ≠ (.slice Ao53 t444.length co53 : Value).ownBlock ∧ some k_ ≠ (.slice Ao57 t448.length co57 : Value).ownBlock) (.slice Ao41 t433.length co41) t433) := ⟨rm_ (Kd.R_types HO435.out BK452.out (by decide)) (fun _ hk => ⟨hk.1.1.1.1.1.1.1.1.2, ⟨hk.1.1.1.1.1.1.1.2, ⟨hk.1.1.1.1.1.1.2, ⟨hk.1.1.1.1.1.2, ⟨hk.1.1.1.1.2, ⟨hk.1.1.1.1.1.1.1.1.1, ⟨hk.1.1.1.2, ⟨hk.1.1.2, hk.1.2⟩⟩⟩⟩⟩⟩⟩⟩)⟩
      have n6_ : Aside0 (Kd.R (Kd.int .i64) 3 (w56.setCell ⟨gb452, 0, none⟩ (.slice Ao57 t448.length co57)) w.heap.size (fun k_ => some k_ ≠ (.slice Ao22 t413.length co22 : Value).ownBlock ∧ some k_ ≠ (.slice Ao23 t416.length co23 : Value).ownBlock ∧ some k_ ≠ (.slice Ao25 t419.length co25 : Value).ownBlock ∧ some k_ ≠ (.slice Ao31 t425.length co31 : Value).ownBlock ∧ some k_ ≠ (.slice Ao32 t428.length co32 : Value).ownBlock ∧ some k_ ≠ (.slice Ao41 t433.length co41 : Value).ownBlock ∧ some k_ ≠ (.slice Ao52 t441.length co52 : Value).ownBlock ∧ some k_ ≠ (.slice Ao53 t444.length co53 : Value).ownBlock ∧ some k_ ≠ (.slice Ao57 t448.length co57 : Value).ownBlock) (.slice Ao42 t436.length co42) t436) := ⟨rm_ (Kd.R_types HO438.out BK452.out (by decide)) (fun _ hk => ⟨hk.1.1.1.1.1.1.1.1.2, ⟨hk.1.1.1.1.1.1.1.2, ⟨hk.1.1.1.1.1.1.2, ⟨hk.1.1.1.1.1.2, ⟨hk.1.1.1.1.2, ⟨hk.1.1.1.1.1.1.1.1.1, ⟨hk.1.1.1.2, ⟨hk.1.1.2, hk.1.2⟩⟩⟩⟩⟩⟩⟩⟩)⟩
      have n7_ : Aside0 (Kd.R (Kd.int .i64) 3 (w56.setCell ⟨gb452, 0, none⟩ (.slice Ao57 t448.length co57)) w.heap.size (fun k_ => some k_ ≠ (.slice Ao22 t413.length co22 : Value).ownBlock ∧ some k_ ≠ (.slice Ao23 t416.length co23 : Value).ownBlock ∧ some k_ ≠ (.slice Ao25 t419.length co25 : Value).ownBlock ∧ some k_ ≠ (.slice Ao31 t425.length co31 : Value).ownBlock ∧ some k_ ≠ (.slice Ao32 t428.length co32 : Value).ownBlock ∧ some k_ ≠ (.slice Ao41 t433.length co41 : Value).ownBlock ∧ some k_ ≠ (.slice Ao42 t436.length co42 : Value).ownBlock ∧ some k_ ≠ (.slice Ao53 t444.length co53 : Value).ownBlock ∧ some k_ ≠ (.slice Ao57 t448.length co57 : Value).ownBlock) (.slice Ao52 t441.length co52) t441) := ⟨rm_ (Kd.R_types HO443.out BK452.out (by decide)) (fun _ hk => ⟨hk.1.1.1.1.1.1.1.1.2, ⟨hk.1.1.1.1.1.1.1.2, ⟨hk.1.1.1.1.1.1.2, ⟨hk.1.1.1.1.1.2, ⟨hk.1.1.1.1.2, ⟨hk.1.1.1.2, ⟨hk.1.1.2, ⟨hk.1.1.1.1.1.1.1.1.1, hk.1.2⟩⟩⟩⟩⟩⟩⟩⟩)⟩
      have n8_ : Aside0 (Kd.R (Kd.int .i64) 3 (w56.setCell ⟨gb452, 0, none⟩ (.slice Ao57 t448.length co57)) w.heap.size (fun k_ => some k_ ≠ (.slice Ao22 t413.length co22 : Value).ownBlock ∧ some k_ ≠ (.slice Ao23 t416.length co23 : Value).ownBlock ∧ some k_ ≠ (.slice Ao25 t419.length co25 : Value).ownBlock ∧ some k_ ≠ (.slice Ao31 t425.length co31 : Value).ownBlock ∧ some k_ ≠ (.slice Ao32 t428.length co32 : Value).ownBlock ∧ some k_ ≠ (.slice Ao41 t433.length co41 : Value).ownBlock ∧ some k_ ≠ (.slice Ao42 t436.length co42 : Value).ownBlock ∧ some k_ ≠ (.slice Ao52 t441.length co52 : Value).ownBlock ∧ some k_ ≠ (.slice Ao57 t448.length co57 : Value).ownBlock) (.slice Ao53 t444.length co53) t444) := ⟨rm_ (Kd.R_types HO446.out BK452.out (by decide)) (fun _ hk => ⟨hk.1.1.1.1.1.1.1.1.2, ⟨hk.1.1.1.1.1.1.1.2, ⟨hk.1.1.1.1.1.1.2, ⟨hk.1.1.1.1.1.2, ⟨hk.1.1.1.1.2, ⟨hk.1.1.1.2, ⟨hk.1.1.2, ⟨hk.1.1.1.1.1.1.1.1.1, hk.1.2⟩⟩⟩⟩⟩⟩⟩⟩)⟩
      have n9_ : Aside0 (Kd.R (Kd.int .i64) 3 (w56.setCell ⟨gb452, 0, none⟩ (.slice Ao57 t448.length co57)) w.heap.size (fun k_ => some k_ ≠ (.slice Ao22 t413.length co22 : Value).ownBlock ∧ some k_ ≠ (.slice Ao23 t416.length co23 : Value).ownBlock ∧ some k_ ≠ (.slice Ao25 t419.length co25 : Value).ownBlock ∧ some k_ ≠ (.slice Ao31 t425.length co31 : Value).ownBlock ∧ some k_ ≠ (.slice Ao32 t428.length co32 : Value).ownBlock ∧ some k_ ≠ (.slice Ao41 t433.length co41 : Value).ownBlock ∧ some k_ ≠ (.slice Ao42 t436.length co42 : Value).ownBlock ∧ some k_ ≠ (.slice Ao52 t441.length co52 : Value).ownBlock ∧ some k_ ≠ (.slice Ao53 t444.length co53 : Value).ownBlock) (.slice Ao57 t448.length co57) t448) := ⟨rm_ (Kd.R_types HO450.out BK452.out (by decide)) (fun _ hk => ⟨hk.1.1.1.1.1.1.1.1.1.2, ⟨hk.1.1.1.1.1.1.1.1.2, ⟨hk.1.1.1.1.1.1.1.2, ⟨hk.1.1.1.1.1.1.2, ⟨hk.1.1.1.1.1.2, ⟨hk.1.1.1.1.2, ⟨hk.1.1.1.2, ⟨hk.1.1.2, hk.1.2⟩⟩⟩⟩⟩⟩⟩⟩)⟩
      have n10_ : Aside0 ((w56.setCell ⟨gb452, 0, none⟩ (.slice Ao57 t448.length co57)).heap[gb422]? = some (.cells #[.int .i64 t411, .int .i64 t412, .slice Ao22 t413.length co22] 44 (0, 0))) := ⟨by (with_reducible repeat (first | refine blk_drewN ?_ _ | refine blk_drew ?_ | refine blk_alloc ?_ _)); refine blk_far ?_ NB422_452.out _; (with_reducible repeat (first | refine blk_drewN ?_ _ | refine blk_drew ?_ | refine blk_alloc ?_ _)); exact BK422.out⟩
      have n11_ : Aside0 ((w56.setCell ⟨gb452, 0, none⟩ (.slice Ao57 t448.length co57)).heap[gb423]? = some (.cells #[.slice Ao23 t416.length co23, .slice Ao25 t419.length co25] 70 (0, 0))) := ⟨by (with_reducible repeat (first | refine blk_drewN ?_ _ | refine blk_drew ?_ | refine blk_alloc ?_ _)); refine blk_far ?_ NB423_452.out _; (with_reducible repeat (first | refine blk_drewN ?_ _ | refine blk_drew ?_ | refine blk_alloc ?_ _)); exact BK423.out⟩
      have n12_ : Aside0 ((w56.setCell ⟨gb452, 0, none⟩ (.slice Ao57 t448.length co57)).heap[gb431]? = some (.cells #[.int .i64 t424, .slice Ao31 t425.length co31, .slice Ao32 t428.length co32] 40 (0, 0))) := ⟨by (with_reducible repeat (first | refine blk_drewN ?_ _ | refine blk_drew ?_ | refine blk_alloc ?_ _)); refine blk_far ?_ NB431_452.out _; (with_reducible repeat (first | refine blk_drewN ?_ _ | refine blk_drew ?_ | refine blk_alloc ?_ _)); exact BK431.out⟩
      have n13_ : Aside0 ((w56.setCell ⟨gb452, 0, none⟩ (.slice Ao57 t448.length co57)).heap[gb439]? = some (.cells #[.int .i64 t432, .slice Ao41 t433.length co41, .slice Ao42 t436.length co42] 40 (0, 0))) := ⟨by (with_reducible repeat (first | refine blk_drewN ?_ _ | refine blk_drew ?_ | refine blk_alloc ?_ _)); refine blk_far ?_ NB439_452.out _; (with_reducible repeat (first | refine blk_drewN ?_ _ | refine blk_drew ?_ | refine blk_alloc ?_ _)); exact BK439.out⟩
      have n14_ : Aside0 ((w56.setCell ⟨gb452, 0, none⟩ (.slice Ao57 t448.length co57)).heap[gb447]? = some (.cells #[.int .i64 t440, .slice Ao52 t441.length co52, .slice Ao53 t444.length co53] 40 (0, 0))) := ⟨by (with_reducible repeat (first | refine blk_drewN ?_ _ | refine blk_drew ?_ | refine blk_alloc ?_ _)); refine blk_far ?_ NB447_452.out _; (with_reducible repeat (first | refine blk_drewN ?_ _ | refine blk_drew ?_ | refine blk_alloc ?_ _)); exact BK447.out⟩
      have n15_ : Aside0 ((w56.setCell ⟨gb452, 0, none⟩ (.slice Ao57 t448.length co57)).heap[gb452]? = some (.cells #[.slice Ao57 t448.length co57] 46 (0, 0))) := ⟨by (with_reducible repeat (first | refine blk_drewN ?_ _ | refine blk_drew ?_ | refine blk_alloc ?_ _)); refine blk_put (cs := #[.slice none 0 0]) ?_ 0 _ rfl; (with_reducible repeat (first | refine blk_drewN ?_ _ | refine blk_drew ?_ | refine blk_alloc ?_ _)); exact BK452.out⟩
      have n16_ : Aside0 (Below w.heap.size w (w56.setCell ⟨gb452, 0, none⟩ (.slice Ao57 t448.length co57))) := ⟨bb_ HB.out⟩
      (try clear HO415)
      (try clear HO418)
      (try clear HO421)
      (try clear HO427)
      (try clear HO430)
      (try clear HO435)
      (try clear HO438)
      (try clear HO443)
      (try clear HO446)
      (try clear HO450)
      (try clear BK422)
      (try clear BK423)
      (try clear BK431)
      (try clear BK439)
      (try clear BK447)
      (try clear BK452)
      (try clear HB)
      generalize (w56.setCell ⟨gb452, 0, none⟩ (.slice Ao57 t448.length co57)) = w64 at n0_ n1_ n2_ n3_ n4_ n5_ n6_ n7_ n8_ n9_ n10_ n11_ n12_ n13_ n14_ n15_ n16_ ⊢
      have HO415 := n0_
      have HO418 := n1_
      have HO421 := n2_
      have HO427 := n3_
      have HO430 := n4_
      have HO435 := n5_
      have HO438 := n6_
      have HO443 := n7_
      have HO446 := n8_
      have HO450 := n9_
      have BK422 := n10_
      have BK423 := n11_
      have BK431 := n12_
      have BK439 := n13_
      have BK447 := n14_
      have BK452 := n15_
      have HB := n16_
      clear n0_ n1_ n2_ n3_ n4_ n5_ n6_ n7_ n8_ n9_ n10_ n11_ n12_ n13_ n14_ n15_ n16_
      have n0_ := Aside0.mk (Kd.R_drew HO415.out)
      have n1_ := Aside0.mk (Kd.R_drew HO418.out)
      have n2_ := Aside0.mk (Kd.R_drew HO421.out)
      have n3_ := Aside0.mk (Kd.R_drew HO427.out)
      have n4_ := Aside0.mk (Kd.R_drew HO430.out)
      have n5_ := Aside0.mk (Kd.R_drew HO435.out)
      have n6_ := Aside0.mk (Kd.R_drew HO438.out)
      have n7_ := Aside0.mk (Kd.R_drew HO443.out)
      have n8_ := Aside0.mk (Kd.R_drew HO446.out)
      have n9_ := Aside0.mk (Kd.R_drew HO450.out)
      have n10_ := Aside0.mk (blk_drew BK422.out)
      have n11_ := Aside0.mk (blk_drew BK423.out)
      have n12_ := Aside0.mk (blk_drew BK431.out)
      have n13_ := Aside0.mk (blk_drew BK439.out)
      have n14_ := Aside0.mk (blk_drew BK447.out)
      have n15_ := Aside0.mk (blk_drew BK452.out)
      have n16_ := Aside0.mk (below_drew1 HB.out)
      clear HO415
      clear HO418
      clear HO421
      clear HO427
      clear HO430
      clear HO435
      clear HO438
      clear HO443
      clear HO446
      clear HO450
      clear BK422
      clear BK423
      clear BK431
      clear BK439
      clear BK447
      clear BK452
      clear HB
      have HO415 := n0_
      have HO418 := n1_
      have HO421 := n2_
      have HO427 := n3_
      have HO430 := n4_
      have HO435 := n5_
      have HO438 := n6_
      have HO443 := n7_
      have HO446 := n8_
      have HO450 := n9_
      have BK422 := n10_
      have BK423 := n11_
      have BK431 := n12_
      have BK439 := n13_
      have BK447 := n14_
      have BK452 := n15_
      have HB := n16_
      clear n0_ n1_ n2_ n3_ n4_ n5_ n6_ n7_ n8_ n9_ n10_ n11_ n12_ n13_ n14_ n15_ n16_
      refine start_ (n := 42) (S := fun w' => w'.cell? ⟨gb447, 0, none⟩ = some (.int .i64 t440) ∧ w'.cell? ⟨gb447, 1, none⟩ = some (.slice Ao52 t441.length co52) ∧ w'.cell? ⟨gb447, 2, none⟩ = some (.slice Ao53 t444.length co53) ∧ w'.cell? ⟨gb431, 0, none⟩ = some (.int .i64 t424) ∧ w'.cell? ⟨gb431, 1, none⟩ = some (.slice Ao31 t425.length co31) ∧ w'.cell? ⟨gb431, 2, none⟩ = some (.slice Ao32 t428.length co32) ∧ w'.cell? ⟨gb439, 0, none⟩ = some (.int .i64 t432) ∧ w'.cell? ⟨gb439, 1, none⟩ = some (.slice Ao41 t433.length co41) ∧ w'.cell? ⟨gb439, 2, none⟩ = some (.slice Ao42 t436.length co42) ∧ w'.cell? ⟨gb452, 0, none⟩ = some (.slice Ao57 t448.length co57) ∧ w'.cell? ⟨gb423, 0, none⟩ = some (.slice Ao23 t416.length co23) ∧ w'.cell? ⟨gb423, 1, none⟩ = some (.slice Ao25 t419.length co25) ∧ w'.cell? ⟨gb422, 0, none⟩ = some (.int .i64 t411) ∧ w'.cell? ⟨gb422, 1, none⟩ = some (.int .i64 t412) ∧ w'.cell? ⟨gb422, 2, none⟩ = some (.slice Ao22 t413.length co22)) (ds := []) #[false, false, false, false, false, false, false, false, false, false, false, false, false, false, false, false, false, false, false, false, false, false, false, false, false, false, false, false, false, false, false, false, false, false, false, false, false, false, false, false, false, false] (by kernel_rfl) rfl rfl ⟨(blk_cell BK447.out 0).trans rfl, (blk_cell BK447.out 1).trans rfl, (blk_cell BK447.out 2).trans rfl, (blk_cell BK431.out 0).trans rfl, (blk_cell BK431.out 1).trans rfl, (blk_cell BK431.out 2).trans rfl, (blk_cell BK439.out 0).trans rfl, (blk_cell BK439.out 1).trans rfl, (blk_cell BK439.out 2).trans rfl, (blk_cell BK452.out 0).trans rfl, (blk_cell BK423.out 0).trans rfl, (blk_cell BK423.out 1).trans rfl, (blk_cell BK422.out 0).trans rfl, (blk_cell BK422.out 1).trans rfl, (blk_cell BK422.out 2).trans rfl⟩ (fun hHeld => ?_); refine with_tabW laws_FnClasses.tab8 laws_FnClasses.bits8 (fun HT_ HW_ => ?_)
      generalize w64.drew = w65 at HO415 HO418 HO421 HO427 HO430 HO435 HO438 HO443 HO446 HO450 BK422 BK423 BK431 BK439 BK447 BK452 HB hHeld ⊢
      refine pu_ 0 33 (bt_ 42 1) HT_ ?_
      refine pu_ 3 36 (bt_ 42 9) HT_ ?_
      refine take_ (i := 1) (N := some 34) (v := ?_) (a' := ?_) (bt_ 42 11) rfl rfl (take_ofW HT_.out HW_.out (by kernel_rfl)) (fun _ _ _ h => h) (Or.inl ⟨by rfl, ?_⟩) hHeld ?_ ?_
      rotate_left
      ·rintro w' ⟨s0, s1, s2, s3, s4, s5, s6, s7, s8, s9, s10, s11, s12, s13, s14⟩
       go_simp
       with_reducible rfl
      rotate_left
      ·simp only [Act.put, List.setIfInBounds_toArray, List.set_cons_zero, List.set_cons_succ, i64_w, i32_w]
       rfl
      refine pu_ 2 35 (bt_ 42 15) HT_ ?_
      refine take_ (i := 4) (N := some 37) (v := ?_) (a' := ?_) (bt_ 42 31) rfl rfl (take_ofW HT_.out HW_.out (by kernel_rfl)) (fun _ _ _ h => h) (Or.inl ⟨by rfl, ?_⟩) hHeld ?_ ?_
      rotate_left
      ·rintro w' ⟨s0, s1, s2, s3, s4, s5, s6, s7, s8, s9, s10, s11, s12, s13, s14⟩
       go_simp
       with_reducible rfl
      rotate_left
      ·simp only [Act.put, List.setIfInBounds_toArray, List.set_cons_zero, List.set_cons_succ, i64_w, i32_w]
       rfl
      refine pu_ 5 38 (bt_ 42 63) HT_ ?_
      refine pu_ 6 39 (bt_ 42 127) HT_ ?_
      refine pu_ 7 40 (bt_ 42 255) HT_ ?_
      refine take_ (i := 8) (N := some 41) (v := ?_) (a' := ?_) (bt_ 42 511) rfl rfl (take_ofW HT_.out HW_.out (by kernel_rfl)) (fun _ _ _ h => h) (Or.inl ⟨by rfl, ?_⟩) hHeld ?_ ?_
      rotate_left
      ·rintro w' ⟨s0, s1, s2, s3, s4, s5, s6, s7, s8, s9, s10, s11, s12, s13, s14⟩
       go_simp
       with_reducible rfl
      rotate_left
      ·simp only [Act.put, List.setIfInBounds_toArray, List.set_cons_zero, List.set_cons_succ, i64_w, i32_w]
       rfl
      refine pu_ 9 42 (bt_ 42 1023) HT_ ?_
      refine pu_ 10 43 (bt_ 42 2047) HT_ ?_
      refine pu_ 11 44 (bt_ 42 4095) HT_ ?_
      refine pu_ 12 45 (bt_ 42 8191) HT_ ?_
      refine pu_ 13 46 (bt_ 42 16383) HT_ ?_
      refine pu_ 14 47 (bt_ 42 32767) HT_ ?_
      refine pu_ 15 48 (bt_ 42 65535) HT_ ?_
      refine pu_ 16 49 (bt_ 42 131071) HT_ ?_
      refine pu_ 18 51 (bt_ 42 393215) HT_ ?_
      refine pu_ 19 52 (bt_ 42 917503) HT_ ?_
      refine take_ (i := 17) (N := some 50) (v := ?_) (a' := ?_) (bt_ 42 1048575) rfl rfl (take_ofW HT_.out HW_.out (by kernel_rfl)) (fun _ _ _ h => h) (Or.inl ⟨by rfl, ?_⟩) hHeld ?_ ?_
      rotate_left
      ·rintro w' ⟨s0, s1, s2, s3, s4, s5, s6, s7, s8, s9, s10, s11, s12, s13, s14⟩
       go_simp
       with_reducible rfl
      rotate_left
      ·simp only [Act.put, List.setIfInBounds_toArray, List.set_cons_zero, List.set_cons_succ, i64_w, i32_w]
       rfl
      refine take_ (i := 20) (N := some 53) (v := ?_) (a' := ?_) (bt_ 42 2097151) rfl rfl (take_ofW HT_.out HW_.out (by kernel_rfl)) (fun _ _ _ h => h) (Or.inl ⟨by rfl, ?_⟩) hHeld ?_ ?_
      rotate_left
      ·rintro w' ⟨s0, s1, s2, s3, s4, s5, s6, s7, s8, s9, s10, s11, s12, s13, s14⟩
       go_simp
       with_reducible rfl
      rotate_left
      ·simp only [Act.put, List.setIfInBounds_toArray, List.set_cons_zero, List.set_cons_succ, i64_w, i32_w]
       rfl
      refine one_ (i := 21) (N := some 54) (bt_ 42 4194303) rfl rfl (one_of HT_.out (by kernel_rfl)) (by decide) (fun K hK => ?_)
      refine goes_ Try.func59 (by kernel_rfl) rfl #[.slice Ao57 t448.length co57, .slice Ao25 t419.length co25] (by rfl) rfl rfl (by (try simp only [List.map_toArray, List.map_cons, List.map_nil]); first | done | rfl | (simp only [List.length_drop, List.length_take]; rfl)) ?_
      with_reducible refine (laws_sameInts.calls k _ _ t448 _ _ t419 true _ ?side1 ?side2 ?side3 ?side4 A12.out).mono ?_
      (case side1 => repeat (first | exact (Kd.R_reads' HO450.out).2.2 | (with_reducible refine Kd.C_alloc ?_ _) | (with_reducible refine Kd.C_drewN ?_ _) | (with_reducible refine Kd.C_drew ?_)))
      (case side2 => exact (Kd.R_reads' HO450.out).2.1)
      (case side3 => repeat (first | exact (Kd.R_reads' HO421.out).2.2 | (with_reducible refine Kd.C_alloc ?_ _) | (with_reducible refine Kd.C_drewN ?_ _) | (with_reducible refine Kd.C_drew ?_)))
      (case side4 => exact (Kd.R_reads' HO421.out).2.1)
      rintro e w' ⟨rfl, ⟨nd, rfl⟩⟩
      refine ⟨_, rfl, ?_⟩
      refine hK.out _ _ ⟨(blk_cell BK447.out 0).trans rfl, (blk_cell BK447.out 1).trans rfl, (blk_cell BK447.out 2).trans rfl, (blk_cell BK431.out 0).trans rfl, (blk_cell BK431.out 1).trans rfl, (blk_cell BK431.out 2).trans rfl, (blk_cell BK439.out 0).trans rfl, (blk_cell BK439.out 1).trans rfl, (blk_cell BK439.out 2).trans rfl, (blk_cell BK452.out 0).trans rfl, (blk_cell BK423.out 0).trans rfl, (blk_cell BK423.out 1).trans rfl, (blk_cell BK422.out 0).trans rfl, (blk_cell BK422.out 1).trans rfl, (blk_cell BK422.out 2).trans rfl⟩ (fun hHeld => ?_)
      clear hK K
      refine norm_ (a' := ?_) ?_ ?_
      rotate_left
      ·show Act.put _ (some 54) _ = _
       simp only [Act.put, List.setIfInBounds_toArray, List.set_cons_zero, List.set_cons_succ, i64_w, i32_w]
       rfl
      refine pu_ 22 55 (bt_ 42 8388607) HT_ ?_
      refine pu_ 23 56 (bt_ 42 16777215) HT_ ?_
      refine pu_ 29 62 (bt_ 42 553648127) HT_ ?_
      refine pu_ 34 67 (bt_ 42 17733517311) HT_ ?_
      refine take_ (i := 24) (N := some 57) (v := ?_) (a' := ?_) (bt_ 42 17750294527) rfl rfl (take_ofW HT_.out HW_.out (by kernel_rfl)) (fun _ _ _ h => h) (Or.inl ⟨by rfl, ?_⟩) hHeld ?_ ?_
      rotate_left
      ·rintro w' ⟨s0, s1, s2, s3, s4, s5, s6, s7, s8, s9, s10, s11, s12, s13, s14⟩
       go_simp
       with_reducible rfl
      rotate_left
      ·simp only [Act.put, List.setIfInBounds_toArray, List.set_cons_zero, List.set_cons_succ, i64_w, i32_w]
       rfl
      refine take_ (i := 25) (N := some 58) (v := ?_) (a' := ?_) (bt_ 42 17783848959) rfl rfl (take_ofW HT_.out HW_.out (by kernel_rfl)) (fun _ _ _ h => h) (Or.inl ⟨by rfl, ?_⟩) hHeld ?_ ?_
      rotate_left
      ·rintro w' ⟨s0, s1, s2, s3, s4, s5, s6, s7, s8, s9, s10, s11, s12, s13, s14⟩
       go_simp
       with_reducible rfl
      rotate_left
      ·simp only [Act.put, List.setIfInBounds_toArray, List.set_cons_zero, List.set_cons_succ, i64_w, i32_w]
       rfl
      refine take_ (i := 28) (N := some 61) (v := ?_) (a' := ?_) (bt_ 42 18052284415) rfl rfl (take_ofW HT_.out HW_.out (by kernel_rfl)) (fun _ _ _ h => h) (Or.inl ⟨by rfl, ?_⟩) hHeld ?_ ?_
      rotate_left
      ·rintro w' ⟨s0, s1, s2, s3, s4, s5, s6, s7, s8, s9, s10, s11, s12, s13, s14⟩
       go_simp
       with_reducible rfl
      rotate_left
      ·simp only [Act.put, List.setIfInBounds_toArray, List.set_cons_zero, List.set_cons_succ, i64_w, i32_w]
       rfl
      refine take_ (i := 30) (N := some 63) (v := ?_) (a' := ?_) (bt_ 42 19126026239) rfl rfl (take_ofW HT_.out HW_.out (by kernel_rfl)) (fun _ _ _ h => h) (Or.inl ⟨by rfl, ?_⟩) hHeld ?_ ?_
      rotate_left
      ·rintro w' ⟨s0, s1, s2, s3, s4, s5, s6, s7, s8, s9, s10, s11, s12, s13, s14⟩
       go_simp
       with_reducible rfl
      rotate_left
      ·simp only [Act.put, List.setIfInBounds_toArray, List.set_cons_zero, List.set_cons_succ, i64_w, i32_w]
       rfl
      refine take_ (i := 33) (N := some 66) (v := ?_) (a' := ?_) (bt_ 42 27715960831) rfl rfl (take_ofW HT_.out HW_.out (by kernel_rfl)) (fun _ _ _ h => h) (Or.inl ⟨by rfl, ?_⟩) hHeld ?_ ?_
      rotate_left
      ·rintro w' ⟨s0, s1, s2, s3, s4, s5, s6, s7, s8, s9, s10, s11, s12, s13, s14⟩
       go_simp
       with_reducible rfl
      rotate_left
      ·simp only [Act.put, List.setIfInBounds_toArray, List.set_cons_zero, List.set_cons_succ, i64_w, i32_w]
       rfl
      refine take_ (i := 35) (N := some 68) (v := ?_) (a' := ?_) (bt_ 42 62075699199) rfl rfl (take_ofW HT_.out HW_.out (by kernel_rfl)) (fun _ _ _ h => h) (Or.inl ⟨by rfl, ?_⟩) hHeld ?_ ?_
      rotate_left
      ·rintro w' ⟨s0, s1, s2, s3, s4, s5, s6, s7, s8, s9, s10, s11, s12, s13, s14⟩
       go_simp
       with_reducible rfl
      rotate_left
      ·simp only [Act.put, List.setIfInBounds_toArray, List.set_cons_zero, List.set_cons_succ, i64_w, i32_w]
       rfl
      refine one_ (i := 26) (N := some 59) (bt_ 42 62142808063) rfl rfl (one_of HT_.out (by kernel_rfl)) (by decide) (fun K hK => ?_)
      refine goes_ Try.func48 (by kernel_rfl) rfl #[.agg #[.int .i64 t411, .int .i64 t412, .slice Ao22 t413.length co22], .agg #[.slice Ao23 t416.length co23, .slice Ao25 t419.length co25]] (by rfl) rfl rfl (by (try simp only [List.map_toArray, List.map_cons, List.map_nil]); first | done | rfl | (simp only [List.length_drop, List.length_take]; rfl)) ?_
      with_reducible refine (impl_ClassDepends.calls k t411 t412 _ _ t413 _ _ t416 _ _ t419 t454 _ ?side1 ?side2 ?side3 ?side4 ?side5 ?side6 A14.out).mono ?_
      (case side1 => repeat (first | exact (Kd.R_reads' HO415.out).2.2 | (with_reducible refine Kd.C_alloc ?_ _) | (with_reducible refine Kd.C_drewN ?_ _) | (with_reducible refine Kd.C_drew ?_)))
      (case side2 => exact (Kd.R_reads' HO415.out).2.1)
      (case side3 => repeat (first | exact (Kd.R_reads' HO418.out).2.2 | (with_reducible refine Kd.C_alloc ?_ _) | (with_reducible refine Kd.C_drewN ?_ _) | (with_reducible refine Kd.C_drew ?_)))
      (case side4 => exact (Kd.R_reads' HO418.out).2.1)
      (case side5 => repeat (first | exact (Kd.R_reads' HO421.out).2.2 | (with_reducible refine Kd.C_alloc ?_ _) | (with_reducible refine Kd.C_drewN ?_ _) | (with_reducible refine Kd.C_drew ?_)))
      (case side6 => exact (Kd.R_reads' HO421.out).2.1)
      rintro e w66 ⟨v455, rfl, ho0, hb⟩
      refine ⟨_, rfl, ?_⟩
      have n0_ := Aside0.mk (Kd.R_below (ra_ HO415.out) hb)
      have n1_ := Aside0.mk (Kd.R_below (ra_ HO418.out) hb)
      have n2_ := Aside0.mk (Kd.R_below (ra_ HO421.out) hb)
      have n3_ := Aside0.mk (Kd.R_below (ra_ HO427.out) hb)
      have n4_ := Aside0.mk (Kd.R_below (ra_ HO430.out) hb)
      have n5_ := Aside0.mk (Kd.R_below (ra_ HO435.out) hb)
      have n6_ := Aside0.mk (Kd.R_below (ra_ HO438.out) hb)
      have n7_ := Aside0.mk (Kd.R_below (ra_ HO443.out) hb)
      have n8_ := Aside0.mk (Kd.R_below (ra_ HO446.out) hb)
      have n9_ := Aside0.mk (Kd.R_below (ra_ HO450.out) hb)
      have n10_ := Aside0.mk (Kd.R_lower ho0 (bz_ HB.out))
      have n11_ := Aside0.mk (bk_ BK422.out hb)
      have n12_ := Aside0.mk (bk_ BK423.out hb)
      have n13_ := Aside0.mk (bk_ BK431.out hb)
      have n14_ := Aside0.mk (bk_ BK439.out hb)
      have n15_ := Aside0.mk (bk_ BK447.out hb)
      have n16_ := Aside0.mk (bk_ BK452.out hb)
      have n17_ := Aside0.mk (bs_ HB.out hb)
      clear HO415
      clear HO418
      clear HO421
      clear HO427
      clear HO430
      clear HO435
      clear HO438
      clear HO443
      clear HO446
      clear HO450
      clear BK422
      clear BK423
      clear BK431
      clear BK439
      clear BK447
      clear BK452
      clear HB
      have HO415 := n0_
      have HO418 := n1_
      have HO421 := n2_
      have HO427 := n3_
      have HO430 := n4_
      have HO435 := n5_
      have HO438 := n6_
      have HO443 := n7_
      have HO446 := n8_
      have HO450 := n9_
      have HO456 := n10_
      have BK422 := n11_
      have BK423 := n12_
      have BK431 := n13_
      have BK439 := n14_
      have BK447 := n15_
      have BK452 := n16_
      have HB := n17_
      clear n0_ n1_ n2_ n3_ n4_ n5_ n6_ n7_ n8_ n9_ n10_ n11_ n12_ n13_ n14_ n15_ n16_ n17_
      (try clear hb)
      (try clear hb2)
      (try clear hk)
      (try clear hi)
      (try clear ho0)
      obtain ⟨Ao67, co67, eo67⟩ := Kd.R_slice HO456.out
      (first | subst eo67 | (injection eo67 with f1_ f2_ f3_; have f4_ := f1_.symm; have f5_ := f3_.symm; clear f1_ f2_ f3_; subst f4_; subst f5_))
      refine hK.out _ _ ⟨(blk_cell BK447.out 0).trans rfl, (blk_cell BK447.out 1).trans rfl, (blk_cell BK447.out 2).trans rfl, (blk_cell BK431.out 0).trans rfl, (blk_cell BK431.out 1).trans rfl, (blk_cell BK431.out 2).trans rfl, (blk_cell BK439.out 0).trans rfl, (blk_cell BK439.out 1).trans rfl, (blk_cell BK439.out 2).trans rfl, (blk_cell BK452.out 0).trans rfl, (blk_cell BK423.out 0).trans rfl, (blk_cell BK423.out 1).trans rfl, (blk_cell BK422.out 0).trans rfl, (blk_cell BK422.out 1).trans rfl, (blk_cell BK422.out 2).trans rfl⟩ (fun hHeld => ?_)
      clear hK K
      refine norm_ (a' := ?_) ?_ ?_
      rotate_left
      ·show Act.put _ (some 59) _ = _
       simp only [Act.put, List.setIfInBounds_toArray, List.set_cons_zero, List.set_cons_succ, i64_w, i32_w]
       rfl
      refine pu_ 27 60 (bt_ 42 62277025791) HT_ ?_
      refine one_ (i := 31) (N := some 64) (bt_ 42 64424509439) rfl rfl (one_of HT_.out (by kernel_rfl)) (by decide) (fun K hK => ?_)
      refine goes_ Try.func60 (by kernel_rfl) rfl #[.agg #[.int .i64 t411, .int .i64 t412, .slice Ao22 t413.length co22], .agg #[.slice Ao23 t416.length co23]] (by rfl) rfl rfl (by (try simp only [List.map_toArray, List.map_cons, List.map_nil]); first | done | rfl | (simp only [List.length_drop, List.length_take]; rfl)) ?_
      with_reducible refine (impl_DependsOf.calls k t411 t412 _ _ t413 _ _ t416 t457 _ ?side1 ?side2 ?side3 ?side4 A15.out).mono ?_
      (case side1 => repeat (first | exact (Kd.R_reads' HO415.out).2.2 | (with_reducible refine Kd.C_alloc ?_ _) | (with_reducible refine Kd.C_drewN ?_ _) | (with_reducible refine Kd.C_drew ?_)))
      (case side2 => exact (Kd.R_reads' HO415.out).2.1)
      (case side3 => repeat (first | exact (Kd.R_reads' HO418.out).2.2 | (with_reducible refine Kd.C_alloc ?_ _) | (with_reducible refine Kd.C_drewN ?_ _) | (with_reducible refine Kd.C_drew ?_)))
      (case side4 => exact (Kd.R_reads' HO418.out).2.1)
      rintro e w68 ⟨v458, rfl, ho0, hb⟩
      refine ⟨_, rfl, ?_⟩
      have n0_ := Aside0.mk (Kd.R_below (ra_ HO415.out) hb)
      have n1_ := Aside0.mk (Kd.R_below (ra_ HO418.out) hb)
      have n2_ := Aside0.mk (Kd.R_below (ra_ HO421.out) hb)
      have n3_ := Aside0.mk (Kd.R_below (ra_ HO427.out) hb)
      have n4_ := Aside0.mk (Kd.R_below (ra_ HO430.out) hb)
      have n5_ := Aside0.mk (Kd.R_below (ra_ HO435.out) hb)
      have n6_ := Aside0.mk (Kd.R_below (ra_ HO438.out) hb)
      have n7_ := Aside0.mk (Kd.R_below (ra_ HO443.out) hb)
      have n8_ := Aside0.mk (Kd.R_below (ra_ HO446.out) hb)
      have n9_ := Aside0.mk (Kd.R_below (ra_ HO450.out) hb)
      have n10_ := Aside0.mk (Kd.R_elder' (ra_ HO456.out) (Kd.R_base ho0) hb)
      have n11_ := Aside0.mk (Kd.R_lower (Kd.R_new' ho0 (rl_ HO456.out)) (bz_ HB.out))
      have n12_ := Aside0.mk (bk_ BK422.out hb)
      have n13_ := Aside0.mk (bk_ BK423.out hb)
      have n14_ := Aside0.mk (bk_ BK431.out hb)
      have n15_ := Aside0.mk (bk_ BK439.out hb)
      have n16_ := Aside0.mk (bk_ BK447.out hb)
      have n17_ := Aside0.mk (bk_ BK452.out hb)
      have n18_ := Aside0.mk (bs_ HB.out hb)
      clear HO415
      clear HO418
      clear HO421
      clear HO427
      clear HO430
      clear HO435
      clear HO438
      clear HO443
      clear HO446
      clear HO450
      clear HO456
      clear BK422
      clear BK423
      clear BK431
      clear BK439
      clear BK447
      clear BK452
      clear HB
      have HO415 := n0_
      have HO418 := n1_
      have HO421 := n2_
      have HO427 := n3_
      have HO430 := n4_
      have HO435 := n5_
      have HO438 := n6_
      have HO443 := n7_
      have HO446 := n8_
      have HO450 := n9_
      have HO456 := n10_
      have HO459 := n11_
      have BK422 := n12_
      have BK423 := n13_
      have BK431 := n14_
      have BK439 := n15_
      have BK447 := n16_
      have BK452 := n17_
      have HB := n18_
      clear n0_ n1_ n2_ n3_ n4_ n5_ n6_ n7_ n8_ n9_ n10_ n11_ n12_ n13_ n14_ n15_ n16_ n17_ n18_
      (try clear hb)
      (try clear hb2)
      (try clear hk)
      (try clear hi)
      (try clear ho0)
      obtain ⟨Ao69, co69, eo69⟩ := Kd.R_slice HO459.out
      (first | subst eo69 | (injection eo69 with f1_ f2_ f3_; have f4_ := f1_.symm; have f5_ := f3_.symm; clear f1_ f2_ f3_; subst f4_; subst f5_))
      refine hK.out _ _ ⟨(blk_cell BK447.out 0).trans rfl, (blk_cell BK447.out 1).trans rfl, (blk_cell BK447.out 2).trans rfl, (blk_cell BK431.out 0).trans rfl, (blk_cell BK431.out 1).trans rfl, (blk_cell BK431.out 2).trans rfl, (blk_cell BK439.out 0).trans rfl, (blk_cell BK439.out 1).trans rfl, (blk_cell BK439.out 2).trans rfl, (blk_cell BK452.out 0).trans rfl, (blk_cell BK423.out 0).trans rfl, (blk_cell BK423.out 1).trans rfl, (blk_cell BK422.out 0).trans rfl, (blk_cell BK422.out 1).trans rfl, (blk_cell BK422.out 2).trans rfl⟩ (fun hHeld => ?_)
      clear hK K
      refine norm_ (a' := ?_) ?_ ?_
      rotate_left
      ·show Act.put _ (some 64) _ = _
       simp only [Act.put, List.setIfInBounds_toArray, List.set_cons_zero, List.set_cons_succ, i64_w, i32_w]
       rfl
      refine pu_ 32 65 (bt_ 42 68719476735) HT_ ?_
      refine one_ (i := 36) (N := some 69) (bt_ 42 137438953471) rfl rfl (one_of HT_.out (by kernel_rfl)) (by decide) (fun K hK => ?_)
      refine goes_ Try.func60 (by kernel_rfl) rfl #[.agg #[.int .i64 t411, .int .i64 t412, .slice Ao22 t413.length co22], .agg #[.slice Ao25 t419.length co25]] (by rfl) rfl rfl (by (try simp only [List.map_toArray, List.map_cons, List.map_nil]); first | done | rfl | (simp only [List.length_drop, List.length_take]; rfl)) ?_
      with_reducible refine (impl_DependsOf.calls k t411 t412 _ _ t413 _ _ t419 t460 _ ?side1 ?side2 ?side3 ?side4 A16.out).mono ?_
      (case side1 => repeat (first | exact (Kd.R_reads' HO415.out).2.2 | (with_reducible refine Kd.C_alloc ?_ _) | (with_reducible refine Kd.C_drewN ?_ _) | (with_reducible refine Kd.C_drew ?_)))
      (case side2 => exact (Kd.R_reads' HO415.out).2.1)
      (case side3 => repeat (first | exact (Kd.R_reads' HO421.out).2.2 | (with_reducible refine Kd.C_alloc ?_ _) | (with_reducible refine Kd.C_drewN ?_ _) | (with_reducible refine Kd.C_drew ?_)))
      (case side4 => exact (Kd.R_reads' HO421.out).2.1)
      rintro e w70 ⟨v461, rfl, ho0, hb⟩
      refine ⟨_, rfl, ?_⟩
      have n0_ := Aside0.mk (Kd.R_below (ra_ HO415.out) hb)
      have n1_ := Aside0.mk (Kd.R_below (ra_ HO418.out) hb)
      have n2_ := Aside0.mk (Kd.R_below (ra_ HO421.out) hb)
      have n3_ := Aside0.mk (Kd.R_below (ra_ HO427.out) hb)
      have n4_ := Aside0.mk (Kd.R_below (ra_ HO430.out) hb)
      have n5_ := Aside0.mk (Kd.R_below (ra_ HO435.out) hb)
      have n6_ := Aside0.mk (Kd.R_below (ra_ HO438.out) hb)
      have n7_ := Aside0.mk (Kd.R_below (ra_ HO443.out) hb)
      have n8_ := Aside0.mk (Kd.R_below (ra_ HO446.out) hb)
      have n9_ := Aside0.mk (Kd.R_below (ra_ HO450.out) hb)
      have n10_ := Aside0.mk (Kd.R_elder' (ra_ HO456.out) (Kd.R_base ho0) hb)
      have n11_ := Aside0.mk (Kd.R_elder' (ra_ HO459.out) (Kd.R_base ho0) hb)
      have n12_ := Aside0.mk (Kd.R_lower (Kd.R_new' (Kd.R_new' ho0 (rl_ HO456.out)) (rl_ HO459.out)) (bz_ HB.out))
      have n13_ := Aside0.mk (bk_ BK422.out hb)
      have n14_ := Aside0.mk (bk_ BK423.out hb)
      have n15_ := Aside0.mk (bk_ BK431.out hb)
      have n16_ := Aside0.mk (bk_ BK439.out hb)
      have n17_ := Aside0.mk (bk_ BK447.out hb)
      have n18_ := Aside0.mk (bk_ BK452.out hb)
      have n19_ := Aside0.mk (bs_ HB.out hb)
      clear HO415
      clear HO418
      clear HO421
      clear HO427
      clear HO430
      clear HO435
      clear HO438
      clear HO443
      clear HO446
      clear HO450
      clear HO456
      clear HO459
      clear BK422
      clear BK423
      clear BK431
      clear BK439
      clear BK447
      clear BK452
      clear HB
      have HO415 := n0_
      have HO418 := n1_
      have HO421 := n2_
      have HO427 := n3_
      have HO430 := n4_
      have HO435 := n5_
      have HO438 := n6_
      have HO443 := n7_
      have HO446 := n8_
      have HO450 := n9_
      have HO456 := n10_
      have HO459 := n11_
      have HO462 := n12_
      have BK422 := n13_
      have BK423 := n14_
      have BK431 := n15_
      have BK439 := n16_
      have BK447 := n17_
      have BK452 := n18_
      have HB := n19_
      clear n0_ n1_ n2_ n3_ n4_ n5_ n6_ n7_ n8_ n9_ n10_ n11_ n12_ n13_ n14_ n15_ n16_ n17_ n18_ n19_
      (try clear hb)
      (try clear hb2)
      (try clear hk)
      (try clear hi)
      (try clear ho0)
      obtain ⟨Ao71, co71, eo71⟩ := Kd.R_slice HO462.out
      (first | subst eo71 | (injection eo71 with f1_ f2_ f3_; have f4_ := f1_.symm; have f5_ := f3_.symm; clear f1_ f2_ f3_; subst f4_; subst f5_))
      refine hK.out _ _ ⟨(blk_cell BK447.out 0).trans rfl, (blk_cell BK447.out 1).trans rfl, (blk_cell BK447.out 2).trans rfl, (blk_cell BK431.out 0).trans rfl, (blk_cell BK431.out 1).trans rfl, (blk_cell BK431.out 2).trans rfl, (blk_cell BK439.out 0).trans rfl, (blk_cell BK439.out 1).trans rfl, (blk_cell BK439.out 2).trans rfl, (blk_cell BK452.out 0).trans rfl, (blk_cell BK423.out 0).trans rfl, (blk_cell BK423.out 1).trans rfl, (blk_cell BK422.out 0).trans rfl, (blk_cell BK422.out 1).trans rfl, (blk_cell BK422.out 2).trans rfl⟩ (fun hHeld => ?_)
      clear hK K
      refine norm_ (a' := ?_) ?_ ?_
      rotate_left
      ·show Act.put _ (some 69) _ = _
       simp only [Act.put, List.setIfInBounds_toArray, List.set_cons_zero, List.set_cons_succ, i64_w, i32_w]
       rfl
      refine pu_ 37 70 (bt_ 42 274877906943) HT_ ?_
      refine pu_ 38 71 (bt_ 42 549755813887) HT_ ?_
      refine pu_ 39 72 (bt_ 42 1099511627775) HT_ ?_
      refine pu_ 40 73 (bt_ 42 2199023255551) HT_ ?_
      refine pu_ 41 2 (bt_ 42 4398046511103) HT_ ?_
      refine done_ (done_of HT_.out (by kernel_rfl)) ?_
      try go_wp2
      go_ret
      exact ⟨fin_, bb_ HB.out⟩
     ·replace c13 := Bool.eq_false_iff.mpr c13
      subst c13
      rw [if_neg (show ¬ (false = true) by decide)] at H
      exact absurd H (by simp)
    ·replace c11 := Bool.eq_false_iff.mpr c11
     subst c11
     rw [if_neg (show ¬ (false = true) by decide)] at H
     exact absurd H (by simp)
   ·rw [if_neg c10] at H
    exact absurd H (by simp)
  ·rw [if_neg c9] at H
   have c9b0 : (t424 == 1) = false := beq_eq_false_iff_ne.mpr c9
   have c9b1 : (t424 != 1) = true := bne_iff_ne.mpr c9
   by_cases c72 : ((t440 == 1) == false) = true
   ·rw [if_pos c72] at H
    have c72b0 : ((t440 == 1) == false) = true := c72
    (try (have c72b1 : decide ((t440 == 1) = false) = true := by simpa using c72))
    (try (have c72b2 : ((t440 == 1) == false) = true := by simpa using c72))
    clear c72
    by_cases c73 : t451 = true
    ·subst c73
     rw [if_pos rfl] at H
     replace H := Option.bind_eq_some_iff.mp H
     obtain ⟨t463, A740, H⟩ := H
     try dsimp only at H
     have A74 := Aside0.mk A740
     clear A740
     by_cases c75 : t463 = true
     ·subst c75
      rw [if_pos rfl] at H
      replace H := Option.bind_eq_some_iff.mp H
      obtain ⟨t464, A760, H⟩ := H
      try dsimp only at H
      have A76 := Aside0.mk A760
      clear A760
      replace H := Option.bind_eq_some_iff.mp H
      obtain ⟨t467, A770, H⟩ := H
      try dsimp only at H
      have A77 := Aside0.mk A770
      clear A770
      replace H := Option.bind_eq_some_iff.mp H
      obtain ⟨t470, A780, H⟩ := H
      try dsimp only at H
      have A78 := Aside0.mk A780
      clear A780
      obtain rfl := Option.some.inj H
      go_enter Try.func12, Try.ntmps12
      try go_wp2_with (first | ((with_reducible refine gate_callee (f := 20) rfl ?_); refine gm_ (some 11) Try.func20 #[.slice A0 l0.length c0] rfl ?_; (with_reducible refine (laws_big.calls _ _ l0 false _ ?side1 HC0.out A2.out).mono ?_); (case side1 => repeat (first | exact HR0.out | (with_reducible refine Kd.C_alloc ?_ _) | (with_reducible refine Kd.C_drewN ?_ _) | (with_reducible refine Kd.C_drew ?_))); rintro e w' ⟨rfl, ⟨nd, rfl⟩⟩; refine ⟨_, rfl, ?_⟩) | ((with_reducible refine gate_callee (f := 57) rfl ?_); refine gm_ (some 14) Try.func57 #[.slice A0 l0.length c0] rfl ?_; (with_reducible refine (spec_DrawClasses.calls k _ _ l0 t411 t412 t413 t416 t419 _ ?side1 HC0.out A4.out).mono ?_); (case side1 => repeat (first | exact HR0.out | (with_reducible refine Kd.C_alloc ?_ _) | (with_reducible refine Kd.C_drewN ?_ _) | (with_reducible refine Kd.C_drew ?_))); rintro e w79 ⟨v414, v417, v420, rfl, ho0, ho1, ho2, hb⟩; refine ⟨_, rfl, ?_⟩; have HO415 := Aside0.mk (Kd.R_lower ho0 (bz_ HB.out)); have HO418 := Aside0.mk (Kd.R_lower ho1 (bz_ HB.out)); have HO421 := Aside0.mk (Kd.R_lower ho2 (bz_ HB.out)); replace HB := Aside0.mk (bs_ HB.out hb); (try clear hb); (try clear ho0); (try clear ho1); (try clear ho2)) | ((with_reducible refine gate_dst (N := 3) rfl ?_); (try (refine gate_guard (by rfl) ?_; dsimp only)); refine box_event ?hg (N := 3) ?hd (cs := #[.int .i64 0, .int .i64 0, .slice none 0 0]) (t := 44) ?hr ?_; (case hd => rfl); (case hg => rfl); (case hr => first | (go_simp; done) | (go_simp; rfl)); intro gb422 hg w80 hbox hb; replace HO415 := Aside0.mk (Kd.R_below (ra_ HO415.out) hb); replace HO418 := Aside0.mk (Kd.R_below (ra_ HO418.out) hb); replace HO421 := Aside0.mk (Kd.R_below (ra_ HO421.out) hb); have BK422 := Aside0.mk (hbox); have GW422 := Aside0.mk ((by rw [hg]; exact (bz_ HB.out) : w.heap.size ≤ gb422)); have GE422 := Aside0.mk ((by rw [hg]; exact (bz_ HB.out) : w.heap.size ≤ gb422)); replace HB := Aside0.mk (bs_ HB.out hb); clear hb hbox hg) | ((with_reducible refine gate_dst (N := 4) rfl ?_); (try (refine gate_guard (by rfl) ?_; dsimp only)); refine box_event ?hg (N := 4) ?hd (cs := #[.slice none 0 0, .slice none 0 0]) (t := 70) ?hr ?_; (case hd => rfl); (case hg => rfl); (case hr => first | (go_simp; done) | (go_simp; rfl)); intro gb423 hg w81 hbox hb; replace HO415 := Aside0.mk (Kd.R_below (ra_ HO415.out) hb); replace HO418 := Aside0.mk (Kd.R_below (ra_ HO418.out) hb); replace HO421 := Aside0.mk (Kd.R_below (ra_ HO421.out) hb); have BK423 := Aside0.mk (hbox); have GW423 := Aside0.mk ((by rw [hg]; exact (bz_ HB.out) : w.heap.size ≤ gb423)); have GE423 := Aside0.mk ((by rw [hg]; exact (bz_ HB.out) : w.heap.size ≤ gb423)); replace HB := Aside0.mk (bs_ HB.out hb); have NB422_423 := Aside0.mk ((by rw [hg]; exact Nat.ne_of_lt (bl_ BK422.out) : gb422 ≠ gb423)); have NB423_422 := Aside0.mk ((by rw [hg]; exact Nat.ne_of_gt (bl_ BK422.out) : gb423 ≠ gb422)); replace BK422 := Aside0.mk (bk_ BK422.out hb); clear hb hbox hg; have hnb82 := NB422_423.out; have hnc82 := NB423_422.out; obtain ⟨hcz83_0, hcz83_1, hcz83_2, hfz83_0, hfz83_1, hfz83_2⟩ := cz3_ BK422.out; obtain ⟨Ao84, co84, eo84⟩ := Kd.R_slice HO415.out; subst eo84; obtain ⟨Ao85, co85, eo85⟩ := Kd.R_slice HO418.out; subst eo85; obtain ⟨hcz86_0, hcz86_1, hfz86_0, hfz86_1⟩ := cz2_ BK423.out; obtain ⟨Ao87, co87, eo87⟩ := Kd.R_slice HO421.out; subst eo87) | ((with_reducible refine gate_callee (f := 27) rfl ?_); refine gm_ (some 20) Try.func27 #[.agg #[.int .i64 t411, .int .i64 t412, .slice Ao84 t413.length co84], .agg #[.slice Ao85 t416.length co85]] rfl ?_; (with_reducible refine (impl_CheckTable.calls k t411 t412 _ _ t413 _ _ t416 t424 t425 t428 _ ?side1 ?side2 ?side3 ?side4 A5.out).mono ?_); (case side1 => refine (Kd.R_reads' (e := 3) (base := w.heap.size) (ok := fun k_ => (some k_ ≠ (.slice Ao85 t416.length co85 : Value).ownBlock ∧ some k_ ≠ (.slice Ao87 t419.length co87 : Value).ownBlock)) (n := t413.length) (c := co84) ?_).2.2; exact (rm_ (Kd.R_mono (Kd.R_far (p := ⟨gb423, 1, none⟩) (Kd.R_far (p := ⟨gb423, 0, none⟩) (Kd.R_far (p := ⟨gb422, 2, none⟩) (Kd.R_far (p := ⟨gb422, 1, none⟩) (Kd.R_far (p := ⟨gb422, 0, none⟩) (Kd.R_types (Kd.R_types HO415.out BK422.out (by decide)) BK423.out (by decide)) (fun _ hk => hk.1.2) (.int .i64 t411)) (fun _ hk => hk.1.2) (.int .i64 t412)) (fun _ hk => hk.1.2) (.slice Ao84 t413.length co84)) (fun _ hk => hk.2) (.slice Ao85 t416.length co85)) (fun _ hk => hk.2) (.slice Ao87 t419.length co87)) (fun _ h_ => h_.1)) (fun _ h_ => h_.1))); (case side2 => exact (Kd.R_reads' HO415.out).2.1); (case side3 => refine (Kd.R_reads' (e := 3) (base := w.heap.size) (ok := fun k_ => (some k_ ≠ (.slice Ao84 t413.length co84 : Value).ownBlock ∧ some k_ ≠ (.slice Ao87 t419.length co87 : Value).ownBlock)) (n := t416.length) (c := co85) ?_).2.2; exact (rm_ (Kd.R_mono (Kd.R_far (p := ⟨gb423, 1, none⟩) (Kd.R_far (p := ⟨gb423, 0, none⟩) (Kd.R_far (p := ⟨gb422, 2, none⟩) (Kd.R_far (p := ⟨gb422, 1, none⟩) (Kd.R_far (p := ⟨gb422, 0, none⟩) (Kd.R_types (Kd.R_types HO418.out BK422.out (by decide)) BK423.out (by decide)) (fun _ hk => hk.1.2) (.int .i64 t411)) (fun _ hk => hk.1.2) (.int .i64 t412)) (fun _ hk => hk.1.2) (.slice Ao84 t413.length co84)) (fun _ hk => hk.2) (.slice Ao85 t416.length co85)) (fun _ hk => hk.2) (.slice Ao87 t419.length co87)) (fun _ h_ => h_.1)) (fun _ h_ => h_.1))); (case side4 => exact (Kd.R_reads' HO418.out).2.1); rintro e w88 ⟨v426, v429, rfl, ho0, ho1, hb⟩; refine ⟨_, rfl, ?_⟩; have HO427 := Aside0.mk (Kd.R_lower (Kd.R_new' (Kd.R_new' (Kd.R_new' ho0 (Kd.R_lt (rm_ (Kd.R_mono (Kd.R_far (p := ⟨gb423, 1, none⟩) (Kd.R_far (p := ⟨gb423, 0, none⟩) (Kd.R_far (p := ⟨gb422, 2, none⟩) (Kd.R_far (p := ⟨gb422, 1, none⟩) (Kd.R_far (p := ⟨gb422, 0, none⟩) (Kd.R_types (Kd.R_types HO415.out BK422.out (by decide)) BK423.out (by decide)) (fun _ hk => hk.1.2) (.int .i64 t411)) (fun _ hk => hk.1.2) (.int .i64 t412)) (fun _ hk => hk.1.2) (.slice Ao84 t413.length co84)) (fun _ hk => hk.2) (.slice Ao85 t416.length co85)) (fun _ hk => hk.2) (.slice Ao87 t419.length co87)) (fun _ h_ => h_.1)) (fun _ h_ => h_.1)))) (Kd.R_lt (rm_ (Kd.R_mono (Kd.R_far (p := ⟨gb423, 1, none⟩) (Kd.R_far (p := ⟨gb423, 0, none⟩) (Kd.R_far (p := ⟨gb422, 2, none⟩) (Kd.R_far (p := ⟨gb422, 1, none⟩) (Kd.R_far (p := ⟨gb422, 0, none⟩) (Kd.R_types (Kd.R_types HO418.out BK422.out (by decide)) BK423.out (by decide)) (fun _ hk => hk.1.2) (.int .i64 t411)) (fun _ hk => hk.1.2) (.int .i64 t412)) (fun _ hk => hk.1.2) (.slice Ao84 t413.length co84)) (fun _ hk => hk.2) (.slice Ao85 t416.length co85)) (fun _ hk => hk.2) (.slice Ao87 t419.length co87)) (fun _ h_ => h_.1)) (fun _ h_ => h_.1)))) (Kd.R_lt (rm_ (Kd.R_mono (Kd.R_far (p := ⟨gb423, 1, none⟩) (Kd.R_far (p := ⟨gb423, 0, none⟩) (Kd.R_far (p := ⟨gb422, 2, none⟩) (Kd.R_far (p := ⟨gb422, 1, none⟩) (Kd.R_far (p := ⟨gb422, 0, none⟩) (Kd.R_types (Kd.R_types HO421.out BK422.out (by decide)) BK423.out (by decide)) (fun _ hk => hk.1.2) (.int .i64 t411)) (fun _ hk => hk.1.2) (.int .i64 t412)) (fun _ hk => hk.1.2) (.slice Ao84 t413.length co84)) (fun _ hk => hk.2) (.slice Ao85 t416.length co85)) (fun _ hk => hk.2) (.slice Ao87 t419.length co87)) (fun _ h_ => h_.1)) (fun _ h_ => h_.1)))) (bz_ HB.out)); have HO430 := Aside0.mk (Kd.R_lower (Kd.R_new' (Kd.R_new' (Kd.R_new' ho1 (Kd.R_lt (rm_ (Kd.R_mono (Kd.R_far (p := ⟨gb423, 1, none⟩) (Kd.R_far (p := ⟨gb423, 0, none⟩) (Kd.R_far (p := ⟨gb422, 2, none⟩) (Kd.R_far (p := ⟨gb422, 1, none⟩) (Kd.R_far (p := ⟨gb422, 0, none⟩) (Kd.R_types (Kd.R_types HO415.out BK422.out (by decide)) BK423.out (by decide)) (fun _ hk => hk.1.2) (.int .i64 t411)) (fun _ hk => hk.1.2) (.int .i64 t412)) (fun _ hk => hk.1.2) (.slice Ao84 t413.length co84)) (fun _ hk => hk.2) (.slice Ao85 t416.length co85)) (fun _ hk => hk.2) (.slice Ao87 t419.length co87)) (fun _ h_ => h_.1)) (fun _ h_ => h_.1)))) (Kd.R_lt (rm_ (Kd.R_mono (Kd.R_far (p := ⟨gb423, 1, none⟩) (Kd.R_far (p := ⟨gb423, 0, none⟩) (Kd.R_far (p := ⟨gb422, 2, none⟩) (Kd.R_far (p := ⟨gb422, 1, none⟩) (Kd.R_far (p := ⟨gb422, 0, none⟩) (Kd.R_types (Kd.R_types HO418.out BK422.out (by decide)) BK423.out (by decide)) (fun _ hk => hk.1.2) (.int .i64 t411)) (fun _ hk => hk.1.2) (.int .i64 t412)) (fun _ hk => hk.1.2) (.slice Ao84 t413.length co84)) (fun _ hk => hk.2) (.slice Ao85 t416.length co85)) (fun _ hk => hk.2) (.slice Ao87 t419.length co87)) (fun _ h_ => h_.1)) (fun _ h_ => h_.1)))) (Kd.R_lt (rm_ (Kd.R_mono (Kd.R_far (p := ⟨gb423, 1, none⟩) (Kd.R_far (p := ⟨gb423, 0, none⟩) (Kd.R_far (p := ⟨gb422, 2, none⟩) (Kd.R_far (p := ⟨gb422, 1, none⟩) (Kd.R_far (p := ⟨gb422, 0, none⟩) (Kd.R_types (Kd.R_types HO421.out BK422.out (by decide)) BK423.out (by decide)) (fun _ hk => hk.1.2) (.int .i64 t411)) (fun _ hk => hk.1.2) (.int .i64 t412)) (fun _ hk => hk.1.2) (.slice Ao84 t413.length co84)) (fun _ hk => hk.2) (.slice Ao85 t416.length co85)) (fun _ hk => hk.2) (.slice Ao87 t419.length co87)) (fun _ h_ => h_.1)) (fun _ h_ => h_.1)))) (bz_ HB.out)); replace HO415 := Aside0.mk (Kd.R_mono (Kd.R_told (Kd.R_told (Kd.R_old (rm_ (Kd.R_mono (Kd.R_far (p := ⟨gb423, 1, none⟩) (Kd.R_far (p := ⟨gb423, 0, none⟩) (Kd.R_far (p := ⟨gb422, 2, none⟩) (Kd.R_far (p := ⟨gb422, 1, none⟩) (Kd.R_far (p := ⟨gb422, 0, none⟩) (Kd.R_types (Kd.R_types HO415.out BK422.out (by decide)) BK423.out (by decide)) (fun _ hk => hk.1.2) (.int .i64 t411)) (fun _ hk => hk.1.2) (.int .i64 t412)) (fun _ hk => hk.1.2) (.slice Ao84 t413.length co84)) (fun _ hk => hk.2) (.slice Ao85 t416.length co85)) (fun _ hk => hk.2) (.slice Ao87 t419.length co87)) (fun _ h_ => h_.1)) (fun _ h_ => h_.1)) hb) (Kd.R_base ho0)) (Kd.R_base ho1)) (fun _ h_ => h_.1)); replace HO418 := Aside0.mk (Kd.R_mono (Kd.R_told (Kd.R_told (Kd.R_old (rm_ (Kd.R_mono (Kd.R_far (p := ⟨gb423, 1, none⟩) (Kd.R_far (p := ⟨gb423, 0, none⟩) (Kd.R_far (p := ⟨gb422, 2, none⟩) (Kd.R_far (p := ⟨gb422, 1, none⟩) (Kd.R_far (p := ⟨gb422, 0, none⟩) (Kd.R_types (Kd.R_types HO418.out BK422.out (by decide)) BK423.out (by decide)) (fun _ hk => hk.1.2) (.int .i64 t411)) (fun _ hk => hk.1.2) (.int .i64 t412)) (fun _ hk => hk.1.2) (.slice Ao84 t413.length co84)) (fun _ hk => hk.2) (.slice Ao85 t416.length co85)) (fun _ hk => hk.2) (.slice Ao87 t419.length co87)) (fun _ h_ => h_.1)) (fun _ h_ => h_.1)) hb) (Kd.R_base ho0)) (Kd.R_base ho1)) (fun _ h_ => h_.1)); replace HO421 := Aside0.mk (Kd.R_mono (Kd.R_told (Kd.R_told (Kd.R_old (rm_ (Kd.R_mono (Kd.R_far (p := ⟨gb423, 1, none⟩) (Kd.R_far (p := ⟨gb423, 0, none⟩) (Kd.R_far (p := ⟨gb422, 2, none⟩) (Kd.R_far (p := ⟨gb422, 1, none⟩) (Kd.R_far (p := ⟨gb422, 0, none⟩) (Kd.R_types (Kd.R_types HO421.out BK422.out (by decide)) BK423.out (by decide)) (fun _ hk => hk.1.2) (.int .i64 t411)) (fun _ hk => hk.1.2) (.int .i64 t412)) (fun _ hk => hk.1.2) (.slice Ao84 t413.length co84)) (fun _ hk => hk.2) (.slice Ao85 t416.length co85)) (fun _ hk => hk.2) (.slice Ao87 t419.length co87)) (fun _ h_ => h_.1)) (fun _ h_ => h_.1)) hb) (Kd.R_base ho0)) (Kd.R_base ho1)) (fun _ h_ => h_.1)); replace BK422 := Aside0.mk (blk_below (g := gb422) (o := .cells #[.int .i64 t411, .int .i64 t412, .slice Ao84 t413.length co84] 44 (0, 0)) (by (with_reducible repeat (first | refine blk_drewN ?_ _ | refine blk_drew ?_ | refine blk_alloc ?_ _)); refine blk_far ?_ NB422_423.out _; (with_reducible repeat (first | refine blk_drewN ?_ _ | refine blk_drew ?_ | refine blk_alloc ?_ _)); refine blk_far ?_ NB422_423.out _; (with_reducible repeat (first | refine blk_drewN ?_ _ | refine blk_drew ?_ | refine blk_alloc ?_ _)); refine blk_put (cs := #[.int .i64 t411, .int .i64 t412, .slice none 0 0]) ?_ 2 _ rfl; (with_reducible repeat (first | refine blk_drewN ?_ _ | refine blk_drew ?_ | refine blk_alloc ?_ _)); refine blk_put (cs := #[.int .i64 t411, .int .i64 0, .slice none 0 0]) ?_ 1 _ rfl; (with_reducible repeat (first | refine blk_drewN ?_ _ | refine blk_drew ?_ | refine blk_alloc ?_ _)); refine blk_put (cs := #[.int .i64 0, .int .i64 0, .slice none 0 0]) ?_ 0 _ rfl; (with_reducible repeat (first | refine blk_drewN ?_ _ | refine blk_drew ?_ | refine blk_alloc ?_ _)); exact BK422.out) hb); replace BK423 := Aside0.mk (blk_below (g := gb423) (o := .cells #[.slice Ao85 t416.length co85, .slice Ao87 t419.length co87] 70 (0, 0)) (by (with_reducible repeat (first | refine blk_drewN ?_ _ | refine blk_drew ?_ | refine blk_alloc ?_ _)); refine blk_put (cs := #[.slice Ao85 t416.length co85, .slice none 0 0]) ?_ 1 _ rfl; (with_reducible repeat (first | refine blk_drewN ?_ _ | refine blk_drew ?_ | refine blk_alloc ?_ _)); refine blk_put (cs := #[.slice none 0 0, .slice none 0 0]) ?_ 0 _ rfl; (with_reducible repeat (first | refine blk_drewN ?_ _ | refine blk_drew ?_ | refine blk_alloc ?_ _)); refine blk_far ?_ NB423_422.out _; (with_reducible repeat (first | refine blk_drewN ?_ _ | refine blk_drew ?_ | refine blk_alloc ?_ _)); refine blk_far ?_ NB423_422.out _; (with_reducible repeat (first | refine blk_drewN ?_ _ | refine blk_drew ?_ | refine blk_alloc ?_ _)); refine blk_far ?_ NB423_422.out _; (with_reducible repeat (first | refine blk_drewN ?_ _ | refine blk_drew ?_ | refine blk_alloc ?_ _)); exact BK423.out) hb); replace HB := Aside0.mk (bs_ HB.out hb); (try clear hb); (try clear ho0); (try clear ho1)) | ((with_reducible refine gate_dst (N := 5) rfl ?_); (try (refine gate_guard (by rfl) ?_; dsimp only)); refine box_event ?hg (N := 5) ?hd (cs := #[.int .i64 0, .slice none 0 0, .slice none 0 0]) (t := 40) ?hr ?_; (case hd => rfl); (case hg => rfl); (case hr => first | (go_simp; done) | (go_simp; rfl)); intro gb431 hg w89 hbox hb; replace HO415 := Aside0.mk (Kd.R_below (ra_ HO415.out) hb); replace HO418 := Aside0.mk (Kd.R_below (ra_ HO418.out) hb); replace HO421 := Aside0.mk (Kd.R_below (ra_ HO421.out) hb); replace HO427 := Aside0.mk (Kd.R_below (ra_ HO427.out) hb); replace HO430 := Aside0.mk (Kd.R_below (ra_ HO430.out) hb); have BK431 := Aside0.mk (hbox); have GW431 := Aside0.mk ((by rw [hg]; exact (bz_ HB.out) : w.heap.size ≤ gb431)); have GE431 := Aside0.mk ((by rw [hg]; exact (bz_ HB.out) : w.heap.size ≤ gb431)); replace HB := Aside0.mk (bs_ HB.out hb); have NB422_431 := Aside0.mk ((by rw [hg]; exact Nat.ne_of_lt (bl_ BK422.out) : gb422 ≠ gb431)); have NB431_422 := Aside0.mk ((by rw [hg]; exact Nat.ne_of_gt (bl_ BK422.out) : gb431 ≠ gb422)); replace BK422 := Aside0.mk (bk_ BK422.out hb); have NB423_431 := Aside0.mk ((by rw [hg]; exact Nat.ne_of_lt (bl_ BK423.out) : gb423 ≠ gb431)); have NB431_423 := Aside0.mk ((by rw [hg]; exact Nat.ne_of_gt (bl_ BK423.out) : gb431 ≠ gb423)); replace BK423 := Aside0.mk (bk_ BK423.out hb); clear hb hbox hg; have hnb90 := NB431_422.out; have hnc90 := NB422_431.out; have hnb91 := NB431_423.out; have hnc91 := NB423_431.out; obtain ⟨hcz92_0, hcz92_1, hcz92_2, hfz92_0, hfz92_1, hfz92_2⟩ := cz3_ BK431.out; obtain ⟨Ao93, co93, eo93⟩ := Kd.R_slice HO427.out; subst eo93; obtain ⟨Ao94, co94, eo94⟩ := Kd.R_slice HO430.out; subst eo94; obtain ⟨hcz95_0, hcz95_1, hcz95_2, hfz95_0, hfz95_1, hfz95_2⟩ := cz3_ BK422.out; obtain ⟨hcz96_0, hcz96_1, hfz96_0, hfz96_1⟩ := cz2_ BK423.out) | ((with_reducible refine gate_callee (f := 27) rfl ?_); refine gm_ (some 24) Try.func27 #[.agg #[.int .i64 t411, .int .i64 t412, .slice Ao84 t413.length co84], .agg #[.slice Ao87 t419.length co87]] rfl ?_; (with_reducible refine (impl_CheckTable.calls k t411 t412 _ _ t413 _ _ t419 t432 t433 t436 _ ?side1 ?side2 ?side3 ?side4 A6.out).mono ?_); (case side1 => refine (Kd.R_reads' (e := 3) (base := w.heap.size) (ok := fun k_ => (((some k_ ≠ (.slice Ao85 t416.length co85 : Value).ownBlock ∧ some k_ ≠ (.slice Ao87 t419.length co87 : Value).ownBlock) ∧ some k_ ≠ (.slice Ao93 t425.length co93 : Value).ownBlock) ∧ some k_ ≠ (.slice Ao94 t428.length co94 : Value).ownBlock)) (n := t413.length) (c := co84) ?_).2.2; exact (rm_ (Kd.R_types HO415.out BK431.out (by decide)) (fun _ h_ => h_.1))); (case side2 => exact (Kd.R_reads' HO415.out).2.1); (case side3 => refine (Kd.R_reads' (e := 3) (base := w.heap.size) (ok := fun k_ => (((some k_ ≠ (.slice Ao84 t413.length co84 : Value).ownBlock ∧ some k_ ≠ (.slice Ao85 t416.length co85 : Value).ownBlock) ∧ some k_ ≠ (.slice Ao93 t425.length co93 : Value).ownBlock) ∧ some k_ ≠ (.slice Ao94 t428.length co94 : Value).ownBlock)) (n := t419.length) (c := co87) ?_).2.2; exact (rm_ (Kd.R_types HO421.out BK431.out (by decide)) (fun _ h_ => h_.1))); (case side4 => exact (Kd.R_reads' HO421.out).2.1); rintro e w97 ⟨v434, v437, rfl, ho0, ho1, hb⟩; refine ⟨_, rfl, ?_⟩; have HO435 := Aside0.mk (Kd.R_lower (Kd.R_new' (Kd.R_new' (Kd.R_new' (Kd.R_new' (Kd.R_new' ho0 (Kd.R_lt (rm_ (Kd.R_types HO415.out BK431.out (by decide)) (fun _ h_ => h_.1)))) (Kd.R_lt (rm_ (Kd.R_types HO418.out BK431.out (by decide)) (fun _ h_ => h_.1)))) (Kd.R_lt (rm_ (Kd.R_types HO421.out BK431.out (by decide)) (fun _ h_ => h_.1)))) (Kd.R_lt (rm_ (Kd.R_types HO427.out BK431.out (by decide)) (fun _ h_ => h_.1)))) (Kd.R_lt (rm_ (Kd.R_types HO430.out BK431.out (by decide)) (fun _ h_ => h_.1)))) (bz_ HB.out)); have HO438 := Aside0.mk (Kd.R_lower (Kd.R_new' (Kd.R_new' (Kd.R_new' (Kd.R_new' (Kd.R_new' ho1 (Kd.R_lt (rm_ (Kd.R_types HO415.out BK431.out (by decide)) (fun _ h_ => h_.1)))) (Kd.R_lt (rm_ (Kd.R_types HO418.out BK431.out (by decide)) (fun _ h_ => h_.1)))) (Kd.R_lt (rm_ (Kd.R_types HO421.out BK431.out (by decide)) (fun _ h_ => h_.1)))) (Kd.R_lt (rm_ (Kd.R_types HO427.out BK431.out (by decide)) (fun _ h_ => h_.1)))) (Kd.R_lt (rm_ (Kd.R_types HO430.out BK431.out (by decide)) (fun _ h_ => h_.1)))) (bz_ HB.out)); replace HO415 := Aside0.mk (Kd.R_mono (Kd.R_told (Kd.R_told (Kd.R_old (rm_ (Kd.R_types HO415.out BK431.out (by decide)) (fun _ h_ => h_.1)) hb) (Kd.R_base ho0)) (Kd.R_base ho1)) (fun _ h_ => h_.1)); replace HO418 := Aside0.mk (Kd.R_mono (Kd.R_told (Kd.R_told (Kd.R_old (rm_ (Kd.R_types HO418.out BK431.out (by decide)) (fun _ h_ => h_.1)) hb) (Kd.R_base ho0)) (Kd.R_base ho1)) (fun _ h_ => h_.1)); replace HO421 := Aside0.mk (Kd.R_mono (Kd.R_told (Kd.R_told (Kd.R_old (rm_ (Kd.R_types HO421.out BK431.out (by decide)) (fun _ h_ => h_.1)) hb) (Kd.R_base ho0)) (Kd.R_base ho1)) (fun _ h_ => h_.1)); replace HO427 := Aside0.mk (Kd.R_mono (Kd.R_told (Kd.R_told (Kd.R_old (rm_ (Kd.R_types HO427.out BK431.out (by decide)) (fun _ h_ => h_.1)) hb) (Kd.R_base ho0)) (Kd.R_base ho1)) (fun _ h_ => h_.1)); replace HO430 := Aside0.mk (Kd.R_mono (Kd.R_told (Kd.R_told (Kd.R_old (rm_ (Kd.R_types HO430.out BK431.out (by decide)) (fun _ h_ => h_.1)) hb) (Kd.R_base ho0)) (Kd.R_base ho1)) (fun _ h_ => h_.1)); replace BK422 := Aside0.mk (blk_below (bf_ BK422.out) hb); replace BK423 := Aside0.mk (blk_below (bf_ BK423.out) hb); replace BK431 := Aside0.mk (blk_below (g := gb431) (o := .cells #[.int .i64 t424, .slice Ao93 t425.length co93, .slice Ao94 t428.length co94] 40 (0, 0)) (by (with_reducible repeat (first | refine blk_drewN ?_ _ | refine blk_drew ?_ | refine blk_alloc ?_ _)); refine blk_put (cs := #[.int .i64 t424, .slice Ao93 t425.length co93, .slice none 0 0]) ?_ 2 _ rfl; (with_reducible repeat (first | refine blk_drewN ?_ _ | refine blk_drew ?_ | refine blk_alloc ?_ _)); refine blk_put (cs := #[.int .i64 t424, .slice none 0 0, .slice none 0 0]) ?_ 1 _ rfl; (with_reducible repeat (first | refine blk_drewN ?_ _ | refine blk_drew ?_ | refine blk_alloc ?_ _)); refine blk_put (cs := #[.int .i64 0, .slice none 0 0, .slice none 0 0]) ?_ 0 _ rfl; (with_reducible repeat (first | refine blk_drewN ?_ _ | refine blk_drew ?_ | refine blk_alloc ?_ _)); exact BK431.out) hb); replace HB := Aside0.mk (bs_ HB.out hb); (try clear hb); (try clear ho0); (try clear ho1)) | ((with_reducible refine gate_dst (N := 6) rfl ?_); (try (refine gate_guard (by rfl) ?_; dsimp only)); refine box_event ?hg (N := 6) ?hd (cs := #[.int .i64 0, .slice none 0 0, .slice none 0 0]) (t := 40) ?hr ?_; (case hd => rfl); (case hg => rfl); (case hr => first | (go_simp; done) | (go_simp; rfl)); intro gb439 hg w98 hbox hb; replace HO415 := Aside0.mk (Kd.R_below (ra_ HO415.out) hb); replace HO418 := Aside0.mk (Kd.R_below (ra_ HO418.out) hb); replace HO421 := Aside0.mk (Kd.R_below (ra_ HO421.out) hb); replace HO427 := Aside0.mk (Kd.R_below (ra_ HO427.out) hb); replace HO430 := Aside0.mk (Kd.R_below (ra_ HO430.out) hb); replace HO435 := Aside0.mk (Kd.R_below (ra_ HO435.out) hb); replace HO438 := Aside0.mk (Kd.R_below (ra_ HO438.out) hb); have BK439 := Aside0.mk (hbox); have GW439 := Aside0.mk ((by rw [hg]; exact (bz_ HB.out) : w.heap.size ≤ gb439)); have GE439 := Aside0.mk ((by rw [hg]; exact (bz_ HB.out) : w.heap.size ≤ gb439)); replace HB := Aside0.mk (bs_ HB.out hb); have NB422_439 := Aside0.mk ((by rw [hg]; exact Nat.ne_of_lt (bl_ BK422.out) : gb422 ≠ gb439)); have NB439_422 := Aside0.mk ((by rw [hg]; exact Nat.ne_of_gt (bl_ BK422.out) : gb439 ≠ gb422)); replace BK422 := Aside0.mk (bk_ BK422.out hb); have NB423_439 := Aside0.mk ((by rw [hg]; exact Nat.ne_of_lt (bl_ BK423.out) : gb423 ≠ gb439)); have NB439_423 := Aside0.mk ((by rw [hg]; exact Nat.ne_of_gt (bl_ BK423.out) : gb439 ≠ gb423)); replace BK423 := Aside0.mk (bk_ BK423.out hb); have NB431_439 := Aside0.mk ((by rw [hg]; exact Nat.ne_of_lt (bl_ BK431.out) : gb431 ≠ gb439)); have NB439_431 := Aside0.mk ((by rw [hg]; exact Nat.ne_of_gt (bl_ BK431.out) : gb439 ≠ gb431)); replace BK431 := Aside0.mk (bk_ BK431.out hb); clear hb hbox hg; have hnb99 := NB439_422.out; have hnc99 := NB422_439.out; have hnb100 := NB439_423.out; have hnc100 := NB423_439.out; have hnb101 := NB439_431.out; have hnc101 := NB431_439.out; obtain ⟨hcz102_0, hcz102_1, hcz102_2, hfz102_0, hfz102_1, hfz102_2⟩ := cz3_ BK439.out; obtain ⟨Ao103, co103, eo103⟩ := Kd.R_slice HO435.out; subst eo103; obtain ⟨Ao104, co104, eo104⟩ := Kd.R_slice HO438.out; subst eo104; obtain ⟨hcz105_0, hcz105_1, hcz105_2, hfz105_0, hfz105_1, hfz105_2⟩ := cz3_ BK422.out; obtain ⟨hcz106_0, hcz106_1, hfz106_0, hfz106_1⟩ := cz2_ BK423.out) | ((with_reducible refine gate_callee (f := 56) rfl ?_); refine gm_ (some 27) Try.func56 #[.agg #[.int .i64 t411, .int .i64 t412, .slice Ao84 t413.length co84], .agg #[.slice Ao85 t416.length co85, .slice Ao87 t419.length co87]] rfl ?_; (with_reducible refine (impl_CheckClasses.calls k t411 t412 _ _ t413 _ _ t416 _ _ t419 t440 t441 t444 _ ?side1 ?side2 ?side3 ?side4 ?side5 ?side6 A7.out).mono ?_); (case side1 => refine (Kd.R_reads' (e := 3) (base := w.heap.size) (ok := fun k_ => (((((some k_ ≠ (.slice Ao85 t416.length co85 : Value).ownBlock ∧ some k_ ≠ (.slice Ao87 t419.length co87 : Value).ownBlock) ∧ some k_ ≠ (.slice Ao93 t425.length co93 : Value).ownBlock) ∧ some k_ ≠ (.slice Ao94 t428.length co94 : Value).ownBlock) ∧ some k_ ≠ (.slice Ao103 t433.length co103 : Value).ownBlock) ∧ some k_ ≠ (.slice Ao104 t436.length co104 : Value).ownBlock)) (n := t413.length) (c := co84) ?_).2.2; exact (rm_ (Kd.R_types HO415.out BK439.out (by decide)) (fun _ h_ => h_.1))); (case side2 => exact (Kd.R_reads' HO415.out).2.1); (case side3 => refine (Kd.R_reads' (e := 3) (base := w.heap.size) (ok := fun k_ => (((((some k_ ≠ (.slice Ao84 t413.length co84 : Value).ownBlock ∧ some k_ ≠ (.slice Ao87 t419.length co87 : Value).ownBlock) ∧ some k_ ≠ (.slice Ao93 t425.length co93 : Value).ownBlock) ∧ some k_ ≠ (.slice Ao94 t428.length co94 : Value).ownBlock) ∧ some k_ ≠ (.slice Ao103 t433.length co103 : Value).ownBlock) ∧ some k_ ≠ (.slice Ao104 t436.length co104 : Value).ownBlock)) (n := t416.length) (c := co85) ?_).2.2; exact (rm_ (Kd.R_types HO418.out BK439.out (by decide)) (fun _ h_ => h_.1))); (case side4 => exact (Kd.R_reads' HO418.out).2.1); (case side5 => refine (Kd.R_reads' (e := 3) (base := w.heap.size) (ok := fun k_ => (((((some k_ ≠ (.slice Ao84 t413.length co84 : Value).ownBlock ∧ some k_ ≠ (.slice Ao85 t416.length co85 : Value).ownBlock) ∧ some k_ ≠ (.slice Ao93 t425.length co93 : Value).ownBlock) ∧ some k_ ≠ (.slice Ao94 t428.length co94 : Value).ownBlock) ∧ some k_ ≠ (.slice Ao103 t433.length co103 : Value).ownBlock) ∧ some k_ ≠ (.slice Ao104 t436.length co104 : Value).ownBlock)) (n := t419.length) (c := co87) ?_).2.2; exact (rm_ (Kd.R_types HO421.out BK439.out (by decide)) (fun _ h_ => h_.1))); (case side6 => exact (Kd.R_reads' HO421.out).2.1); rintro e w107 ⟨v442, v445, rfl, ho0, ho1, hb⟩; refine ⟨_, rfl, ?_⟩; have HO443 := Aside0.mk (Kd.R_lower (Kd.R_new' (Kd.R_new' (Kd.R_new' (Kd.R_new' (Kd.R_new' (Kd.R_new' (Kd.R_new' ho0 (Kd.R_lt (rm_ (Kd.R_types HO415.out BK439.out (by decide)) (fun _ h_ => h_.1)))) (Kd.R_lt (rm_ (Kd.R_types HO418.out BK439.out (by decide)) (fun _ h_ => h_.1)))) (Kd.R_lt (rm_ (Kd.R_types HO421.out BK439.out (by decide)) (fun _ h_ => h_.1)))) (Kd.R_lt (rm_ (Kd.R_types HO427.out BK439.out (by decide)) (fun _ h_ => h_.1)))) (Kd.R_lt (rm_ (Kd.R_types HO430.out BK439.out (by decide)) (fun _ h_ => h_.1)))) (Kd.R_lt (rm_ (Kd.R_types HO435.out BK439.out (by decide)) (fun _ h_ => h_.1)))) (Kd.R_lt (rm_ (Kd.R_types HO438.out BK439.out (by decide)) (fun _ h_ => h_.1)))) (bz_ HB.out)); have HO446 := Aside0.mk (Kd.R_lower (Kd.R_new' (Kd.R_new' (Kd.R_new' (Kd.R_new' (Kd.R_new' (Kd.R_new' (Kd.R_new' ho1 (Kd.R_lt (rm_ (Kd.R_types HO415.out BK439.out (by decide)) (fun _ h_ => h_.1)))) (Kd.R_lt (rm_ (Kd.R_types HO418.out BK439.out (by decide)) (fun _ h_ => h_.1)))) (Kd.R_lt (rm_ (Kd.R_types HO421.out BK439.out (by decide)) (fun _ h_ => h_.1)))) (Kd.R_lt (rm_ (Kd.R_types HO427.out BK439.out (by decide)) (fun _ h_ => h_.1)))) (Kd.R_lt (rm_ (Kd.R_types HO430.out BK439.out (by decide)) (fun _ h_ => h_.1)))) (Kd.R_lt (rm_ (Kd.R_types HO435.out BK439.out (by decide)) (fun _ h_ => h_.1)))) (Kd.R_lt (rm_ (Kd.R_types HO438.out BK439.out (by decide)) (fun _ h_ => h_.1)))) (bz_ HB.out)); replace HO415 := Aside0.mk (Kd.R_mono (Kd.R_told (Kd.R_told (Kd.R_old (rm_ (Kd.R_types HO415.out BK439.out (by decide)) (fun _ h_ => h_.1)) hb) (Kd.R_base ho0)) (Kd.R_base ho1)) (fun _ h_ => h_.1)); replace HO418 := Aside0.mk (Kd.R_mono (Kd.R_told (Kd.R_told (Kd.R_old (rm_ (Kd.R_types HO418.out BK439.out (by decide)) (fun _ h_ => h_.1)) hb) (Kd.R_base ho0)) (Kd.R_base ho1)) (fun _ h_ => h_.1)); replace HO421 := Aside0.mk (Kd.R_mono (Kd.R_told (Kd.R_told (Kd.R_old (rm_ (Kd.R_types HO421.out BK439.out (by decide)) (fun _ h_ => h_.1)) hb) (Kd.R_base ho0)) (Kd.R_base ho1)) (fun _ h_ => h_.1)); replace HO427 := Aside0.mk (Kd.R_mono (Kd.R_told (Kd.R_told (Kd.R_old (rm_ (Kd.R_types HO427.out BK439.out (by decide)) (fun _ h_ => h_.1)) hb) (Kd.R_base ho0)) (Kd.R_base ho1)) (fun _ h_ => h_.1)); replace HO430 := Aside0.mk (Kd.R_mono (Kd.R_told (Kd.R_told (Kd.R_old (rm_ (Kd.R_types HO430.out BK439.out (by decide)) (fun _ h_ => h_.1)) hb) (Kd.R_base ho0)) (Kd.R_base ho1)) (fun _ h_ => h_.1)); replace HO435 := Aside0.mk (Kd.R_mono (Kd.R_told (Kd.R_told (Kd.R_old (rm_ (Kd.R_types HO435.out BK439.out (by decide)) (fun _ h_ => h_.1)) hb) (Kd.R_base ho0)) (Kd.R_base ho1)) (fun _ h_ => h_.1)); replace HO438 := Aside0.mk (Kd.R_mono (Kd.R_told (Kd.R_told (Kd.R_old (rm_ (Kd.R_types HO438.out BK439.out (by decide)) (fun _ h_ => h_.1)) hb) (Kd.R_base ho0)) (Kd.R_base ho1)) (fun _ h_ => h_.1)); replace BK422 := Aside0.mk (blk_below (bf_ BK422.out) hb); replace BK423 := Aside0.mk (blk_below (bf_ BK423.out) hb); replace BK431 := Aside0.mk (blk_below (bf_ BK431.out) hb); replace BK439 := Aside0.mk (blk_below (g := gb439) (o := .cells #[.int .i64 t432, .slice Ao103 t433.length co103, .slice Ao104 t436.length co104] 40 (0, 0)) (by (with_reducible repeat (first | refine blk_drewN ?_ _ | refine blk_drew ?_ | refine blk_alloc ?_ _)); refine blk_put (cs := #[.int .i64 t432, .slice Ao103 t433.length co103, .slice none 0 0]) ?_ 2 _ rfl; (with_reducible repeat (first | refine blk_drewN ?_ _ | refine blk_drew ?_ | refine blk_alloc ?_ _)); refine blk_put (cs := #[.int .i64 t432, .slice none 0 0, .slice none 0 0]) ?_ 1 _ rfl; (with_reducible repeat (first | refine blk_drewN ?_ _ | refine blk_drew ?_ | refine blk_alloc ?_ _)); refine blk_put (cs := #[.int .i64 0, .slice none 0 0, .slice none 0 0]) ?_ 0 _ rfl; (with_reducible repeat (first | refine blk_drewN ?_ _ | refine blk_drew ?_ | refine blk_alloc ?_ _)); exact BK439.out) hb); replace HB := Aside0.mk (bs_ HB.out hb); (try clear hb); (try clear ho0); (try clear ho1)) | ((with_reducible refine gate_dst (N := 7) rfl ?_); (try (refine gate_guard (by rfl) ?_; dsimp only)); refine box_event ?hg (N := 7) ?hd (cs := #[.int .i64 0, .slice none 0 0, .slice none 0 0]) (t := 40) ?hr ?_; (case hd => rfl); (case hg => rfl); (case hr => first | (go_simp; done) | (go_simp; rfl)); intro gb447 hg w108 hbox hb; replace HO415 := Aside0.mk (Kd.R_below (ra_ HO415.out) hb); replace HO418 := Aside0.mk (Kd.R_below (ra_ HO418.out) hb); replace HO421 := Aside0.mk (Kd.R_below (ra_ HO421.out) hb); replace HO427 := Aside0.mk (Kd.R_below (ra_ HO427.out) hb); replace HO430 := Aside0.mk (Kd.R_below (ra_ HO430.out) hb); replace HO435 := Aside0.mk (Kd.R_below (ra_ HO435.out) hb); replace HO438 := Aside0.mk (Kd.R_below (ra_ HO438.out) hb); replace HO443 := Aside0.mk (Kd.R_below (ra_ HO443.out) hb); replace HO446 := Aside0.mk (Kd.R_below (ra_ HO446.out) hb); have BK447 := Aside0.mk (hbox); have GW447 := Aside0.mk ((by rw [hg]; exact (bz_ HB.out) : w.heap.size ≤ gb447)); have GE447 := Aside0.mk ((by rw [hg]; exact (bz_ HB.out) : w.heap.size ≤ gb447)); replace HB := Aside0.mk (bs_ HB.out hb); have NB422_447 := Aside0.mk ((by rw [hg]; exact Nat.ne_of_lt (bl_ BK422.out) : gb422 ≠ gb447)); have NB447_422 := Aside0.mk ((by rw [hg]; exact Nat.ne_of_gt (bl_ BK422.out) : gb447 ≠ gb422)); replace BK422 := Aside0.mk (bk_ BK422.out hb); have NB423_447 := Aside0.mk ((by rw [hg]; exact Nat.ne_of_lt (bl_ BK423.out) : gb423 ≠ gb447)); have NB447_423 := Aside0.mk ((by rw [hg]; exact Nat.ne_of_gt (bl_ BK423.out) : gb447 ≠ gb423)); replace BK423 := Aside0.mk (bk_ BK423.out hb); have NB431_447 := Aside0.mk ((by rw [hg]; exact Nat.ne_of_lt (bl_ BK431.out) : gb431 ≠ gb447)); have NB447_431 := Aside0.mk ((by rw [hg]; exact Nat.ne_of_gt (bl_ BK431.out) : gb447 ≠ gb431)); replace BK431 := Aside0.mk (bk_ BK431.out hb); have NB439_447 := Aside0.mk ((by rw [hg]; exact Nat.ne_of_lt (bl_ BK439.out) : gb439 ≠ gb447)); have NB447_439 := Aside0.mk ((by rw [hg]; exact Nat.ne_of_gt (bl_ BK439.out) : gb447 ≠ gb439)); replace BK439 := Aside0.mk (bk_ BK439.out hb); clear hb hbox hg; have hnb109 := NB447_422.out; have hnc109 := NB422_447.out; have hnb110 := NB447_423.out; have hnc110 := NB423_447.out; have hnb111 := NB447_431.out; have hnc111 := NB431_447.out; have hnb112 := NB447_439.out; have hnc112 := NB439_447.out; obtain ⟨hcz113_0, hcz113_1, hcz113_2, hfz113_0, hfz113_1, hfz113_2⟩ := cz3_ BK447.out; obtain ⟨Ao114, co114, eo114⟩ := Kd.R_slice HO443.out; subst eo114; obtain ⟨Ao115, co115, eo115⟩ := Kd.R_slice HO446.out; subst eo115; obtain ⟨hcz116_0, hcz116_1, hfz116_0, hfz116_1⟩ := cz2_ BK423.out) | ((with_reducible refine gate_callee (f := 58) rfl ?_); refine gm_ (some 30) Try.func58 #[.agg #[.slice Ao85 t416.length co85, .slice Ao87 t419.length co87], .int .i64 1] rfl ?_; (with_reducible refine (impl_TableFor.calls _ _ t416 _ _ t419 1 t448 true _ ?side1 ?side2 ?side3 ?side4 A8.out).mono ?_); (case side1 => refine (Kd.R_reads' (e := 3) (base := w.heap.size) (ok := fun k_ => (((((((some k_ ≠ (.slice Ao84 t413.length co84 : Value).ownBlock ∧ some k_ ≠ (.slice Ao87 t419.length co87 : Value).ownBlock) ∧ some k_ ≠ (.slice Ao93 t425.length co93 : Value).ownBlock) ∧ some k_ ≠ (.slice Ao94 t428.length co94 : Value).ownBlock) ∧ some k_ ≠ (.slice Ao103 t433.length co103 : Value).ownBlock) ∧ some k_ ≠ (.slice Ao104 t436.length co104 : Value).ownBlock) ∧ some k_ ≠ (.slice Ao114 t441.length co114 : Value).ownBlock) ∧ some k_ ≠ (.slice Ao115 t444.length co115 : Value).ownBlock)) (n := t416.length) (c := co85) ?_).2.2; exact (rm_ (Kd.R_types HO418.out BK447.out (by decide)) (fun _ h_ => h_.1))); (case side2 => exact (Kd.R_reads' HO418.out).2.1); (case side3 => refine (Kd.R_reads' (e := 3) (base := w.heap.size) (ok := fun k_ => (((((((some k_ ≠ (.slice Ao84 t413.length co84 : Value).ownBlock ∧ some k_ ≠ (.slice Ao85 t416.length co85 : Value).ownBlock) ∧ some k_ ≠ (.slice Ao93 t425.length co93 : Value).ownBlock) ∧ some k_ ≠ (.slice Ao94 t428.length co94 : Value).ownBlock) ∧ some k_ ≠ (.slice Ao103 t433.length co103 : Value).ownBlock) ∧ some k_ ≠ (.slice Ao104 t436.length co104 : Value).ownBlock) ∧ some k_ ≠ (.slice Ao114 t441.length co114 : Value).ownBlock) ∧ some k_ ≠ (.slice Ao115 t444.length co115 : Value).ownBlock)) (n := t419.length) (c := co87) ?_).2.2; exact (rm_ (Kd.R_types HO421.out BK447.out (by decide)) (fun _ h_ => h_.1))); (case side4 => exact (Kd.R_reads' HO421.out).2.1); rintro e w117 ⟨v449, rfl, ho0, hb⟩; refine ⟨_, rfl, ?_⟩; have HO450 := Aside0.mk (Kd.R_lower (Kd.R_new' (Kd.R_new' (Kd.R_new' (Kd.R_new' (Kd.R_new' (Kd.R_new' (Kd.R_new' (Kd.R_new' (Kd.R_new' ho0 (Kd.R_lt (rm_ (Kd.R_types HO415.out BK447.out (by decide)) (fun _ h_ => h_.1)))) (Kd.R_lt (rm_ (Kd.R_types HO418.out BK447.out (by decide)) (fun _ h_ => h_.1)))) (Kd.R_lt (rm_ (Kd.R_types HO421.out BK447.out (by decide)) (fun _ h_ => h_.1)))) (Kd.R_lt (rm_ (Kd.R_types HO427.out BK447.out (by decide)) (fun _ h_ => h_.1)))) (Kd.R_lt (rm_ (Kd.R_types HO430.out BK447.out (by decide)) (fun _ h_ => h_.1)))) (Kd.R_lt (rm_ (Kd.R_types HO435.out BK447.out (by decide)) (fun _ h_ => h_.1)))) (Kd.R_lt (rm_ (Kd.R_types HO438.out BK447.out (by decide)) (fun _ h_ => h_.1)))) (Kd.R_lt (rm_ (Kd.R_types HO443.out BK447.out (by decide)) (fun _ h_ => h_.1)))) (Kd.R_lt (rm_ (Kd.R_types HO446.out BK447.out (by decide)) (fun _ h_ => h_.1)))) (bz_ HB.out)); replace HO415 := Aside0.mk (Kd.R_elder' (rm_ (Kd.R_types HO415.out BK447.out (by decide)) (fun _ h_ => h_.1)) (Kd.R_base ho0) hb); replace HO418 := Aside0.mk (Kd.R_elder' (rm_ (Kd.R_types HO418.out BK447.out (by decide)) (fun _ h_ => h_.1)) (Kd.R_base ho0) hb); replace HO421 := Aside0.mk (Kd.R_elder' (rm_ (Kd.R_types HO421.out BK447.out (by decide)) (fun _ h_ => h_.1)) (Kd.R_base ho0) hb); replace HO427 := Aside0.mk (Kd.R_elder' (rm_ (Kd.R_types HO427.out BK447.out (by decide)) (fun _ h_ => h_.1)) (Kd.R_base ho0) hb); replace HO430 := Aside0.mk (Kd.R_elder' (rm_ (Kd.R_types HO430.out BK447.out (by decide)) (fun _ h_ => h_.1)) (Kd.R_base ho0) hb); replace HO435 := Aside0.mk (Kd.R_elder' (rm_ (Kd.R_types HO435.out BK447.out (by decide)) (fun _ h_ => h_.1)) (Kd.R_base ho0) hb); replace HO438 := Aside0.mk (Kd.R_elder' (rm_ (Kd.R_types HO438.out BK447.out (by decide)) (fun _ h_ => h_.1)) (Kd.R_base ho0) hb); replace HO443 := Aside0.mk (Kd.R_elder' (rm_ (Kd.R_types HO443.out BK447.out (by decide)) (fun _ h_ => h_.1)) (Kd.R_base ho0) hb); replace HO446 := Aside0.mk (Kd.R_elder' (rm_ (Kd.R_types HO446.out BK447.out (by decide)) (fun _ h_ => h_.1)) (Kd.R_base ho0) hb); replace BK422 := Aside0.mk (blk_below (bf_ BK422.out) hb); replace BK423 := Aside0.mk (blk_below (bf_ BK423.out) hb); replace BK431 := Aside0.mk (blk_below (bf_ BK431.out) hb); replace BK439 := Aside0.mk (blk_below (bf_ BK439.out) hb); replace BK447 := Aside0.mk (blk_below (g := gb447) (o := .cells #[.int .i64 t440, .slice Ao114 t441.length co114, .slice Ao115 t444.length co115] 40 (0, 0)) (by (with_reducible repeat (first | refine blk_drewN ?_ _ | refine blk_drew ?_ | refine blk_alloc ?_ _)); refine blk_put (cs := #[.int .i64 t440, .slice Ao114 t441.length co114, .slice none 0 0]) ?_ 2 _ rfl; (with_reducible repeat (first | refine blk_drewN ?_ _ | refine blk_drew ?_ | refine blk_alloc ?_ _)); refine blk_put (cs := #[.int .i64 t440, .slice none 0 0, .slice none 0 0]) ?_ 1 _ rfl; (with_reducible repeat (first | refine blk_drewN ?_ _ | refine blk_drew ?_ | refine blk_alloc ?_ _)); refine blk_put (cs := #[.int .i64 0, .slice none 0 0, .slice none 0 0]) ?_ 0 _ rfl; (with_reducible repeat (first | refine blk_drewN ?_ _ | refine blk_drew ?_ | refine blk_alloc ?_ _)); exact BK447.out) hb); replace HB := Aside0.mk (bs_ HB.out hb); (try clear hb); (try clear ho0)) | ((with_reducible refine gate_dst (N := 8) rfl ?_); (try (refine gate_guard (by rfl) ?_; dsimp only)); refine box_event ?hg (N := 8) ?hd (cs := #[.slice none 0 0]) (t := 46) ?hr ?_; (case hd => rfl); (case hg => rfl); (case hr => first | (go_simp; done) | (go_simp; rfl)); intro gb452 hg w118 hbox hb; replace HO415 := Aside0.mk (Kd.R_below (ra_ HO415.out) hb); replace HO418 := Aside0.mk (Kd.R_below (ra_ HO418.out) hb); replace HO421 := Aside0.mk (Kd.R_below (ra_ HO421.out) hb); replace HO427 := Aside0.mk (Kd.R_below (ra_ HO427.out) hb); replace HO430 := Aside0.mk (Kd.R_below (ra_ HO430.out) hb); replace HO435 := Aside0.mk (Kd.R_below (ra_ HO435.out) hb); replace HO438 := Aside0.mk (Kd.R_below (ra_ HO438.out) hb); replace HO443 := Aside0.mk (Kd.R_below (ra_ HO443.out) hb); replace HO446 := Aside0.mk (Kd.R_below (ra_ HO446.out) hb); replace HO450 := Aside0.mk (Kd.R_below (ra_ HO450.out) hb); have BK452 := Aside0.mk (hbox); have GW452 := Aside0.mk ((by rw [hg]; exact (bz_ HB.out) : w.heap.size ≤ gb452)); have GE452 := Aside0.mk ((by rw [hg]; exact (bz_ HB.out) : w.heap.size ≤ gb452)); replace HB := Aside0.mk (bs_ HB.out hb); have NB422_452 := Aside0.mk ((by rw [hg]; exact Nat.ne_of_lt (bl_ BK422.out) : gb422 ≠ gb452)); have NB452_422 := Aside0.mk ((by rw [hg]; exact Nat.ne_of_gt (bl_ BK422.out) : gb452 ≠ gb422)); replace BK422 := Aside0.mk (bk_ BK422.out hb); have NB423_452 := Aside0.mk ((by rw [hg]; exact Nat.ne_of_lt (bl_ BK423.out) : gb423 ≠ gb452)); have NB452_423 := Aside0.mk ((by rw [hg]; exact Nat.ne_of_gt (bl_ BK423.out) : gb452 ≠ gb423)); replace BK423 := Aside0.mk (bk_ BK423.out hb); have NB431_452 := Aside0.mk ((by rw [hg]; exact Nat.ne_of_lt (bl_ BK431.out) : gb431 ≠ gb452)); have NB452_431 := Aside0.mk ((by rw [hg]; exact Nat.ne_of_gt (bl_ BK431.out) : gb452 ≠ gb431)); replace BK431 := Aside0.mk (bk_ BK431.out hb); have NB439_452 := Aside0.mk ((by rw [hg]; exact Nat.ne_of_lt (bl_ BK439.out) : gb439 ≠ gb452)); have NB452_439 := Aside0.mk ((by rw [hg]; exact Nat.ne_of_gt (bl_ BK439.out) : gb452 ≠ gb439)); replace BK439 := Aside0.mk (bk_ BK439.out hb); have NB447_452 := Aside0.mk ((by rw [hg]; exact Nat.ne_of_lt (bl_ BK447.out) : gb447 ≠ gb452)); have NB452_447 := Aside0.mk ((by rw [hg]; exact Nat.ne_of_gt (bl_ BK447.out) : gb452 ≠ gb447)); replace BK447 := Aside0.mk (bk_ BK447.out hb); clear hb hbox hg; obtain ⟨Ao119, co119, eo119⟩ := Kd.R_slice HO450.out; subst eo119; have hnb120 := NB452_422.out; have hnc120 := NB422_452.out; have hnb121 := NB452_423.out; have hnc121 := NB423_452.out; have hnb122 := NB452_431.out; have hnc122 := NB431_452.out; have hnb123 := NB452_439.out; have hnc123 := NB439_452.out; have hnb124 := NB452_447.out; have hnc124 := NB447_452.out; obtain ⟨hcz125_0, hfz125_0⟩ := cz1_ BK452.out))
      have n0_ : Aside0 (Kd.R (Kd.int .i64) 3 (w118.setCell ⟨gb452, 0, none⟩ (.slice Ao119 t448.length co119)) w.heap.size (fun k_ => some k_ ≠ (.slice Ao85 t416.length co85 : Value).ownBlock ∧ some k_ ≠ (.slice Ao87 t419.length co87 : Value).ownBlock ∧ some k_ ≠ (.slice Ao93 t425.length co93 : Value).ownBlock ∧ some k_ ≠ (.slice Ao94 t428.length co94 : Value).ownBlock ∧ some k_ ≠ (.slice Ao103 t433.length co103 : Value).ownBlock ∧ some k_ ≠ (.slice Ao104 t436.length co104 : Value).ownBlock ∧ some k_ ≠ (.slice Ao114 t441.length co114 : Value).ownBlock ∧ some k_ ≠ (.slice Ao115 t444.length co115 : Value).ownBlock ∧ some k_ ≠ (.slice Ao119 t448.length co119 : Value).ownBlock) (.slice Ao84 t413.length co84) t413) := ⟨rm_ (Kd.R_types HO415.out BK452.out (by decide)) (fun _ hk => ⟨hk.1.1.1.1.1.1.1.1.1, ⟨hk.1.1.1.1.1.1.1.1.2, ⟨hk.1.1.1.1.1.1.1.2, ⟨hk.1.1.1.1.1.1.2, ⟨hk.1.1.1.1.1.2, ⟨hk.1.1.1.1.2, ⟨hk.1.1.1.2, ⟨hk.1.1.2, hk.1.2⟩⟩⟩⟩⟩⟩⟩⟩)⟩
      have n1_ : Aside0 (Kd.R (Kd.int .i64) 3 (w118.setCell ⟨gb452, 0, none⟩ (.slice Ao119 t448.length co119)) w.heap.size (fun k_ => some k_ ≠ (.slice Ao84 t413.length co84 : Value).ownBlock ∧ some k_ ≠ (.slice Ao87 t419.length co87 : Value).ownBlock ∧ some k_ ≠ (.slice Ao93 t425.length co93 : Value).ownBlock ∧ some k_ ≠ (.slice Ao94 t428.length co94 : Value).ownBlock ∧ some k_ ≠ (.slice Ao103 t433.length co103 : Value).ownBlock ∧ some k_ ≠ (.slice Ao104 t436.length co104 : Value).ownBlock ∧ some k_ ≠ (.slice Ao114 t441.length co114 : Value).ownBlock ∧ some k_ ≠ (.slice Ao115 t444.length co115 : Value).ownBlock ∧ some k_ ≠ (.slice Ao119 t448.length co119 : Value).ownBlock) (.slice Ao85 t416.length co85) t416) := ⟨rm_ (Kd.R_types HO418.out BK452.out (by decide)) (fun _ hk => ⟨hk.1.1.1.1.1.1.1.1.1, ⟨hk.1.1.1.1.1.1.1.1.2, ⟨hk.1.1.1.1.1.1.1.2, ⟨hk.1.1.1.1.1.1.2, ⟨hk.1.1.1.1.1.2, ⟨hk.1.1.1.1.2, ⟨hk.1.1.1.2, ⟨hk.1.1.2, hk.1.2⟩⟩⟩⟩⟩⟩⟩⟩)⟩
      have n2_ : Aside0 (Kd.R (Kd.int .i64) 3 (w118.setCell ⟨gb452, 0, none⟩ (.slice Ao119 t448.length co119)) w.heap.size (fun k_ => some k_ ≠ (.slice Ao84 t413.length co84 : Value).ownBlock ∧ some k_ ≠ (.slice Ao85 t416.length co85 : Value).ownBlock ∧ some k_ ≠ (.slice Ao93 t425.length co93 : Value).ownBlock ∧ some k_ ≠ (.slice Ao94 t428.length co94 : Value).ownBlock ∧ some k_ ≠ (.slice Ao103 t433.length co103 : Value).ownBlock ∧ some k_ ≠ (.slice Ao104 t436.length co104 : Value).ownBlock ∧ some k_ ≠ (.slice Ao114 t441.length co114 : Value).ownBlock ∧ some k_ ≠ (.slice Ao115 t444.length co115 : Value).ownBlock ∧ some k_ ≠ (.slice Ao119 t448.length co119 : Value).ownBlock) (.slice Ao87 t419.length co87) t419) := ⟨rm_ (Kd.R_types HO421.out BK452.out (by decide)) (fun _ hk => ⟨hk.1.1.1.1.1.1.1.1.1, ⟨hk.1.1.1.1.1.1.1.1.2, ⟨hk.1.1.1.1.1.1.1.2, ⟨hk.1.1.1.1.1.1.2, ⟨hk.1.1.1.1.1.2, ⟨hk.1.1.1.1.2, ⟨hk.1.1.1.2, ⟨hk.1.1.2, hk.1.2⟩⟩⟩⟩⟩⟩⟩⟩)⟩
      have n3_ : Aside0 (Kd.R (Kd.int .i64) 3 (w118.setCell ⟨gb452, 0, none⟩ (.slice Ao119 t448.length co119)) w.heap.size (fun k_ => some k_ ≠ (.slice Ao84 t413.length co84 : Value).ownBlock ∧ some k_ ≠ (.slice Ao85 t416.length co85 : Value).ownBlock ∧ some k_ ≠ (.slice Ao87 t419.length co87 : Value).ownBlock ∧ some k_ ≠ (.slice Ao94 t428.length co94 : Value).ownBlock ∧ some k_ ≠ (.slice Ao103 t433.length co103 : Value).ownBlock ∧ some k_ ≠ (.slice Ao104 t436.length co104 : Value).ownBlock ∧ some k_ ≠ (.slice Ao114 t441.length co114 : Value).ownBlock ∧ some k_ ≠ (.slice Ao115 t444.length co115 : Value).ownBlock ∧ some k_ ≠ (.slice Ao119 t448.length co119 : Value).ownBlock) (.slice Ao93 t425.length co93) t425) := ⟨rm_ (Kd.R_types HO427.out BK452.out (by decide)) (fun _ hk => ⟨hk.1.1.1.1.1.1.1.1.2, ⟨hk.1.1.1.1.1.1.1.2, ⟨hk.1.1.1.1.1.1.2, ⟨hk.1.1.1.1.1.1.1.1.1, ⟨hk.1.1.1.1.1.2, ⟨hk.1.1.1.1.2, ⟨hk.1.1.1.2, ⟨hk.1.1.2, hk.1.2⟩⟩⟩⟩⟩⟩⟩⟩)⟩
      have n4_ : Aside0 (Kd.R (Kd.int .i64) 3 (w118.setCell ⟨gb452, 0, none⟩ (.slice Ao119 t448.length co119)) w.heap.size (fun k_ => some k_ ≠ (.slice Ao84 t413.length co84 : Value).ownBlock ∧ some k_ ≠ (.slice Ao85 t416.length co85 : Value).ownBlock ∧ some k_ ≠ (.slice Ao87 t419.length co87 : Value).ownBlock ∧ some k_ ≠ (.slice Ao93 t425.length co93 : Value).ownBlock ∧ some k_ ≠ (.slice Ao103 t433.length co103 : Value).ownBlock ∧ some k_ ≠ (.slice Ao104 t436.length co104 : Value).ownBlock ∧ some k_ ≠ (.slice Ao114 t441.length co114 : Value).ownBlock ∧ some k_ ≠ (.slice Ao115 t444.length co115 : Value).ownBlock ∧ some k_ ≠ (.slice Ao119 t448.length co119 : Value).ownBlock) (.slice Ao94 t428.length co94) t428) := ⟨rm_ (Kd.R_types HO430.out BK452.out (by decide)) (fun _ hk => ⟨hk.1.1.1.1.1.1.1.1.2, ⟨hk.1.1.1.1.1.1.1.2, ⟨hk.1.1.1.1.1.1.2, ⟨hk.1.1.1.1.1.1.1.1.1, ⟨hk.1.1.1.1.1.2, ⟨hk.1.1.1.1.2, ⟨hk.1.1.1.2, ⟨hk.1.1.2, hk.1.2⟩⟩⟩⟩⟩⟩⟩⟩)⟩
      have n5_ : Aside0 (Kd.R (Kd.int .i64) 3 (w118.setCell ⟨gb452, 0, none⟩ (.slice Ao119 t448.length co119)) w.heap.size (fun k_ => some k_ ≠ (.slice Ao84 t413.length co84 : Value).ownBlock ∧ some k_ ≠ (.slice Ao85 t416.length co85 : Value).ownBlock ∧ some k_ ≠ (.slice Ao87 t419.length co87 : Value).ownBlock ∧ some k_ ≠ (.slice Ao93 t425.length co93 : Value).ownBlock ∧ some k_ ≠ (.slice Ao94 t428.length co94 : Value).ownBlock ∧ some k_ ≠ (.slice Ao104 t436.length co104 : Value).ownBlock ∧ some k_ ≠ (.slice Ao114 t441.length co114 : Value).ownBlock ∧ some k_ ≠ (.slice Ao115 t444.length co115 : Value).ownBlock ∧ some k_ ≠ (.slice Ao119 t448.length co119 : Value).ownBlock) (.slice Ao103 t433.length co103) t433) := ⟨rm_ (Kd.R_types HO435.out BK452.out (by decide)) (fun _ hk => ⟨hk.1.1.1.1.1.1.1.1.2, ⟨hk.1.1.1.1.1.1.1.2, ⟨hk.1.1.1.1.1.1.2, ⟨hk.1.1.1.1.1.2, ⟨hk.1.1.1.1.2, ⟨hk.1.1.1.1.1.1.1.1.1, ⟨hk.1.1.1.2, ⟨hk.1.1.2, hk.1.2⟩⟩⟩⟩⟩⟩⟩⟩)⟩
      have n6_ : Aside0 (Kd.R (Kd.int .i64) 3 (w118.setCell ⟨gb452, 0, none⟩ (.slice Ao119 t448.length co119)) w.heap.size (fun k_ => some k_ ≠ (.slice Ao84 t413.length co84 : Value).ownBlock ∧ some k_ ≠ (.slice Ao85 t416.length co85 : Value).ownBlock ∧ some k_ ≠ (.slice Ao87 t419.length co87 : Value).ownBlock ∧ some k_ ≠ (.slice Ao93 t425.length co93 : Value).ownBlock ∧ some k_ ≠ (.slice Ao94 t428.length co94 : Value).ownBlock ∧ some k_ ≠ (.slice Ao103 t433.length co103 : Value).ownBlock ∧ some k_ ≠ (.slice Ao114 t441.length co114 : Value).ownBlock ∧ some k_ ≠ (.slice Ao115 t444.length co115 : Value).ownBlock ∧ some k_ ≠ (.slice Ao119 t448.length co119 : Value).ownBlock) (.slice Ao104 t436.length co104) t436) := ⟨rm_ (Kd.R_types HO438.out BK452.out (by decide)) (fun _ hk => ⟨hk.1.1.1.1.1.1.1.1.2, ⟨hk.1.1.1.1.1.1.1.2, ⟨hk.1.1.1.1.1.1.2, ⟨hk.1.1.1.1.1.2, ⟨hk.1.1.1.1.2, ⟨hk.1.1.1.1.1.1.1.1.1, ⟨hk.1.1.1.2, ⟨hk.1.1.2, hk.1.2⟩⟩⟩⟩⟩⟩⟩⟩)⟩
      have n7_ : Aside0 (Kd.R (Kd.int .i64) 3 (w118.setCell ⟨gb452, 0, none⟩ (.slice Ao119 t448.length co119)) w.heap.size (fun k_ => some k_ ≠ (.slice Ao84 t413.length co84 : Value).ownBlock ∧ some k_ ≠ (.slice Ao85 t416.length co85 : Value).ownBlock ∧ some k_ ≠ (.slice Ao87 t419.length co87 : Value).ownBlock ∧ some k_ ≠ (.slice Ao93 t425.length co93 : Value).ownBlock ∧ some k_ ≠ (.slice Ao94 t428.length co94 : Value).ownBlock ∧ some k_ ≠ (.slice Ao103 t433.length co103 : Value).ownBlock ∧ some k_ ≠ (.slice Ao104 t436.length co104 : Value).ownBlock ∧ some k_ ≠ (.slice Ao115 t444.length co115 : Value).ownBlock ∧ some k_ ≠ (.slice Ao119 t448.length co119 : Value).ownBlock) (.slice Ao114 t441.length co114) t441) := ⟨rm_ (Kd.R_types HO443.out BK452.out (by decide)) (fun _ hk => ⟨hk.1.1.1.1.1.1.1.1.2, ⟨hk.1.1.1.1.1.1.1.2, ⟨hk.1.1.1.1.1.1.2, ⟨hk.1.1.1.1.1.2, ⟨hk.1.1.1.1.2, ⟨hk.1.1.1.2, ⟨hk.1.1.2, ⟨hk.1.1.1.1.1.1.1.1.1, hk.1.2⟩⟩⟩⟩⟩⟩⟩⟩)⟩
      have n8_ : Aside0 (Kd.R (Kd.int .i64) 3 (w118.setCell ⟨gb452, 0, none⟩ (.slice Ao119 t448.length co119)) w.heap.size (fun k_ => some k_ ≠ (.slice Ao84 t413.length co84 : Value).ownBlock ∧ some k_ ≠ (.slice Ao85 t416.length co85 : Value).ownBlock ∧ some k_ ≠ (.slice Ao87 t419.length co87 : Value).ownBlock ∧ some k_ ≠ (.slice Ao93 t425.length co93 : Value).ownBlock ∧ some k_ ≠ (.slice Ao94 t428.length co94 : Value).ownBlock ∧ some k_ ≠ (.slice Ao103 t433.length co103 : Value).ownBlock ∧ some k_ ≠ (.slice Ao104 t436.length co104 : Value).ownBlock ∧ some k_ ≠ (.slice Ao114 t441.length co114 : Value).ownBlock ∧ some k_ ≠ (.slice Ao119 t448.length co119 : Value).ownBlock) (.slice Ao115 t444.length co115) t444) := ⟨rm_ (Kd.R_types HO446.out BK452.out (by decide)) (fun _ hk => ⟨hk.1.1.1.1.1.1.1.1.2, ⟨hk.1.1.1.1.1.1.1.2, ⟨hk.1.1.1.1.1.1.2, ⟨hk.1.1.1.1.1.2, ⟨hk.1.1.1.1.2, ⟨hk.1.1.1.2, ⟨hk.1.1.2, ⟨hk.1.1.1.1.1.1.1.1.1, hk.1.2⟩⟩⟩⟩⟩⟩⟩⟩)⟩
      have n9_ : Aside0 (Kd.R (Kd.int .i64) 3 (w118.setCell ⟨gb452, 0, none⟩ (.slice Ao119 t448.length co119)) w.heap.size (fun k_ => some k_ ≠ (.slice Ao84 t413.length co84 : Value).ownBlock ∧ some k_ ≠ (.slice Ao85 t416.length co85 : Value).ownBlock ∧ some k_ ≠ (.slice Ao87 t419.length co87 : Value).ownBlock ∧ some k_ ≠ (.slice Ao93 t425.length co93 : Value).ownBlock ∧ some k_ ≠ (.slice Ao94 t428.length co94 : Value).ownBlock ∧ some k_ ≠ (.slice Ao103 t433.length co103 : Value).ownBlock ∧ some k_ ≠ (.slice Ao104 t436.length co104 : Value).ownBlock ∧ some k_ ≠ (.slice Ao114 t441.length co114 : Value).ownBlock ∧ some k_ ≠ (.slice Ao115 t444.length co115 : Value).ownBlock) (.slice Ao119 t448.length co119) t448) := ⟨rm_ (Kd.R_types HO450.out BK452.out (by decide)) (fun _ hk => ⟨hk.1.1.1.1.1.1.1.1.1.2, ⟨hk.1.1.1.1.1.1.1.1.2, ⟨hk.1.1.1.1.1.1.1.2, ⟨hk.1.1.1.1.1.1.2, ⟨hk.1.1.1.1.1.2, ⟨hk.1.1.1.1.2, ⟨hk.1.1.1.2, ⟨hk.1.1.2, hk.1.2⟩⟩⟩⟩⟩⟩⟩⟩)⟩
      have n10_ : Aside0 ((w118.setCell ⟨gb452, 0, none⟩ (.slice Ao119 t448.length co119)).heap[gb422]? = some (.cells #[.int .i64 t411, .int .i64 t412, .slice Ao84 t413.length co84] 44 (0, 0))) := ⟨by (with_reducible repeat (first | refine blk_drewN ?_ _ | refine blk_drew ?_ | refine blk_alloc ?_ _)); refine blk_far ?_ NB422_452.out _; (with_reducible repeat (first | refine blk_drewN ?_ _ | refine blk_drew ?_ | refine blk_alloc ?_ _)); exact BK422.out⟩
      have n11_ : Aside0 ((w118.setCell ⟨gb452, 0, none⟩ (.slice Ao119 t448.length co119)).heap[gb423]? = some (.cells #[.slice Ao85 t416.length co85, .slice Ao87 t419.length co87] 70 (0, 0))) := ⟨by (with_reducible repeat (first | refine blk_drewN ?_ _ | refine blk_drew ?_ | refine blk_alloc ?_ _)); refine blk_far ?_ NB423_452.out _; (with_reducible repeat (first | refine blk_drewN ?_ _ | refine blk_drew ?_ | refine blk_alloc ?_ _)); exact BK423.out⟩
      have n12_ : Aside0 ((w118.setCell ⟨gb452, 0, none⟩ (.slice Ao119 t448.length co119)).heap[gb431]? = some (.cells #[.int .i64 t424, .slice Ao93 t425.length co93, .slice Ao94 t428.length co94] 40 (0, 0))) := ⟨by (with_reducible repeat (first | refine blk_drewN ?_ _ | refine blk_drew ?_ | refine blk_alloc ?_ _)); refine blk_far ?_ NB431_452.out _; (with_reducible repeat (first | refine blk_drewN ?_ _ | refine blk_drew ?_ | refine blk_alloc ?_ _)); exact BK431.out⟩
      have n13_ : Aside0 ((w118.setCell ⟨gb452, 0, none⟩ (.slice Ao119 t448.length co119)).heap[gb439]? = some (.cells #[.int .i64 t432, .slice Ao103 t433.length co103, .slice Ao104 t436.length co104] 40 (0, 0))) := ⟨by (with_reducible repeat (first | refine blk_drewN ?_ _ | refine blk_drew ?_ | refine blk_alloc ?_ _)); refine blk_far ?_ NB439_452.out _; (with_reducible repeat (first | refine blk_drewN ?_ _ | refine blk_drew ?_ | refine blk_alloc ?_ _)); exact BK439.out⟩
      have n14_ : Aside0 ((w118.setCell ⟨gb452, 0, none⟩ (.slice Ao119 t448.length co119)).heap[gb447]? = some (.cells #[.int .i64 t440, .slice Ao114 t441.length co114, .slice Ao115 t444.length co115] 40 (0, 0))) := ⟨by (with_reducible repeat (first | refine blk_drewN ?_ _ | refine blk_drew ?_ | refine blk_alloc ?_ _)); refine blk_far ?_ NB447_452.out _; (with_reducible repeat (first | refine blk_drewN ?_ _ | refine blk_drew ?_ | refine blk_alloc ?_ _)); exact BK447.out⟩
      have n15_ : Aside0 ((w118.setCell ⟨gb452, 0, none⟩ (.slice Ao119 t448.length co119)).heap[gb452]? = some (.cells #[.slice Ao119 t448.length co119] 46 (0, 0))) := ⟨by (with_reducible repeat (first | refine blk_drewN ?_ _ | refine blk_drew ?_ | refine blk_alloc ?_ _)); refine blk_put (cs := #[.slice none 0 0]) ?_ 0 _ rfl; (with_reducible repeat (first | refine blk_drewN ?_ _ | refine blk_drew ?_ | refine blk_alloc ?_ _)); exact BK452.out⟩
      have n16_ : Aside0 (Below w.heap.size w (w118.setCell ⟨gb452, 0, none⟩ (.slice Ao119 t448.length co119))) := ⟨bb_ HB.out⟩
      (try clear HO415)
      (try clear HO418)
      (try clear HO421)
      (try clear HO427)
      (try clear HO430)
      (try clear HO435)
      (try clear HO438)
      (try clear HO443)
      (try clear HO446)
      (try clear HO450)
      (try clear BK422)
      (try clear BK423)
      (try clear BK431)
      (try clear BK439)
      (try clear BK447)
      (try clear BK452)
      (try clear HB)
      generalize (w118.setCell ⟨gb452, 0, none⟩ (.slice Ao119 t448.length co119)) = w126 at n0_ n1_ n2_ n3_ n4_ n5_ n6_ n7_ n8_ n9_ n10_ n11_ n12_ n13_ n14_ n15_ n16_ ⊢
      have HO415 := n0_
      have HO418 := n1_
      have HO421 := n2_
      have HO427 := n3_
      have HO430 := n4_
      have HO435 := n5_
      have HO438 := n6_
      have HO443 := n7_
      have HO446 := n8_
      have HO450 := n9_
      have BK422 := n10_
      have BK423 := n11_
      have BK431 := n12_
      have BK439 := n13_
      have BK447 := n14_
      have BK452 := n15_
      have HB := n16_
      clear n0_ n1_ n2_ n3_ n4_ n5_ n6_ n7_ n8_ n9_ n10_ n11_ n12_ n13_ n14_ n15_ n16_
      have n0_ := Aside0.mk (Kd.R_drew HO415.out)
      have n1_ := Aside0.mk (Kd.R_drew HO418.out)
      have n2_ := Aside0.mk (Kd.R_drew HO421.out)
      have n3_ := Aside0.mk (Kd.R_drew HO427.out)
      have n4_ := Aside0.mk (Kd.R_drew HO430.out)
      have n5_ := Aside0.mk (Kd.R_drew HO435.out)
      have n6_ := Aside0.mk (Kd.R_drew HO438.out)
      have n7_ := Aside0.mk (Kd.R_drew HO443.out)
      have n8_ := Aside0.mk (Kd.R_drew HO446.out)
      have n9_ := Aside0.mk (Kd.R_drew HO450.out)
      have n10_ := Aside0.mk (blk_drew BK422.out)
      have n11_ := Aside0.mk (blk_drew BK423.out)
      have n12_ := Aside0.mk (blk_drew BK431.out)
      have n13_ := Aside0.mk (blk_drew BK439.out)
      have n14_ := Aside0.mk (blk_drew BK447.out)
      have n15_ := Aside0.mk (blk_drew BK452.out)
      have n16_ := Aside0.mk (below_drew1 HB.out)
      clear HO415
      clear HO418
      clear HO421
      clear HO427
      clear HO430
      clear HO435
      clear HO438
      clear HO443
      clear HO446
      clear HO450
      clear BK422
      clear BK423
      clear BK431
      clear BK439
      clear BK447
      clear BK452
      clear HB
      have HO415 := n0_
      have HO418 := n1_
      have HO421 := n2_
      have HO427 := n3_
      have HO430 := n4_
      have HO435 := n5_
      have HO438 := n6_
      have HO443 := n7_
      have HO446 := n8_
      have HO450 := n9_
      have BK422 := n10_
      have BK423 := n11_
      have BK431 := n12_
      have BK439 := n13_
      have BK447 := n14_
      have BK452 := n15_
      have HB := n16_
      clear n0_ n1_ n2_ n3_ n4_ n5_ n6_ n7_ n8_ n9_ n10_ n11_ n12_ n13_ n14_ n15_ n16_
      refine start_ (n := 42) (S := fun w' => w'.cell? ⟨gb447, 0, none⟩ = some (.int .i64 t440) ∧ w'.cell? ⟨gb447, 1, none⟩ = some (.slice Ao114 t441.length co114) ∧ w'.cell? ⟨gb447, 2, none⟩ = some (.slice Ao115 t444.length co115) ∧ w'.cell? ⟨gb431, 0, none⟩ = some (.int .i64 t424) ∧ w'.cell? ⟨gb431, 1, none⟩ = some (.slice Ao93 t425.length co93) ∧ w'.cell? ⟨gb431, 2, none⟩ = some (.slice Ao94 t428.length co94) ∧ w'.cell? ⟨gb452, 0, none⟩ = some (.slice Ao119 t448.length co119) ∧ w'.cell? ⟨gb423, 0, none⟩ = some (.slice Ao85 t416.length co85) ∧ w'.cell? ⟨gb423, 1, none⟩ = some (.slice Ao87 t419.length co87) ∧ w'.cell? ⟨gb422, 0, none⟩ = some (.int .i64 t411) ∧ w'.cell? ⟨gb422, 1, none⟩ = some (.int .i64 t412) ∧ w'.cell? ⟨gb422, 2, none⟩ = some (.slice Ao84 t413.length co84)) (ds := []) #[false, false, false, false, false, false, false, false, false, false, false, false, false, false, false, false, false, false, false, false, false, false, false, false, false, false, false, false, false, false, false, false, false, false, false, false, false, false, false, false, false, false] (by kernel_rfl) rfl rfl ⟨(blk_cell BK447.out 0).trans rfl, (blk_cell BK447.out 1).trans rfl, (blk_cell BK447.out 2).trans rfl, (blk_cell BK431.out 0).trans rfl, (blk_cell BK431.out 1).trans rfl, (blk_cell BK431.out 2).trans rfl, (blk_cell BK452.out 0).trans rfl, (blk_cell BK423.out 0).trans rfl, (blk_cell BK423.out 1).trans rfl, (blk_cell BK422.out 0).trans rfl, (blk_cell BK422.out 1).trans rfl, (blk_cell BK422.out 2).trans rfl⟩ (fun hHeld => ?_); refine with_tabW laws_FnClasses.tab8 laws_FnClasses.bits8 (fun HT_ HW_ => ?_)
      generalize w126.drew = w127 at HO415 HO418 HO421 HO427 HO430 HO435 HO438 HO443 HO446 HO450 BK422 BK423 BK431 BK439 BK447 BK452 HB hHeld ⊢
      refine pu_ 0 33 (bt_ 42 1) HT_ ?_
      refine pu_ 3 36 (bt_ 42 9) HT_ ?_
      refine take_ (i := 1) (N := some 34) (v := ?_) (a' := ?_) (bt_ 42 11) rfl rfl (take_ofW HT_.out HW_.out (by kernel_rfl)) (fun _ _ _ h => h) (Or.inl ⟨by rfl, ?_⟩) hHeld ?_ ?_
      rotate_left
      ·rintro w' ⟨s0, s1, s2, s3, s4, s5, s6, s7, s8, s9, s10, s11⟩
       go_simp
       with_reducible rfl
      rotate_left
      ·simp only [Act.put, List.setIfInBounds_toArray, List.set_cons_zero, List.set_cons_succ, i64_w, i32_w]
       rfl
      refine pu_ 2 35 (bt_ 42 15) HT_ ?_
      refine take_ (i := 4) (N := some 37) (v := ?_) (a' := ?_) (bt_ 42 31) rfl rfl (take_ofW HT_.out HW_.out (by kernel_rfl)) (fun _ _ _ h => h) (Or.inl ⟨by rfl, ?_⟩) hHeld ?_ ?_
      rotate_left
      ·rintro w' ⟨s0, s1, s2, s3, s4, s5, s6, s7, s8, s9, s10, s11⟩
       go_simp
       with_reducible rfl
      rotate_left
      ·simp only [Act.put, List.setIfInBounds_toArray, List.set_cons_zero, List.set_cons_succ, i64_w, i32_w]
       rfl
      refine pu_ 5 38 (bt_ 42 63) HT_ ?_
      refine pu_ 6 39 (bt_ 42 127) HT_ ?_
      refine un_ 7 40 (bt_ 42 255) HT_ ?_
      refine un_ 8 41 (bt_ 42 511) HT_ ?_
      refine un_ 9 42 (bt_ 42 1023) HT_ ?_
      refine pu_ 10 43 (bt_ 42 2047) HT_ ?_
      refine pu_ 11 44 (bt_ 42 4095) HT_ ?_
      refine pu_ 12 45 (bt_ 42 8191) HT_ ?_
      refine pu_ 13 46 (bt_ 42 16383) HT_ ?_
      refine pu_ 14 47 (bt_ 42 32767) HT_ ?_
      refine pu_ 15 48 (bt_ 42 65535) HT_ ?_
      refine pu_ 16 49 (bt_ 42 131071) HT_ ?_
      refine pu_ 18 51 (bt_ 42 393215) HT_ ?_
      refine pu_ 19 52 (bt_ 42 917503) HT_ ?_
      refine take_ (i := 17) (N := some 50) (v := ?_) (a' := ?_) (bt_ 42 1048575) rfl rfl (take_ofW HT_.out HW_.out (by kernel_rfl)) (fun _ _ _ h => h) (Or.inl ⟨by rfl, ?_⟩) hHeld ?_ ?_
      rotate_left
      ·rintro w' ⟨s0, s1, s2, s3, s4, s5, s6, s7, s8, s9, s10, s11⟩
       go_simp
       with_reducible rfl
      rotate_left
      ·simp only [Act.put, List.setIfInBounds_toArray, List.set_cons_zero, List.set_cons_succ, i64_w, i32_w]
       rfl
      refine take_ (i := 20) (N := some 53) (v := ?_) (a' := ?_) (bt_ 42 2097151) rfl rfl (take_ofW HT_.out HW_.out (by kernel_rfl)) (fun _ _ _ h => h) (Or.inl ⟨by rfl, ?_⟩) hHeld ?_ ?_
      rotate_left
      ·rintro w' ⟨s0, s1, s2, s3, s4, s5, s6, s7, s8, s9, s10, s11⟩
       go_simp
       with_reducible rfl
      rotate_left
      ·simp only [Act.put, List.setIfInBounds_toArray, List.set_cons_zero, List.set_cons_succ, i64_w, i32_w]
       rfl
      refine one_ (i := 21) (N := some 54) (bt_ 42 4194303) rfl rfl (one_of HT_.out (by kernel_rfl)) (by decide) (fun K hK => ?_)
      refine goes_ Try.func59 (by kernel_rfl) rfl #[.slice Ao119 t448.length co119, .slice Ao87 t419.length co87] (by rfl) rfl rfl (by (try simp only [List.map_toArray, List.map_cons, List.map_nil]); first | done | rfl | (simp only [List.length_drop, List.length_take]; rfl)) ?_
      with_reducible refine (laws_sameInts.calls k _ _ t448 _ _ t419 true _ ?side1 ?side2 ?side3 ?side4 A74.out).mono ?_
      (case side1 => repeat (first | exact (Kd.R_reads' HO450.out).2.2 | (with_reducible refine Kd.C_alloc ?_ _) | (with_reducible refine Kd.C_drewN ?_ _) | (with_reducible refine Kd.C_drew ?_)))
      (case side2 => exact (Kd.R_reads' HO450.out).2.1)
      (case side3 => repeat (first | exact (Kd.R_reads' HO421.out).2.2 | (with_reducible refine Kd.C_alloc ?_ _) | (with_reducible refine Kd.C_drewN ?_ _) | (with_reducible refine Kd.C_drew ?_)))
      (case side4 => exact (Kd.R_reads' HO421.out).2.1)
      rintro e w' ⟨rfl, ⟨nd, rfl⟩⟩
      refine ⟨_, rfl, ?_⟩
      refine hK.out _ _ ⟨(blk_cell BK447.out 0).trans rfl, (blk_cell BK447.out 1).trans rfl, (blk_cell BK447.out 2).trans rfl, (blk_cell BK431.out 0).trans rfl, (blk_cell BK431.out 1).trans rfl, (blk_cell BK431.out 2).trans rfl, (blk_cell BK452.out 0).trans rfl, (blk_cell BK423.out 0).trans rfl, (blk_cell BK423.out 1).trans rfl, (blk_cell BK422.out 0).trans rfl, (blk_cell BK422.out 1).trans rfl, (blk_cell BK422.out 2).trans rfl⟩ (fun hHeld => ?_)
      clear hK K
      refine norm_ (a' := ?_) ?_ ?_
      rotate_left
      ·show Act.put _ (some 54) _ = _
       simp only [Act.put, List.setIfInBounds_toArray, List.set_cons_zero, List.set_cons_succ, i64_w, i32_w]
       rfl
      refine pu_ 22 55 (bt_ 42 8388607) HT_ ?_
      refine pu_ 23 56 (bt_ 42 16777215) HT_ ?_
      refine pu_ 29 62 (bt_ 42 553648127) HT_ ?_
      refine pu_ 34 67 (bt_ 42 17733517311) HT_ ?_
      refine take_ (i := 24) (N := some 57) (v := ?_) (a' := ?_) (bt_ 42 17750294527) rfl rfl (take_ofW HT_.out HW_.out (by kernel_rfl)) (fun _ _ _ h => h) (Or.inl ⟨by rfl, ?_⟩) hHeld ?_ ?_
      rotate_left
      ·rintro w' ⟨s0, s1, s2, s3, s4, s5, s6, s7, s8, s9, s10, s11⟩
       go_simp
       with_reducible rfl
      rotate_left
      ·simp only [Act.put, List.setIfInBounds_toArray, List.set_cons_zero, List.set_cons_succ, i64_w, i32_w]
       rfl
      refine take_ (i := 25) (N := some 58) (v := ?_) (a' := ?_) (bt_ 42 17783848959) rfl rfl (take_ofW HT_.out HW_.out (by kernel_rfl)) (fun _ _ _ h => h) (Or.inl ⟨by rfl, ?_⟩) hHeld ?_ ?_
      rotate_left
      ·rintro w' ⟨s0, s1, s2, s3, s4, s5, s6, s7, s8, s9, s10, s11⟩
       go_simp
       with_reducible rfl
      rotate_left
      ·simp only [Act.put, List.setIfInBounds_toArray, List.set_cons_zero, List.set_cons_succ, i64_w, i32_w]
       rfl
      refine take_ (i := 28) (N := some 61) (v := ?_) (a' := ?_) (bt_ 42 18052284415) rfl rfl (take_ofW HT_.out HW_.out (by kernel_rfl)) (fun _ _ _ h => h) (Or.inl ⟨by rfl, ?_⟩) hHeld ?_ ?_
      rotate_left
      ·rintro w' ⟨s0, s1, s2, s3, s4, s5, s6, s7, s8, s9, s10, s11⟩
       go_simp
       with_reducible rfl
      rotate_left
      ·simp only [Act.put, List.setIfInBounds_toArray, List.set_cons_zero, List.set_cons_succ, i64_w, i32_w]
       rfl
      refine take_ (i := 30) (N := some 63) (v := ?_) (a' := ?_) (bt_ 42 19126026239) rfl rfl (take_ofW HT_.out HW_.out (by kernel_rfl)) (fun _ _ _ h => h) (Or.inl ⟨by rfl, ?_⟩) hHeld ?_ ?_
      rotate_left
      ·rintro w' ⟨s0, s1, s2, s3, s4, s5, s6, s7, s8, s9, s10, s11⟩
       go_simp
       with_reducible rfl
      rotate_left
      ·simp only [Act.put, List.setIfInBounds_toArray, List.set_cons_zero, List.set_cons_succ, i64_w, i32_w]
       rfl
      refine take_ (i := 33) (N := some 66) (v := ?_) (a' := ?_) (bt_ 42 27715960831) rfl rfl (take_ofW HT_.out HW_.out (by kernel_rfl)) (fun _ _ _ h => h) (Or.inl ⟨by rfl, ?_⟩) hHeld ?_ ?_
      rotate_left
      ·rintro w' ⟨s0, s1, s2, s3, s4, s5, s6, s7, s8, s9, s10, s11⟩
       go_simp
       with_reducible rfl
      rotate_left
      ·simp only [Act.put, List.setIfInBounds_toArray, List.set_cons_zero, List.set_cons_succ, i64_w, i32_w]
       rfl
      refine take_ (i := 35) (N := some 68) (v := ?_) (a' := ?_) (bt_ 42 62075699199) rfl rfl (take_ofW HT_.out HW_.out (by kernel_rfl)) (fun _ _ _ h => h) (Or.inl ⟨by rfl, ?_⟩) hHeld ?_ ?_
      rotate_left
      ·rintro w' ⟨s0, s1, s2, s3, s4, s5, s6, s7, s8, s9, s10, s11⟩
       go_simp
       with_reducible rfl
      rotate_left
      ·simp only [Act.put, List.setIfInBounds_toArray, List.set_cons_zero, List.set_cons_succ, i64_w, i32_w]
       rfl
      refine one_ (i := 26) (N := some 59) (bt_ 42 62142808063) rfl rfl (one_of HT_.out (by kernel_rfl)) (by decide) (fun K hK => ?_)
      refine goes_ Try.func48 (by kernel_rfl) rfl #[.agg #[.int .i64 t411, .int .i64 t412, .slice Ao84 t413.length co84], .agg #[.slice Ao85 t416.length co85, .slice Ao87 t419.length co87]] (by rfl) rfl rfl (by (try simp only [List.map_toArray, List.map_cons, List.map_nil]); first | done | rfl | (simp only [List.length_drop, List.length_take]; rfl)) ?_
      with_reducible refine (impl_ClassDepends.calls k t411 t412 _ _ t413 _ _ t416 _ _ t419 t464 _ ?side1 ?side2 ?side3 ?side4 ?side5 ?side6 A76.out).mono ?_
      (case side1 => repeat (first | exact (Kd.R_reads' HO415.out).2.2 | (with_reducible refine Kd.C_alloc ?_ _) | (with_reducible refine Kd.C_drewN ?_ _) | (with_reducible refine Kd.C_drew ?_)))
      (case side2 => exact (Kd.R_reads' HO415.out).2.1)
      (case side3 => repeat (first | exact (Kd.R_reads' HO418.out).2.2 | (with_reducible refine Kd.C_alloc ?_ _) | (with_reducible refine Kd.C_drewN ?_ _) | (with_reducible refine Kd.C_drew ?_)))
      (case side4 => exact (Kd.R_reads' HO418.out).2.1)
      (case side5 => repeat (first | exact (Kd.R_reads' HO421.out).2.2 | (with_reducible refine Kd.C_alloc ?_ _) | (with_reducible refine Kd.C_drewN ?_ _) | (with_reducible refine Kd.C_drew ?_)))
      (case side6 => exact (Kd.R_reads' HO421.out).2.1)
      rintro e w128 ⟨v465, rfl, ho0, hb⟩
      refine ⟨_, rfl, ?_⟩
      have n0_ := Aside0.mk (Kd.R_below (ra_ HO415.out) hb)
      have n1_ := Aside0.mk (Kd.R_below (ra_ HO418.out) hb)
      have n2_ := Aside0.mk (Kd.R_below (ra_ HO421.out) hb)
      have n3_ := Aside0.mk (Kd.R_below (ra_ HO427.out) hb)
      have n4_ := Aside0.mk (Kd.R_below (ra_ HO430.out) hb)
      have n5_ := Aside0.mk (Kd.R_below (ra_ HO435.out) hb)
      have n6_ := Aside0.mk (Kd.R_below (ra_ HO438.out) hb)
      have n7_ := Aside0.mk (Kd.R_below (ra_ HO443.out) hb)
      have n8_ := Aside0.mk (Kd.R_below (ra_ HO446.out) hb)
      have n9_ := Aside0.mk (Kd.R_below (ra_ HO450.out) hb)
      have n10_ := Aside0.mk (Kd.R_lower ho0 (bz_ HB.out))
      have n11_ := Aside0.mk (bk_ BK422.out hb)
      have n12_ := Aside0.mk (bk_ BK423.out hb)
      have n13_ := Aside0.mk (bk_ BK431.out hb)
      have n14_ := Aside0.mk (bk_ BK439.out hb)
      have n15_ := Aside0.mk (bk_ BK447.out hb)
      have n16_ := Aside0.mk (bk_ BK452.out hb)
      have n17_ := Aside0.mk (bs_ HB.out hb)
      clear HO415
      clear HO418
      clear HO421
      clear HO427
      clear HO430
      clear HO435
      clear HO438
      clear HO443
      clear HO446
      clear HO450
      clear BK422
      clear BK423
      clear BK431
      clear BK439
      clear BK447
      clear BK452
      clear HB
      have HO415 := n0_
      have HO418 := n1_
      have HO421 := n2_
      have HO427 := n3_
      have HO430 := n4_
      have HO435 := n5_
      have HO438 := n6_
      have HO443 := n7_
      have HO446 := n8_
      have HO450 := n9_
      have HO466 := n10_
      have BK422 := n11_
      have BK423 := n12_
      have BK431 := n13_
      have BK439 := n14_
      have BK447 := n15_
      have BK452 := n16_
      have HB := n17_
      clear n0_ n1_ n2_ n3_ n4_ n5_ n6_ n7_ n8_ n9_ n10_ n11_ n12_ n13_ n14_ n15_ n16_ n17_
      (try clear hb)
      (try clear hb2)
      (try clear hk)
      (try clear hi)
      (try clear ho0)
      obtain ⟨Ao129, co129, eo129⟩ := Kd.R_slice HO466.out
      (first | subst eo129 | (injection eo129 with f1_ f2_ f3_; have f4_ := f1_.symm; have f5_ := f3_.symm; clear f1_ f2_ f3_; subst f4_; subst f5_))
      refine hK.out _ _ ⟨(blk_cell BK447.out 0).trans rfl, (blk_cell BK447.out 1).trans rfl, (blk_cell BK447.out 2).trans rfl, (blk_cell BK431.out 0).trans rfl, (blk_cell BK431.out 1).trans rfl, (blk_cell BK431.out 2).trans rfl, (blk_cell BK452.out 0).trans rfl, (blk_cell BK423.out 0).trans rfl, (blk_cell BK423.out 1).trans rfl, (blk_cell BK422.out 0).trans rfl, (blk_cell BK422.out 1).trans rfl, (blk_cell BK422.out 2).trans rfl⟩ (fun hHeld => ?_)
      clear hK K
      refine norm_ (a' := ?_) ?_ ?_
      rotate_left
      ·show Act.put _ (some 59) _ = _
       simp only [Act.put, List.setIfInBounds_toArray, List.set_cons_zero, List.set_cons_succ, i64_w, i32_w]
       rfl
      refine pu_ 27 60 (bt_ 42 62277025791) HT_ ?_
      refine one_ (i := 31) (N := some 64) (bt_ 42 64424509439) rfl rfl (one_of HT_.out (by kernel_rfl)) (by decide) (fun K hK => ?_)
      refine goes_ Try.func60 (by kernel_rfl) rfl #[.agg #[.int .i64 t411, .int .i64 t412, .slice Ao84 t413.length co84], .agg #[.slice Ao85 t416.length co85]] (by rfl) rfl rfl (by (try simp only [List.map_toArray, List.map_cons, List.map_nil]); first | done | rfl | (simp only [List.length_drop, List.length_take]; rfl)) ?_
      with_reducible refine (impl_DependsOf.calls k t411 t412 _ _ t413 _ _ t416 t467 _ ?side1 ?side2 ?side3 ?side4 A77.out).mono ?_
      (case side1 => repeat (first | exact (Kd.R_reads' HO415.out).2.2 | (with_reducible refine Kd.C_alloc ?_ _) | (with_reducible refine Kd.C_drewN ?_ _) | (with_reducible refine Kd.C_drew ?_)))
      (case side2 => exact (Kd.R_reads' HO415.out).2.1)
      (case side3 => repeat (first | exact (Kd.R_reads' HO418.out).2.2 | (with_reducible refine Kd.C_alloc ?_ _) | (with_reducible refine Kd.C_drewN ?_ _) | (with_reducible refine Kd.C_drew ?_)))
      (case side4 => exact (Kd.R_reads' HO418.out).2.1)
      rintro e w130 ⟨v468, rfl, ho0, hb⟩
      refine ⟨_, rfl, ?_⟩
      have n0_ := Aside0.mk (Kd.R_below (ra_ HO415.out) hb)
      have n1_ := Aside0.mk (Kd.R_below (ra_ HO418.out) hb)
      have n2_ := Aside0.mk (Kd.R_below (ra_ HO421.out) hb)
      have n3_ := Aside0.mk (Kd.R_below (ra_ HO427.out) hb)
      have n4_ := Aside0.mk (Kd.R_below (ra_ HO430.out) hb)
      have n5_ := Aside0.mk (Kd.R_below (ra_ HO435.out) hb)
      have n6_ := Aside0.mk (Kd.R_below (ra_ HO438.out) hb)
      have n7_ := Aside0.mk (Kd.R_below (ra_ HO443.out) hb)
      have n8_ := Aside0.mk (Kd.R_below (ra_ HO446.out) hb)
      have n9_ := Aside0.mk (Kd.R_below (ra_ HO450.out) hb)
      have n10_ := Aside0.mk (Kd.R_elder' (ra_ HO466.out) (Kd.R_base ho0) hb)
      have n11_ := Aside0.mk (Kd.R_lower (Kd.R_new' ho0 (rl_ HO466.out)) (bz_ HB.out))
      have n12_ := Aside0.mk (bk_ BK422.out hb)
      have n13_ := Aside0.mk (bk_ BK423.out hb)
      have n14_ := Aside0.mk (bk_ BK431.out hb)
      have n15_ := Aside0.mk (bk_ BK439.out hb)
      have n16_ := Aside0.mk (bk_ BK447.out hb)
      have n17_ := Aside0.mk (bk_ BK452.out hb)
      have n18_ := Aside0.mk (bs_ HB.out hb)
      clear HO415
      clear HO418
      clear HO421
      clear HO427
      clear HO430
      clear HO435
      clear HO438
      clear HO443
      clear HO446
      clear HO450
      clear HO466
      clear BK422
      clear BK423
      clear BK431
      clear BK439
      clear BK447
      clear BK452
      clear HB
      have HO415 := n0_
      have HO418 := n1_
      have HO421 := n2_
      have HO427 := n3_
      have HO430 := n4_
      have HO435 := n5_
      have HO438 := n6_
      have HO443 := n7_
      have HO446 := n8_
      have HO450 := n9_
      have HO466 := n10_
      have HO469 := n11_
      have BK422 := n12_
      have BK423 := n13_
      have BK431 := n14_
      have BK439 := n15_
      have BK447 := n16_
      have BK452 := n17_
      have HB := n18_
      clear n0_ n1_ n2_ n3_ n4_ n5_ n6_ n7_ n8_ n9_ n10_ n11_ n12_ n13_ n14_ n15_ n16_ n17_ n18_
      (try clear hb)
      (try clear hb2)
      (try clear hk)
      (try clear hi)
      (try clear ho0)
      obtain ⟨Ao131, co131, eo131⟩ := Kd.R_slice HO469.out
      (first | subst eo131 | (injection eo131 with f1_ f2_ f3_; have f4_ := f1_.symm; have f5_ := f3_.symm; clear f1_ f2_ f3_; subst f4_; subst f5_))
      refine hK.out _ _ ⟨(blk_cell BK447.out 0).trans rfl, (blk_cell BK447.out 1).trans rfl, (blk_cell BK447.out 2).trans rfl, (blk_cell BK431.out 0).trans rfl, (blk_cell BK431.out 1).trans rfl, (blk_cell BK431.out 2).trans rfl, (blk_cell BK452.out 0).trans rfl, (blk_cell BK423.out 0).trans rfl, (blk_cell BK423.out 1).trans rfl, (blk_cell BK422.out 0).trans rfl, (blk_cell BK422.out 1).trans rfl, (blk_cell BK422.out 2).trans rfl⟩ (fun hHeld => ?_)
      clear hK K
      refine norm_ (a' := ?_) ?_ ?_
      rotate_left
      ·show Act.put _ (some 64) _ = _
       simp only [Act.put, List.setIfInBounds_toArray, List.set_cons_zero, List.set_cons_succ, i64_w, i32_w]
       rfl
      refine pu_ 32 65 (bt_ 42 68719476735) HT_ ?_
      refine one_ (i := 36) (N := some 69) (bt_ 42 137438953471) rfl rfl (one_of HT_.out (by kernel_rfl)) (by decide) (fun K hK => ?_)
      refine goes_ Try.func60 (by kernel_rfl) rfl #[.agg #[.int .i64 t411, .int .i64 t412, .slice Ao84 t413.length co84], .agg #[.slice Ao87 t419.length co87]] (by rfl) rfl rfl (by (try simp only [List.map_toArray, List.map_cons, List.map_nil]); first | done | rfl | (simp only [List.length_drop, List.length_take]; rfl)) ?_
      with_reducible refine (impl_DependsOf.calls k t411 t412 _ _ t413 _ _ t419 t470 _ ?side1 ?side2 ?side3 ?side4 A78.out).mono ?_
      (case side1 => repeat (first | exact (Kd.R_reads' HO415.out).2.2 | (with_reducible refine Kd.C_alloc ?_ _) | (with_reducible refine Kd.C_drewN ?_ _) | (with_reducible refine Kd.C_drew ?_)))
      (case side2 => exact (Kd.R_reads' HO415.out).2.1)
      (case side3 => repeat (first | exact (Kd.R_reads' HO421.out).2.2 | (with_reducible refine Kd.C_alloc ?_ _) | (with_reducible refine Kd.C_drewN ?_ _) | (with_reducible refine Kd.C_drew ?_)))
      (case side4 => exact (Kd.R_reads' HO421.out).2.1)
      rintro e w132 ⟨v471, rfl, ho0, hb⟩
      refine ⟨_, rfl, ?_⟩
      have n0_ := Aside0.mk (Kd.R_below (ra_ HO415.out) hb)
      have n1_ := Aside0.mk (Kd.R_below (ra_ HO418.out) hb)
      have n2_ := Aside0.mk (Kd.R_below (ra_ HO421.out) hb)
      have n3_ := Aside0.mk (Kd.R_below (ra_ HO427.out) hb)
      have n4_ := Aside0.mk (Kd.R_below (ra_ HO430.out) hb)
      have n5_ := Aside0.mk (Kd.R_below (ra_ HO435.out) hb)
      have n6_ := Aside0.mk (Kd.R_below (ra_ HO438.out) hb)
      have n7_ := Aside0.mk (Kd.R_below (ra_ HO443.out) hb)
      have n8_ := Aside0.mk (Kd.R_below (ra_ HO446.out) hb)
      have n9_ := Aside0.mk (Kd.R_below (ra_ HO450.out) hb)
      have n10_ := Aside0.mk (Kd.R_elder' (ra_ HO466.out) (Kd.R_base ho0) hb)
      have n11_ := Aside0.mk (Kd.R_elder' (ra_ HO469.out) (Kd.R_base ho0) hb)
      have n12_ := Aside0.mk (Kd.R_lower (Kd.R_new' (Kd.R_new' ho0 (rl_ HO466.out)) (rl_ HO469.out)) (bz_ HB.out))
      have n13_ := Aside0.mk (bk_ BK422.out hb)
      have n14_ := Aside0.mk (bk_ BK423.out hb)
      have n15_ := Aside0.mk (bk_ BK431.out hb)
      have n16_ := Aside0.mk (bk_ BK439.out hb)
      have n17_ := Aside0.mk (bk_ BK447.out hb)
      have n18_ := Aside0.mk (bk_ BK452.out hb)
      have n19_ := Aside0.mk (bs_ HB.out hb)
      clear HO415
      clear HO418
      clear HO421
      clear HO427
      clear HO430
      clear HO435
      clear HO438
      clear HO443
      clear HO446
      clear HO450
      clear HO466
      clear HO469
      clear BK422
      clear BK423
      clear BK431
      clear BK439
      clear BK447
      clear BK452
      clear HB
      have HO415 := n0_
      have HO418 := n1_
      have HO421 := n2_
      have HO427 := n3_
      have HO430 := n4_
      have HO435 := n5_
      have HO438 := n6_
      have HO443 := n7_
      have HO446 := n8_
      have HO450 := n9_
      have HO466 := n10_
      have HO469 := n11_
      have HO472 := n12_
      have BK422 := n13_
      have BK423 := n14_
      have BK431 := n15_
      have BK439 := n16_
      have BK447 := n17_
      have BK452 := n18_
      have HB := n19_
      clear n0_ n1_ n2_ n3_ n4_ n5_ n6_ n7_ n8_ n9_ n10_ n11_ n12_ n13_ n14_ n15_ n16_ n17_ n18_ n19_
      (try clear hb)
      (try clear hb2)
      (try clear hk)
      (try clear hi)
      (try clear ho0)
      obtain ⟨Ao133, co133, eo133⟩ := Kd.R_slice HO472.out
      (first | subst eo133 | (injection eo133 with f1_ f2_ f3_; have f4_ := f1_.symm; have f5_ := f3_.symm; clear f1_ f2_ f3_; subst f4_; subst f5_))
      refine hK.out _ _ ⟨(blk_cell BK447.out 0).trans rfl, (blk_cell BK447.out 1).trans rfl, (blk_cell BK447.out 2).trans rfl, (blk_cell BK431.out 0).trans rfl, (blk_cell BK431.out 1).trans rfl, (blk_cell BK431.out 2).trans rfl, (blk_cell BK452.out 0).trans rfl, (blk_cell BK423.out 0).trans rfl, (blk_cell BK423.out 1).trans rfl, (blk_cell BK422.out 0).trans rfl, (blk_cell BK422.out 1).trans rfl, (blk_cell BK422.out 2).trans rfl⟩ (fun hHeld => ?_)
      clear hK K
      refine norm_ (a' := ?_) ?_ ?_
      rotate_left
      ·show Act.put _ (some 69) _ = _
       simp only [Act.put, List.setIfInBounds_toArray, List.set_cons_zero, List.set_cons_succ, i64_w, i32_w]
       rfl
      refine pu_ 37 70 (bt_ 42 274877906943) HT_ ?_
      refine pu_ 38 71 (bt_ 42 549755813887) HT_ ?_
      refine pu_ 39 72 (bt_ 42 1099511627775) HT_ ?_
      refine pu_ 40 73 (bt_ 42 2199023255551) HT_ ?_
      refine pu_ 41 2 (bt_ 42 4398046511103) HT_ ?_
      refine done_ (done_of HT_.out (by kernel_rfl)) ?_
      try go_wp2
      go_ret
      exact ⟨fin_, bb_ HB.out⟩
     ·replace c75 := Bool.eq_false_iff.mpr c75
      subst c75
      rw [if_neg (show ¬ (false = true) by decide)] at H
      exact absurd H (by simp)
    ·replace c73 := Bool.eq_false_iff.mpr c73
     subst c73
     rw [if_neg (show ¬ (false = true) by decide)] at H
     exact absurd H (by simp)
   ·rw [if_neg c72] at H
    exact absurd H (by simp)

/-- THE ONE PURE STATEMENT of laws_FnClasses: yours. -/
def laws_FnClasses.Pure : Prop := ∀ (l0 : List Int), l0.length ≤ maxLen → l0.length * 1 ≤ 140737488351232 → (∀ x ∈ l0, (Lit.int .u8 x).wf = true) → ∃ k, laws_FnClasses.f k l0 = some true
theorem laws_FnClasses.walk (P : laws_FnClasses.Pure) (a0 : Option Addr) (len0 cap0 : Nat) (z0 : List Int) (w : World) (w0 : (a0 = none ∧ len0 = 0 ∧ cap0 = 0 ∧ z0 = []) ∨ ∃ x, a0 = some x ∧ len0 ≤ cap0 ∧ cap0 ≤ maxLen ∧ z0.length = cap0 ∧ (∀ i, i < z0.length → w.cell? (x.add i) = some (.int .u8 (z0.getD i 0))) ∧ ∀ n ∈ z0, (Lit.int .u8 n).wf = true) (y0 : len0 * 1 ≤ 140737488351232) :
  Calls Try.prog 12 #[.slice a0 len0 cap0] w fun e w' => e = .returned (.bool true) ∧ Below w.heap.size w w' := by
 obtain ⟨l0, rfl, hr0, hm0, hw0, hc0⟩ := ReadsInt.ofRowC w0
 obtain ⟨k, h⟩ := P l0 hm0 y0 hw0
 refine (laws_FnClasses.calls k _ _ l0 true w (Kd.C_of_reads (d := (0 : Int)) (h1 := fun _ => rfl) hr0) hc0 h).mono ?_
 rintro e w' ⟨rfl, hd⟩
 exact ⟨rfl, hd⟩

end Go.Proofs.Ytimdefbpoddoaaa.PFnClasses
-- thin
