/- Each function that the law comes to, as a plain function, with the proof that the call in the model gives what that function says (written by a program of this session out of the translation). No condition. -/
import Derived.Test.YtimdefbpoddoaaaPFnExactProvesVerdictx0
import Derived.Test.YtimdefbpoddoaaaPFnExactProvesVerdictx2
import Derived.Test.YtimdefbpoddoaaaPFnExactProvesVerdictx10
import Derived.Test.YtimdefbpoddoaaaPFnExactProvesVerdictx17
namespace Go.Proofs.Ytimdefbpoddoaaa.PFnExactProvesVerdict
open Go.RowKit Go.Proofs.YtimdefbpoddoaaaW.PrintWords Go.Proofs.YtimdefbpoddoaaaW.PrintLast Go.Proofs.YtimdefbpoddoaaaW.PrintMore
attribute [local go_sem] max2_int min2_int max_two min_two max_three min_three max_four min_four   -- for this text's walks alone
set_option linter.unusedVariables false
set_option linter.unusedSimpArgs false

/-! ### laws_FnExactProvesVerdict: function 8 -/
def laws_FnExactProvesVerdict.f (k : Nat) (a0_0 : Int) (a0_1 : Int) (l0_2 : List Int) (l1_0 : List Int) (a2_0 : Int) (l2_1 : List Int) (l2_2 : List Int) : Option (Bool) := (laws_szMesh.f a0_0 a0_1 l0_2 1048576).bind fun t407 => (if t407 < 0 then (some true) else ((laws_szTable.f l1_0 t407).bind fun t408 => (if t408 < 0 then (some true) else ((laws_szVerdict.f a2_0 l2_1 l2_2 t408).bind fun t409 => (if t409 < 0 then (some true) else ((laws_toMesh.f k a0_0 a0_1 l0_2).bind fun bt410 => ((laws_toTable.f k l1_0).bind fun t415 => ((laws_toVerdict.f k a2_0 l2_1 l2_2).bind fun bt418 => ((spec_ProvesVerdict.f k bt410.1 bt410.2.1 bt410.2.2 t415 bt418.1 bt418.2.1 bt418.2.2).bind fun t425 => ((laws_toMesh.f k a0_0 a0_1 l0_2).bind fun bt426 => ((laws_toTable.f k l1_0).bind fun t432 => ((laws_toVerdict.f k a2_0 l2_1 l2_2).bind fun bt436 => ((impl_ProvesVerdict.f k bt426.1 bt426.2.1 bt426.2.2 t432 bt436.1 bt436.2.1 bt436.2.2).bind fun t444 => (if (t444 != t425) = true then (none) else ((laws_toMesh.f k a0_0 a0_1 l0_2).bind fun bt445 => ((laws_eqMesh.f k bt426.1 bt426.2.1 bt426.2.2 bt445.1 bt445.2.1 bt445.2.2).bind fun t450 => (if t450 = true then ((laws_toTable.f k l1_0).bind fun t451 => ((laws_eqTable.f k t432 t451).bind fun t454 => (if t454 = true then ((laws_toVerdict.f k a2_0 l2_1 l2_2).bind fun bt455 => ((laws_eqVerdict.f k bt436.1 bt436.2.1 bt436.2.2 bt455.1 bt455.2.1 bt455.2.2).bind fun t462 => (if t462 = true then (some true) else (none)))) else (none)))) else (none))))))))))))))))))
theorem laws_FnExactProvesVerdict.mono : ∀ a0 a1 a2 a3 a4 a5 a6 k, LeO (laws_FnExactProvesVerdict.f k a0 a1 a2 a3 a4 a5 a6) (laws_FnExactProvesVerdict.f (k + 1) a0 a1 a2 a3 a4 a5 a6) := by
 intro a0 a1 a2 a3 a4 a5 a6 k
 unfold laws_FnExactProvesVerdict.f
 repeat' first
   | (with_reducible exact impl_ProvesVerdict.mono _ _ _ _ _ _ _ _)
   | (with_reducible exact laws_eqMesh.mono _ _ _ _ _ _ _)
   | (with_reducible exact laws_eqTable.mono _ _ _)
   | (with_reducible exact laws_eqVerdict.mono _ _ _ _ _ _ _)
   | (with_reducible exact laws_toMesh.mono _ _ _ _)
   | (with_reducible exact laws_toTable.mono _ _)
   | (with_reducible exact laws_toVerdict.mono _ _ _ _)
   | (with_reducible exact spec_ProvesVerdict.mono _ _ _ _ _ _ _ _)
   | (with_reducible exact LeO.refl _)
   | (with_reducible exact LeO.none _)
   | (with_reducible refine LeO.ite ?_ ?_)
   | (with_reducible refine LeO.bind ?_ (fun _ => ?_))
   | exact impl_ProvesVerdict.mono _ _ _ _ _ _ _ _
   | exact laws_eqMesh.mono _ _ _ _ _ _ _
   | exact laws_eqTable.mono _ _ _
   | exact laws_eqVerdict.mono _ _ _ _ _ _ _
   | exact laws_toMesh.mono _ _ _ _
   | exact laws_toTable.mono _ _
   | exact laws_toVerdict.mono _ _ _ _
   | exact spec_ProvesVerdict.mono _ _ _ _ _ _ _ _
   | exact LeO.none _
   | refine LeO.ite ?_ ?_
   | refine LeO.bind ?_ (fun _ => ?_)
def laws_FnExactProvesVerdict.T11 : Bool × List (List Nat × List Nat) := (true, [([], []), ([0], [0]), ([], []), ([2, 1], [2]), ([], []), ([4, 3], [4]), ([1, 3, 5, 5], [1, 3, 5]), ([6, 6, 0, 1, 2, 3, 4, 5, 6], [6])])
def laws_FnExactProvesVerdict.B11 : List Nat := [0, 1, 0, 7, 0, 31, 63, 127]
theorem laws_FnExactProvesVerdict.tab11 : rtab .any (opsOf Try.f8 11) = laws_FnExactProvesVerdict.T11 := by kernel_rfl
theorem laws_FnExactProvesVerdict.bits11 : waitsOk laws_FnExactProvesVerdict.T11.2 laws_FnExactProvesVerdict.B11 = true := by kernel_rfl
theorem laws_FnExactProvesVerdict.e0 {P : Prop} (h : P := by
 go_enter Try.func8, Try.ntmps8
 go_wp2_with (first | ((with_reducible refine gate_dst (N := 3) rfl ?_); refine box_event ?hg (N := 3) ?hd (cs := #[.int .i64 a0_0, .int .i64 a0_1, .slice A0_2 l0_2.length c0_2]) (t := 34) ?hr ?_; (case hd => rfl); (case hg => rfl); (case hr => first | (go_simp; done) | (go_simp; rfl)); intro gb404 hg w_0 hbox hb; have BK404 := Aside0.mk (hbox); have GW404 := Aside0.mk ((by rw [hg]; exact (bz_ HB.out) : w.heap.size ≤ gb404)); have GE404 := Aside0.mk ((by rw [hg]; exact (bz_ HB.out) : w.heap.size ≤ gb404)); replace HB := Aside0.mk (bs_ HB.out hb); clear hb hbox hg) | ((with_reducible refine gate_dst (N := 4) rfl ?_); refine box_event ?hg (N := 4) ?hd (cs := #[.slice A1_0 l1_0.length c1_0]) (t := 36) ?hr ?_; (case hd => rfl); (case hg => rfl); (case hr => first | (go_simp; done) | (go_simp; rfl)); intro gb405 hg w_0 hbox hb; have BK405 := Aside0.mk (hbox); have GW405 := Aside0.mk ((by rw [hg]; exact (bz_ HB.out) : w.heap.size ≤ gb405)); have GE405 := Aside0.mk ((by rw [hg]; exact (bz_ HB.out) : w.heap.size ≤ gb405)); replace HB := Aside0.mk (bs_ HB.out hb); have NB404_405 := Aside0.mk ((by rw [hg]; exact Nat.ne_of_lt (bl_ BK404.out) : gb404 ≠ gb405)); have NB405_404 := Aside0.mk ((by rw [hg]; exact Nat.ne_of_gt (bl_ BK404.out) : gb405 ≠ gb404)); replace BK404 := Aside0.mk (bk_ BK404.out hb); clear hb hbox hg) | ((with_reducible refine gate_dst (N := 5) rfl ?_); refine box_event ?hg (N := 5) ?hd (cs := #[.int .i64 a2_0, .slice A2_1 l2_1.length c2_1, .slice A2_2 l2_2.length c2_2]) (t := 60) ?hr ?_; (case hd => rfl); (case hg => rfl); (case hr => first | (go_simp; done) | (go_simp; rfl)); intro gb406 hg w_0 hbox hb; have BK406 := Aside0.mk (hbox); have GW406 := Aside0.mk ((by rw [hg]; exact (bz_ HB.out) : w.heap.size ≤ gb406)); have GE406 := Aside0.mk ((by rw [hg]; exact (bz_ HB.out) : w.heap.size ≤ gb406)); replace HB := Aside0.mk (bs_ HB.out hb); have NB404_406 := Aside0.mk ((by rw [hg]; exact Nat.ne_of_lt (bl_ BK404.out) : gb404 ≠ gb406)); have NB406_404 := Aside0.mk ((by rw [hg]; exact Nat.ne_of_gt (bl_ BK404.out) : gb406 ≠ gb404)); replace BK404 := Aside0.mk (bk_ BK404.out hb); have NB405_406 := Aside0.mk ((by rw [hg]; exact Nat.ne_of_lt (bl_ BK405.out) : gb405 ≠ gb406)); have NB406_405 := Aside0.mk ((by rw [hg]; exact Nat.ne_of_gt (bl_ BK405.out) : gb406 ≠ gb405)); replace BK405 := Aside0.mk (bk_ BK405.out hb); clear hb hbox hg; have hnb_ := NB404_405.out; have hnc_ := NB405_404.out; have hnb_ := NB404_406.out; have hnc_ := NB406_404.out; obtain ⟨hcz_0, hcz_1, hcz_2, hfz_0, hfz_1, hfz_2⟩ := cz3_ BK404.out) | ((with_reducible refine gate_callee (f := 22) rfl ?_); refine gm_ (some 15) Try.func22 #[.agg #[.int .i64 a0_0, .int .i64 a0_1, .slice A0_2 l0_2.length c0_2], .int .i64 1048576] rfl ?_; (with_reducible refine (laws_szMesh.calls a0_0 a0_1 _ _ l0_2 1048576 t407 _ ?side1 HC0_2.out A4.out).mono ?_); (case side1 => exact cb_ HR0_2.out HB.out); rintro e w_0 ⟨rfl, hb⟩; refine ⟨_, rfl, ?_⟩; replace BK404 := Aside0.mk (bk_ BK404.out hb); replace BK405 := Aside0.mk (bk_ BK405.out hb); replace BK406 := Aside0.mk (bk_ BK406.out hb); replace HB := Aside0.mk (bs_ HB.out hb); (try clear hb); have hnb_ := NB405_406.out; have hnc_ := NB406_405.out; obtain ⟨hcz_0, hfz_0⟩ := cz1_ BK405.out) | ((with_reducible refine gate_callee (f := 22) rfl ?_); refine gm_ (some 15) Try.func22 #[.agg #[.int .i64 a0_0, .int .i64 a0_1, .slice A0_2 l0_2.length c0_2], .int .i64 1048576] rfl ?_; (with_reducible refine (laws_szMesh.calls a0_0 a0_1 _ _ l0_2 1048576 t407 _ ?side1 HC0_2.out A4.out).mono ?_); (case side1 => exact cb_ HR0_2.out HB.out); rintro e w_0 ⟨rfl, hb⟩; refine ⟨_, rfl, ?_⟩; replace BK404 := Aside0.mk (bk_ BK404.out hb); replace BK405 := Aside0.mk (bk_ BK405.out hb); replace BK406 := Aside0.mk (bk_ BK406.out hb); replace HB := Aside0.mk (bs_ HB.out hb); (try clear hb)) | ((with_reducible refine gate_callee (f := 23) rfl ?_); refine gm_ (some 20) Try.func23 #[.agg #[.slice A1_0 l1_0.length c1_0], .int .i64 t407] rfl ?_; (with_reducible refine (laws_szTable.calls _ _ l1_0 t407 t408 _ ?side1 HC1_0.out A13.out).mono ?_); (case side1 => exact cb_ HR1_0.out HB.out); rintro e w_0 ⟨rfl, hb⟩; refine ⟨_, rfl, ?_⟩; replace BK404 := Aside0.mk (bk_ BK404.out hb); replace BK405 := Aside0.mk (bk_ BK405.out hb); replace BK406 := Aside0.mk (bk_ BK406.out hb); replace HB := Aside0.mk (bs_ HB.out hb); (try clear hb); obtain ⟨hcz_0, hcz_1, hcz_2, hfz_0, hfz_1, hfz_2⟩ := cz3_ BK406.out) | ((with_reducible refine gate_callee (f := 41) rfl ?_); refine gm_ (some 25) Try.func41 #[.agg #[.int .i64 a2_0, .slice A2_1 l2_1.length c2_1, .slice A2_2 l2_2.length c2_2], .int .i64 t408] rfl ?_; (with_reducible refine (laws_szVerdict.calls a2_0 _ _ l2_1 _ _ l2_2 t408 t409 _ ?side1 HC2_1.out ?side3 HC2_2.out A25.out).mono ?_); (case side1 => exact cb_ HR2_1.out HB.out); (case side3 => exact cb_ HR2_2.out HB.out); rintro e w_0 ⟨rfl, hb⟩; refine ⟨_, rfl, ?_⟩; replace BK404 := Aside0.mk (bk_ BK404.out hb); replace BK405 := Aside0.mk (bk_ BK405.out hb); replace BK406 := Aside0.mk (bk_ BK406.out hb); replace HB := Aside0.mk (bs_ HB.out hb); (try clear hb)))
 go_ret
 exact ⟨fin_, bb_ HB.out⟩) : P := h
set_option maxHeartbeats 8000000 in
set_option maxRecDepth 100000 in
theorem laws_FnExactProvesVerdict.calls (k : Nat) (a0_0 : Int) (a0_1 : Int) (A0_2 : Option Addr) (c0_2 : Nat) (l0_2 : List Int) (A1_0 : Option Addr) (c1_0 : Nat) (l1_0 : List Int) (a2_0 : Int) (A2_1 : Option Addr) (c2_1 : Nat) (l2_1 : List Int) (A2_2 : Option Addr) (c2_2 : Nat) (l2_2 : List Int) (r : Bool) (w : World) (hr0_2 : Kd.C (Kd.int .i64) w A0_2 l0_2.length l0_2) (hc0_2 : l0_2.length ≤ c0_2) (hr1_0 : Kd.C (Kd.int .i64) w A1_0 l1_0.length l1_0) (hc1_0 : l1_0.length ≤ c1_0) (hr2_1 : Kd.C (Kd.int .i64) w A2_1 l2_1.length l2_1) (hc2_1 : l2_1.length ≤ c2_1) (hr2_2 : Kd.C (Kd.int .i64) w A2_2 l2_2.length l2_2) (hc2_2 : l2_2.length ≤ c2_2) (h : laws_FnExactProvesVerdict.f k a0_0 a0_1 l0_2 l1_0 a2_0 l2_1 l2_2 = some r) :
  Calls Try.prog 8 #[.agg #[.int .i64 a0_0, .int .i64 a0_1, .slice A0_2 l0_2.length c0_2], .agg #[.slice A1_0 l1_0.length c1_0], .agg #[.int .i64 a2_0, .slice A2_1 l2_1.length c2_1, .slice A2_2 l2_2.length c2_2]] w fun e w' => e = .returned (.bool r) ∧ Below w.heap.size w w' := by
 have hu34 := Try.underlying34
 have hu36 := Try.underlying36
 have hu60 := Try.underlying60
 have hu44 := Try.underlying44
 have hu46 := Try.underlying46
 have hu40 := Try.underlying40
 have HR0_2 := Aside0.mk hr0_2
 have HC0_2 := Aside0.mk hc0_2
 clear hr0_2 hc0_2
 have HR1_0 := Aside0.mk hr1_0
 have HC1_0 := Aside0.mk hc1_0
 clear hr1_0 hc1_0
 have HR2_1 := Aside0.mk hr2_1
 have HC2_1 := Aside0.mk hc2_1
 clear hr2_1 hc2_1
 have HR2_2 := Aside0.mk hr2_2
 have HC2_2 := Aside0.mk hc2_2
 clear hr2_2 hc2_2
 have HB := Aside0.mk (Below.refl w.heap.size w)
 have H : ((laws_szMesh.f a0_0 a0_1 l0_2 1048576).bind fun t407 => (if t407 < 0 then (some true) else ((laws_szTable.f l1_0 t407).bind fun t408 => (if t408 < 0 then (some true) else ((laws_szVerdict.f a2_0 l2_1 l2_2 t408).bind fun t409 => (if t409 < 0 then (some true) else ((laws_toMesh.f k a0_0 a0_1 l0_2).bind fun bt410 => ((laws_toTable.f k l1_0).bind fun t415 => ((laws_toVerdict.f k a2_0 l2_1 l2_2).bind fun bt418 => ((spec_ProvesVerdict.f k bt410.1 bt410.2.1 bt410.2.2 t415 bt418.1 bt418.2.1 bt418.2.2).bind fun t425 => ((laws_toMesh.f k a0_0 a0_1 l0_2).bind fun bt426 => ((laws_toTable.f k l1_0).bind fun t432 => ((laws_toVerdict.f k a2_0 l2_1 l2_2).bind fun bt436 => ((impl_ProvesVerdict.f k bt426.1 bt426.2.1 bt426.2.2 t432 bt436.1 bt436.2.1 bt436.2.2).bind fun t444 => (if (t444 != t425) = true then (none) else ((laws_toMesh.f k a0_0 a0_1 l0_2).bind fun bt445 => ((laws_eqMesh.f k bt426.1 bt426.2.1 bt426.2.2 bt445.1 bt445.2.1 bt445.2.2).bind fun t450 => (if t450 = true then ((laws_toTable.f k l1_0).bind fun t451 => ((laws_eqTable.f k t432 t451).bind fun t454 => (if t454 = true then ((laws_toVerdict.f k a2_0 l2_1 l2_2).bind fun bt455 => ((laws_eqVerdict.f k bt436.1 bt436.2.1 bt436.2.2 bt455.1 bt455.2.1 bt455.2.2).bind fun t462 => (if t462 = true then (some true) else (none)))) else (none)))) else (none))))))))))))))))))) = some r := h
 clear h
 replace H := Option.bind_eq_some_iff.mp H
 obtain ⟨t407, A40, H⟩ := H
 try dsimp only at H
 have A4 := Aside0.mk A40
 clear A40
 by_cases c5 : t407 < 0
 ·rw [if_pos c5] at H
  have c5b0 : decide (t407 < 0) = true := decide_eq_true c5
  clear c5
  obtain rfl := Option.some.inj H
  exact laws_FnExactProvesVerdict.e0
 ·rw [if_neg c5] at H
  have c5b0 : decide (t407 < 0) = false := decide_eq_false c5
  clear c5
  replace H := Option.bind_eq_some_iff.mp H
  obtain ⟨t408, A130, H⟩ := H
  try dsimp only at H
  have A13 := Aside0.mk A130
  clear A130
  by_cases c14 : t408 < 0
  ·rw [if_pos c14] at H
   have c14b0 : decide (t408 < 0) = true := decide_eq_true c14
   clear c14
   obtain rfl := Option.some.inj H
   exact laws_FnExactProvesVerdict.e0
  ·rw [if_neg c14] at H
   have c14b0 : decide (t408 < 0) = false := decide_eq_false c14
   clear c14
   replace H := Option.bind_eq_some_iff.mp H
   obtain ⟨t409, A250, H⟩ := H
   try dsimp only at H
   have A25 := Aside0.mk A250
   clear A250
   by_cases c26 : t409 < 0
   ·rw [if_pos c26] at H
    have c26b0 : decide (t409 < 0) = true := decide_eq_true c26
    clear c26
    obtain rfl := Option.some.inj H
    exact laws_FnExactProvesVerdict.e0
   ·rw [if_neg c26] at H
    have c26b0 : decide (t409 < 0) = false := decide_eq_false c26
    clear c26
    replace H := Option.bind_eq_some_iff.mp H
    obtain ⟨⟨t410, t411, t412⟩, A390, H⟩ := H
    try dsimp only at H
    have A39 := Aside0.mk A390
    clear A390
    replace H := Option.bind_eq_some_iff.mp H
    obtain ⟨t415, A400, H⟩ := H
    try dsimp only at H
    have A40 := Aside0.mk A400
    clear A400
    replace H := Option.bind_eq_some_iff.mp H
    obtain ⟨⟨t418, t419, t422⟩, A410, H⟩ := H
    try dsimp only at H
    have A41 := Aside0.mk A410
    clear A410
    replace H := Option.bind_eq_some_iff.mp H
    obtain ⟨t425, A420, H⟩ := H
    try dsimp only at H
    have A42 := Aside0.mk A420
    clear A420
    replace H := Option.bind_eq_some_iff.mp H
    obtain ⟨⟨t426, t427, t428⟩, A430, H⟩ := H
    try dsimp only at H
    have A43 := Aside0.mk A430
    clear A430
    replace H := Option.bind_eq_some_iff.mp H
    obtain ⟨t432, A440, H⟩ := H
    try dsimp only at H
    have A44 := Aside0.mk A440
    clear A440
    replace H := Option.bind_eq_some_iff.mp H
    obtain ⟨⟨t436, t437, t440⟩, A450, H⟩ := H
    try dsimp only at H
    have A45 := Aside0.mk A450
    clear A450
    replace H := Option.bind_eq_some_iff.mp H
    obtain ⟨t444, A460, H⟩ := H
    try dsimp only at H
    have A46 := Aside0.mk A460
    clear A460
    by_cases c47 : (t444 != t425) = true
    ·rw [if_pos c47] at H
     exact absurd H (by simp)
    ·rw [if_neg c47] at H
     have c47b0 : (t444 != t425) = false := by simpa using c47
     (try (have c47b1 : decide (t444 = t425) = true := by simpa using c47))
     (try (have c47b2 : (t444 == t425) = true := by simpa using c47))
     clear c47
     replace H := Option.bind_eq_some_iff.mp H
     obtain ⟨⟨t445, t446, t447⟩, A480, H⟩ := H
     try dsimp only at H
     have A48 := Aside0.mk A480
     clear A480
     replace H := Option.bind_eq_some_iff.mp H
     obtain ⟨t450, A490, H⟩ := H
     try dsimp only at H
     have A49 := Aside0.mk A490
     clear A490
     by_cases c50 : t450 = true
     ·subst c50
      rw [if_pos rfl] at H
      replace H := Option.bind_eq_some_iff.mp H
      obtain ⟨t451, A510, H⟩ := H
      try dsimp only at H
      have A51 := Aside0.mk A510
      clear A510
      replace H := Option.bind_eq_some_iff.mp H
      obtain ⟨t454, A520, H⟩ := H
      try dsimp only at H
      have A52 := Aside0.mk A520
      clear A520
      by_cases c53 : t454 = true
      ·subst c53
       rw [if_pos rfl] at H
       replace H := Option.bind_eq_some_iff.mp H
       obtain ⟨⟨t455, t456, t459⟩, A540, H⟩ := H
       try dsimp only at H
       have A54 := Aside0.mk A540
       clear A540
       replace H := Option.bind_eq_some_iff.mp H
       obtain ⟨t462, A550, H⟩ := H
       try dsimp only at H
       have A55 := Aside0.mk A550
       clear A550
       by_cases c56 : t462 = true
       ·subst c56
        rw [if_pos rfl] at H
        obtain rfl := Option.some.inj H
        go_enter Try.func8, Try.ntmps8
        try go_wp2_with (first | ((with_reducible refine gate_dst (N := 3) rfl ?_); refine box_event ?hg (N := 3) ?hd (cs := #[.int .i64 a0_0, .int .i64 a0_1, .slice A0_2 l0_2.length c0_2]) (t := 34) ?hr ?_; (case hd => rfl); (case hg => rfl); (case hr => first | (go_simp; done) | (go_simp; rfl)); intro gb404 hg w57 hbox hb; have BK404 := Aside0.mk (hbox); have GW404 := Aside0.mk ((by rw [hg]; exact (bz_ HB.out) : w.heap.size ≤ gb404)); have GE404 := Aside0.mk ((by rw [hg]; exact (bz_ HB.out) : w.heap.size ≤ gb404)); replace HB := Aside0.mk (bs_ HB.out hb); clear hb hbox hg) | ((with_reducible refine gate_dst (N := 4) rfl ?_); refine box_event ?hg (N := 4) ?hd (cs := #[.slice A1_0 l1_0.length c1_0]) (t := 36) ?hr ?_; (case hd => rfl); (case hg => rfl); (case hr => first | (go_simp; done) | (go_simp; rfl)); intro gb405 hg w58 hbox hb; have BK405 := Aside0.mk (hbox); have GW405 := Aside0.mk ((by rw [hg]; exact (bz_ HB.out) : w.heap.size ≤ gb405)); have GE405 := Aside0.mk ((by rw [hg]; exact (bz_ HB.out) : w.heap.size ≤ gb405)); replace HB := Aside0.mk (bs_ HB.out hb); have NB404_405 := Aside0.mk ((by rw [hg]; exact Nat.ne_of_lt (bl_ BK404.out) : gb404 ≠ gb405)); have NB405_404 := Aside0.mk ((by rw [hg]; exact Nat.ne_of_gt (bl_ BK404.out) : gb405 ≠ gb404)); replace BK404 := Aside0.mk (bk_ BK404.out hb); clear hb hbox hg) | ((with_reducible refine gate_dst (N := 5) rfl ?_); refine box_event ?hg (N := 5) ?hd (cs := #[.int .i64 a2_0, .slice A2_1 l2_1.length c2_1, .slice A2_2 l2_2.length c2_2]) (t := 60) ?hr ?_; (case hd => rfl); (case hg => rfl); (case hr => first | (go_simp; done) | (go_simp; rfl)); intro gb406 hg w59 hbox hb; have BK406 := Aside0.mk (hbox); have GW406 := Aside0.mk ((by rw [hg]; exact (bz_ HB.out) : w.heap.size ≤ gb406)); have GE406 := Aside0.mk ((by rw [hg]; exact (bz_ HB.out) : w.heap.size ≤ gb406)); replace HB := Aside0.mk (bs_ HB.out hb); have NB404_406 := Aside0.mk ((by rw [hg]; exact Nat.ne_of_lt (bl_ BK404.out) : gb404 ≠ gb406)); have NB406_404 := Aside0.mk ((by rw [hg]; exact Nat.ne_of_gt (bl_ BK404.out) : gb406 ≠ gb404)); replace BK404 := Aside0.mk (bk_ BK404.out hb); have NB405_406 := Aside0.mk ((by rw [hg]; exact Nat.ne_of_lt (bl_ BK405.out) : gb405 ≠ gb406)); have NB406_405 := Aside0.mk ((by rw [hg]; exact Nat.ne_of_gt (bl_ BK405.out) : gb406 ≠ gb405)); replace BK405 := Aside0.mk (bk_ BK405.out hb); clear hb hbox hg; have hnb60 := NB404_405.out; have hnc60 := NB405_404.out; have hnb61 := NB404_406.out; have hnc61 := NB406_404.out; obtain ⟨hcz62_0, hcz62_1, hcz62_2, hfz62_0, hfz62_1, hfz62_2⟩ := cz3_ BK404.out) | ((with_reducible refine gate_callee (f := 22) rfl ?_); refine gm_ (some 15) Try.func22 #[.agg #[.int .i64 a0_0, .int .i64 a0_1, .slice A0_2 l0_2.length c0_2], .int .i64 1048576] rfl ?_; (with_reducible refine (laws_szMesh.calls a0_0 a0_1 _ _ l0_2 1048576 t407 _ ?side1 HC0_2.out A4.out).mono ?_); (case side1 => exact cb_ HR0_2.out HB.out); rintro e w63 ⟨rfl, hb⟩; refine ⟨_, rfl, ?_⟩; replace BK404 := Aside0.mk (bk_ BK404.out hb); replace BK405 := Aside0.mk (bk_ BK405.out hb); replace BK406 := Aside0.mk (bk_ BK406.out hb); replace HB := Aside0.mk (bs_ HB.out hb); (try clear hb); have hnb64 := NB405_406.out; have hnc64 := NB406_405.out; obtain ⟨hcz65_0, hfz65_0⟩ := cz1_ BK405.out) | ((with_reducible refine gate_callee (f := 23) rfl ?_); refine gm_ (some 20) Try.func23 #[.agg #[.slice A1_0 l1_0.length c1_0], .int .i64 t407] rfl ?_; (with_reducible refine (laws_szTable.calls _ _ l1_0 t407 t408 _ ?side1 HC1_0.out A13.out).mono ?_); (case side1 => exact cb_ HR1_0.out HB.out); rintro e w66 ⟨rfl, hb⟩; refine ⟨_, rfl, ?_⟩; replace BK404 := Aside0.mk (bk_ BK404.out hb); replace BK405 := Aside0.mk (bk_ BK405.out hb); replace BK406 := Aside0.mk (bk_ BK406.out hb); replace HB := Aside0.mk (bs_ HB.out hb); (try clear hb); obtain ⟨hcz67_0, hcz67_1, hcz67_2, hfz67_0, hfz67_1, hfz67_2⟩ := cz3_ BK406.out) | ((with_reducible refine gate_callee (f := 41) rfl ?_); refine gm_ (some 25) Try.func41 #[.agg #[.int .i64 a2_0, .slice A2_1 l2_1.length c2_1, .slice A2_2 l2_2.length c2_2], .int .i64 t408] rfl ?_; (with_reducible refine (laws_szVerdict.calls a2_0 _ _ l2_1 _ _ l2_2 t408 t409 _ ?side1 HC2_1.out ?side3 HC2_2.out A25.out).mono ?_); (case side1 => exact cb_ HR2_1.out HB.out); (case side3 => exact cb_ HR2_2.out HB.out); rintro e w68 ⟨rfl, hb⟩; refine ⟨_, rfl, ?_⟩; replace BK404 := Aside0.mk (bk_ BK404.out hb); replace BK405 := Aside0.mk (bk_ BK405.out hb); replace BK406 := Aside0.mk (bk_ BK406.out hb); replace HB := Aside0.mk (bs_ HB.out hb); (try clear hb)))
        have n0_ := Aside0.mk (blk_drew BK404.out)
        have n1_ := Aside0.mk (blk_drew BK405.out)
        have n2_ := Aside0.mk (blk_drew BK406.out)
        have n3_ := Aside0.mk (below_drew1 HB.out)
        clear BK404
        clear BK405
        clear BK406
        clear HB
        have BK404 := n0_
        have BK405 := n1_
        have BK406 := n2_
        have HB := n3_
        clear n0_ n1_ n2_ n3_
        refine start_ (n := 8) (S := fun w' => w'.cell? ⟨gb404, 0, none⟩ = some (.int .i64 a0_0) ∧ w'.cell? ⟨gb404, 1, none⟩ = some (.int .i64 a0_1) ∧ w'.cell? ⟨gb404, 2, none⟩ = some (.slice A0_2 l0_2.length c0_2) ∧ w'.cell? ⟨gb405, 0, none⟩ = some (.slice A1_0 l1_0.length c1_0) ∧ w'.cell? ⟨gb406, 0, none⟩ = some (.int .i64 a2_0) ∧ w'.cell? ⟨gb406, 1, none⟩ = some (.slice A2_1 l2_1.length c2_1) ∧ w'.cell? ⟨gb406, 2, none⟩ = some (.slice A2_2 l2_2.length c2_2)) (ds := []) #[false, false, false, false, false, false, false, false] (by kernel_rfl) rfl rfl ⟨(blk_cell BK404.out 0).trans rfl, (blk_cell BK404.out 1).trans rfl, (blk_cell BK404.out 2).trans rfl, (blk_cell BK405.out 0).trans rfl, (blk_cell BK406.out 0).trans rfl, (blk_cell BK406.out 1).trans rfl, (blk_cell BK406.out 2).trans rfl⟩ (fun hHeld => ?_); refine with_tabW laws_FnExactProvesVerdict.tab11 laws_FnExactProvesVerdict.bits11 (fun HT_ HW_ => ?_)
        generalize w68.drew = w69 at BK404 BK405 BK406 HB hHeld ⊢
        refine take_ (i := 0) (N := some 28) (v := ?_) (a' := ?_) (bt_ 8 1) rfl rfl (take_ofW HT_.out HW_.out (by kernel_rfl)) (fun _ _ _ h => h) (Or.inl ⟨by rfl, ?_⟩) hHeld ?_ ?_
        rotate_left
        ·rintro w' ⟨s0, s1, s2, s3, s4, s5, s6⟩
         go_simp
         with_reducible rfl
        rotate_left
        ·simp only [Act.put, List.setIfInBounds_toArray, List.set_cons_zero, List.set_cons_succ, i64_w, i32_w]
         rfl
        refine take_ (i := 2) (N := some 30) (v := ?_) (a' := ?_) (bt_ 8 5) rfl rfl (take_ofW HT_.out HW_.out (by kernel_rfl)) (fun _ _ _ h => h) (Or.inl ⟨by rfl, ?_⟩) hHeld ?_ ?_
        rotate_left
        ·rintro w' ⟨s0, s1, s2, s3, s4, s5, s6⟩
         go_simp
         with_reducible rfl
        rotate_left
        ·simp only [Act.put, List.setIfInBounds_toArray, List.set_cons_zero, List.set_cons_succ, i64_w, i32_w]
         rfl
        refine take_ (i := 4) (N := some 32) (v := ?_) (a' := ?_) (bt_ 8 21) rfl rfl (take_ofW HT_.out HW_.out (by kernel_rfl)) (fun _ _ _ h => h) (Or.inl ⟨by rfl, ?_⟩) hHeld ?_ ?_
        rotate_left
        ·rintro w' ⟨s0, s1, s2, s3, s4, s5, s6⟩
         go_simp
         with_reducible rfl
        rotate_left
        ·simp only [Act.put, List.setIfInBounds_toArray, List.set_cons_zero, List.set_cons_succ, i64_w, i32_w]
         rfl
        refine one_ (i := 1) (N := some 29) (bt_ 8 23) rfl rfl (one_of HT_.out (by kernel_rfl)) (by decide) (fun K hK => ?_)
        refine goes_ Try.func25 (by kernel_rfl) rfl #[.agg #[.int .i64 a0_0, .int .i64 a0_1, .slice A0_2 l0_2.length c0_2]] (by rfl) rfl rfl (by (try simp only [List.map_toArray, List.map_cons, List.map_nil]); first | done | rfl | (simp only [List.length_drop, List.length_take]; rfl)) ?_
        with_reducible refine (laws_toMesh.calls k a0_0 a0_1 _ _ l0_2 t410 t411 t412 _ ?side1 ?side2 A39.out).mono ?_
        (case side1 => exact cb_ HR0_2.out HB.out)
        (case side2 => exact HC0_2.out)
        rintro e w70 ⟨v413, rfl, ho0, hb⟩
        refine ⟨_, rfl, ?_⟩
        have n0_ := Aside0.mk (Kd.R_lower ho0 (bz_ HB.out))
        have n1_ := Aside0.mk (bk_ BK404.out hb)
        have n2_ := Aside0.mk (bk_ BK405.out hb)
        have n3_ := Aside0.mk (bk_ BK406.out hb)
        have n4_ := Aside0.mk (bs_ HB.out hb)
        clear BK404
        clear BK405
        clear BK406
        clear HB
        have HO414 := n0_
        have BK404 := n1_
        have BK405 := n2_
        have BK406 := n3_
        have HB := n4_
        clear n0_ n1_ n2_ n3_ n4_
        (try clear hb)
        (try clear hb2)
        (try clear hk)
        (try clear hi)
        (try clear ho0)
        refine hK.out _ _ ⟨(blk_cell BK404.out 0).trans rfl, (blk_cell BK404.out 1).trans rfl, (blk_cell BK404.out 2).trans rfl, (blk_cell BK405.out 0).trans rfl, (blk_cell BK406.out 0).trans rfl, (blk_cell BK406.out 1).trans rfl, (blk_cell BK406.out 2).trans rfl⟩ (fun hHeld => ?_)
        clear hK K
        refine norm_ (a' := ?_) ?_ ?_
        rotate_left
        ·show Act.put _ (some 29) _ = _
         simp only [Act.put, List.setIfInBounds_toArray, List.set_cons_zero, List.set_cons_succ, i64_w, i32_w]
         rfl
        refine one_ (i := 3) (N := some 31) (bt_ 8 31) rfl rfl (one_of HT_.out (by kernel_rfl)) (by decide) (fun K hK => ?_)
        refine goes_ Try.func26 (by kernel_rfl) rfl #[.agg #[.slice A1_0 l1_0.length c1_0]] (by rfl) rfl rfl (by (try simp only [List.map_toArray, List.map_cons, List.map_nil]); first | done | rfl | (simp only [List.length_drop, List.length_take]; rfl)) ?_
        with_reducible refine (laws_toTable.calls k _ _ l1_0 t415 _ ?side1 ?side2 A40.out).mono ?_
        (case side1 => exact cb_ HR1_0.out HB.out)
        (case side2 => exact HC1_0.out)
        rintro e w71 ⟨v416, rfl, ho0, hb⟩
        refine ⟨_, rfl, ?_⟩
        have n0_ := Aside0.mk (Kd.R_elder' (ra_ HO414.out) (Kd.R_base ho0) hb)
        have n1_ := Aside0.mk (Kd.R_lower (Kd.R_new' ho0 (rl_ HO414.out)) (bz_ HB.out))
        have n2_ := Aside0.mk (bk_ BK404.out hb)
        have n3_ := Aside0.mk (bk_ BK405.out hb)
        have n4_ := Aside0.mk (bk_ BK406.out hb)
        have n5_ := Aside0.mk (bs_ HB.out hb)
        clear HO414
        clear BK404
        clear BK405
        clear BK406
        clear HB
        have HO414 := n0_
        have HO417 := n1_
        have BK404 := n2_
        have BK405 := n3_
        have BK406 := n4_
        have HB := n5_
        clear n0_ n1_ n2_ n3_ n4_ n5_
        (try clear hb)
        (try clear hb2)
        (try clear hk)
        (try clear hi)
        (try clear ho0)
        refine hK.out _ _ ⟨(blk_cell BK404.out 0).trans rfl, (blk_cell BK404.out 1).trans rfl, (blk_cell BK404.out 2).trans rfl, (blk_cell BK405.out 0).trans rfl, (blk_cell BK406.out 0).trans rfl, (blk_cell BK406.out 1).trans rfl, (blk_cell BK406.out 2).trans rfl⟩ (fun hHeld => ?_)
        clear hK K
        refine norm_ (a' := ?_) ?_ ?_
        rotate_left
        ·show Act.put _ (some 31) _ = _
         simp only [Act.put, List.setIfInBounds_toArray, List.set_cons_zero, List.set_cons_succ, i64_w, i32_w]
         rfl
        refine one_ (i := 5) (N := some 33) (bt_ 8 63) rfl rfl (one_of HT_.out (by kernel_rfl)) (by decide) (fun K hK => ?_)
        refine goes_ Try.func43 (by kernel_rfl) rfl #[.agg #[.int .i64 a2_0, .slice A2_1 l2_1.length c2_1, .slice A2_2 l2_2.length c2_2]] (by rfl) rfl rfl (by (try simp only [List.map_toArray, List.map_cons, List.map_nil]); first | done | rfl | (simp only [List.length_drop, List.length_take]; rfl)) ?_
        with_reducible refine (laws_toVerdict.calls k a2_0 _ _ l2_1 _ _ l2_2 t418 t419 t422 _ ?side1 ?side2 ?side3 ?side4 A41.out).mono ?_
        (case side1 => exact cb_ HR2_1.out HB.out)
        (case side2 => exact HC2_1.out)
        (case side3 => exact cb_ HR2_2.out HB.out)
        (case side4 => exact HC2_2.out)
        rintro e w72 ⟨v420, v423, rfl, ho0, ho1, hb⟩
        refine ⟨_, rfl, ?_⟩
        have n0_ := Aside0.mk (Kd.R_mono (Kd.R_told (Kd.R_told (Kd.R_old (ra_ HO414.out) hb) (Kd.R_base ho0)) (Kd.R_base ho1)) (fun _ h_ => h_.1))
        have n1_ := Aside0.mk (Kd.R_mono (Kd.R_told (Kd.R_told (Kd.R_old (ra_ HO417.out) hb) (Kd.R_base ho0)) (Kd.R_base ho1)) (fun _ h_ => h_.1))
        have n2_ := Aside0.mk (Kd.R_lower (Kd.R_new' (Kd.R_new' ho0 (rl_ HO414.out)) (rl_ HO417.out)) (bz_ HB.out))
        have n3_ := Aside0.mk (Kd.R_lower (Kd.R_new' (Kd.R_new' ho1 (rl_ HO414.out)) (rl_ HO417.out)) (bz_ HB.out))
        have n4_ := Aside0.mk (bk_ BK404.out hb)
        have n5_ := Aside0.mk (bk_ BK405.out hb)
        have n6_ := Aside0.mk (bk_ BK406.out hb)
        have n7_ := Aside0.mk (bs_ HB.out hb)
        clear HO414
        clear HO417
        clear BK404
        clear BK405
        clear BK406
        clear HB
        have HO414 := n0_
        have HO417 := n1_
        have HO421 := n2_
        have HO424 := n3_
        have BK404 := n4_
        have BK405 := n5_
        have BK406 := n6_
        have HB := n7_
        clear n0_ n1_ n2_ n3_ n4_ n5_ n6_ n7_
        (try clear hb)
        (try clear hb2)
        (try clear hk)
        (try clear hi)
        (try clear ho0)
        (try clear ho1)
        obtain ⟨Ao73, co73, eo73⟩ := Kd.R_slice HO414.out
        (first | subst eo73 | (injection eo73 with f1_ f2_ f3_; have f4_ := f1_.symm; have f5_ := f3_.symm; clear f1_ f2_ f3_; subst f4_; subst f5_))
        obtain ⟨Ao74, co74, eo74⟩ := Kd.R_slice HO417.out
        (first | subst eo74 | (injection eo74 with f1_ f2_ f3_; have f4_ := f1_.symm; have f5_ := f3_.symm; clear f1_ f2_ f3_; subst f4_; subst f5_))
        obtain ⟨Ao75, co75, eo75⟩ := Kd.R_slice HO421.out
        (first | subst eo75 | (injection eo75 with f1_ f2_ f3_; have f4_ := f1_.symm; have f5_ := f3_.symm; clear f1_ f2_ f3_; subst f4_; subst f5_))
        obtain ⟨Ao76, co76, eo76⟩ := Kd.R_slice HO424.out
        (first | subst eo76 | (injection eo76 with f1_ f2_ f3_; have f4_ := f1_.symm; have f5_ := f3_.symm; clear f1_ f2_ f3_; subst f4_; subst f5_))
        refine hK.out _ _ ⟨(blk_cell BK404.out 0).trans rfl, (blk_cell BK404.out 1).trans rfl, (blk_cell BK404.out 2).trans rfl, (blk_cell BK405.out 0).trans rfl, (blk_cell BK406.out 0).trans rfl, (blk_cell BK406.out 1).trans rfl, (blk_cell BK406.out 2).trans rfl⟩ (fun hHeld => ?_)
        clear hK K
        refine norm_ (a' := ?_) ?_ ?_
        rotate_left
        ·show Act.put _ (some 33) _ = _
         simp only [Act.put, List.setIfInBounds_toArray, List.set_cons_zero, List.set_cons_succ, i64_w, i32_w]
         rfl
        refine one_ (i := 6) (N := some 34) (bt_ 8 127) rfl rfl (one_of HT_.out (by kernel_rfl)) (by decide) (fun K hK => ?_)
        refine goes_ Try.func42 (by kernel_rfl) rfl #[.agg #[.int .i64 t410, .int .i64 t411, .slice Ao73 t412.length co73], .agg #[.slice Ao74 t415.length co74], .agg #[.int .i64 t418, .slice Ao75 t419.length co75, .slice Ao76 t422.length co76]] (by rfl) rfl rfl (by (try simp only [List.map_toArray, List.map_cons, List.map_nil]); first | done | rfl | (simp only [List.length_drop, List.length_take]; rfl)) ?_
        with_reducible refine (spec_ProvesVerdict.calls k t410 t411 _ _ t412 _ _ t415 t418 _ _ t419 _ _ t422 t425 _ ?side1 ?side2 ?side3 ?side4 ?side5 ?side6 ?side7 ?side8 A42.out).mono ?_
        (case side1 => repeat (first | exact (Kd.R_reads' HO414.out).2.2 | (with_reducible refine Kd.C_alloc ?_ _) | (with_reducible refine Kd.C_drewN ?_ _) | (with_reducible refine Kd.C_drew ?_)))
        (case side2 => exact (Kd.R_reads' HO414.out).2.1)
        (case side3 => repeat (first | exact (Kd.R_reads' HO417.out).2.2 | (with_reducible refine Kd.C_alloc ?_ _) | (with_reducible refine Kd.C_drewN ?_ _) | (with_reducible refine Kd.C_drew ?_)))
        (case side4 => exact (Kd.R_reads' HO417.out).2.1)
        (case side5 => repeat (first | exact (Kd.R_reads' HO421.out).2.2 | (with_reducible refine Kd.C_alloc ?_ _) | (with_reducible refine Kd.C_drewN ?_ _) | (with_reducible refine Kd.C_drew ?_)))
        (case side6 => exact (Kd.R_reads' HO421.out).2.1)
        (case side7 => repeat (first | exact (Kd.R_reads' HO424.out).2.2 | (with_reducible refine Kd.C_alloc ?_ _) | (with_reducible refine Kd.C_drewN ?_ _) | (with_reducible refine Kd.C_drew ?_)))
        (case side8 => exact (Kd.R_reads' HO424.out).2.1)
        rintro e w77 ⟨rfl, hb⟩
        refine ⟨_, rfl, ?_⟩
        have n0_ := Aside0.mk (Kd.R_below (ra_ HO414.out) hb)
        have n1_ := Aside0.mk (Kd.R_below (ra_ HO417.out) hb)
        have n2_ := Aside0.mk (Kd.R_below (ra_ HO421.out) hb)
        have n3_ := Aside0.mk (Kd.R_below (ra_ HO424.out) hb)
        have n4_ := Aside0.mk (bk_ BK404.out hb)
        have n5_ := Aside0.mk (bk_ BK405.out hb)
        have n6_ := Aside0.mk (bk_ BK406.out hb)
        have n7_ := Aside0.mk (bs_ HB.out hb)
        clear HO414
        clear HO417
        clear HO421
        clear HO424
        clear BK404
        clear BK405
        clear BK406
        clear HB
        have HO414 := n0_
        have HO417 := n1_
        have HO421 := n2_
        have HO424 := n3_
        have BK404 := n4_
        have BK405 := n5_
        have BK406 := n6_
        have HB := n7_
        clear n0_ n1_ n2_ n3_ n4_ n5_ n6_ n7_
        (try clear hb)
        (try clear hb2)
        (try clear hk)
        (try clear hi)
        refine hK.out _ _ ⟨(blk_cell BK404.out 0).trans rfl, (blk_cell BK404.out 1).trans rfl, (blk_cell BK404.out 2).trans rfl, (blk_cell BK405.out 0).trans rfl, (blk_cell BK406.out 0).trans rfl, (blk_cell BK406.out 1).trans rfl, (blk_cell BK406.out 2).trans rfl⟩ (fun hHeld => ?_)
        clear hK K
        refine norm_ (a' := ?_) ?_ ?_
        rotate_left
        ·show Act.put _ (some 34) _ = _
         simp only [Act.put, List.setIfInBounds_toArray, List.set_cons_zero, List.set_cons_succ, i64_w, i32_w]
         rfl
        refine pu_ 7 8 (bt_ 8 255) HT_ ?_
        refine done_ (done_of HT_.out (by kernel_rfl)) ?_
        obtain ⟨hcz78_0, hcz78_1, hcz78_2, hfz78_0, hfz78_1, hfz78_2⟩ := cz3_ BK404.out
        try go_wp2_with (first | ((with_reducible refine gate_callee (f := 25) rfl ?_); refine gm_ (some 36) Try.func25 #[.agg #[.int .i64 a0_0, .int .i64 a0_1, .slice A0_2 l0_2.length c0_2]] rfl ?_; (with_reducible refine (laws_toMesh.calls k a0_0 a0_1 _ _ l0_2 t426 t427 t428 _ ?side1 HC0_2.out A43.out).mono ?_); (case side1 => exact cb_ HR0_2.out HB.out); rintro e w79 ⟨v429, rfl, ho0, hb⟩; refine ⟨_, rfl, ?_⟩; have HO430 := Aside0.mk (Kd.R_lower (Kd.R_new' (Kd.R_new' (Kd.R_new' (Kd.R_new' ho0 (rl_ HO414.out)) (rl_ HO417.out)) (rl_ HO421.out)) (rl_ HO424.out)) (bz_ HB.out)); replace HO414 := Aside0.mk (Kd.R_elder' (ra_ HO414.out) (Kd.R_base ho0) hb); replace HO417 := Aside0.mk (Kd.R_elder' (ra_ HO417.out) (Kd.R_base ho0) hb); replace HO421 := Aside0.mk (Kd.R_elder' (ra_ HO421.out) (Kd.R_base ho0) hb); replace HO424 := Aside0.mk (Kd.R_elder' (ra_ HO424.out) (Kd.R_base ho0) hb); replace BK404 := Aside0.mk (bk_ BK404.out hb); replace BK405 := Aside0.mk (bk_ BK405.out hb); replace BK406 := Aside0.mk (bk_ BK406.out hb); replace HB := Aside0.mk (bs_ HB.out hb); (try clear hb); (try clear ho0)) | ((with_reducible refine gate_dst (N := 9) rfl ?_); refine box_event ?hg (N := 9) ?hd (cs := #[.int .i64 0, .int .i64 0, .slice none 0 0]) (t := 44) ?hr ?_; (case hd => rfl); (case hg => rfl); (case hr => first | (go_simp; done) | (go_simp; rfl)); intro gb431 hg w80 hbox hb; replace HO414 := Aside0.mk (Kd.R_below (ra_ HO414.out) hb); replace HO417 := Aside0.mk (Kd.R_below (ra_ HO417.out) hb); replace HO421 := Aside0.mk (Kd.R_below (ra_ HO421.out) hb); replace HO424 := Aside0.mk (Kd.R_below (ra_ HO424.out) hb); replace HO430 := Aside0.mk (Kd.R_below (ra_ HO430.out) hb); have BK431 := Aside0.mk (hbox); have GW431 := Aside0.mk ((by rw [hg]; exact (bz_ HB.out) : w.heap.size ≤ gb431)); have GE431 := Aside0.mk ((by rw [hg]; exact (bz_ HB.out) : w.heap.size ≤ gb431)); replace HB := Aside0.mk (bs_ HB.out hb); have NB404_431 := Aside0.mk ((by rw [hg]; exact Nat.ne_of_lt (bl_ BK404.out) : gb404 ≠ gb431)); have NB431_404 := Aside0.mk ((by rw [hg]; exact Nat.ne_of_gt (bl_ BK404.out) : gb431 ≠ gb404)); replace BK404 := Aside0.mk (bk_ BK404.out hb); have NB405_431 := Aside0.mk ((by rw [hg]; exact Nat.ne_of_lt (bl_ BK405.out) : gb405 ≠ gb431)); have NB431_405 := Aside0.mk ((by rw [hg]; exact Nat.ne_of_gt (bl_ BK405.out) : gb431 ≠ gb405)); replace BK405 := Aside0.mk (bk_ BK405.out hb); have NB406_431 := Aside0.mk ((by rw [hg]; exact Nat.ne_of_lt (bl_ BK406.out) : gb406 ≠ gb431)); have NB431_406 := Aside0.mk ((by rw [hg]; exact Nat.ne_of_gt (bl_ BK406.out) : gb431 ≠ gb406)); replace BK406 := Aside0.mk (bk_ BK406.out hb); clear hb hbox hg; have hnb81 := NB431_404.out; have hnc81 := NB404_431.out; have hnb82 := NB431_405.out; have hnc82 := NB405_431.out; have hnb83 := NB431_406.out; have hnc83 := NB406_431.out; obtain ⟨hcz84_0, hcz84_1, hcz84_2, hfz84_0, hfz84_1, hfz84_2⟩ := cz3_ BK431.out; obtain ⟨Ao85, co85, eo85⟩ := Kd.R_slice HO430.out; subst eo85; obtain ⟨hcz86_0, hfz86_0⟩ := cz1_ BK405.out) | ((with_reducible refine gate_callee (f := 26) rfl ?_); refine gm_ (some 38) Try.func26 #[.agg #[.slice A1_0 l1_0.length c1_0]] rfl ?_; (with_reducible refine (laws_toTable.calls k _ _ l1_0 t432 _ ?side1 HC1_0.out A44.out).mono ?_); (case side1 => exact Kd.C_below HR1_0.out (by repeat (first | (with_reducible first | exact HB.out | apply below_alloc | apply pw_below_drewN | apply below_drew1 | refine below_set ?_ GE404.out | refine below_set ?_ GE405.out | refine below_set ?_ GE406.out | refine below_set ?_ GE431.out) | exact HB.out))); rintro e w87 ⟨v433, rfl, ho0, hb⟩; refine ⟨_, rfl, ?_⟩; have HO434 := Aside0.mk (Kd.R_lower (Kd.R_new' (Kd.R_new' (Kd.R_new' (Kd.R_new' (Kd.R_new' ho0 (Kd.R_lt (rm_ (Kd.R_types HO414.out BK431.out (by decide)) (fun _ h_ => h_.1)))) (Kd.R_lt (rm_ (Kd.R_types HO417.out BK431.out (by decide)) (fun _ h_ => h_.1)))) (Kd.R_lt (rm_ (Kd.R_types HO421.out BK431.out (by decide)) (fun _ h_ => h_.1)))) (Kd.R_lt (rm_ (Kd.R_types HO424.out BK431.out (by decide)) (fun _ h_ => h_.1)))) (Kd.R_lt (rm_ (Kd.R_types HO430.out BK431.out (by decide)) (fun _ h_ => h_.1)))) (bz_ HB.out)); replace HO414 := Aside0.mk (Kd.R_elder' (rm_ (Kd.R_types HO414.out BK431.out (by decide)) (fun _ h_ => h_.1)) (Kd.R_base ho0) hb); replace HO417 := Aside0.mk (Kd.R_elder' (rm_ (Kd.R_types HO417.out BK431.out (by decide)) (fun _ h_ => h_.1)) (Kd.R_base ho0) hb); replace HO421 := Aside0.mk (Kd.R_elder' (rm_ (Kd.R_types HO421.out BK431.out (by decide)) (fun _ h_ => h_.1)) (Kd.R_base ho0) hb); replace HO424 := Aside0.mk (Kd.R_elder' (rm_ (Kd.R_types HO424.out BK431.out (by decide)) (fun _ h_ => h_.1)) (Kd.R_base ho0) hb); replace HO430 := Aside0.mk (Kd.R_elder' (rm_ (Kd.R_types HO430.out BK431.out (by decide)) (fun _ h_ => h_.1)) (Kd.R_base ho0) hb); replace BK404 := Aside0.mk (blk_below (bf_ BK404.out) hb); replace BK405 := Aside0.mk (blk_below (bf_ BK405.out) hb); replace BK406 := Aside0.mk (blk_below (bf_ BK406.out) hb); replace BK431 := Aside0.mk (blk_below (g := gb431) (o := .cells #[.int .i64 t426, .int .i64 t427, .slice Ao85 t428.length co85] 44 (0, 0)) (by (with_reducible repeat (first | refine blk_drewN ?_ _ | refine blk_drew ?_ | refine blk_alloc ?_ _)); refine blk_put (cs := #[.int .i64 t426, .int .i64 t427, .slice none 0 0]) ?_ 2 _ rfl; (with_reducible repeat (first | refine blk_drewN ?_ _ | refine blk_drew ?_ | refine blk_alloc ?_ _)); refine blk_put (cs := #[.int .i64 t426, .int .i64 0, .slice none 0 0]) ?_ 1 _ rfl; (with_reducible repeat (first | refine blk_drewN ?_ _ | refine blk_drew ?_ | refine blk_alloc ?_ _)); refine blk_put (cs := #[.int .i64 0, .int .i64 0, .slice none 0 0]) ?_ 0 _ rfl; (with_reducible repeat (first | refine blk_drewN ?_ _ | refine blk_drew ?_ | refine blk_alloc ?_ _)); exact BK431.out) hb); replace HB := Aside0.mk (bs_ HB.out hb); (try clear hb); (try clear ho0)) | ((with_reducible refine gate_dst (N := 10) rfl ?_); refine box_event ?hg (N := 10) ?hd (cs := #[.slice none 0 0]) (t := 46) ?hr ?_; (case hd => rfl); (case hg => rfl); (case hr => first | (go_simp; done) | (go_simp; rfl)); intro gb435 hg w88 hbox hb; replace HO414 := Aside0.mk (Kd.R_below (ra_ HO414.out) hb); replace HO417 := Aside0.mk (Kd.R_below (ra_ HO417.out) hb); replace HO421 := Aside0.mk (Kd.R_below (ra_ HO421.out) hb); replace HO424 := Aside0.mk (Kd.R_below (ra_ HO424.out) hb); replace HO430 := Aside0.mk (Kd.R_below (ra_ HO430.out) hb); replace HO434 := Aside0.mk (Kd.R_below (ra_ HO434.out) hb); have BK435 := Aside0.mk (hbox); have GW435 := Aside0.mk ((by rw [hg]; exact (bz_ HB.out) : w.heap.size ≤ gb435)); have GE435 := Aside0.mk ((by rw [hg]; exact (bz_ HB.out) : w.heap.size ≤ gb435)); replace HB := Aside0.mk (bs_ HB.out hb); have NB404_435 := Aside0.mk ((by rw [hg]; exact Nat.ne_of_lt (bl_ BK404.out) : gb404 ≠ gb435)); have NB435_404 := Aside0.mk ((by rw [hg]; exact Nat.ne_of_gt (bl_ BK404.out) : gb435 ≠ gb404)); replace BK404 := Aside0.mk (bk_ BK404.out hb); have NB405_435 := Aside0.mk ((by rw [hg]; exact Nat.ne_of_lt (bl_ BK405.out) : gb405 ≠ gb435)); have NB435_405 := Aside0.mk ((by rw [hg]; exact Nat.ne_of_gt (bl_ BK405.out) : gb435 ≠ gb405)); replace BK405 := Aside0.mk (bk_ BK405.out hb); have NB406_435 := Aside0.mk ((by rw [hg]; exact Nat.ne_of_lt (bl_ BK406.out) : gb406 ≠ gb435)); have NB435_406 := Aside0.mk ((by rw [hg]; exact Nat.ne_of_gt (bl_ BK406.out) : gb435 ≠ gb406)); replace BK406 := Aside0.mk (bk_ BK406.out hb); have NB431_435 := Aside0.mk ((by rw [hg]; exact Nat.ne_of_lt (bl_ BK431.out) : gb431 ≠ gb435)); have NB435_431 := Aside0.mk ((by rw [hg]; exact Nat.ne_of_gt (bl_ BK431.out) : gb435 ≠ gb431)); replace BK431 := Aside0.mk (bk_ BK431.out hb); clear hb hbox hg; obtain ⟨Ao89, co89, eo89⟩ := Kd.R_slice HO434.out; subst eo89; have hnb90 := NB435_404.out; have hnc90 := NB404_435.out; have hnb91 := NB435_405.out; have hnc91 := NB405_435.out; have hnb92 := NB435_406.out; have hnc92 := NB406_435.out; have hnb93 := NB435_431.out; have hnc93 := NB431_435.out; obtain ⟨hcz94_0, hfz94_0⟩ := cz1_ BK435.out; obtain ⟨hcz95_0, hcz95_1, hcz95_2, hfz95_0, hfz95_1, hfz95_2⟩ := cz3_ BK406.out) | ((with_reducible refine gate_callee (f := 43) rfl ?_); refine gm_ (some 40) Try.func43 #[.agg #[.int .i64 a2_0, .slice A2_1 l2_1.length c2_1, .slice A2_2 l2_2.length c2_2]] rfl ?_; (with_reducible refine (laws_toVerdict.calls k a2_0 _ _ l2_1 _ _ l2_2 t436 t437 t440 _ ?side1 HC2_1.out ?side3 HC2_2.out A45.out).mono ?_); (case side1 => exact Kd.C_below HR2_1.out (by repeat (first | (with_reducible first | exact HB.out | apply below_alloc | apply pw_below_drewN | apply below_drew1 | refine below_set ?_ GE404.out | refine below_set ?_ GE405.out | refine below_set ?_ GE406.out | refine below_set ?_ GE431.out | refine below_set ?_ GE435.out) | exact HB.out))); (case side3 => exact Kd.C_below HR2_2.out (by repeat (first | (with_reducible first | exact HB.out | apply below_alloc | apply pw_below_drewN | apply below_drew1 | refine below_set ?_ GE404.out | refine below_set ?_ GE405.out | refine below_set ?_ GE406.out | refine below_set ?_ GE431.out | refine below_set ?_ GE435.out) | exact HB.out))); rintro e w96 ⟨v438, v441, rfl, ho0, ho1, hb⟩; refine ⟨_, rfl, ?_⟩; have HO439 := Aside0.mk (Kd.R_lower (Kd.R_new' (Kd.R_new' (Kd.R_new' (Kd.R_new' (Kd.R_new' (Kd.R_new' ho0 (Kd.R_lt (rm_ (Kd.R_types HO414.out BK435.out (by decide)) (fun _ h_ => h_.1)))) (Kd.R_lt (rm_ (Kd.R_types HO417.out BK435.out (by decide)) (fun _ h_ => h_.1)))) (Kd.R_lt (rm_ (Kd.R_types HO421.out BK435.out (by decide)) (fun _ h_ => h_.1)))) (Kd.R_lt (rm_ (Kd.R_types HO424.out BK435.out (by decide)) (fun _ h_ => h_.1)))) (Kd.R_lt (rm_ (Kd.R_types HO430.out BK435.out (by decide)) (fun _ h_ => h_.1)))) (Kd.R_lt (rm_ (Kd.R_types HO434.out BK435.out (by decide)) (fun _ h_ => h_.1)))) (bz_ HB.out)); have HO442 := Aside0.mk (Kd.R_lower (Kd.R_new' (Kd.R_new' (Kd.R_new' (Kd.R_new' (Kd.R_new' (Kd.R_new' ho1 (Kd.R_lt (rm_ (Kd.R_types HO414.out BK435.out (by decide)) (fun _ h_ => h_.1)))) (Kd.R_lt (rm_ (Kd.R_types HO417.out BK435.out (by decide)) (fun _ h_ => h_.1)))) (Kd.R_lt (rm_ (Kd.R_types HO421.out BK435.out (by decide)) (fun _ h_ => h_.1)))) (Kd.R_lt (rm_ (Kd.R_types HO424.out BK435.out (by decide)) (fun _ h_ => h_.1)))) (Kd.R_lt (rm_ (Kd.R_types HO430.out BK435.out (by decide)) (fun _ h_ => h_.1)))) (Kd.R_lt (rm_ (Kd.R_types HO434.out BK435.out (by decide)) (fun _ h_ => h_.1)))) (bz_ HB.out)); replace HO414 := Aside0.mk (Kd.R_mono (Kd.R_told (Kd.R_told (Kd.R_old (rm_ (Kd.R_types HO414.out BK435.out (by decide)) (fun _ h_ => h_.1)) hb) (Kd.R_base ho0)) (Kd.R_base ho1)) (fun _ h_ => h_.1)); replace HO417 := Aside0.mk (Kd.R_mono (Kd.R_told (Kd.R_told (Kd.R_old (rm_ (Kd.R_types HO417.out BK435.out (by decide)) (fun _ h_ => h_.1)) hb) (Kd.R_base ho0)) (Kd.R_base ho1)) (fun _ h_ => h_.1)); replace HO421 := Aside0.mk (Kd.R_mono (Kd.R_told (Kd.R_told (Kd.R_old (rm_ (Kd.R_types HO421.out BK435.out (by decide)) (fun _ h_ => h_.1)) hb) (Kd.R_base ho0)) (Kd.R_base ho1)) (fun _ h_ => h_.1)); replace HO424 := Aside0.mk (Kd.R_mono (Kd.R_told (Kd.R_told (Kd.R_old (rm_ (Kd.R_types HO424.out BK435.out (by decide)) (fun _ h_ => h_.1)) hb) (Kd.R_base ho0)) (Kd.R_base ho1)) (fun _ h_ => h_.1)); replace HO430 := Aside0.mk (Kd.R_mono (Kd.R_told (Kd.R_told (Kd.R_old (rm_ (Kd.R_types HO430.out BK435.out (by decide)) (fun _ h_ => h_.1)) hb) (Kd.R_base ho0)) (Kd.R_base ho1)) (fun _ h_ => h_.1)); replace HO434 := Aside0.mk (Kd.R_mono (Kd.R_told (Kd.R_told (Kd.R_old (rm_ (Kd.R_types HO434.out BK435.out (by decide)) (fun _ h_ => h_.1)) hb) (Kd.R_base ho0)) (Kd.R_base ho1)) (fun _ h_ => h_.1)); replace BK404 := Aside0.mk (blk_below (bf_ BK404.out) hb); replace BK405 := Aside0.mk (blk_below (bf_ BK405.out) hb); replace BK406 := Aside0.mk (blk_below (bf_ BK406.out) hb); replace BK431 := Aside0.mk (blk_below (bf_ BK431.out) hb); replace BK435 := Aside0.mk (blk_below (g := gb435) (o := .cells #[.slice Ao89 t432.length co89] 46 (0, 0)) (by (with_reducible repeat (first | refine blk_drewN ?_ _ | refine blk_drew ?_ | refine blk_alloc ?_ _)); refine blk_put (cs := #[.slice none 0 0]) ?_ 0 _ rfl; (with_reducible repeat (first | refine blk_drewN ?_ _ | refine blk_drew ?_ | refine blk_alloc ?_ _)); exact BK435.out) hb); replace HB := Aside0.mk (bs_ HB.out hb); (try clear hb); (try clear ho0); (try clear ho1)) | ((with_reducible refine gate_dst (N := 11) rfl ?_); refine box_event ?hg (N := 11) ?hd (cs := #[.int .i64 0, .slice none 0 0, .slice none 0 0]) (t := 40) ?hr ?_; (case hd => rfl); (case hg => rfl); (case hr => first | (go_simp; done) | (go_simp; rfl)); intro gb443 hg w97 hbox hb; replace HO414 := Aside0.mk (Kd.R_below (ra_ HO414.out) hb); replace HO417 := Aside0.mk (Kd.R_below (ra_ HO417.out) hb); replace HO421 := Aside0.mk (Kd.R_below (ra_ HO421.out) hb); replace HO424 := Aside0.mk (Kd.R_below (ra_ HO424.out) hb); replace HO430 := Aside0.mk (Kd.R_below (ra_ HO430.out) hb); replace HO434 := Aside0.mk (Kd.R_below (ra_ HO434.out) hb); replace HO439 := Aside0.mk (Kd.R_below (ra_ HO439.out) hb); replace HO442 := Aside0.mk (Kd.R_below (ra_ HO442.out) hb); have BK443 := Aside0.mk (hbox); have GW443 := Aside0.mk ((by rw [hg]; exact (bz_ HB.out) : w.heap.size ≤ gb443)); have GE443 := Aside0.mk ((by rw [hg]; exact (bz_ HB.out) : w.heap.size ≤ gb443)); replace HB := Aside0.mk (bs_ HB.out hb); have NB404_443 := Aside0.mk ((by rw [hg]; exact Nat.ne_of_lt (bl_ BK404.out) : gb404 ≠ gb443)); have NB443_404 := Aside0.mk ((by rw [hg]; exact Nat.ne_of_gt (bl_ BK404.out) : gb443 ≠ gb404)); replace BK404 := Aside0.mk (bk_ BK404.out hb); have NB405_443 := Aside0.mk ((by rw [hg]; exact Nat.ne_of_lt (bl_ BK405.out) : gb405 ≠ gb443)); have NB443_405 := Aside0.mk ((by rw [hg]; exact Nat.ne_of_gt (bl_ BK405.out) : gb443 ≠ gb405)); replace BK405 := Aside0.mk (bk_ BK405.out hb); have NB406_443 := Aside0.mk ((by rw [hg]; exact Nat.ne_of_lt (bl_ BK406.out) : gb406 ≠ gb443)); have NB443_406 := Aside0.mk ((by rw [hg]; exact Nat.ne_of_gt (bl_ BK406.out) : gb443 ≠ gb406)); replace BK406 := Aside0.mk (bk_ BK406.out hb); have NB431_443 := Aside0.mk ((by rw [hg]; exact Nat.ne_of_lt (bl_ BK431.out) : gb431 ≠ gb443)); have NB443_431 := Aside0.mk ((by rw [hg]; exact Nat.ne_of_gt (bl_ BK431.out) : gb443 ≠ gb431)); replace BK431 := Aside0.mk (bk_ BK431.out hb); have NB435_443 := Aside0.mk ((by rw [hg]; exact Nat.ne_of_lt (bl_ BK435.out) : gb435 ≠ gb443)); have NB443_435 := Aside0.mk ((by rw [hg]; exact Nat.ne_of_gt (bl_ BK435.out) : gb443 ≠ gb435)); replace BK435 := Aside0.mk (bk_ BK435.out hb); clear hb hbox hg; have hnb98 := NB443_404.out; have hnc98 := NB404_443.out; have hnb99 := NB443_405.out; have hnc99 := NB405_443.out; have hnb100 := NB443_406.out; have hnc100 := NB406_443.out; have hnb101 := NB443_431.out; have hnc101 := NB431_443.out; have hnb102 := NB443_435.out; have hnc102 := NB435_443.out; obtain ⟨hcz103_0, hcz103_1, hcz103_2, hfz103_0, hfz103_1, hfz103_2⟩ := cz3_ BK443.out; obtain ⟨Ao104, co104, eo104⟩ := Kd.R_slice HO439.out; subst eo104; obtain ⟨Ao105, co105, eo105⟩ := Kd.R_slice HO442.out; subst eo105; obtain ⟨hcz106_0, hcz106_1, hcz106_2, hfz106_0, hfz106_1, hfz106_2⟩ := cz3_ BK431.out; obtain ⟨hcz107_0, hfz107_0⟩ := cz1_ BK435.out) | ((with_reducible refine gate_callee (f := 44) rfl ?_); refine gm_ (some 44) Try.func44 #[.agg #[.int .i64 t426, .int .i64 t427, .slice Ao85 t428.length co85], .agg #[.slice Ao89 t432.length co89], .agg #[.int .i64 t436, .slice Ao104 t437.length co104, .slice Ao105 t440.length co105]] rfl ?_; (with_reducible refine (impl_ProvesVerdict.calls k t426 t427 _ _ t428 _ _ t432 t436 _ _ t437 _ _ t440 t444 _ ?side1 ?side2 ?side3 ?side4 ?side5 ?side6 ?side7 ?side8 A46.out).mono ?_); (case side1 => refine (Kd.R_reads' (e := 3) (base := w.heap.size) (ok := fun k_ => (((((((True ∧ some k_ ≠ (.slice Ao73 t412.length co73 : Value).ownBlock) ∧ some k_ ≠ (.slice Ao74 t415.length co74 : Value).ownBlock) ∧ some k_ ≠ (.slice Ao75 t419.length co75 : Value).ownBlock) ∧ some k_ ≠ (.slice Ao76 t422.length co76 : Value).ownBlock) ∧ some k_ ≠ (.slice Ao89 t432.length co89 : Value).ownBlock) ∧ some k_ ≠ (.slice Ao104 t437.length co104 : Value).ownBlock) ∧ some k_ ≠ (.slice Ao105 t440.length co105 : Value).ownBlock)) (n := t428.length) (c := co85) ?_).2.2; exact (rm_ (Kd.R_types HO430.out BK443.out (by decide)) (fun _ h_ => h_.1))); (case side2 => exact (Kd.R_reads' HO430.out).2.1); (case side3 => refine (Kd.R_reads' (e := 3) (base := w.heap.size) (ok := fun k_ => (((((((True ∧ some k_ ≠ (.slice Ao73 t412.length co73 : Value).ownBlock) ∧ some k_ ≠ (.slice Ao74 t415.length co74 : Value).ownBlock) ∧ some k_ ≠ (.slice Ao75 t419.length co75 : Value).ownBlock) ∧ some k_ ≠ (.slice Ao76 t422.length co76 : Value).ownBlock) ∧ some k_ ≠ (.slice Ao85 t428.length co85 : Value).ownBlock) ∧ some k_ ≠ (.slice Ao104 t437.length co104 : Value).ownBlock) ∧ some k_ ≠ (.slice Ao105 t440.length co105 : Value).ownBlock)) (n := t432.length) (c := co89) ?_).2.2; exact (rm_ (Kd.R_types HO434.out BK443.out (by decide)) (fun _ h_ => h_.1))); (case side4 => exact (Kd.R_reads' HO434.out).2.1); (case side5 => refine (Kd.R_reads' (e := 3) (base := w.heap.size) (ok := fun k_ => ((((((some k_ ≠ (.slice Ao105 t440.length co105 : Value).ownBlock ∧ some k_ ≠ (.slice Ao73 t412.length co73 : Value).ownBlock) ∧ some k_ ≠ (.slice Ao74 t415.length co74 : Value).ownBlock) ∧ some k_ ≠ (.slice Ao75 t419.length co75 : Value).ownBlock) ∧ some k_ ≠ (.slice Ao76 t422.length co76 : Value).ownBlock) ∧ some k_ ≠ (.slice Ao85 t428.length co85 : Value).ownBlock) ∧ some k_ ≠ (.slice Ao89 t432.length co89 : Value).ownBlock)) (n := t437.length) (c := co104) ?_).2.2; exact (rm_ (Kd.R_types HO439.out BK443.out (by decide)) (fun _ h_ => h_.1))); (case side6 => exact (Kd.R_reads' HO439.out).2.1); (case side7 => refine (Kd.R_reads' (e := 3) (base := w.heap.size) (ok := fun k_ => ((((((some k_ ≠ (.slice Ao104 t437.length co104 : Value).ownBlock ∧ some k_ ≠ (.slice Ao73 t412.length co73 : Value).ownBlock) ∧ some k_ ≠ (.slice Ao74 t415.length co74 : Value).ownBlock) ∧ some k_ ≠ (.slice Ao75 t419.length co75 : Value).ownBlock) ∧ some k_ ≠ (.slice Ao76 t422.length co76 : Value).ownBlock) ∧ some k_ ≠ (.slice Ao85 t428.length co85 : Value).ownBlock) ∧ some k_ ≠ (.slice Ao89 t432.length co89 : Value).ownBlock)) (n := t440.length) (c := co105) ?_).2.2; exact (rm_ (Kd.R_types HO442.out BK443.out (by decide)) (fun _ h_ => h_.1))); (case side8 => exact (Kd.R_reads' HO442.out).2.1); rintro e w108 ⟨rfl, hb⟩; refine ⟨_, rfl, ?_⟩; replace HO414 := Aside0.mk (Kd.R_below (rm_ (Kd.R_types HO414.out BK443.out (by decide)) (fun _ h_ => h_.1)) hb); replace HO417 := Aside0.mk (Kd.R_below (rm_ (Kd.R_types HO417.out BK443.out (by decide)) (fun _ h_ => h_.1)) hb); replace HO421 := Aside0.mk (Kd.R_below (rm_ (Kd.R_types HO421.out BK443.out (by decide)) (fun _ h_ => h_.1)) hb); replace HO424 := Aside0.mk (Kd.R_below (rm_ (Kd.R_types HO424.out BK443.out (by decide)) (fun _ h_ => h_.1)) hb); replace HO430 := Aside0.mk (Kd.R_below (rm_ (Kd.R_types HO430.out BK443.out (by decide)) (fun _ h_ => h_.1)) hb); replace HO434 := Aside0.mk (Kd.R_below (rm_ (Kd.R_types HO434.out BK443.out (by decide)) (fun _ h_ => h_.1)) hb); replace HO439 := Aside0.mk (Kd.R_below (rm_ (Kd.R_types HO439.out BK443.out (by decide)) (fun _ h_ => h_.1)) hb); replace HO442 := Aside0.mk (Kd.R_below (rm_ (Kd.R_types HO442.out BK443.out (by decide)) (fun _ h_ => h_.1)) hb); replace BK404 := Aside0.mk (blk_below (bf_ BK404.out) hb); replace BK405 := Aside0.mk (blk_below (bf_ BK405.out) hb); replace BK406 := Aside0.mk (blk_below (bf_ BK406.out) hb); replace BK431 := Aside0.mk (blk_below (bf_ BK431.out) hb); replace BK435 := Aside0.mk (blk_below (bf_ BK435.out) hb); replace BK443 := Aside0.mk (blk_below (g := gb443) (o := .cells #[.int .i64 t436, .slice Ao104 t437.length co104, .slice Ao105 t440.length co105] 40 (0, 0)) (by (with_reducible repeat (first | refine blk_drewN ?_ _ | refine blk_drew ?_ | refine blk_alloc ?_ _)); refine blk_put (cs := #[.int .i64 t436, .slice Ao104 t437.length co104, .slice none 0 0]) ?_ 2 _ rfl; (with_reducible repeat (first | refine blk_drewN ?_ _ | refine blk_drew ?_ | refine blk_alloc ?_ _)); refine blk_put (cs := #[.int .i64 t436, .slice none 0 0, .slice none 0 0]) ?_ 1 _ rfl; (with_reducible repeat (first | refine blk_drewN ?_ _ | refine blk_drew ?_ | refine blk_alloc ?_ _)); refine blk_put (cs := #[.int .i64 0, .slice none 0 0, .slice none 0 0]) ?_ 0 _ rfl; (with_reducible repeat (first | refine blk_drewN ?_ _ | refine blk_drew ?_ | refine blk_alloc ?_ _)); exact BK443.out) hb); replace HB := Aside0.mk (bs_ HB.out hb); (try clear hb)))
        have n0_ := Aside0.mk (Kd.R_drew HO414.out)
        have n1_ := Aside0.mk (Kd.R_drew HO417.out)
        have n2_ := Aside0.mk (Kd.R_drew HO421.out)
        have n3_ := Aside0.mk (Kd.R_drew HO424.out)
        have n4_ := Aside0.mk (Kd.R_drew HO430.out)
        have n5_ := Aside0.mk (Kd.R_drew HO434.out)
        have n6_ := Aside0.mk (Kd.R_drew HO439.out)
        have n7_ := Aside0.mk (Kd.R_drew HO442.out)
        have n8_ := Aside0.mk (blk_drew BK404.out)
        have n9_ := Aside0.mk (blk_drew BK405.out)
        have n10_ := Aside0.mk (blk_drew BK406.out)
        have n11_ := Aside0.mk (blk_drew BK431.out)
        have n12_ := Aside0.mk (blk_drew BK435.out)
        have n13_ := Aside0.mk (blk_drew BK443.out)
        have n14_ := Aside0.mk (below_drew1 HB.out)
        clear HO414
        clear HO417
        clear HO421
        clear HO424
        clear HO430
        clear HO434
        clear HO439
        clear HO442
        clear BK404
        clear BK405
        clear BK406
        clear BK431
        clear BK435
        clear BK443
        clear HB
        have HO414 := n0_
        have HO417 := n1_
        have HO421 := n2_
        have HO424 := n3_
        have HO430 := n4_
        have HO434 := n5_
        have HO439 := n6_
        have HO442 := n7_
        have BK404 := n8_
        have BK405 := n9_
        have BK406 := n10_
        have BK431 := n11_
        have BK435 := n12_
        have BK443 := n13_
        have HB := n14_
        clear n0_ n1_ n2_ n3_ n4_ n5_ n6_ n7_ n8_ n9_ n10_ n11_ n12_ n13_ n14_
        refine start_ (n := 5) (S := fun w' => w'.cell? ⟨gb431, 0, none⟩ = some (.int .i64 t426) ∧ w'.cell? ⟨gb431, 1, none⟩ = some (.int .i64 t427) ∧ w'.cell? ⟨gb431, 2, none⟩ = some (.slice Ao85 t428.length co85) ∧ w'.cell? ⟨gb404, 0, none⟩ = some (.int .i64 a0_0) ∧ w'.cell? ⟨gb404, 1, none⟩ = some (.int .i64 a0_1) ∧ w'.cell? ⟨gb404, 2, none⟩ = some (.slice A0_2 l0_2.length c0_2)) (ds := []) #[false, false, false, false, false] (by kernel_rfl) rfl rfl ⟨(blk_cell BK431.out 0).trans rfl, (blk_cell BK431.out 1).trans rfl, (blk_cell BK431.out 2).trans rfl, (blk_cell BK404.out 0).trans rfl, (blk_cell BK404.out 1).trans rfl, (blk_cell BK404.out 2).trans rfl⟩ (fun hHeld => ?_)
        generalize w108.drew = w109 at HO414 HO417 HO421 HO424 HO430 HO434 HO439 HO442 BK404 BK405 BK406 BK431 BK435 BK443 HB hHeld ⊢
        refine take_ (i := 0) (N := some 48) (v := ?_) (a' := ?_) (bt_ 5 1) rfl rfl (by kernel_rfl) (fun _ _ _ h => h) (Or.inl ⟨by rfl, ?_⟩) hHeld ?_ ?_
        rotate_left
        ·rintro w' ⟨s0, s1, s2, s3, s4, s5⟩
         go_simp
         with_reducible rfl
        rotate_left
        ·simp only [Act.put, List.setIfInBounds_toArray, List.set_cons_zero, List.set_cons_succ, i64_w, i32_w]
         rfl
        refine take_ (i := 1) (N := some 49) (v := ?_) (a' := ?_) (bt_ 5 3) rfl rfl (by kernel_rfl) (fun _ _ _ h => h) (Or.inl ⟨by rfl, ?_⟩) hHeld ?_ ?_
        rotate_left
        ·rintro w' ⟨s0, s1, s2, s3, s4, s5⟩
         go_simp
         with_reducible rfl
        rotate_left
        ·simp only [Act.put, List.setIfInBounds_toArray, List.set_cons_zero, List.set_cons_succ, i64_w, i32_w]
         rfl
        refine one_ (i := 2) (N := some 50) (bt_ 5 7) rfl rfl (by kernel_rfl) (by decide) (fun K hK => ?_)
        refine goes_ Try.func25 (by kernel_rfl) rfl #[.agg #[.int .i64 a0_0, .int .i64 a0_1, .slice A0_2 l0_2.length c0_2]] (by rfl) rfl rfl (by (try simp only [List.map_toArray, List.map_cons, List.map_nil]); first | done | rfl | (simp only [List.length_drop, List.length_take]; rfl)) ?_
        with_reducible refine (laws_toMesh.calls k a0_0 a0_1 _ _ l0_2 t445 t446 t447 _ ?side1 ?side2 A48.out).mono ?_
        (case side1 => exact cb_ HR0_2.out HB.out)
        (case side2 => exact HC0_2.out)
        rintro e w110 ⟨v448, rfl, ho0, hb⟩
        refine ⟨_, rfl, ?_⟩
        have n0_ := Aside0.mk (Kd.R_elder' (ra_ HO414.out) (Kd.R_base ho0) hb)
        have n1_ := Aside0.mk (Kd.R_elder' (ra_ HO417.out) (Kd.R_base ho0) hb)
        have n2_ := Aside0.mk (Kd.R_elder' (ra_ HO421.out) (Kd.R_base ho0) hb)
        have n3_ := Aside0.mk (Kd.R_elder' (ra_ HO424.out) (Kd.R_base ho0) hb)
        have n4_ := Aside0.mk (Kd.R_elder' (ra_ HO430.out) (Kd.R_base ho0) hb)
        have n5_ := Aside0.mk (Kd.R_elder' (ra_ HO434.out) (Kd.R_base ho0) hb)
        have n6_ := Aside0.mk (Kd.R_elder' (ra_ HO439.out) (Kd.R_base ho0) hb)
        have n7_ := Aside0.mk (Kd.R_elder' (ra_ HO442.out) (Kd.R_base ho0) hb)
        have n8_ := Aside0.mk (Kd.R_lower (Kd.R_new' (Kd.R_new' (Kd.R_new' (Kd.R_new' (Kd.R_new' (Kd.R_new' (Kd.R_new' (Kd.R_new' ho0 (rl_ HO414.out)) (rl_ HO417.out)) (rl_ HO421.out)) (rl_ HO424.out)) (rl_ HO430.out)) (rl_ HO434.out)) (rl_ HO439.out)) (rl_ HO442.out)) (bz_ HB.out))
        have n9_ := Aside0.mk (bk_ BK404.out hb)
        have n10_ := Aside0.mk (bk_ BK405.out hb)
        have n11_ := Aside0.mk (bk_ BK406.out hb)
        have n12_ := Aside0.mk (bk_ BK431.out hb)
        have n13_ := Aside0.mk (bk_ BK435.out hb)
        have n14_ := Aside0.mk (bk_ BK443.out hb)
        have n15_ := Aside0.mk (bs_ HB.out hb)
        clear HO414
        clear HO417
        clear HO421
        clear HO424
        clear HO430
        clear HO434
        clear HO439
        clear HO442
        clear BK404
        clear BK405
        clear BK406
        clear BK431
        clear BK435
        clear BK443
        clear HB
        have HO414 := n0_
        have HO417 := n1_
        have HO421 := n2_
        have HO424 := n3_
        have HO430 := n4_
        have HO434 := n5_
        have HO439 := n6_
        have HO442 := n7_
        have HO449 := n8_
        have BK404 := n9_
        have BK405 := n10_
        have BK406 := n11_
        have BK431 := n12_
        have BK435 := n13_
        have BK443 := n14_
        have HB := n15_
        clear n0_ n1_ n2_ n3_ n4_ n5_ n6_ n7_ n8_ n9_ n10_ n11_ n12_ n13_ n14_ n15_
        (try clear hb)
        (try clear hb2)
        (try clear hk)
        (try clear hi)
        (try clear ho0)
        obtain ⟨Ao111, co111, eo111⟩ := Kd.R_slice HO449.out
        (first | subst eo111 | (injection eo111 with f1_ f2_ f3_; have f4_ := f1_.symm; have f5_ := f3_.symm; clear f1_ f2_ f3_; subst f4_; subst f5_))
        refine hK.out _ _ ⟨(blk_cell BK431.out 0).trans rfl, (blk_cell BK431.out 1).trans rfl, (blk_cell BK431.out 2).trans rfl, (blk_cell BK404.out 0).trans rfl, (blk_cell BK404.out 1).trans rfl, (blk_cell BK404.out 2).trans rfl⟩ (fun hHeld => ?_)
        clear hK K
        refine norm_ (a' := ?_) ?_ ?_
        rotate_left
        ·show Act.put _ (some 50) _ = _
         simp only [Act.put, List.setIfInBounds_toArray, List.set_cons_zero, List.set_cons_succ, i64_w, i32_w]
         rfl
        refine one_ (i := 3) (N := some 51) (bt_ 5 15) rfl rfl (by kernel_rfl) (by decide) (fun K hK => ?_)
        refine goes_ Try.func29 (by kernel_rfl) rfl #[.agg #[.int .i64 t426, .int .i64 t427, .slice Ao85 t428.length co85], .agg #[.int .i64 t445, .int .i64 t446, .slice Ao111 t447.length co111]] (by rfl) rfl rfl (by (try simp only [List.map_toArray, List.map_cons, List.map_nil]); first | done | rfl | (simp only [List.length_drop, List.length_take]; rfl)) ?_
        with_reducible refine (laws_eqMesh.calls k t426 t427 _ _ t428 t445 t446 _ _ t447 true _ ?side1 ?side2 ?side3 ?side4 A49.out).mono ?_
        (case side1 => repeat (first | exact (Kd.R_reads' HO430.out).2.2 | (with_reducible refine Kd.C_alloc ?_ _) | (with_reducible refine Kd.C_drewN ?_ _) | (with_reducible refine Kd.C_drew ?_)))
        (case side2 => exact (Kd.R_reads' HO430.out).2.1)
        (case side3 => repeat (first | exact (Kd.R_reads' HO449.out).2.2 | (with_reducible refine Kd.C_alloc ?_ _) | (with_reducible refine Kd.C_drewN ?_ _) | (with_reducible refine Kd.C_drew ?_)))
        (case side4 => exact (Kd.R_reads' HO449.out).2.1)
        rintro e w112 ⟨rfl, hb⟩
        refine ⟨_, rfl, ?_⟩
        have n0_ := Aside0.mk (Kd.R_below (ra_ HO414.out) hb)
        have n1_ := Aside0.mk (Kd.R_below (ra_ HO417.out) hb)
        have n2_ := Aside0.mk (Kd.R_below (ra_ HO421.out) hb)
        have n3_ := Aside0.mk (Kd.R_below (ra_ HO424.out) hb)
        have n4_ := Aside0.mk (Kd.R_below (ra_ HO430.out) hb)
        have n5_ := Aside0.mk (Kd.R_below (ra_ HO434.out) hb)
        have n6_ := Aside0.mk (Kd.R_below (ra_ HO439.out) hb)
        have n7_ := Aside0.mk (Kd.R_below (ra_ HO442.out) hb)
        have n8_ := Aside0.mk (Kd.R_below (ra_ HO449.out) hb)
        have n9_ := Aside0.mk (bk_ BK404.out hb)
        have n10_ := Aside0.mk (bk_ BK405.out hb)
        have n11_ := Aside0.mk (bk_ BK406.out hb)
        have n12_ := Aside0.mk (bk_ BK431.out hb)
        have n13_ := Aside0.mk (bk_ BK435.out hb)
        have n14_ := Aside0.mk (bk_ BK443.out hb)
        have n15_ := Aside0.mk (bs_ HB.out hb)
        clear HO414
        clear HO417
        clear HO421
        clear HO424
        clear HO430
        clear HO434
        clear HO439
        clear HO442
        clear HO449
        clear BK404
        clear BK405
        clear BK406
        clear BK431
        clear BK435
        clear BK443
        clear HB
        have HO414 := n0_
        have HO417 := n1_
        have HO421 := n2_
        have HO424 := n3_
        have HO430 := n4_
        have HO434 := n5_
        have HO439 := n6_
        have HO442 := n7_
        have HO449 := n8_
        have BK404 := n9_
        have BK405 := n10_
        have BK406 := n11_
        have BK431 := n12_
        have BK435 := n13_
        have BK443 := n14_
        have HB := n15_
        clear n0_ n1_ n2_ n3_ n4_ n5_ n6_ n7_ n8_ n9_ n10_ n11_ n12_ n13_ n14_ n15_
        (try clear hb)
        (try clear hb2)
        (try clear hk)
        (try clear hi)
        refine hK.out _ _ ⟨(blk_cell BK431.out 0).trans rfl, (blk_cell BK431.out 1).trans rfl, (blk_cell BK431.out 2).trans rfl, (blk_cell BK404.out 0).trans rfl, (blk_cell BK404.out 1).trans rfl, (blk_cell BK404.out 2).trans rfl⟩ (fun hHeld => ?_)
        clear hK K
        refine norm_ (a' := ?_) ?_ ?_
        rotate_left
        ·show Act.put _ (some 51) _ = _
         simp only [Act.put, List.setIfInBounds_toArray, List.set_cons_zero, List.set_cons_succ, i64_w, i32_w]
         rfl
        refine pure_ (i := 4) (N := some 52) (v := ?_) (a' := ?_) (bt_ 5 31) rfl rfl (by kernel_rfl) (fun _ _ _ h => h) (Or.inl ⟨by rfl, ?_⟩) ?_ ?_
        rotate_left
        ·intro w'
         go_simp
         with_reducible rfl
        rotate_left
        ·simp only [Act.put, List.setIfInBounds_toArray, List.set_cons_zero, List.set_cons_succ, i64_w, i32_w]
         rfl
        refine done_ (by kernel_rfl) ?_
        try go_wp2
        have n0_ := Aside0.mk (Kd.R_drew HO414.out)
        have n1_ := Aside0.mk (Kd.R_drew HO417.out)
        have n2_ := Aside0.mk (Kd.R_drew HO421.out)
        have n3_ := Aside0.mk (Kd.R_drew HO424.out)
        have n4_ := Aside0.mk (Kd.R_drew HO430.out)
        have n5_ := Aside0.mk (Kd.R_drew HO434.out)
        have n6_ := Aside0.mk (Kd.R_drew HO439.out)
        have n7_ := Aside0.mk (Kd.R_drew HO442.out)
        have n8_ := Aside0.mk (Kd.R_drew HO449.out)
        have n9_ := Aside0.mk (blk_drew BK404.out)
        have n10_ := Aside0.mk (blk_drew BK405.out)
        have n11_ := Aside0.mk (blk_drew BK406.out)
        have n12_ := Aside0.mk (blk_drew BK431.out)
        have n13_ := Aside0.mk (blk_drew BK435.out)
        have n14_ := Aside0.mk (blk_drew BK443.out)
        have n15_ := Aside0.mk (below_drew1 HB.out)
        clear HO414
        clear HO417
        clear HO421
        clear HO424
        clear HO430
        clear HO434
        clear HO439
        clear HO442
        clear HO449
        clear BK404
        clear BK405
        clear BK406
        clear BK431
        clear BK435
        clear BK443
        clear HB
        have HO414 := n0_
        have HO417 := n1_
        have HO421 := n2_
        have HO424 := n3_
        have HO430 := n4_
        have HO434 := n5_
        have HO439 := n6_
        have HO442 := n7_
        have HO449 := n8_
        have BK404 := n9_
        have BK405 := n10_
        have BK406 := n11_
        have BK431 := n12_
        have BK435 := n13_
        have BK443 := n14_
        have HB := n15_
        clear n0_ n1_ n2_ n3_ n4_ n5_ n6_ n7_ n8_ n9_ n10_ n11_ n12_ n13_ n14_ n15_
        refine start_ (n := 5) (S := fun w' => w'.cell? ⟨gb435, 0, none⟩ = some (.slice Ao89 t432.length co89) ∧ w'.cell? ⟨gb405, 0, none⟩ = some (.slice A1_0 l1_0.length c1_0)) (ds := []) #[false, false, false, false, false] (by kernel_rfl) rfl rfl ⟨(blk_cell BK435.out 0).trans rfl, (blk_cell BK405.out 0).trans rfl⟩ (fun hHeld => ?_)
        generalize w112.drew = w113 at HO414 HO417 HO421 HO424 HO430 HO434 HO439 HO442 HO449 BK404 BK405 BK406 BK431 BK435 BK443 HB hHeld ⊢
        refine take_ (i := 0) (N := some 53) (v := ?_) (a' := ?_) (bt_ 5 1) rfl rfl (by kernel_rfl) (fun _ _ _ h => h) (Or.inl ⟨by rfl, ?_⟩) hHeld ?_ ?_
        rotate_left
        ·rintro w' ⟨s0, s1⟩
         go_simp
         with_reducible rfl
        rotate_left
        ·simp only [Act.put, List.setIfInBounds_toArray, List.set_cons_zero, List.set_cons_succ, i64_w, i32_w]
         rfl
        refine take_ (i := 1) (N := some 54) (v := ?_) (a' := ?_) (bt_ 5 3) rfl rfl (by kernel_rfl) (fun _ _ _ h => h) (Or.inl ⟨by rfl, ?_⟩) hHeld ?_ ?_
        rotate_left
        ·rintro w' ⟨s0, s1⟩
         go_simp
         with_reducible rfl
        rotate_left
        ·simp only [Act.put, List.setIfInBounds_toArray, List.set_cons_zero, List.set_cons_succ, i64_w, i32_w]
         rfl
        refine one_ (i := 2) (N := some 55) (bt_ 5 7) rfl rfl (by kernel_rfl) (by decide) (fun K hK => ?_)
        refine goes_ Try.func26 (by kernel_rfl) rfl #[.agg #[.slice A1_0 l1_0.length c1_0]] (by rfl) rfl rfl (by (try simp only [List.map_toArray, List.map_cons, List.map_nil]); first | done | rfl | (simp only [List.length_drop, List.length_take]; rfl)) ?_
        with_reducible refine (laws_toTable.calls k _ _ l1_0 t451 _ ?side1 ?side2 A51.out).mono ?_
        (case side1 => exact cb_ HR1_0.out HB.out)
        (case side2 => exact HC1_0.out)
        rintro e w114 ⟨v452, rfl, ho0, hb⟩
        refine ⟨_, rfl, ?_⟩
        have n0_ := Aside0.mk (Kd.R_elder' (ra_ HO414.out) (Kd.R_base ho0) hb)
        have n1_ := Aside0.mk (Kd.R_elder' (ra_ HO417.out) (Kd.R_base ho0) hb)
        have n2_ := Aside0.mk (Kd.R_elder' (ra_ HO421.out) (Kd.R_base ho0) hb)
        have n3_ := Aside0.mk (Kd.R_elder' (ra_ HO424.out) (Kd.R_base ho0) hb)
        have n4_ := Aside0.mk (Kd.R_elder' (ra_ HO430.out) (Kd.R_base ho0) hb)
        have n5_ := Aside0.mk (Kd.R_elder' (ra_ HO434.out) (Kd.R_base ho0) hb)
        have n6_ := Aside0.mk (Kd.R_elder' (ra_ HO439.out) (Kd.R_base ho0) hb)
        have n7_ := Aside0.mk (Kd.R_elder' (ra_ HO442.out) (Kd.R_base ho0) hb)
        have n8_ := Aside0.mk (Kd.R_elder' (ra_ HO449.out) (Kd.R_base ho0) hb)
        have n9_ := Aside0.mk (Kd.R_lower (Kd.R_new' (Kd.R_new' (Kd.R_new' (Kd.R_new' (Kd.R_new' (Kd.R_new' (Kd.R_new' (Kd.R_new' (Kd.R_new' ho0 (rl_ HO414.out)) (rl_ HO417.out)) (rl_ HO421.out)) (rl_ HO424.out)) (rl_ HO430.out)) (rl_ HO434.out)) (rl_ HO439.out)) (rl_ HO442.out)) (rl_ HO449.out)) (bz_ HB.out))
        have n10_ := Aside0.mk (bk_ BK404.out hb)
        have n11_ := Aside0.mk (bk_ BK405.out hb)
        have n12_ := Aside0.mk (bk_ BK406.out hb)
        have n13_ := Aside0.mk (bk_ BK431.out hb)
        have n14_ := Aside0.mk (bk_ BK435.out hb)
        have n15_ := Aside0.mk (bk_ BK443.out hb)
        have n16_ := Aside0.mk (bs_ HB.out hb)
        clear HO414
        clear HO417
        clear HO421
        clear HO424
        clear HO430
        clear HO434
        clear HO439
        clear HO442
        clear HO449
        clear BK404
        clear BK405
        clear BK406
        clear BK431
        clear BK435
        clear BK443
        clear HB
        have HO414 := n0_
        have HO417 := n1_
        have HO421 := n2_
        have HO424 := n3_
        have HO430 := n4_
        have HO434 := n5_
        have HO439 := n6_
        have HO442 := n7_
        have HO449 := n8_
        have HO453 := n9_
        have BK404 := n10_
        have BK405 := n11_
        have BK406 := n12_
        have BK431 := n13_
        have BK435 := n14_
        have BK443 := n15_
        have HB := n16_
        clear n0_ n1_ n2_ n3_ n4_ n5_ n6_ n7_ n8_ n9_ n10_ n11_ n12_ n13_ n14_ n15_ n16_
        (try clear hb)
        (try clear hb2)
        (try clear hk)
        (try clear hi)
        (try clear ho0)
        obtain ⟨Ao115, co115, eo115⟩ := Kd.R_slice HO453.out
        (first | subst eo115 | (injection eo115 with f1_ f2_ f3_; have f4_ := f1_.symm; have f5_ := f3_.symm; clear f1_ f2_ f3_; subst f4_; subst f5_))
        refine hK.out _ _ ⟨(blk_cell BK435.out 0).trans rfl, (blk_cell BK405.out 0).trans rfl⟩ (fun hHeld => ?_)
        clear hK K
        refine norm_ (a' := ?_) ?_ ?_
        rotate_left
        ·show Act.put _ (some 55) _ = _
         simp only [Act.put, List.setIfInBounds_toArray, List.set_cons_zero, List.set_cons_succ, i64_w, i32_w]
         rfl
        refine one_ (i := 3) (N := some 56) (bt_ 5 15) rfl rfl (by kernel_rfl) (by decide) (fun K hK => ?_)
        refine goes_ Try.func30 (by kernel_rfl) rfl #[.agg #[.slice Ao89 t432.length co89], .agg #[.slice Ao115 t451.length co115]] (by rfl) rfl rfl (by (try simp only [List.map_toArray, List.map_cons, List.map_nil]); first | done | rfl | (simp only [List.length_drop, List.length_take]; rfl)) ?_
        with_reducible refine (laws_eqTable.calls k _ _ t432 _ _ t451 true _ ?side1 ?side2 ?side3 ?side4 A52.out).mono ?_
        (case side1 => repeat (first | exact (Kd.R_reads' HO434.out).2.2 | (with_reducible refine Kd.C_alloc ?_ _) | (with_reducible refine Kd.C_drewN ?_ _) | (with_reducible refine Kd.C_drew ?_)))
        (case side2 => exact (Kd.R_reads' HO434.out).2.1)
        (case side3 => repeat (first | exact (Kd.R_reads' HO453.out).2.2 | (with_reducible refine Kd.C_alloc ?_ _) | (with_reducible refine Kd.C_drewN ?_ _) | (with_reducible refine Kd.C_drew ?_)))
        (case side4 => exact (Kd.R_reads' HO453.out).2.1)
        rintro e w116 ⟨rfl, hb⟩
        refine ⟨_, rfl, ?_⟩
        have n0_ := Aside0.mk (Kd.R_below (ra_ HO414.out) hb)
        have n1_ := Aside0.mk (Kd.R_below (ra_ HO417.out) hb)
        have n2_ := Aside0.mk (Kd.R_below (ra_ HO421.out) hb)
        have n3_ := Aside0.mk (Kd.R_below (ra_ HO424.out) hb)
        have n4_ := Aside0.mk (Kd.R_below (ra_ HO430.out) hb)
        have n5_ := Aside0.mk (Kd.R_below (ra_ HO434.out) hb)
        have n6_ := Aside0.mk (Kd.R_below (ra_ HO439.out) hb)
        have n7_ := Aside0.mk (Kd.R_below (ra_ HO442.out) hb)
        have n8_ := Aside0.mk (Kd.R_below (ra_ HO449.out) hb)
        have n9_ := Aside0.mk (Kd.R_below (ra_ HO453.out) hb)
        have n10_ := Aside0.mk (bk_ BK404.out hb)
        have n11_ := Aside0.mk (bk_ BK405.out hb)
        have n12_ := Aside0.mk (bk_ BK406.out hb)
        have n13_ := Aside0.mk (bk_ BK431.out hb)
        have n14_ := Aside0.mk (bk_ BK435.out hb)
        have n15_ := Aside0.mk (bk_ BK443.out hb)
        have n16_ := Aside0.mk (bs_ HB.out hb)
        clear HO414
        clear HO417
        clear HO421
        clear HO424
        clear HO430
        clear HO434
        clear HO439
        clear HO442
        clear HO449
        clear HO453
        clear BK404
        clear BK405
        clear BK406
        clear BK431
        clear BK435
        clear BK443
        clear HB
        have HO414 := n0_
        have HO417 := n1_
        have HO421 := n2_
        have HO424 := n3_
        have HO430 := n4_
        have HO434 := n5_
        have HO439 := n6_
        have HO442 := n7_
        have HO449 := n8_
        have HO453 := n9_
        have BK404 := n10_
        have BK405 := n11_
        have BK406 := n12_
        have BK431 := n13_
        have BK435 := n14_
        have BK443 := n15_
        have HB := n16_
        clear n0_ n1_ n2_ n3_ n4_ n5_ n6_ n7_ n8_ n9_ n10_ n11_ n12_ n13_ n14_ n15_ n16_
        (try clear hb)
        (try clear hb2)
        (try clear hk)
        (try clear hi)
        refine hK.out _ _ ⟨(blk_cell BK435.out 0).trans rfl, (blk_cell BK405.out 0).trans rfl⟩ (fun hHeld => ?_)
        clear hK K
        refine norm_ (a' := ?_) ?_ ?_
        rotate_left
        ·show Act.put _ (some 56) _ = _
         simp only [Act.put, List.setIfInBounds_toArray, List.set_cons_zero, List.set_cons_succ, i64_w, i32_w]
         rfl
        refine pure_ (i := 4) (N := some 57) (v := ?_) (a' := ?_) (bt_ 5 31) rfl rfl (by kernel_rfl) (fun _ _ _ h => h) (Or.inl ⟨by rfl, ?_⟩) ?_ ?_
        rotate_left
        ·intro w'
         go_simp
         with_reducible rfl
        rotate_left
        ·simp only [Act.put, List.setIfInBounds_toArray, List.set_cons_zero, List.set_cons_succ, i64_w, i32_w]
         rfl
        refine done_ (by kernel_rfl) ?_
        try go_wp2
        have n0_ := Aside0.mk (Kd.R_drew HO414.out)
        have n1_ := Aside0.mk (Kd.R_drew HO417.out)
        have n2_ := Aside0.mk (Kd.R_drew HO421.out)
        have n3_ := Aside0.mk (Kd.R_drew HO424.out)
        have n4_ := Aside0.mk (Kd.R_drew HO430.out)
        have n5_ := Aside0.mk (Kd.R_drew HO434.out)
        have n6_ := Aside0.mk (Kd.R_drew HO439.out)
        have n7_ := Aside0.mk (Kd.R_drew HO442.out)
        have n8_ := Aside0.mk (Kd.R_drew HO449.out)
        have n9_ := Aside0.mk (Kd.R_drew HO453.out)
        have n10_ := Aside0.mk (blk_drew BK404.out)
        have n11_ := Aside0.mk (blk_drew BK405.out)
        have n12_ := Aside0.mk (blk_drew BK406.out)
        have n13_ := Aside0.mk (blk_drew BK431.out)
        have n14_ := Aside0.mk (blk_drew BK435.out)
        have n15_ := Aside0.mk (blk_drew BK443.out)
        have n16_ := Aside0.mk (below_drew1 HB.out)
        clear HO414
        clear HO417
        clear HO421
        clear HO424
        clear HO430
        clear HO434
        clear HO439
        clear HO442
        clear HO449
        clear HO453
        clear BK404
        clear BK405
        clear BK406
        clear BK431
        clear BK435
        clear BK443
        clear HB
        have HO414 := n0_
        have HO417 := n1_
        have HO421 := n2_
        have HO424 := n3_
        have HO430 := n4_
        have HO434 := n5_
        have HO439 := n6_
        have HO442 := n7_
        have HO449 := n8_
        have HO453 := n9_
        have BK404 := n10_
        have BK405 := n11_
        have BK406 := n12_
        have BK431 := n13_
        have BK435 := n14_
        have BK443 := n15_
        have HB := n16_
        clear n0_ n1_ n2_ n3_ n4_ n5_ n6_ n7_ n8_ n9_ n10_ n11_ n12_ n13_ n14_ n15_ n16_
        refine start_ (n := 5) (S := fun w' => w'.cell? ⟨gb443, 0, none⟩ = some (.int .i64 t436) ∧ w'.cell? ⟨gb443, 1, none⟩ = some (.slice Ao104 t437.length co104) ∧ w'.cell? ⟨gb443, 2, none⟩ = some (.slice Ao105 t440.length co105) ∧ w'.cell? ⟨gb406, 0, none⟩ = some (.int .i64 a2_0) ∧ w'.cell? ⟨gb406, 1, none⟩ = some (.slice A2_1 l2_1.length c2_1) ∧ w'.cell? ⟨gb406, 2, none⟩ = some (.slice A2_2 l2_2.length c2_2)) (ds := []) #[false, false, false, false, false] (by kernel_rfl) rfl rfl ⟨(blk_cell BK443.out 0).trans rfl, (blk_cell BK443.out 1).trans rfl, (blk_cell BK443.out 2).trans rfl, (blk_cell BK406.out 0).trans rfl, (blk_cell BK406.out 1).trans rfl, (blk_cell BK406.out 2).trans rfl⟩ (fun hHeld => ?_)
        generalize w116.drew = w117 at HO414 HO417 HO421 HO424 HO430 HO434 HO439 HO442 HO449 HO453 BK404 BK405 BK406 BK431 BK435 BK443 HB hHeld ⊢
        refine take_ (i := 0) (N := some 58) (v := ?_) (a' := ?_) (bt_ 5 1) rfl rfl (by kernel_rfl) (fun _ _ _ h => h) (Or.inl ⟨by rfl, ?_⟩) hHeld ?_ ?_
        rotate_left
        ·rintro w' ⟨s0, s1, s2, s3, s4, s5⟩
         go_simp
         with_reducible rfl
        rotate_left
        ·simp only [Act.put, List.setIfInBounds_toArray, List.set_cons_zero, List.set_cons_succ, i64_w, i32_w]
         rfl
        refine take_ (i := 1) (N := some 59) (v := ?_) (a' := ?_) (bt_ 5 3) rfl rfl (by kernel_rfl) (fun _ _ _ h => h) (Or.inl ⟨by rfl, ?_⟩) hHeld ?_ ?_
        rotate_left
        ·rintro w' ⟨s0, s1, s2, s3, s4, s5⟩
         go_simp
         with_reducible rfl
        rotate_left
        ·simp only [Act.put, List.setIfInBounds_toArray, List.set_cons_zero, List.set_cons_succ, i64_w, i32_w]
         rfl
        refine one_ (i := 2) (N := some 60) (bt_ 5 7) rfl rfl (by kernel_rfl) (by decide) (fun K hK => ?_)
        refine goes_ Try.func43 (by kernel_rfl) rfl #[.agg #[.int .i64 a2_0, .slice A2_1 l2_1.length c2_1, .slice A2_2 l2_2.length c2_2]] (by rfl) rfl rfl (by (try simp only [List.map_toArray, List.map_cons, List.map_nil]); first | done | rfl | (simp only [List.length_drop, List.length_take]; rfl)) ?_
        with_reducible refine (laws_toVerdict.calls k a2_0 _ _ l2_1 _ _ l2_2 t455 t456 t459 _ ?side1 ?side2 ?side3 ?side4 A54.out).mono ?_
        (case side1 => exact cb_ HR2_1.out HB.out)
        (case side2 => exact HC2_1.out)
        (case side3 => exact cb_ HR2_2.out HB.out)
        (case side4 => exact HC2_2.out)
        rintro e w118 ⟨v457, v460, rfl, ho0, ho1, hb⟩
        refine ⟨_, rfl, ?_⟩
        have n0_ := Aside0.mk (Kd.R_mono (Kd.R_told (Kd.R_told (Kd.R_old (ra_ HO414.out) hb) (Kd.R_base ho0)) (Kd.R_base ho1)) (fun _ h_ => h_.1))
        have n1_ := Aside0.mk (Kd.R_mono (Kd.R_told (Kd.R_told (Kd.R_old (ra_ HO417.out) hb) (Kd.R_base ho0)) (Kd.R_base ho1)) (fun _ h_ => h_.1))
        have n2_ := Aside0.mk (Kd.R_mono (Kd.R_told (Kd.R_told (Kd.R_old (ra_ HO421.out) hb) (Kd.R_base ho0)) (Kd.R_base ho1)) (fun _ h_ => h_.1))
        have n3_ := Aside0.mk (Kd.R_mono (Kd.R_told (Kd.R_told (Kd.R_old (ra_ HO424.out) hb) (Kd.R_base ho0)) (Kd.R_base ho1)) (fun _ h_ => h_.1))
        have n4_ := Aside0.mk (Kd.R_mono (Kd.R_told (Kd.R_told (Kd.R_old (ra_ HO430.out) hb) (Kd.R_base ho0)) (Kd.R_base ho1)) (fun _ h_ => h_.1))
        have n5_ := Aside0.mk (Kd.R_mono (Kd.R_told (Kd.R_told (Kd.R_old (ra_ HO434.out) hb) (Kd.R_base ho0)) (Kd.R_base ho1)) (fun _ h_ => h_.1))
        have n6_ := Aside0.mk (Kd.R_mono (Kd.R_told (Kd.R_told (Kd.R_old (ra_ HO439.out) hb) (Kd.R_base ho0)) (Kd.R_base ho1)) (fun _ h_ => h_.1))
        have n7_ := Aside0.mk (Kd.R_mono (Kd.R_told (Kd.R_told (Kd.R_old (ra_ HO442.out) hb) (Kd.R_base ho0)) (Kd.R_base ho1)) (fun _ h_ => h_.1))
        have n8_ := Aside0.mk (Kd.R_mono (Kd.R_told (Kd.R_told (Kd.R_old (ra_ HO449.out) hb) (Kd.R_base ho0)) (Kd.R_base ho1)) (fun _ h_ => h_.1))
        have n9_ := Aside0.mk (Kd.R_mono (Kd.R_told (Kd.R_told (Kd.R_old (ra_ HO453.out) hb) (Kd.R_base ho0)) (Kd.R_base ho1)) (fun _ h_ => h_.1))
        have n10_ := Aside0.mk (Kd.R_lower (Kd.R_new' (Kd.R_new' (Kd.R_new' (Kd.R_new' (Kd.R_new' (Kd.R_new' (Kd.R_new' (Kd.R_new' (Kd.R_new' (Kd.R_new' ho0 (rl_ HO414.out)) (rl_ HO417.out)) (rl_ HO421.out)) (rl_ HO424.out)) (rl_ HO430.out)) (rl_ HO434.out)) (rl_ HO439.out)) (rl_ HO442.out)) (rl_ HO449.out)) (rl_ HO453.out)) (bz_ HB.out))
        have n11_ := Aside0.mk (Kd.R_lower (Kd.R_new' (Kd.R_new' (Kd.R_new' (Kd.R_new' (Kd.R_new' (Kd.R_new' (Kd.R_new' (Kd.R_new' (Kd.R_new' (Kd.R_new' ho1 (rl_ HO414.out)) (rl_ HO417.out)) (rl_ HO421.out)) (rl_ HO424.out)) (rl_ HO430.out)) (rl_ HO434.out)) (rl_ HO439.out)) (rl_ HO442.out)) (rl_ HO449.out)) (rl_ HO453.out)) (bz_ HB.out))
        have n12_ := Aside0.mk (bk_ BK404.out hb)
        have n13_ := Aside0.mk (bk_ BK405.out hb)
        have n14_ := Aside0.mk (bk_ BK406.out hb)
        have n15_ := Aside0.mk (bk_ BK431.out hb)
        have n16_ := Aside0.mk (bk_ BK435.out hb)
        have n17_ := Aside0.mk (bk_ BK443.out hb)
        have n18_ := Aside0.mk (bs_ HB.out hb)
        clear HO414
        clear HO417
        clear HO421
        clear HO424
        clear HO430
        clear HO434
        clear HO439
        clear HO442
        clear HO449
        clear HO453
        clear BK404
        clear BK405
        clear BK406
        clear BK431
        clear BK435
        clear BK443
        clear HB
        have HO414 := n0_
        have HO417 := n1_
        have HO421 := n2_
        have HO424 := n3_
        have HO430 := n4_
        have HO434 := n5_
        have HO439 := n6_
        have HO442 := n7_
        have HO449 := n8_
        have HO453 := n9_
        have HO458 := n10_
        have HO461 := n11_
        have BK404 := n12_
        have BK405 := n13_
        have BK406 := n14_
        have BK431 := n15_
        have BK435 := n16_
        have BK443 := n17_
        have HB := n18_
        clear n0_ n1_ n2_ n3_ n4_ n5_ n6_ n7_ n8_ n9_ n10_ n11_ n12_ n13_ n14_ n15_ n16_ n17_ n18_
        (try clear hb)
        (try clear hb2)
        (try clear hk)
        (try clear hi)
        (try clear ho0)
        (try clear ho1)
        obtain ⟨Ao119, co119, eo119⟩ := Kd.R_slice HO458.out
        (first | subst eo119 | (injection eo119 with f1_ f2_ f3_; have f4_ := f1_.symm; have f5_ := f3_.symm; clear f1_ f2_ f3_; subst f4_; subst f5_))
        obtain ⟨Ao120, co120, eo120⟩ := Kd.R_slice HO461.out
        (first | subst eo120 | (injection eo120 with f1_ f2_ f3_; have f4_ := f1_.symm; have f5_ := f3_.symm; clear f1_ f2_ f3_; subst f4_; subst f5_))
        refine hK.out _ _ ⟨(blk_cell BK443.out 0).trans rfl, (blk_cell BK443.out 1).trans rfl, (blk_cell BK443.out 2).trans rfl, (blk_cell BK406.out 0).trans rfl, (blk_cell BK406.out 1).trans rfl, (blk_cell BK406.out 2).trans rfl⟩ (fun hHeld => ?_)
        clear hK K
        refine norm_ (a' := ?_) ?_ ?_
        rotate_left
        ·show Act.put _ (some 60) _ = _
         simp only [Act.put, List.setIfInBounds_toArray, List.set_cons_zero, List.set_cons_succ, i64_w, i32_w]
         rfl
        refine one_ (i := 3) (N := some 61) (bt_ 5 15) rfl rfl (by kernel_rfl) (by decide) (fun K hK => ?_)
        refine goes_ Try.func28 (by kernel_rfl) rfl #[.agg #[.int .i64 t436, .slice Ao104 t437.length co104, .slice Ao105 t440.length co105], .agg #[.int .i64 t455, .slice Ao119 t456.length co119, .slice Ao120 t459.length co120]] (by rfl) rfl rfl (by (try simp only [List.map_toArray, List.map_cons, List.map_nil]); first | done | rfl | (simp only [List.length_drop, List.length_take]; rfl)) ?_
        with_reducible refine (laws_eqVerdict.calls k t436 _ _ t437 _ _ t440 t455 _ _ t456 _ _ t459 true _ ?side1 ?side2 ?side3 ?side4 ?side5 ?side6 ?side7 ?side8 A55.out).mono ?_
        (case side1 => repeat (first | exact (Kd.R_reads' HO439.out).2.2 | (with_reducible refine Kd.C_alloc ?_ _) | (with_reducible refine Kd.C_drewN ?_ _) | (with_reducible refine Kd.C_drew ?_)))
        (case side2 => exact (Kd.R_reads' HO439.out).2.1)
        (case side3 => repeat (first | exact (Kd.R_reads' HO442.out).2.2 | (with_reducible refine Kd.C_alloc ?_ _) | (with_reducible refine Kd.C_drewN ?_ _) | (with_reducible refine Kd.C_drew ?_)))
        (case side4 => exact (Kd.R_reads' HO442.out).2.1)
        (case side5 => repeat (first | exact (Kd.R_reads' HO458.out).2.2 | (with_reducible refine Kd.C_alloc ?_ _) | (with_reducible refine Kd.C_drewN ?_ _) | (with_reducible refine Kd.C_drew ?_)))
        (case side6 => exact (Kd.R_reads' HO458.out).2.1)
        (case side7 => repeat (first | exact (Kd.R_reads' HO461.out).2.2 | (with_reducible refine Kd.C_alloc ?_ _) | (with_reducible refine Kd.C_drewN ?_ _) | (with_reducible refine Kd.C_drew ?_)))
        (case side8 => exact (Kd.R_reads' HO461.out).2.1)
        rintro e w121 ⟨rfl, hb⟩
        refine ⟨_, rfl, ?_⟩
        have n0_ := Aside0.mk (Kd.R_below (ra_ HO414.out) hb)
        have n1_ := Aside0.mk (Kd.R_below (ra_ HO417.out) hb)
        have n2_ := Aside0.mk (Kd.R_below (ra_ HO421.out) hb)
        have n3_ := Aside0.mk (Kd.R_below (ra_ HO424.out) hb)
        have n4_ := Aside0.mk (Kd.R_below (ra_ HO430.out) hb)
        have n5_ := Aside0.mk (Kd.R_below (ra_ HO434.out) hb)
        have n6_ := Aside0.mk (Kd.R_below (ra_ HO439.out) hb)
        have n7_ := Aside0.mk (Kd.R_below (ra_ HO442.out) hb)
        have n8_ := Aside0.mk (Kd.R_below (ra_ HO449.out) hb)
        have n9_ := Aside0.mk (Kd.R_below (ra_ HO453.out) hb)
        have n10_ := Aside0.mk (Kd.R_below (ra_ HO458.out) hb)
        have n11_ := Aside0.mk (Kd.R_below (ra_ HO461.out) hb)
        have n12_ := Aside0.mk (bk_ BK404.out hb)
        have n13_ := Aside0.mk (bk_ BK405.out hb)
        have n14_ := Aside0.mk (bk_ BK406.out hb)
        have n15_ := Aside0.mk (bk_ BK431.out hb)
        have n16_ := Aside0.mk (bk_ BK435.out hb)
        have n17_ := Aside0.mk (bk_ BK443.out hb)
        have n18_ := Aside0.mk (bs_ HB.out hb)
        clear HO414
        clear HO417
        clear HO421
        clear HO424
        clear HO430
        clear HO434
        clear HO439
        clear HO442
        clear HO449
        clear HO453
        clear HO458
        clear HO461
        clear BK404
        clear BK405
        clear BK406
        clear BK431
        clear BK435
        clear BK443
        clear HB
        have HO414 := n0_
        have HO417 := n1_
        have HO421 := n2_
        have HO424 := n3_
        have HO430 := n4_
        have HO434 := n5_
        have HO439 := n6_
        have HO442 := n7_
        have HO449 := n8_
        have HO453 := n9_
        have HO458 := n10_
        have HO461 := n11_
        have BK404 := n12_
        have BK405 := n13_
        have BK406 := n14_
        have BK431 := n15_
        have BK435 := n16_
        have BK443 := n17_
        have HB := n18_
        clear n0_ n1_ n2_ n3_ n4_ n5_ n6_ n7_ n8_ n9_ n10_ n11_ n12_ n13_ n14_ n15_ n16_ n17_ n18_
        (try clear hb)
        (try clear hb2)
        (try clear hk)
        (try clear hi)
        refine hK.out _ _ ⟨(blk_cell BK443.out 0).trans rfl, (blk_cell BK443.out 1).trans rfl, (blk_cell BK443.out 2).trans rfl, (blk_cell BK406.out 0).trans rfl, (blk_cell BK406.out 1).trans rfl, (blk_cell BK406.out 2).trans rfl⟩ (fun hHeld => ?_)
        clear hK K
        refine norm_ (a' := ?_) ?_ ?_
        rotate_left
        ·show Act.put _ (some 61) _ = _
         simp only [Act.put, List.setIfInBounds_toArray, List.set_cons_zero, List.set_cons_succ, i64_w, i32_w]
         rfl
        refine pure_ (i := 4) (N := some 62) (v := ?_) (a' := ?_) (bt_ 5 31) rfl rfl (by kernel_rfl) (fun _ _ _ h => h) (Or.inl ⟨by rfl, ?_⟩) ?_ ?_
        rotate_left
        ·intro w'
         go_simp
         with_reducible rfl
        rotate_left
        ·simp only [Act.put, List.setIfInBounds_toArray, List.set_cons_zero, List.set_cons_succ, i64_w, i32_w]
         rfl
        refine done_ (by kernel_rfl) ?_
        try go_wp2
        go_ret
        exact ⟨fin_, bb_ HB.out⟩
       ·replace c56 := Bool.eq_false_iff.mpr c56
        subst c56
        rw [if_neg (show ¬ (false = true) by decide)] at H
        exact absurd H (by simp)
      ·replace c53 := Bool.eq_false_iff.mpr c53
       subst c53
       rw [if_neg (show ¬ (false = true) by decide)] at H
       exact absurd H (by simp)
     ·replace c50 := Bool.eq_false_iff.mpr c50
      subst c50
      rw [if_neg (show ¬ (false = true) by decide)] at H
      exact absurd H (by simp)

end Go.Proofs.Ytimdefbpoddoaaa.PFnExactProvesVerdict
-- thin
