/- Each function that the law comes to, as a plain function, with the proof that the call in the model gives what that function says (written by a program of this session out of the translation). No condition. -/
import Derived.Test.YtimdefbpoddoaaaPFnExactClassDependsx0
import Derived.Test.YtimdefbpoddoaaaPFnExactClassDependsx2
import Derived.Test.YtimdefbpoddoaaaPFnExactClassDependsx3
import Derived.Test.YtimdefbpoddoaaaPFnExactClassDependsx11
import Derived.Test.YtimdefbpoddoaaaPFnExactClassDependsx17
import Derived.Test.YtimdefbpoddoaaaPFnExactClassDependsx18
namespace Go.Proofs.Ytimdefbpoddoaaa.PFnExactClassDepends
open Go.RowKit Go.Proofs.YtimdefbpoddoaaaW.PrintWords Go.Proofs.YtimdefbpoddoaaaW.PrintLast Go.Proofs.YtimdefbpoddoaaaW.PrintMore
attribute [local go_sem] max2_int min2_int max_two min_two max_three min_three max_four min_four   -- for this text's walks alone
set_option linter.unusedVariables false
set_option linter.unusedSimpArgs false

/-! ### laws_FnExactClassDepends: function 9 -/
def laws_FnExactClassDepends.j0 : Nat → List (S94) → List (S94) → Bool → Int → Int → List Int → List Int → List Int → Option (Bool)
 | 0, _, _, _, _, _, _, _, _ => none
 | k + 1, x6, x9, x63, x461000, x461001, x461002, x462000, x462001 => if x63 = true then (none) else ((laws_markDependS.f k x9 1).bind fun bt514 => ((laws_heldDependS.f k bt514.2 1).bind fun t516 => (if t516 < 0 then (none) else (if t516 = bt514.1 then ((laws_toMesh.f k x461000 x461001 x461002).bind fun bt517 => ((laws_toClasses.f k x462000 x462001).bind fun bt522 => ((impl_ClassDepends.f k bt517.1 bt517.2.1 bt517.2.2 bt522.1 bt522.2).bind fun t528 => ((laws_eqDependS.f k t528 x6).bind fun t531 => (if t531 = true then ((laws_heldDependS.f k bt514.2 1).bind fun t532 => (if t532 < 0 then (none) else (if t532 = bt514.1 then (some true) else (none)))) else (none)))))) else (none)))))
def laws_FnExactClassDepends.f (k : Nat) (a0_0 : Int) (a0_1 : Int) (l0_2 : List Int) (l1_0 : List Int) (l1_1 : List Int) : Option (Bool) := (laws_szMesh.f a0_0 a0_1 l0_2 1048576).bind fun t462 => (if t462 < 0 then (some true) else ((laws_szClasses.f l1_0 l1_1 t462).bind fun t463 => (if t463 < 0 then (some true) else ((laws_toMesh.f k a0_0 a0_1 l0_2).bind fun bt464 => ((laws_toClasses.f k l1_0 l1_1).bind fun bt469 => ((spec_ClassDepends.f k bt464.1 bt464.2.1 bt464.2.2 bt469.1 bt469.2).bind fun t475 => ((laws_toMesh.f k a0_0 a0_1 l0_2).bind fun bt478 => ((laws_toClasses.f k l1_0 l1_1).bind fun bt484 => ((impl_ClassDepends.f k bt478.1 bt478.2.1 bt478.2.2 bt484.1 bt484.2).bind fun t491 => ((laws_eqDependS.f k t491 t475).bind fun t494 => (if t494 = true then ((laws_toMesh.f k a0_0 a0_1 l0_2).bind fun bt495 => ((laws_eqMesh.f k bt478.1 bt478.2.1 bt478.2.2 bt495.1 bt495.2.1 bt495.2.2).bind fun t500 => (if t500 = true then ((laws_toClasses.f k l1_0 l1_1).bind fun bt501 => ((laws_eqClasses.f k bt484.1 bt484.2 bt501.1 bt501.2).bind fun t507 => (if t507 = true then ((laws_markMesh.f k bt478.1 bt478.2.1 bt478.2.2 1).bind fun bt508 => ((laws_markClasses.f k bt484.1 bt484.2 bt508.1).bind fun bt510 => (if bt510.1 < 0 then (laws_FnExactClassDepends.j0 k t475 t491 true a0_0 a0_1 l0_2 l1_0 l1_1) else ((laws_eqDependS.f k t491 t475).bind fun t513 => (laws_FnExactClassDepends.j0 k t475 t491 (!t513) a0_0 a0_1 l0_2 l1_0 l1_1))))) else (none)))) else (none)))) else (none))))))))))))
theorem laws_FnExactClassDepends.mono_l : ∀ k, (∀ y0 y1 y2 y3 y4 y5 y6 y7, LeO (laws_FnExactClassDepends.j0 k y0 y1 y2 y3 y4 y5 y6 y7) (laws_FnExactClassDepends.j0 (k + 1) y0 y1 y2 y3 y4 y5 y6 y7))
 | 0 => fun _ _ _ _ _ _ _ _ r h => by simp [laws_FnExactClassDepends.j0] at h
 | k + 1 => by
  have ih0 := laws_FnExactClassDepends.mono_l k
  ·intro y0 y1 y2 y3 y4 y5 y6 y7
   unfold laws_FnExactClassDepends.j0
   repeat' first
   | (with_reducible exact ih0 _ _ _ _ _ _ _ _)
   | (with_reducible exact impl_ClassDepends.mono _ _ _ _ _ _)
   | (with_reducible exact laws_eqClasses.mono _ _ _ _ _)
   | (with_reducible exact laws_eqDependS.mono _ _ _)
   | (with_reducible exact laws_eqMesh.mono _ _ _ _ _ _ _)
   | (with_reducible exact laws_heldDependS.mono _ _ _)
   | (with_reducible exact laws_markClasses.mono _ _ _ _)
   | (with_reducible exact laws_markDependS.mono _ _ _)
   | (with_reducible exact laws_markMesh.mono _ _ _ _ _)
   | (with_reducible exact laws_toClasses.mono _ _ _)
   | (with_reducible exact laws_toMesh.mono _ _ _ _)
   | (with_reducible exact spec_ClassDepends.mono _ _ _ _ _ _)
   | (with_reducible exact LeO.refl _)
   | (with_reducible exact LeO.none _)
   | (with_reducible refine LeO.ite ?_ ?_)
   | (with_reducible refine LeO.bind ?_ (fun _ => ?_))
   | exact ih0 _ _ _ _ _ _ _ _
   | exact impl_ClassDepends.mono _ _ _ _ _ _
   | exact laws_eqClasses.mono _ _ _ _ _
   | exact laws_eqDependS.mono _ _ _
   | exact laws_eqMesh.mono _ _ _ _ _ _ _
   | exact laws_heldDependS.mono _ _ _
   | exact laws_markClasses.mono _ _ _ _
   | exact laws_markDependS.mono _ _ _
   | exact laws_markMesh.mono _ _ _ _ _
   | exact laws_toClasses.mono _ _ _
   | exact laws_toMesh.mono _ _ _ _
   | exact spec_ClassDepends.mono _ _ _ _ _ _
   | exact LeO.none _
   | refine LeO.ite ?_ ?_
   | refine LeO.bind ?_ (fun _ => ?_)
theorem laws_FnExactClassDepends.mono : ∀ a0 a1 a2 a3 a4 k, LeO (laws_FnExactClassDepends.f k a0 a1 a2 a3 a4) (laws_FnExactClassDepends.f (k + 1) a0 a1 a2 a3 a4) := by
 intro a0 a1 a2 a3 a4 k
 have ih0 := laws_FnExactClassDepends.mono_l k
 unfold laws_FnExactClassDepends.f
 repeat' first
   | (with_reducible exact ih0 _ _ _ _ _ _ _ _)
   | (with_reducible exact impl_ClassDepends.mono _ _ _ _ _ _)
   | (with_reducible exact laws_eqClasses.mono _ _ _ _ _)
   | (with_reducible exact laws_eqDependS.mono _ _ _)
   | (with_reducible exact laws_eqMesh.mono _ _ _ _ _ _ _)
   | (with_reducible exact laws_heldDependS.mono _ _ _)
   | (with_reducible exact laws_markClasses.mono _ _ _ _)
   | (with_reducible exact laws_markDependS.mono _ _ _)
   | (with_reducible exact laws_markMesh.mono _ _ _ _ _)
   | (with_reducible exact laws_toClasses.mono _ _ _)
   | (with_reducible exact laws_toMesh.mono _ _ _ _)
   | (with_reducible exact spec_ClassDepends.mono _ _ _ _ _ _)
   | (with_reducible exact LeO.refl _)
   | (with_reducible exact LeO.none _)
   | (with_reducible refine LeO.ite ?_ ?_)
   | (with_reducible refine LeO.bind ?_ (fun _ => ?_))
   | exact ih0 _ _ _ _ _ _ _ _
   | exact impl_ClassDepends.mono _ _ _ _ _ _
   | exact laws_eqClasses.mono _ _ _ _ _
   | exact laws_eqDependS.mono _ _ _
   | exact laws_eqMesh.mono _ _ _ _ _ _ _
   | exact laws_heldDependS.mono _ _ _
   | exact laws_markClasses.mono _ _ _ _
   | exact laws_markDependS.mono _ _ _
   | exact laws_markMesh.mono _ _ _ _ _
   | exact laws_toClasses.mono _ _ _
   | exact laws_toMesh.mono _ _ _ _
   | exact spec_ClassDepends.mono _ _ _ _ _ _
   | exact LeO.none _
   | refine LeO.ite ?_ ?_
   | refine LeO.bind ?_ (fun _ => ?_)
theorem laws_FnExactClassDepends.e0 {P : Prop} (h : P := by
 go_enter Try.func9, Try.ntmps9
 go_wp2_with (first | ((with_reducible refine gate_dst (N := 2) rfl ?_); refine box_event ?hg (N := 2) ?hd (cs := #[.int .i64 a0_0, .int .i64 a0_1, .slice A0_2 l0_2.length c0_2]) (t := 34) ?hr ?_; (case hd => rfl); (case hg => rfl); (case hr => first | (go_simp; done) | (go_simp; rfl)); intro gb460 hg w_0 hbox hb; have BK460 := Aside0.mk (hbox); have GW460 := Aside0.mk ((by rw [hg]; exact (bz_ HB.out) : w.heap.size ≤ gb460)); have GE460 := Aside0.mk ((by rw [hg]; exact (bz_ HB.out) : w.heap.size ≤ gb460)); replace HB := Aside0.mk (bs_ HB.out hb); clear hb hbox hg) | ((with_reducible refine gate_dst (N := 3) rfl ?_); refine box_event ?hg (N := 3) ?hd (cs := #[.slice A1_0 l1_0.length c1_0, .slice A1_1 l1_1.length c1_1]) (t := 66) ?hr ?_; (case hd => rfl); (case hg => rfl); (case hr => first | (go_simp; done) | (go_simp; rfl)); intro gb461 hg w_0 hbox hb; have BK461 := Aside0.mk (hbox); have GW461 := Aside0.mk ((by rw [hg]; exact (bz_ HB.out) : w.heap.size ≤ gb461)); have GE461 := Aside0.mk ((by rw [hg]; exact (bz_ HB.out) : w.heap.size ≤ gb461)); replace HB := Aside0.mk (bs_ HB.out hb); have NB460_461 := Aside0.mk ((by rw [hg]; exact Nat.ne_of_lt (bl_ BK460.out) : gb460 ≠ gb461)); have NB461_460 := Aside0.mk ((by rw [hg]; exact Nat.ne_of_gt (bl_ BK460.out) : gb461 ≠ gb460)); replace BK460 := Aside0.mk (bk_ BK460.out hb); clear hb hbox hg; have hnb_ := NB460_461.out; have hnc_ := NB461_460.out; obtain ⟨hcz_0, hcz_1, hcz_2, hfz_0, hfz_1, hfz_2⟩ := cz3_ BK460.out) | ((with_reducible refine gate_callee (f := 22) rfl ?_); refine gm_ (some 16) Try.func22 #[.agg #[.int .i64 a0_0, .int .i64 a0_1, .slice A0_2 l0_2.length c0_2], .int .i64 1048576] rfl ?_; (with_reducible refine (laws_szMesh.calls a0_0 a0_1 _ _ l0_2 1048576 t462 _ ?side1 HC0_2.out A3.out).mono ?_); (case side1 => exact cb_ HR0_2.out HB.out); rintro e w_0 ⟨rfl, hb⟩; refine ⟨_, rfl, ?_⟩; replace BK460 := Aside0.mk (bk_ BK460.out hb); replace BK461 := Aside0.mk (bk_ BK461.out hb); replace HB := Aside0.mk (bs_ HB.out hb); (try clear hb); obtain ⟨hcz_0, hcz_1, hfz_0, hfz_1⟩ := cz2_ BK461.out) | ((with_reducible refine gate_callee (f := 45) rfl ?_); refine gm_ (some 21) Try.func45 #[.agg #[.slice A1_0 l1_0.length c1_0, .slice A1_1 l1_1.length c1_1], .int .i64 t462] rfl ?_; (with_reducible refine (laws_szClasses.calls _ _ l1_0 _ _ l1_1 t462 t463 _ ?side1 HC1_0.out ?side3 HC1_1.out A10.out).mono ?_); (case side1 => exact cb_ HR1_0.out HB.out); (case side3 => exact cb_ HR1_1.out HB.out); rintro e w_0 ⟨rfl, hb⟩; refine ⟨_, rfl, ?_⟩; replace BK460 := Aside0.mk (bk_ BK460.out hb); replace BK461 := Aside0.mk (bk_ BK461.out hb); replace HB := Aside0.mk (bs_ HB.out hb); (try clear hb)))
 go_ret
 exact ⟨fin_, bb_ HB.out⟩) : P := h
set_option maxHeartbeats 8000000 in
set_option maxRecDepth 100000 in
theorem laws_FnExactClassDepends.calls (k : Nat) (a0_0 : Int) (a0_1 : Int) (A0_2 : Option Addr) (c0_2 : Nat) (l0_2 : List Int) (A1_0 : Option Addr) (c1_0 : Nat) (l1_0 : List Int) (A1_1 : Option Addr) (c1_1 : Nat) (l1_1 : List Int) (r : Bool) (w : World) (hr0_2 : Kd.C (Kd.int .i64) w A0_2 l0_2.length l0_2) (hc0_2 : l0_2.length ≤ c0_2) (hr1_0 : Kd.C (Kd.int .i64) w A1_0 l1_0.length l1_0) (hc1_0 : l1_0.length ≤ c1_0) (hr1_1 : Kd.C (Kd.int .i64) w A1_1 l1_1.length l1_1) (hc1_1 : l1_1.length ≤ c1_1) (h : laws_FnExactClassDepends.f k a0_0 a0_1 l0_2 l1_0 l1_1 = some r) :
  Calls Try.prog 9 #[.agg #[.int .i64 a0_0, .int .i64 a0_1, .slice A0_2 l0_2.length c0_2], .agg #[.slice A1_0 l1_0.length c1_0, .slice A1_1 l1_1.length c1_1]] w fun e w' => e = .returned (.bool r) ∧ Below w.heap.size w w' := by
 have hu34 := Try.underlying34
 have hu66 := Try.underlying66
 have hu44 := Try.underlying44
 have hu70 := Try.underlying70
 have HR0_2 := Aside0.mk hr0_2
 have HC0_2 := Aside0.mk hc0_2
 clear hr0_2 hc0_2
 have HR1_0 := Aside0.mk hr1_0
 have HC1_0 := Aside0.mk hc1_0
 clear hr1_0 hc1_0
 have HR1_1 := Aside0.mk hr1_1
 have HC1_1 := Aside0.mk hc1_1
 clear hr1_1 hc1_1
 have HB := Aside0.mk (Below.refl w.heap.size w)
 have H : ((laws_szMesh.f a0_0 a0_1 l0_2 1048576).bind fun t462 => (if t462 < 0 then (some true) else ((laws_szClasses.f l1_0 l1_1 t462).bind fun t463 => (if t463 < 0 then (some true) else ((laws_toMesh.f k a0_0 a0_1 l0_2).bind fun bt464 => ((laws_toClasses.f k l1_0 l1_1).bind fun bt469 => ((spec_ClassDepends.f k bt464.1 bt464.2.1 bt464.2.2 bt469.1 bt469.2).bind fun t475 => ((laws_toMesh.f k a0_0 a0_1 l0_2).bind fun bt478 => ((laws_toClasses.f k l1_0 l1_1).bind fun bt484 => ((impl_ClassDepends.f k bt478.1 bt478.2.1 bt478.2.2 bt484.1 bt484.2).bind fun t491 => ((laws_eqDependS.f k t491 t475).bind fun t494 => (if t494 = true then ((laws_toMesh.f k a0_0 a0_1 l0_2).bind fun bt495 => ((laws_eqMesh.f k bt478.1 bt478.2.1 bt478.2.2 bt495.1 bt495.2.1 bt495.2.2).bind fun t500 => (if t500 = true then ((laws_toClasses.f k l1_0 l1_1).bind fun bt501 => ((laws_eqClasses.f k bt484.1 bt484.2 bt501.1 bt501.2).bind fun t507 => (if t507 = true then ((laws_markMesh.f k bt478.1 bt478.2.1 bt478.2.2 1).bind fun bt508 => ((laws_markClasses.f k bt484.1 bt484.2 bt508.1).bind fun bt510 => (if bt510.1 < 0 then (laws_FnExactClassDepends.j0 k t475 t491 true a0_0 a0_1 l0_2 l1_0 l1_1) else ((laws_eqDependS.f k t491 t475).bind fun t513 => (laws_FnExactClassDepends.j0 k t475 t491 (!t513) a0_0 a0_1 l0_2 l1_0 l1_1))))) else (none)))) else (none)))) else (none))))))))))))) = some r := h
 clear h
 replace H := Option.bind_eq_some_iff.mp H
 obtain ⟨t462, A30, H⟩ := H
 try dsimp only at H
 have A3 := Aside0.mk A30
 clear A30
 by_cases c4 : t462 < 0
 ·rw [if_pos c4] at H
  have c4b0 : decide (t462 < 0) = true := decide_eq_true c4
  clear c4
  obtain rfl := Option.some.inj H
  exact laws_FnExactClassDepends.e0
 ·rw [if_neg c4] at H
  have c4b0 : decide (t462 < 0) = false := decide_eq_false c4
  clear c4
  replace H := Option.bind_eq_some_iff.mp H
  obtain ⟨t463, A100, H⟩ := H
  try dsimp only at H
  have A10 := Aside0.mk A100
  clear A100
  by_cases c11 : t463 < 0
  ·rw [if_pos c11] at H
   have c11b0 : decide (t463 < 0) = true := decide_eq_true c11
   clear c11
   obtain rfl := Option.some.inj H
   exact laws_FnExactClassDepends.e0
  ·rw [if_neg c11] at H
   have c11b0 : decide (t463 < 0) = false := decide_eq_false c11
   clear c11
   replace H := Option.bind_eq_some_iff.mp H
   obtain ⟨⟨t464, t465, t466⟩, A190, H⟩ := H
   try dsimp only at H
   have A19 := Aside0.mk A190
   clear A190
   replace H := Option.bind_eq_some_iff.mp H
   obtain ⟨⟨t469, t472⟩, A200, H⟩ := H
   try dsimp only at H
   have A20 := Aside0.mk A200
   clear A200
   replace H := Option.bind_eq_some_iff.mp H
   obtain ⟨t475, A210, H⟩ := H
   try dsimp only at H
   have A21 := Aside0.mk A210
   clear A210
   replace H := Option.bind_eq_some_iff.mp H
   obtain ⟨⟨t478, t479, t480⟩, A220, H⟩ := H
   try dsimp only at H
   have A22 := Aside0.mk A220
   clear A220
   replace H := Option.bind_eq_some_iff.mp H
   obtain ⟨⟨t484, t487⟩, A230, H⟩ := H
   try dsimp only at H
   have A23 := Aside0.mk A230
   clear A230
   replace H := Option.bind_eq_some_iff.mp H
   obtain ⟨t491, A240, H⟩ := H
   try dsimp only at H
   have A24 := Aside0.mk A240
   clear A240
   replace H := Option.bind_eq_some_iff.mp H
   obtain ⟨t494, A250, H⟩ := H
   try dsimp only at H
   have A25 := Aside0.mk A250
   clear A250
   by_cases c26 : t494 = true
   ·subst c26
    rw [if_pos rfl] at H
    replace H := Option.bind_eq_some_iff.mp H
    obtain ⟨⟨t495, t496, t497⟩, A270, H⟩ := H
    try dsimp only at H
    have A27 := Aside0.mk A270
    clear A270
    replace H := Option.bind_eq_some_iff.mp H
    obtain ⟨t500, A280, H⟩ := H
    try dsimp only at H
    have A28 := Aside0.mk A280
    clear A280
    by_cases c29 : t500 = true
    ·subst c29
     rw [if_pos rfl] at H
     replace H := Option.bind_eq_some_iff.mp H
     obtain ⟨⟨t501, t504⟩, A300, H⟩ := H
     try dsimp only at H
     have A30 := Aside0.mk A300
     clear A300
     replace H := Option.bind_eq_some_iff.mp H
     obtain ⟨t507, A310, H⟩ := H
     try dsimp only at H
     have A31 := Aside0.mk A310
     clear A310
     by_cases c32 : t507 = true
     ·subst c32
      rw [if_pos rfl] at H
      replace H := Option.bind_eq_some_iff.mp H
      obtain ⟨⟨t508, t509⟩, A330, H⟩ := H
      try dsimp only at H
      have A33 := Aside0.mk A330
      clear A330
      replace H := Option.bind_eq_some_iff.mp H
      obtain ⟨⟨t510, t511, t512⟩, A340, H⟩ := H
      try dsimp only at H
      have A34 := Aside0.mk A340
      clear A340
      have HC35 := Aside0.mk H
      clear H
      go_enter Try.func9, Try.ntmps9
      try go_wp2_with (first | ((with_reducible refine gate_dst (N := 2) rfl ?_); refine box_event ?hg (N := 2) ?hd (cs := #[.int .i64 a0_0, .int .i64 a0_1, .slice A0_2 l0_2.length c0_2]) (t := 34) ?hr ?_; (case hd => rfl); (case hg => rfl); (case hr => first | (go_simp; done) | (go_simp; rfl)); intro gb460 hg w36 hbox hb; have BK460 := Aside0.mk (hbox); have GW460 := Aside0.mk ((by rw [hg]; exact (bz_ HB.out) : w.heap.size ≤ gb460)); have GE460 := Aside0.mk ((by rw [hg]; exact (bz_ HB.out) : w.heap.size ≤ gb460)); replace HB := Aside0.mk (bs_ HB.out hb); clear hb hbox hg) | ((with_reducible refine gate_dst (N := 3) rfl ?_); refine box_event ?hg (N := 3) ?hd (cs := #[.slice A1_0 l1_0.length c1_0, .slice A1_1 l1_1.length c1_1]) (t := 66) ?hr ?_; (case hd => rfl); (case hg => rfl); (case hr => first | (go_simp; done) | (go_simp; rfl)); intro gb461 hg w37 hbox hb; have BK461 := Aside0.mk (hbox); have GW461 := Aside0.mk ((by rw [hg]; exact (bz_ HB.out) : w.heap.size ≤ gb461)); have GE461 := Aside0.mk ((by rw [hg]; exact (bz_ HB.out) : w.heap.size ≤ gb461)); replace HB := Aside0.mk (bs_ HB.out hb); have NB460_461 := Aside0.mk ((by rw [hg]; exact Nat.ne_of_lt (bl_ BK460.out) : gb460 ≠ gb461)); have NB461_460 := Aside0.mk ((by rw [hg]; exact Nat.ne_of_gt (bl_ BK460.out) : gb461 ≠ gb460)); replace BK460 := Aside0.mk (bk_ BK460.out hb); clear hb hbox hg; have hnb38 := NB460_461.out; have hnc38 := NB461_460.out; obtain ⟨hcz39_0, hcz39_1, hcz39_2, hfz39_0, hfz39_1, hfz39_2⟩ := cz3_ BK460.out) | ((with_reducible refine gate_callee (f := 22) rfl ?_); refine gm_ (some 16) Try.func22 #[.agg #[.int .i64 a0_0, .int .i64 a0_1, .slice A0_2 l0_2.length c0_2], .int .i64 1048576] rfl ?_; (with_reducible refine (laws_szMesh.calls a0_0 a0_1 _ _ l0_2 1048576 t462 _ ?side1 HC0_2.out A3.out).mono ?_); (case side1 => exact cb_ HR0_2.out HB.out); rintro e w40 ⟨rfl, hb⟩; refine ⟨_, rfl, ?_⟩; replace BK460 := Aside0.mk (bk_ BK460.out hb); replace BK461 := Aside0.mk (bk_ BK461.out hb); replace HB := Aside0.mk (bs_ HB.out hb); (try clear hb); obtain ⟨hcz41_0, hcz41_1, hfz41_0, hfz41_1⟩ := cz2_ BK461.out) | ((with_reducible refine gate_callee (f := 45) rfl ?_); refine gm_ (some 21) Try.func45 #[.agg #[.slice A1_0 l1_0.length c1_0, .slice A1_1 l1_1.length c1_1], .int .i64 t462] rfl ?_; (with_reducible refine (laws_szClasses.calls _ _ l1_0 _ _ l1_1 t462 t463 _ ?side1 HC1_0.out ?side3 HC1_1.out A10.out).mono ?_); (case side1 => exact cb_ HR1_0.out HB.out); (case side3 => exact cb_ HR1_1.out HB.out); rintro e w42 ⟨rfl, hb⟩; refine ⟨_, rfl, ?_⟩; replace BK460 := Aside0.mk (bk_ BK460.out hb); replace BK461 := Aside0.mk (bk_ BK461.out hb); replace HB := Aside0.mk (bs_ HB.out hb); (try clear hb)))
      have n0_ := Aside0.mk (blk_drew BK460.out)
      have n1_ := Aside0.mk (blk_drew BK461.out)
      have n2_ := Aside0.mk (below_drew1 HB.out)
      clear BK460
      clear BK461
      clear HB
      have BK460 := n0_
      have BK461 := n1_
      have HB := n2_
      clear n0_ n1_ n2_
      refine start_ (n := 6) (S := fun w' => w'.cell? ⟨gb460, 0, none⟩ = some (.int .i64 a0_0) ∧ w'.cell? ⟨gb460, 1, none⟩ = some (.int .i64 a0_1) ∧ w'.cell? ⟨gb460, 2, none⟩ = some (.slice A0_2 l0_2.length c0_2) ∧ w'.cell? ⟨gb461, 0, none⟩ = some (.slice A1_0 l1_0.length c1_0) ∧ w'.cell? ⟨gb461, 1, none⟩ = some (.slice A1_1 l1_1.length c1_1)) (ds := []) #[false, false, false, false, false, false] (by kernel_rfl) rfl rfl ⟨(blk_cell BK460.out 0).trans rfl, (blk_cell BK460.out 1).trans rfl, (blk_cell BK460.out 2).trans rfl, (blk_cell BK461.out 0).trans rfl, (blk_cell BK461.out 1).trans rfl⟩ (fun hHeld => ?_)
      generalize w42.drew = w43 at BK460 BK461 HB hHeld ⊢
      refine take_ (i := 0) (N := some 24) (v := ?_) (a' := ?_) (bt_ 6 1) rfl rfl (by kernel_rfl) (fun _ _ _ h => h) (Or.inl ⟨by rfl, ?_⟩) hHeld ?_ ?_
      rotate_left
      ·rintro w' ⟨s0, s1, s2, s3, s4⟩
       go_simp
       with_reducible rfl
      rotate_left
      ·simp only [Act.put, List.setIfInBounds_toArray, List.set_cons_zero, List.set_cons_succ, i64_w, i32_w]
       rfl
      refine take_ (i := 2) (N := some 26) (v := ?_) (a' := ?_) (bt_ 6 5) rfl rfl (by kernel_rfl) (fun _ _ _ h => h) (Or.inl ⟨by rfl, ?_⟩) hHeld ?_ ?_
      rotate_left
      ·rintro w' ⟨s0, s1, s2, s3, s4⟩
       go_simp
       with_reducible rfl
      rotate_left
      ·simp only [Act.put, List.setIfInBounds_toArray, List.set_cons_zero, List.set_cons_succ, i64_w, i32_w]
       rfl
      refine one_ (i := 1) (N := some 25) (bt_ 6 7) rfl rfl (by kernel_rfl) (by decide) (fun K hK => ?_)
      refine goes_ Try.func25 (by kernel_rfl) rfl #[.agg #[.int .i64 a0_0, .int .i64 a0_1, .slice A0_2 l0_2.length c0_2]] (by rfl) rfl rfl (by (try simp only [List.map_toArray, List.map_cons, List.map_nil]); first | done | rfl | (simp only [List.length_drop, List.length_take]; rfl)) ?_
      with_reducible refine (laws_toMesh.calls k a0_0 a0_1 _ _ l0_2 t464 t465 t466 _ ?side1 ?side2 A19.out).mono ?_
      (case side1 => exact cb_ HR0_2.out HB.out)
      (case side2 => exact HC0_2.out)
      rintro e w44 ⟨v467, rfl, ho0, hb⟩
      refine ⟨_, rfl, ?_⟩
      have n0_ := Aside0.mk (Kd.R_lower ho0 (bz_ HB.out))
      have n1_ := Aside0.mk (bk_ BK460.out hb)
      have n2_ := Aside0.mk (bk_ BK461.out hb)
      have n3_ := Aside0.mk (bs_ HB.out hb)
      clear BK460
      clear BK461
      clear HB
      have HO468 := n0_
      have BK460 := n1_
      have BK461 := n2_
      have HB := n3_
      clear n0_ n1_ n2_ n3_
      (try clear hb)
      (try clear hb2)
      (try clear hk)
      (try clear hi)
      (try clear ho0)
      refine hK.out _ _ ⟨(blk_cell BK460.out 0).trans rfl, (blk_cell BK460.out 1).trans rfl, (blk_cell BK460.out 2).trans rfl, (blk_cell BK461.out 0).trans rfl, (blk_cell BK461.out 1).trans rfl⟩ (fun hHeld => ?_)
      clear hK K
      refine norm_ (a' := ?_) ?_ ?_
      rotate_left
      ·show Act.put _ (some 25) _ = _
       simp only [Act.put, List.setIfInBounds_toArray, List.set_cons_zero, List.set_cons_succ, i64_w, i32_w]
       rfl
      refine one_ (i := 3) (N := some 27) (bt_ 6 15) rfl rfl (by kernel_rfl) (by decide) (fun K hK => ?_)
      refine goes_ Try.func47 (by kernel_rfl) rfl #[.agg #[.slice A1_0 l1_0.length c1_0, .slice A1_1 l1_1.length c1_1]] (by rfl) rfl rfl (by (try simp only [List.map_toArray, List.map_cons, List.map_nil]); first | done | rfl | (simp only [List.length_drop, List.length_take]; rfl)) ?_
      with_reducible refine (laws_toClasses.calls k _ _ l1_0 _ _ l1_1 t469 t472 _ ?side1 ?side2 ?side3 ?side4 A20.out).mono ?_
      (case side1 => exact cb_ HR1_0.out HB.out)
      (case side2 => exact HC1_0.out)
      (case side3 => exact cb_ HR1_1.out HB.out)
      (case side4 => exact HC1_1.out)
      rintro e w45 ⟨v470, v473, rfl, ho0, ho1, hb⟩
      refine ⟨_, rfl, ?_⟩
      have n0_ := Aside0.mk (Kd.R_mono (Kd.R_told (Kd.R_told (Kd.R_old (ra_ HO468.out) hb) (Kd.R_base ho0)) (Kd.R_base ho1)) (fun _ h_ => h_.1))
      have n1_ := Aside0.mk (Kd.R_lower (Kd.R_new' ho0 (rl_ HO468.out)) (bz_ HB.out))
      have n2_ := Aside0.mk (Kd.R_lower (Kd.R_new' ho1 (rl_ HO468.out)) (bz_ HB.out))
      have n3_ := Aside0.mk (bk_ BK460.out hb)
      have n4_ := Aside0.mk (bk_ BK461.out hb)
      have n5_ := Aside0.mk (bs_ HB.out hb)
      clear HO468
      clear BK460
      clear BK461
      clear HB
      have HO468 := n0_
      have HO471 := n1_
      have HO474 := n2_
      have BK460 := n3_
      have BK461 := n4_
      have HB := n5_
      clear n0_ n1_ n2_ n3_ n4_ n5_
      (try clear hb)
      (try clear hb2)
      (try clear hk)
      (try clear hi)
      (try clear ho0)
      (try clear ho1)
      obtain ⟨Ao46, co46, eo46⟩ := Kd.R_slice HO468.out
      (first | subst eo46 | (injection eo46 with f1_ f2_ f3_; have f4_ := f1_.symm; have f5_ := f3_.symm; clear f1_ f2_ f3_; subst f4_; subst f5_))
      obtain ⟨Ao47, co47, eo47⟩ := Kd.R_slice HO471.out
      (first | subst eo47 | (injection eo47 with f1_ f2_ f3_; have f4_ := f1_.symm; have f5_ := f3_.symm; clear f1_ f2_ f3_; subst f4_; subst f5_))
      obtain ⟨Ao48, co48, eo48⟩ := Kd.R_slice HO474.out
      (first | subst eo48 | (injection eo48 with f1_ f2_ f3_; have f4_ := f1_.symm; have f5_ := f3_.symm; clear f1_ f2_ f3_; subst f4_; subst f5_))
      refine hK.out _ _ ⟨(blk_cell BK460.out 0).trans rfl, (blk_cell BK460.out 1).trans rfl, (blk_cell BK460.out 2).trans rfl, (blk_cell BK461.out 0).trans rfl, (blk_cell BK461.out 1).trans rfl⟩ (fun hHeld => ?_)
      clear hK K
      refine norm_ (a' := ?_) ?_ ?_
      rotate_left
      ·show Act.put _ (some 27) _ = _
       simp only [Act.put, List.setIfInBounds_toArray, List.set_cons_zero, List.set_cons_succ, i64_w, i32_w]
       rfl
      refine one_ (i := 4) (N := some 28) (bt_ 6 31) rfl rfl (by kernel_rfl) (by decide) (fun K hK => ?_)
      refine goes_ Try.func46 (by kernel_rfl) rfl #[.agg #[.int .i64 t464, .int .i64 t465, .slice Ao46 t466.length co46], .agg #[.slice Ao47 t469.length co47, .slice Ao48 t472.length co48]] (by rfl) rfl rfl (by (try simp only [List.map_toArray, List.map_cons, List.map_nil]); first | done | rfl | (simp only [List.length_drop, List.length_take]; rfl)) ?_
      with_reducible refine (spec_ClassDepends.calls k t464 t465 _ _ t466 _ _ t469 _ _ t472 t475 _ ?side1 ?side2 ?side3 ?side4 ?side5 ?side6 A21.out).mono ?_
      (case side1 => repeat (first | exact (Kd.R_reads' HO468.out).2.2 | (with_reducible refine Kd.C_alloc ?_ _) | (with_reducible refine Kd.C_drewN ?_ _) | (with_reducible refine Kd.C_drew ?_)))
      (case side2 => exact (Kd.R_reads' HO468.out).2.1)
      (case side3 => repeat (first | exact (Kd.R_reads' HO471.out).2.2 | (with_reducible refine Kd.C_alloc ?_ _) | (with_reducible refine Kd.C_drewN ?_ _) | (with_reducible refine Kd.C_drew ?_)))
      (case side4 => exact (Kd.R_reads' HO471.out).2.1)
      (case side5 => repeat (first | exact (Kd.R_reads' HO474.out).2.2 | (with_reducible refine Kd.C_alloc ?_ _) | (with_reducible refine Kd.C_drewN ?_ _) | (with_reducible refine Kd.C_drew ?_)))
      (case side6 => exact (Kd.R_reads' HO474.out).2.1)
      rintro e w49 ⟨v476, rfl, ho0, hb⟩
      refine ⟨_, rfl, ?_⟩
      have n0_ := Aside0.mk (Kd.R_below (ra_ HO468.out) hb)
      have n1_ := Aside0.mk (Kd.R_below (ra_ HO471.out) hb)
      have n2_ := Aside0.mk (Kd.R_below (ra_ HO474.out) hb)
      have n3_ := Aside0.mk (Kd.R_lower ho0 (bz_ HB.out))
      have n4_ := Aside0.mk (bk_ BK460.out hb)
      have n5_ := Aside0.mk (bk_ BK461.out hb)
      have n6_ := Aside0.mk (bs_ HB.out hb)
      clear HO468
      clear HO471
      clear HO474
      clear BK460
      clear BK461
      clear HB
      have HO468 := n0_
      have HO471 := n1_
      have HO474 := n2_
      have HO477 := n3_
      have BK460 := n4_
      have BK461 := n5_
      have HB := n6_
      clear n0_ n1_ n2_ n3_ n4_ n5_ n6_
      (try clear hb)
      (try clear hb2)
      (try clear hk)
      (try clear hi)
      (try clear ho0)
      refine hK.out _ _ ⟨(blk_cell BK460.out 0).trans rfl, (blk_cell BK460.out 1).trans rfl, (blk_cell BK460.out 2).trans rfl, (blk_cell BK461.out 0).trans rfl, (blk_cell BK461.out 1).trans rfl⟩ (fun hHeld => ?_)
      clear hK K
      refine norm_ (a' := ?_) ?_ ?_
      rotate_left
      ·show Act.put _ (some 28) _ = _
       simp only [Act.put, List.setIfInBounds_toArray, List.set_cons_zero, List.set_cons_succ, i64_w, i32_w]
       rfl
      refine pure_ (i := 5) (N := some 6) (v := ?_) (a' := ?_) (bt_ 6 63) rfl rfl (by kernel_rfl) (fun _ _ _ h => h) (Or.inl ⟨by rfl, ?_⟩) ?_ ?_
      rotate_left
      ·intro w'
       go_simp
       with_reducible rfl
      rotate_left
      ·simp only [Act.put, List.setIfInBounds_toArray, List.set_cons_zero, List.set_cons_succ, i64_w, i32_w]
       rfl
      refine done_ (by kernel_rfl) ?_
      obtain ⟨hcz50_0, hcz50_1, hcz50_2, hfz50_0, hfz50_1, hfz50_2⟩ := cz3_ BK460.out
      try go_wp2_with (first | ((with_reducible refine gate_callee (f := 25) rfl ?_); refine gm_ (some 30) Try.func25 #[.agg #[.int .i64 a0_0, .int .i64 a0_1, .slice A0_2 l0_2.length c0_2]] rfl ?_; (with_reducible refine (laws_toMesh.calls k a0_0 a0_1 _ _ l0_2 t478 t479 t480 _ ?side1 HC0_2.out A22.out).mono ?_); (case side1 => exact cb_ HR0_2.out HB.out); rintro e w51 ⟨v481, rfl, ho0, hb⟩; refine ⟨_, rfl, ?_⟩; replace HO477 := Aside0.mk (Kd.R_below (ra_ HO477.out) hb); have HO482 := Aside0.mk (Kd.R_lower (Kd.R_new' (Kd.R_new' (Kd.R_new' ho0 (rl_ HO468.out)) (rl_ HO471.out)) (rl_ HO474.out)) (bz_ HB.out)); replace HO468 := Aside0.mk (Kd.R_elder' (ra_ HO468.out) (Kd.R_base ho0) hb); replace HO471 := Aside0.mk (Kd.R_elder' (ra_ HO471.out) (Kd.R_base ho0) hb); replace HO474 := Aside0.mk (Kd.R_elder' (ra_ HO474.out) (Kd.R_base ho0) hb); replace BK460 := Aside0.mk (bk_ BK460.out hb); replace BK461 := Aside0.mk (bk_ BK461.out hb); replace HB := Aside0.mk (bs_ HB.out hb); (try clear hb); (try clear ho0)) | ((with_reducible refine gate_dst (N := 7) rfl ?_); refine box_event ?hg (N := 7) ?hd (cs := #[.int .i64 0, .int .i64 0, .slice none 0 0]) (t := 44) ?hr ?_; (case hd => rfl); (case hg => rfl); (case hr => first | (go_simp; done) | (go_simp; rfl)); intro gb483 hg w52 hbox hb; replace HO468 := Aside0.mk (Kd.R_below (ra_ HO468.out) hb); replace HO471 := Aside0.mk (Kd.R_below (ra_ HO471.out) hb); replace HO474 := Aside0.mk (Kd.R_below (ra_ HO474.out) hb); replace HO477 := Aside0.mk (Kd.R_below (ra_ HO477.out) hb); replace HO482 := Aside0.mk (Kd.R_below (ra_ HO482.out) hb); have BK483 := Aside0.mk (hbox); have GW483 := Aside0.mk ((by rw [hg]; exact (bz_ HB.out) : w.heap.size ≤ gb483)); have GE483 := Aside0.mk ((by rw [hg]; exact (bz_ HB.out) : w.heap.size ≤ gb483)); replace HB := Aside0.mk (bs_ HB.out hb); have NB460_483 := Aside0.mk ((by rw [hg]; exact Nat.ne_of_lt (bl_ BK460.out) : gb460 ≠ gb483)); have NB483_460 := Aside0.mk ((by rw [hg]; exact Nat.ne_of_gt (bl_ BK460.out) : gb483 ≠ gb460)); replace BK460 := Aside0.mk (bk_ BK460.out hb); have NB461_483 := Aside0.mk ((by rw [hg]; exact Nat.ne_of_lt (bl_ BK461.out) : gb461 ≠ gb483)); have NB483_461 := Aside0.mk ((by rw [hg]; exact Nat.ne_of_gt (bl_ BK461.out) : gb483 ≠ gb461)); replace BK461 := Aside0.mk (bk_ BK461.out hb); clear hb hbox hg; have hnb53 := NB483_460.out; have hnc53 := NB460_483.out; have hnb54 := NB483_461.out; have hnc54 := NB461_483.out; obtain ⟨hcz55_0, hcz55_1, hcz55_2, hfz55_0, hfz55_1, hfz55_2⟩ := cz3_ BK483.out; obtain ⟨Ao56, co56, eo56⟩ := Kd.R_slice HO482.out; subst eo56; obtain ⟨hcz57_0, hcz57_1, hfz57_0, hfz57_1⟩ := cz2_ BK461.out) | ((with_reducible refine gate_callee (f := 47) rfl ?_); refine gm_ (some 32) Try.func47 #[.agg #[.slice A1_0 l1_0.length c1_0, .slice A1_1 l1_1.length c1_1]] rfl ?_; (with_reducible refine (laws_toClasses.calls k _ _ l1_0 _ _ l1_1 t484 t487 _ ?side1 HC1_0.out ?side3 HC1_1.out A23.out).mono ?_); (case side1 => exact Kd.C_below HR1_0.out (by repeat (first | (with_reducible first | exact HB.out | apply below_alloc | apply pw_below_drewN | apply below_drew1 | refine below_set ?_ GE460.out | refine below_set ?_ GE461.out | refine below_set ?_ GE483.out) | exact HB.out))); (case side3 => exact Kd.C_below HR1_1.out (by repeat (first | (with_reducible first | exact HB.out | apply below_alloc | apply pw_below_drewN | apply below_drew1 | refine below_set ?_ GE460.out | refine below_set ?_ GE461.out | refine below_set ?_ GE483.out) | exact HB.out))); rintro e w58 ⟨v485, v488, rfl, ho0, ho1, hb⟩; refine ⟨_, rfl, ?_⟩; replace HO477 := Aside0.mk (Kd.R_below (rm_ (Kd.R_types HO477.out BK483.out (by decide)) (fun _ h_ => h_.1)) hb); have HO486 := Aside0.mk (Kd.R_lower (Kd.R_new' (Kd.R_new' (Kd.R_new' (Kd.R_new' ho0 (Kd.R_lt (rm_ (Kd.R_types HO468.out BK483.out (by decide)) (fun _ h_ => h_.1)))) (Kd.R_lt (rm_ (Kd.R_types HO471.out BK483.out (by decide)) (fun _ h_ => h_.1)))) (Kd.R_lt (rm_ (Kd.R_types HO474.out BK483.out (by decide)) (fun _ h_ => h_.1)))) (Kd.R_lt (rm_ (Kd.R_types HO482.out BK483.out (by decide)) (fun _ h_ => h_.1)))) (bz_ HB.out)); have HO489 := Aside0.mk (Kd.R_lower (Kd.R_new' (Kd.R_new' (Kd.R_new' (Kd.R_new' ho1 (Kd.R_lt (rm_ (Kd.R_types HO468.out BK483.out (by decide)) (fun _ h_ => h_.1)))) (Kd.R_lt (rm_ (Kd.R_types HO471.out BK483.out (by decide)) (fun _ h_ => h_.1)))) (Kd.R_lt (rm_ (Kd.R_types HO474.out BK483.out (by decide)) (fun _ h_ => h_.1)))) (Kd.R_lt (rm_ (Kd.R_types HO482.out BK483.out (by decide)) (fun _ h_ => h_.1)))) (bz_ HB.out)); replace HO468 := Aside0.mk (Kd.R_mono (Kd.R_told (Kd.R_told (Kd.R_old (rm_ (Kd.R_types HO468.out BK483.out (by decide)) (fun _ h_ => h_.1)) hb) (Kd.R_base ho0)) (Kd.R_base ho1)) (fun _ h_ => h_.1)); replace HO471 := Aside0.mk (Kd.R_mono (Kd.R_told (Kd.R_told (Kd.R_old (rm_ (Kd.R_types HO471.out BK483.out (by decide)) (fun _ h_ => h_.1)) hb) (Kd.R_base ho0)) (Kd.R_base ho1)) (fun _ h_ => h_.1)); replace HO474 := Aside0.mk (Kd.R_mono (Kd.R_told (Kd.R_told (Kd.R_old (rm_ (Kd.R_types HO474.out BK483.out (by decide)) (fun _ h_ => h_.1)) hb) (Kd.R_base ho0)) (Kd.R_base ho1)) (fun _ h_ => h_.1)); replace HO482 := Aside0.mk (Kd.R_mono (Kd.R_told (Kd.R_told (Kd.R_old (rm_ (Kd.R_types HO482.out BK483.out (by decide)) (fun _ h_ => h_.1)) hb) (Kd.R_base ho0)) (Kd.R_base ho1)) (fun _ h_ => h_.1)); replace BK460 := Aside0.mk (blk_below (bf_ BK460.out) hb); replace BK461 := Aside0.mk (blk_below (bf_ BK461.out) hb); replace BK483 := Aside0.mk (blk_below (g := gb483) (o := .cells #[.int .i64 t478, .int .i64 t479, .slice Ao56 t480.length co56] 44 (0, 0)) (by (with_reducible repeat (first | refine blk_drewN ?_ _ | refine blk_drew ?_ | refine blk_alloc ?_ _)); refine blk_put (cs := #[.int .i64 t478, .int .i64 t479, .slice none 0 0]) ?_ 2 _ rfl; (with_reducible repeat (first | refine blk_drewN ?_ _ | refine blk_drew ?_ | refine blk_alloc ?_ _)); refine blk_put (cs := #[.int .i64 t478, .int .i64 0, .slice none 0 0]) ?_ 1 _ rfl; (with_reducible repeat (first | refine blk_drewN ?_ _ | refine blk_drew ?_ | refine blk_alloc ?_ _)); refine blk_put (cs := #[.int .i64 0, .int .i64 0, .slice none 0 0]) ?_ 0 _ rfl; (with_reducible repeat (first | refine blk_drewN ?_ _ | refine blk_drew ?_ | refine blk_alloc ?_ _)); exact BK483.out) hb); replace HB := Aside0.mk (bs_ HB.out hb); (try clear hb); (try clear ho0); (try clear ho1)) | ((with_reducible refine gate_dst (N := 8) rfl ?_); refine box_event ?hg (N := 8) ?hd (cs := #[.slice none 0 0, .slice none 0 0]) (t := 70) ?hr ?_; (case hd => rfl); (case hg => rfl); (case hr => first | (go_simp; done) | (go_simp; rfl)); intro gb490 hg w59 hbox hb; replace HO468 := Aside0.mk (Kd.R_below (ra_ HO468.out) hb); replace HO471 := Aside0.mk (Kd.R_below (ra_ HO471.out) hb); replace HO474 := Aside0.mk (Kd.R_below (ra_ HO474.out) hb); replace HO477 := Aside0.mk (Kd.R_below (ra_ HO477.out) hb); replace HO482 := Aside0.mk (Kd.R_below (ra_ HO482.out) hb); replace HO486 := Aside0.mk (Kd.R_below (ra_ HO486.out) hb); replace HO489 := Aside0.mk (Kd.R_below (ra_ HO489.out) hb); have BK490 := Aside0.mk (hbox); have GW490 := Aside0.mk ((by rw [hg]; exact (bz_ HB.out) : w.heap.size ≤ gb490)); have GE490 := Aside0.mk ((by rw [hg]; exact (bz_ HB.out) : w.heap.size ≤ gb490)); replace HB := Aside0.mk (bs_ HB.out hb); have NB460_490 := Aside0.mk ((by rw [hg]; exact Nat.ne_of_lt (bl_ BK460.out) : gb460 ≠ gb490)); have NB490_460 := Aside0.mk ((by rw [hg]; exact Nat.ne_of_gt (bl_ BK460.out) : gb490 ≠ gb460)); replace BK460 := Aside0.mk (bk_ BK460.out hb); have NB461_490 := Aside0.mk ((by rw [hg]; exact Nat.ne_of_lt (bl_ BK461.out) : gb461 ≠ gb490)); have NB490_461 := Aside0.mk ((by rw [hg]; exact Nat.ne_of_gt (bl_ BK461.out) : gb490 ≠ gb461)); replace BK461 := Aside0.mk (bk_ BK461.out hb); have NB483_490 := Aside0.mk ((by rw [hg]; exact Nat.ne_of_lt (bl_ BK483.out) : gb483 ≠ gb490)); have NB490_483 := Aside0.mk ((by rw [hg]; exact Nat.ne_of_gt (bl_ BK483.out) : gb490 ≠ gb483)); replace BK483 := Aside0.mk (bk_ BK483.out hb); clear hb hbox hg; obtain ⟨Ao60, co60, eo60⟩ := Kd.R_slice HO486.out; subst eo60; have hnb61 := NB490_460.out; have hnc61 := NB460_490.out; have hnb62 := NB490_461.out; have hnc62 := NB461_490.out; have hnb63 := NB490_483.out; have hnc63 := NB483_490.out; obtain ⟨hcz64_0, hcz64_1, hfz64_0, hfz64_1⟩ := cz2_ BK490.out; obtain ⟨Ao65, co65, eo65⟩ := Kd.R_slice HO489.out; subst eo65; obtain ⟨hcz66_0, hcz66_1, hcz66_2, hfz66_0, hfz66_1, hfz66_2⟩ := cz3_ BK483.out) | ((with_reducible refine gate_callee (f := 48) rfl ?_); refine gm_ (some 35) Try.func48 #[.agg #[.int .i64 t478, .int .i64 t479, .slice Ao56 t480.length co56], .agg #[.slice Ao60 t484.length co60, .slice Ao65 t487.length co65]] rfl ?_; (with_reducible refine (impl_ClassDepends.calls k t478 t479 _ _ t480 _ _ t484 _ _ t487 t491 _ ?side1 ?side2 ?side3 ?side4 ?side5 ?side6 A24.out).mono ?_); (case side1 => refine (Kd.R_reads' (e := 3) (base := w.heap.size) (ok := fun k_ => (((((True ∧ some k_ ≠ (.slice Ao46 t466.length co46 : Value).ownBlock) ∧ some k_ ≠ (.slice Ao47 t469.length co47 : Value).ownBlock) ∧ some k_ ≠ (.slice Ao48 t472.length co48 : Value).ownBlock) ∧ some k_ ≠ (.slice Ao60 t484.length co60 : Value).ownBlock) ∧ some k_ ≠ (.slice Ao65 t487.length co65 : Value).ownBlock)) (n := t480.length) (c := co56) ?_).2.2; exact (rm_ (Kd.R_types HO482.out BK490.out (by decide)) (fun _ h_ => h_.1))); (case side2 => exact (Kd.R_reads' HO482.out).2.1); (case side3 => refine (Kd.R_reads' (e := 3) (base := w.heap.size) (ok := fun k_ => ((((some k_ ≠ (.slice Ao65 t487.length co65 : Value).ownBlock ∧ some k_ ≠ (.slice Ao46 t466.length co46 : Value).ownBlock) ∧ some k_ ≠ (.slice Ao47 t469.length co47 : Value).ownBlock) ∧ some k_ ≠ (.slice Ao48 t472.length co48 : Value).ownBlock) ∧ some k_ ≠ (.slice Ao56 t480.length co56 : Value).ownBlock)) (n := t484.length) (c := co60) ?_).2.2; exact (rm_ (Kd.R_types HO486.out BK490.out (by decide)) (fun _ h_ => h_.1))); (case side4 => exact (Kd.R_reads' HO486.out).2.1); (case side5 => refine (Kd.R_reads' (e := 3) (base := w.heap.size) (ok := fun k_ => ((((some k_ ≠ (.slice Ao60 t484.length co60 : Value).ownBlock ∧ some k_ ≠ (.slice Ao46 t466.length co46 : Value).ownBlock) ∧ some k_ ≠ (.slice Ao47 t469.length co47 : Value).ownBlock) ∧ some k_ ≠ (.slice Ao48 t472.length co48 : Value).ownBlock) ∧ some k_ ≠ (.slice Ao56 t480.length co56 : Value).ownBlock)) (n := t487.length) (c := co65) ?_).2.2; exact (rm_ (Kd.R_types HO489.out BK490.out (by decide)) (fun _ h_ => h_.1))); (case side6 => exact (Kd.R_reads' HO489.out).2.1); rintro e w67 ⟨v492, rfl, ho0, hb⟩; refine ⟨_, rfl, ?_⟩; replace HO468 := Aside0.mk (Kd.R_below (rm_ (Kd.R_types HO468.out BK490.out (by decide)) (fun _ h_ => h_.1)) hb); replace HO471 := Aside0.mk (Kd.R_below (rm_ (Kd.R_types HO471.out BK490.out (by decide)) (fun _ h_ => h_.1)) hb); replace HO474 := Aside0.mk (Kd.R_below (rm_ (Kd.R_types HO474.out BK490.out (by decide)) (fun _ h_ => h_.1)) hb); replace HO482 := Aside0.mk (Kd.R_below (rm_ (Kd.R_types HO482.out BK490.out (by decide)) (fun _ h_ => h_.1)) hb); replace HO486 := Aside0.mk (Kd.R_below (rm_ (Kd.R_types HO486.out BK490.out (by decide)) (fun _ h_ => h_.1)) hb); replace HO489 := Aside0.mk (Kd.R_below (rm_ (Kd.R_types HO489.out BK490.out (by decide)) (fun _ h_ => h_.1)) hb); have HO493 := Aside0.mk (Kd.R_lower (Kd.R_new' ho0 (Kd.R_lt (rm_ (Kd.R_types HO477.out BK490.out (by decide)) (fun _ h_ => h_.1)))) (bz_ HB.out)); replace HO477 := Aside0.mk (Kd.R_elder' (rm_ (Kd.R_types HO477.out BK490.out (by decide)) (fun _ h_ => h_.1)) (Kd.R_base ho0) hb); replace BK460 := Aside0.mk (blk_below (bf_ BK460.out) hb); replace BK461 := Aside0.mk (blk_below (bf_ BK461.out) hb); replace BK483 := Aside0.mk (blk_below (bf_ BK483.out) hb); replace BK490 := Aside0.mk (blk_below (g := gb490) (o := .cells #[.slice Ao60 t484.length co60, .slice Ao65 t487.length co65] 70 (0, 0)) (by (with_reducible repeat (first | refine blk_drewN ?_ _ | refine blk_drew ?_ | refine blk_alloc ?_ _)); refine blk_put (cs := #[.slice Ao60 t484.length co60, .slice none 0 0]) ?_ 1 _ rfl; (with_reducible repeat (first | refine blk_drewN ?_ _ | refine blk_drew ?_ | refine blk_alloc ?_ _)); refine blk_put (cs := #[.slice none 0 0, .slice none 0 0]) ?_ 0 _ rfl; (with_reducible repeat (first | refine blk_drewN ?_ _ | refine blk_drew ?_ | refine blk_alloc ?_ _)); exact BK490.out) hb); replace HB := Aside0.mk (bs_ HB.out hb); (try clear hb); (try clear ho0); obtain ⟨Ao68, co68, eo68⟩ := Kd.R_slice HO493.out; subst eo68; obtain ⟨Ao69, co69, eo69⟩ := Kd.R_slice HO477.out; subst eo69) | ((with_reducible refine gate_callee (f := 15) rfl ?_); refine gm_ (some 38) Try.func15 #[.slice Ao68 t491.length co68, .slice Ao69 t475.length co69] rfl ?_; (with_reducible refine (laws_eqDependS.calls k _ _ t491 _ _ t475 true _ ?side1 ?side2 ?side3 ?side4 A25.out).mono ?_); (case side1 => repeat (first | exact (Kd.R_reads' HO493.out).2.2 | (with_reducible refine Kd.C_alloc ?_ _) | (with_reducible refine Kd.C_drewN ?_ _) | (with_reducible refine Kd.C_drew ?_))); (case side2 => exact (Kd.R_reads' HO493.out).2.1); (case side3 => repeat (first | exact (Kd.R_reads' HO477.out).2.2 | (with_reducible refine Kd.C_alloc ?_ _) | (with_reducible refine Kd.C_drewN ?_ _) | (with_reducible refine Kd.C_drew ?_))); (case side4 => exact (Kd.R_reads' HO477.out).2.1); rintro e w70 ⟨rfl, hb⟩; refine ⟨_, rfl, ?_⟩; replace HO468 := Aside0.mk (Kd.R_below (ra_ HO468.out) hb); replace HO471 := Aside0.mk (Kd.R_below (ra_ HO471.out) hb); replace HO474 := Aside0.mk (Kd.R_below (ra_ HO474.out) hb); replace HO477 := Aside0.mk (Kd.R_below (ra_ HO477.out) hb); replace HO482 := Aside0.mk (Kd.R_below (ra_ HO482.out) hb); replace HO486 := Aside0.mk (Kd.R_below (ra_ HO486.out) hb); replace HO489 := Aside0.mk (Kd.R_below (ra_ HO489.out) hb); replace HO493 := Aside0.mk (Kd.R_below (ra_ HO493.out) hb); replace BK460 := Aside0.mk (bk_ BK460.out hb); replace BK461 := Aside0.mk (bk_ BK461.out hb); replace BK483 := Aside0.mk (bk_ BK483.out hb); replace BK490 := Aside0.mk (bk_ BK490.out hb); replace HB := Aside0.mk (bs_ HB.out hb); (try clear hb)))
      have n0_ := Aside0.mk (Kd.R_drew HO468.out)
      have n1_ := Aside0.mk (Kd.R_drew HO471.out)
      have n2_ := Aside0.mk (Kd.R_drew HO474.out)
      have n3_ := Aside0.mk (Kd.R_drew HO477.out)
      have n4_ := Aside0.mk (Kd.R_drew HO482.out)
      have n5_ := Aside0.mk (Kd.R_drew HO486.out)
      have n6_ := Aside0.mk (Kd.R_drew HO489.out)
      have n7_ := Aside0.mk (Kd.R_drew HO493.out)
      have n8_ := Aside0.mk (blk_drew BK460.out)
      have n9_ := Aside0.mk (blk_drew BK461.out)
      have n10_ := Aside0.mk (blk_drew BK483.out)
      have n11_ := Aside0.mk (blk_drew BK490.out)
      have n12_ := Aside0.mk (below_drew1 HB.out)
      clear HO468
      clear HO471
      clear HO474
      clear HO477
      clear HO482
      clear HO486
      clear HO489
      clear HO493
      clear BK460
      clear BK461
      clear BK483
      clear BK490
      clear HB
      have HO468 := n0_
      have HO471 := n1_
      have HO474 := n2_
      have HO477 := n3_
      have HO482 := n4_
      have HO486 := n5_
      have HO489 := n6_
      have HO493 := n7_
      have BK460 := n8_
      have BK461 := n9_
      have BK483 := n10_
      have BK490 := n11_
      have HB := n12_
      clear n0_ n1_ n2_ n3_ n4_ n5_ n6_ n7_ n8_ n9_ n10_ n11_ n12_
      refine start_ (n := 5) (S := fun w' => w'.cell? ⟨gb483, 0, none⟩ = some (.int .i64 t478) ∧ w'.cell? ⟨gb483, 1, none⟩ = some (.int .i64 t479) ∧ w'.cell? ⟨gb483, 2, none⟩ = some (.slice Ao56 t480.length co56) ∧ w'.cell? ⟨gb460, 0, none⟩ = some (.int .i64 a0_0) ∧ w'.cell? ⟨gb460, 1, none⟩ = some (.int .i64 a0_1) ∧ w'.cell? ⟨gb460, 2, none⟩ = some (.slice A0_2 l0_2.length c0_2)) (ds := []) #[false, false, false, false, false] (by kernel_rfl) rfl rfl ⟨(blk_cell BK483.out 0).trans rfl, (blk_cell BK483.out 1).trans rfl, (blk_cell BK483.out 2).trans rfl, (blk_cell BK460.out 0).trans rfl, (blk_cell BK460.out 1).trans rfl, (blk_cell BK460.out 2).trans rfl⟩ (fun hHeld => ?_)
      generalize w70.drew = w71 at HO468 HO471 HO474 HO477 HO482 HO486 HO489 HO493 BK460 BK461 BK483 BK490 HB hHeld ⊢
      refine take_ (i := 0) (N := some 40) (v := ?_) (a' := ?_) (bt_ 5 1) rfl rfl (by kernel_rfl) (fun _ _ _ h => h) (Or.inl ⟨by rfl, ?_⟩) hHeld ?_ ?_
      rotate_left
      ·rintro w' ⟨s0, s1, s2, s3, s4, s5⟩
       go_simp
       with_reducible rfl
      rotate_left
      ·simp only [Act.put, List.setIfInBounds_toArray, List.set_cons_zero, List.set_cons_succ, i64_w, i32_w]
       rfl
      refine take_ (i := 1) (N := some 41) (v := ?_) (a' := ?_) (bt_ 5 3) rfl rfl (by kernel_rfl) (fun _ _ _ h => h) (Or.inl ⟨by rfl, ?_⟩) hHeld ?_ ?_
      rotate_left
      ·rintro w' ⟨s0, s1, s2, s3, s4, s5⟩
       go_simp
       with_reducible rfl
      rotate_left
      ·simp only [Act.put, List.setIfInBounds_toArray, List.set_cons_zero, List.set_cons_succ, i64_w, i32_w]
       rfl
      refine one_ (i := 2) (N := some 42) (bt_ 5 7) rfl rfl (by kernel_rfl) (by decide) (fun K hK => ?_)
      refine goes_ Try.func25 (by kernel_rfl) rfl #[.agg #[.int .i64 a0_0, .int .i64 a0_1, .slice A0_2 l0_2.length c0_2]] (by rfl) rfl rfl (by (try simp only [List.map_toArray, List.map_cons, List.map_nil]); first | done | rfl | (simp only [List.length_drop, List.length_take]; rfl)) ?_
      with_reducible refine (laws_toMesh.calls k a0_0 a0_1 _ _ l0_2 t495 t496 t497 _ ?side1 ?side2 A27.out).mono ?_
      (case side1 => exact cb_ HR0_2.out HB.out)
      (case side2 => exact HC0_2.out)
      rintro e w72 ⟨v498, rfl, ho0, hb⟩
      refine ⟨_, rfl, ?_⟩
      have n0_ := Aside0.mk (Kd.R_elder' (ra_ HO468.out) (Kd.R_base ho0) hb)
      have n1_ := Aside0.mk (Kd.R_elder' (ra_ HO471.out) (Kd.R_base ho0) hb)
      have n2_ := Aside0.mk (Kd.R_elder' (ra_ HO474.out) (Kd.R_base ho0) hb)
      have n3_ := Aside0.mk (Kd.R_below (ra_ HO477.out) hb)
      have n4_ := Aside0.mk (Kd.R_elder' (ra_ HO482.out) (Kd.R_base ho0) hb)
      have n5_ := Aside0.mk (Kd.R_elder' (ra_ HO486.out) (Kd.R_base ho0) hb)
      have n6_ := Aside0.mk (Kd.R_elder' (ra_ HO489.out) (Kd.R_base ho0) hb)
      have n7_ := Aside0.mk (Kd.R_below (ra_ HO493.out) hb)
      have n8_ := Aside0.mk (Kd.R_lower (Kd.R_new' (Kd.R_new' (Kd.R_new' (Kd.R_new' (Kd.R_new' (Kd.R_new' ho0 (rl_ HO468.out)) (rl_ HO471.out)) (rl_ HO474.out)) (rl_ HO482.out)) (rl_ HO486.out)) (rl_ HO489.out)) (bz_ HB.out))
      have n9_ := Aside0.mk (bk_ BK460.out hb)
      have n10_ := Aside0.mk (bk_ BK461.out hb)
      have n11_ := Aside0.mk (bk_ BK483.out hb)
      have n12_ := Aside0.mk (bk_ BK490.out hb)
      have n13_ := Aside0.mk (bs_ HB.out hb)
      clear HO468
      clear HO471
      clear HO474
      clear HO477
      clear HO482
      clear HO486
      clear HO489
      clear HO493
      clear BK460
      clear BK461
      clear BK483
      clear BK490
      clear HB
      have HO468 := n0_
      have HO471 := n1_
      have HO474 := n2_
      have HO477 := n3_
      have HO482 := n4_
      have HO486 := n5_
      have HO489 := n6_
      have HO493 := n7_
      have HO499 := n8_
      have BK460 := n9_
      have BK461 := n10_
      have BK483 := n11_
      have BK490 := n12_
      have HB := n13_
      clear n0_ n1_ n2_ n3_ n4_ n5_ n6_ n7_ n8_ n9_ n10_ n11_ n12_ n13_
      (try clear hb)
      (try clear hb2)
      (try clear hk)
      (try clear hi)
      (try clear ho0)
      obtain ⟨Ao73, co73, eo73⟩ := Kd.R_slice HO499.out
      (first | subst eo73 | (injection eo73 with f1_ f2_ f3_; have f4_ := f1_.symm; have f5_ := f3_.symm; clear f1_ f2_ f3_; subst f4_; subst f5_))
      refine hK.out _ _ ⟨(blk_cell BK483.out 0).trans rfl, (blk_cell BK483.out 1).trans rfl, (blk_cell BK483.out 2).trans rfl, (blk_cell BK460.out 0).trans rfl, (blk_cell BK460.out 1).trans rfl, (blk_cell BK460.out 2).trans rfl⟩ (fun hHeld => ?_)
      clear hK K
      refine norm_ (a' := ?_) ?_ ?_
      rotate_left
      ·show Act.put _ (some 42) _ = _
       simp only [Act.put, List.setIfInBounds_toArray, List.set_cons_zero, List.set_cons_succ, i64_w, i32_w]
       rfl
      refine one_ (i := 3) (N := some 43) (bt_ 5 15) rfl rfl (by kernel_rfl) (by decide) (fun K hK => ?_)
      refine goes_ Try.func29 (by kernel_rfl) rfl #[.agg #[.int .i64 t478, .int .i64 t479, .slice Ao56 t480.length co56], .agg #[.int .i64 t495, .int .i64 t496, .slice Ao73 t497.length co73]] (by rfl) rfl rfl (by (try simp only [List.map_toArray, List.map_cons, List.map_nil]); first | done | rfl | (simp only [List.length_drop, List.length_take]; rfl)) ?_
      with_reducible refine (laws_eqMesh.calls k t478 t479 _ _ t480 t495 t496 _ _ t497 true _ ?side1 ?side2 ?side3 ?side4 A28.out).mono ?_
      (case side1 => repeat (first | exact (Kd.R_reads' HO482.out).2.2 | (with_reducible refine Kd.C_alloc ?_ _) | (with_reducible refine Kd.C_drewN ?_ _) | (with_reducible refine Kd.C_drew ?_)))
      (case side2 => exact (Kd.R_reads' HO482.out).2.1)
      (case side3 => repeat (first | exact (Kd.R_reads' HO499.out).2.2 | (with_reducible refine Kd.C_alloc ?_ _) | (with_reducible refine Kd.C_drewN ?_ _) | (with_reducible refine Kd.C_drew ?_)))
      (case side4 => exact (Kd.R_reads' HO499.out).2.1)
      rintro e w74 ⟨rfl, hb⟩
      refine ⟨_, rfl, ?_⟩
      have n0_ := Aside0.mk (Kd.R_below (ra_ HO468.out) hb)
      have n1_ := Aside0.mk (Kd.R_below (ra_ HO471.out) hb)
      have n2_ := Aside0.mk (Kd.R_below (ra_ HO474.out) hb)
      have n3_ := Aside0.mk (Kd.R_below (ra_ HO477.out) hb)
      have n4_ := Aside0.mk (Kd.R_below (ra_ HO482.out) hb)
      have n5_ := Aside0.mk (Kd.R_below (ra_ HO486.out) hb)
      have n6_ := Aside0.mk (Kd.R_below (ra_ HO489.out) hb)
      have n7_ := Aside0.mk (Kd.R_below (ra_ HO493.out) hb)
      have n8_ := Aside0.mk (Kd.R_below (ra_ HO499.out) hb)
      have n9_ := Aside0.mk (bk_ BK460.out hb)
      have n10_ := Aside0.mk (bk_ BK461.out hb)
      have n11_ := Aside0.mk (bk_ BK483.out hb)
      have n12_ := Aside0.mk (bk_ BK490.out hb)
      have n13_ := Aside0.mk (bs_ HB.out hb)
      clear HO468
      clear HO471
      clear HO474
      clear HO477
      clear HO482
      clear HO486
      clear HO489
      clear HO493
      clear HO499
      clear BK460
      clear BK461
      clear BK483
      clear BK490
      clear HB
      have HO468 := n0_
      have HO471 := n1_
      have HO474 := n2_
      have HO477 := n3_
      have HO482 := n4_
      have HO486 := n5_
      have HO489 := n6_
      have HO493 := n7_
      have HO499 := n8_
      have BK460 := n9_
      have BK461 := n10_
      have BK483 := n11_
      have BK490 := n12_
      have HB := n13_
      clear n0_ n1_ n2_ n3_ n4_ n5_ n6_ n7_ n8_ n9_ n10_ n11_ n12_ n13_
      (try clear hb)
      (try clear hb2)
      (try clear hk)
      (try clear hi)
      refine hK.out _ _ ⟨(blk_cell BK483.out 0).trans rfl, (blk_cell BK483.out 1).trans rfl, (blk_cell BK483.out 2).trans rfl, (blk_cell BK460.out 0).trans rfl, (blk_cell BK460.out 1).trans rfl, (blk_cell BK460.out 2).trans rfl⟩ (fun hHeld => ?_)
      clear hK K
      refine norm_ (a' := ?_) ?_ ?_
      rotate_left
      ·show Act.put _ (some 43) _ = _
       simp only [Act.put, List.setIfInBounds_toArray, List.set_cons_zero, List.set_cons_succ, i64_w, i32_w]
       rfl
      refine pure_ (i := 4) (N := some 44) (v := ?_) (a' := ?_) (bt_ 5 31) rfl rfl (by kernel_rfl) (fun _ _ _ h => h) (Or.inl ⟨by rfl, ?_⟩) ?_ ?_
      rotate_left
      ·intro w'
       go_simp
       with_reducible rfl
      rotate_left
      ·simp only [Act.put, List.setIfInBounds_toArray, List.set_cons_zero, List.set_cons_succ, i64_w, i32_w]
       rfl
      refine done_ (by kernel_rfl) ?_
      try go_wp2
      have n0_ := Aside0.mk (Kd.R_drew HO468.out)
      have n1_ := Aside0.mk (Kd.R_drew HO471.out)
      have n2_ := Aside0.mk (Kd.R_drew HO474.out)
      have n3_ := Aside0.mk (Kd.R_drew HO477.out)
      have n4_ := Aside0.mk (Kd.R_drew HO482.out)
      have n5_ := Aside0.mk (Kd.R_drew HO486.out)
      have n6_ := Aside0.mk (Kd.R_drew HO489.out)
      have n7_ := Aside0.mk (Kd.R_drew HO493.out)
      have n8_ := Aside0.mk (Kd.R_drew HO499.out)
      have n9_ := Aside0.mk (blk_drew BK460.out)
      have n10_ := Aside0.mk (blk_drew BK461.out)
      have n11_ := Aside0.mk (blk_drew BK483.out)
      have n12_ := Aside0.mk (blk_drew BK490.out)
      have n13_ := Aside0.mk (below_drew1 HB.out)
      clear HO468
      clear HO471
      clear HO474
      clear HO477
      clear HO482
      clear HO486
      clear HO489
      clear HO493
      clear HO499
      clear BK460
      clear BK461
      clear BK483
      clear BK490
      clear HB
      have HO468 := n0_
      have HO471 := n1_
      have HO474 := n2_
      have HO477 := n3_
      have HO482 := n4_
      have HO486 := n5_
      have HO489 := n6_
      have HO493 := n7_
      have HO499 := n8_
      have BK460 := n9_
      have BK461 := n10_
      have BK483 := n11_
      have BK490 := n12_
      have HB := n13_
      clear n0_ n1_ n2_ n3_ n4_ n5_ n6_ n7_ n8_ n9_ n10_ n11_ n12_ n13_
      refine start_ (n := 5) (S := fun w' => w'.cell? ⟨gb490, 0, none⟩ = some (.slice Ao60 t484.length co60) ∧ w'.cell? ⟨gb490, 1, none⟩ = some (.slice Ao65 t487.length co65) ∧ w'.cell? ⟨gb461, 0, none⟩ = some (.slice A1_0 l1_0.length c1_0) ∧ w'.cell? ⟨gb461, 1, none⟩ = some (.slice A1_1 l1_1.length c1_1)) (ds := []) #[false, false, false, false, false] (by kernel_rfl) rfl rfl ⟨(blk_cell BK490.out 0).trans rfl, (blk_cell BK490.out 1).trans rfl, (blk_cell BK461.out 0).trans rfl, (blk_cell BK461.out 1).trans rfl⟩ (fun hHeld => ?_)
      generalize w74.drew = w75 at HO468 HO471 HO474 HO477 HO482 HO486 HO489 HO493 HO499 BK460 BK461 BK483 BK490 HB hHeld ⊢
      refine take_ (i := 0) (N := some 45) (v := ?_) (a' := ?_) (bt_ 5 1) rfl rfl (by kernel_rfl) (fun _ _ _ h => h) (Or.inl ⟨by rfl, ?_⟩) hHeld ?_ ?_
      rotate_left
      ·rintro w' ⟨s0, s1, s2, s3⟩
       go_simp
       with_reducible rfl
      rotate_left
      ·simp only [Act.put, List.setIfInBounds_toArray, List.set_cons_zero, List.set_cons_succ, i64_w, i32_w]
       rfl
      refine take_ (i := 1) (N := some 46) (v := ?_) (a' := ?_) (bt_ 5 3) rfl rfl (by kernel_rfl) (fun _ _ _ h => h) (Or.inl ⟨by rfl, ?_⟩) hHeld ?_ ?_
      rotate_left
      ·rintro w' ⟨s0, s1, s2, s3⟩
       go_simp
       with_reducible rfl
      rotate_left
      ·simp only [Act.put, List.setIfInBounds_toArray, List.set_cons_zero, List.set_cons_succ, i64_w, i32_w]
       rfl
      refine one_ (i := 2) (N := some 47) (bt_ 5 7) rfl rfl (by kernel_rfl) (by decide) (fun K hK => ?_)
      refine goes_ Try.func47 (by kernel_rfl) rfl #[.agg #[.slice A1_0 l1_0.length c1_0, .slice A1_1 l1_1.length c1_1]] (by rfl) rfl rfl (by (try simp only [List.map_toArray, List.map_cons, List.map_nil]); first | done | rfl | (simp only [List.length_drop, List.length_take]; rfl)) ?_
      with_reducible refine (laws_toClasses.calls k _ _ l1_0 _ _ l1_1 t501 t504 _ ?side1 ?side2 ?side3 ?side4 A30.out).mono ?_
      (case side1 => exact cb_ HR1_0.out HB.out)
      (case side2 => exact HC1_0.out)
      (case side3 => exact cb_ HR1_1.out HB.out)
      (case side4 => exact HC1_1.out)
      rintro e w76 ⟨v502, v505, rfl, ho0, ho1, hb⟩
      refine ⟨_, rfl, ?_⟩
      have n0_ := Aside0.mk (Kd.R_mono (Kd.R_told (Kd.R_told (Kd.R_old (ra_ HO468.out) hb) (Kd.R_base ho0)) (Kd.R_base ho1)) (fun _ h_ => h_.1))
      have n1_ := Aside0.mk (Kd.R_mono (Kd.R_told (Kd.R_told (Kd.R_old (ra_ HO471.out) hb) (Kd.R_base ho0)) (Kd.R_base ho1)) (fun _ h_ => h_.1))
      have n2_ := Aside0.mk (Kd.R_mono (Kd.R_told (Kd.R_told (Kd.R_old (ra_ HO474.out) hb) (Kd.R_base ho0)) (Kd.R_base ho1)) (fun _ h_ => h_.1))
      have n3_ := Aside0.mk (Kd.R_below (ra_ HO477.out) hb)
      have n4_ := Aside0.mk (Kd.R_mono (Kd.R_told (Kd.R_told (Kd.R_old (ra_ HO482.out) hb) (Kd.R_base ho0)) (Kd.R_base ho1)) (fun _ h_ => h_.1))
      have n5_ := Aside0.mk (Kd.R_mono (Kd.R_told (Kd.R_told (Kd.R_old (ra_ HO486.out) hb) (Kd.R_base ho0)) (Kd.R_base ho1)) (fun _ h_ => h_.1))
      have n6_ := Aside0.mk (Kd.R_mono (Kd.R_told (Kd.R_told (Kd.R_old (ra_ HO489.out) hb) (Kd.R_base ho0)) (Kd.R_base ho1)) (fun _ h_ => h_.1))
      have n7_ := Aside0.mk (Kd.R_below (ra_ HO493.out) hb)
      have n8_ := Aside0.mk (Kd.R_mono (Kd.R_told (Kd.R_told (Kd.R_old (ra_ HO499.out) hb) (Kd.R_base ho0)) (Kd.R_base ho1)) (fun _ h_ => h_.1))
      have n9_ := Aside0.mk (Kd.R_lower (Kd.R_new' (Kd.R_new' (Kd.R_new' (Kd.R_new' (Kd.R_new' (Kd.R_new' (Kd.R_new' ho0 (rl_ HO468.out)) (rl_ HO471.out)) (rl_ HO474.out)) (rl_ HO482.out)) (rl_ HO486.out)) (rl_ HO489.out)) (rl_ HO499.out)) (bz_ HB.out))
      have n10_ := Aside0.mk (Kd.R_lower (Kd.R_new' (Kd.R_new' (Kd.R_new' (Kd.R_new' (Kd.R_new' (Kd.R_new' (Kd.R_new' ho1 (rl_ HO468.out)) (rl_ HO471.out)) (rl_ HO474.out)) (rl_ HO482.out)) (rl_ HO486.out)) (rl_ HO489.out)) (rl_ HO499.out)) (bz_ HB.out))
      have n11_ := Aside0.mk (bk_ BK460.out hb)
      have n12_ := Aside0.mk (bk_ BK461.out hb)
      have n13_ := Aside0.mk (bk_ BK483.out hb)
      have n14_ := Aside0.mk (bk_ BK490.out hb)
      have n15_ := Aside0.mk (bs_ HB.out hb)
      clear HO468
      clear HO471
      clear HO474
      clear HO477
      clear HO482
      clear HO486
      clear HO489
      clear HO493
      clear HO499
      clear BK460
      clear BK461
      clear BK483
      clear BK490
      clear HB
      have HO468 := n0_
      have HO471 := n1_
      have HO474 := n2_
      have HO477 := n3_
      have HO482 := n4_
      have HO486 := n5_
      have HO489 := n6_
      have HO493 := n7_
      have HO499 := n8_
      have HO503 := n9_
      have HO506 := n10_
      have BK460 := n11_
      have BK461 := n12_
      have BK483 := n13_
      have BK490 := n14_
      have HB := n15_
      clear n0_ n1_ n2_ n3_ n4_ n5_ n6_ n7_ n8_ n9_ n10_ n11_ n12_ n13_ n14_ n15_
      (try clear hb)
      (try clear hb2)
      (try clear hk)
      (try clear hi)
      (try clear ho0)
      (try clear ho1)
      obtain ⟨Ao77, co77, eo77⟩ := Kd.R_slice HO503.out
      (first | subst eo77 | (injection eo77 with f1_ f2_ f3_; have f4_ := f1_.symm; have f5_ := f3_.symm; clear f1_ f2_ f3_; subst f4_; subst f5_))
      obtain ⟨Ao78, co78, eo78⟩ := Kd.R_slice HO506.out
      (first | subst eo78 | (injection eo78 with f1_ f2_ f3_; have f4_ := f1_.symm; have f5_ := f3_.symm; clear f1_ f2_ f3_; subst f4_; subst f5_))
      refine hK.out _ _ ⟨(blk_cell BK490.out 0).trans rfl, (blk_cell BK490.out 1).trans rfl, (blk_cell BK461.out 0).trans rfl, (blk_cell BK461.out 1).trans rfl⟩ (fun hHeld => ?_)
      clear hK K
      refine norm_ (a' := ?_) ?_ ?_
      rotate_left
      ·show Act.put _ (some 47) _ = _
       simp only [Act.put, List.setIfInBounds_toArray, List.set_cons_zero, List.set_cons_succ, i64_w, i32_w]
       rfl
      refine one_ (i := 3) (N := some 48) (bt_ 5 15) rfl rfl (by kernel_rfl) (by decide) (fun K hK => ?_)
      refine goes_ Try.func49 (by kernel_rfl) rfl #[.agg #[.slice Ao60 t484.length co60, .slice Ao65 t487.length co65], .agg #[.slice Ao77 t501.length co77, .slice Ao78 t504.length co78]] (by rfl) rfl rfl (by (try simp only [List.map_toArray, List.map_cons, List.map_nil]); first | done | rfl | (simp only [List.length_drop, List.length_take]; rfl)) ?_
      with_reducible refine (laws_eqClasses.calls k _ _ t484 _ _ t487 _ _ t501 _ _ t504 true _ ?side1 ?side2 ?side3 ?side4 ?side5 ?side6 ?side7 ?side8 A31.out).mono ?_
      (case side1 => repeat (first | exact (Kd.R_reads' HO486.out).2.2 | (with_reducible refine Kd.C_alloc ?_ _) | (with_reducible refine Kd.C_drewN ?_ _) | (with_reducible refine Kd.C_drew ?_)))
      (case side2 => exact (Kd.R_reads' HO486.out).2.1)
      (case side3 => repeat (first | exact (Kd.R_reads' HO489.out).2.2 | (with_reducible refine Kd.C_alloc ?_ _) | (with_reducible refine Kd.C_drewN ?_ _) | (with_reducible refine Kd.C_drew ?_)))
      (case side4 => exact (Kd.R_reads' HO489.out).2.1)
      (case side5 => repeat (first | exact (Kd.R_reads' HO503.out).2.2 | (with_reducible refine Kd.C_alloc ?_ _) | (with_reducible refine Kd.C_drewN ?_ _) | (with_reducible refine Kd.C_drew ?_)))
      (case side6 => exact (Kd.R_reads' HO503.out).2.1)
      (case side7 => repeat (first | exact (Kd.R_reads' HO506.out).2.2 | (with_reducible refine Kd.C_alloc ?_ _) | (with_reducible refine Kd.C_drewN ?_ _) | (with_reducible refine Kd.C_drew ?_)))
      (case side8 => exact (Kd.R_reads' HO506.out).2.1)
      rintro e w79 ⟨rfl, hb⟩
      refine ⟨_, rfl, ?_⟩
      have n0_ := Aside0.mk (Kd.R_below (ra_ HO468.out) hb)
      have n1_ := Aside0.mk (Kd.R_below (ra_ HO471.out) hb)
      have n2_ := Aside0.mk (Kd.R_below (ra_ HO474.out) hb)
      have n3_ := Aside0.mk (Kd.R_below (ra_ HO477.out) hb)
      have n4_ := Aside0.mk (Kd.R_below (ra_ HO482.out) hb)
      have n5_ := Aside0.mk (Kd.R_below (ra_ HO486.out) hb)
      have n6_ := Aside0.mk (Kd.R_below (ra_ HO489.out) hb)
      have n7_ := Aside0.mk (Kd.R_below (ra_ HO493.out) hb)
      have n8_ := Aside0.mk (Kd.R_below (ra_ HO499.out) hb)
      have n9_ := Aside0.mk (Kd.R_below (ra_ HO503.out) hb)
      have n10_ := Aside0.mk (Kd.R_below (ra_ HO506.out) hb)
      have n11_ := Aside0.mk (bk_ BK460.out hb)
      have n12_ := Aside0.mk (bk_ BK461.out hb)
      have n13_ := Aside0.mk (bk_ BK483.out hb)
      have n14_ := Aside0.mk (bk_ BK490.out hb)
      have n15_ := Aside0.mk (bs_ HB.out hb)
      clear HO468
      clear HO471
      clear HO474
      clear HO477
      clear HO482
      clear HO486
      clear HO489
      clear HO493
      clear HO499
      clear HO503
      clear HO506
      clear BK460
      clear BK461
      clear BK483
      clear BK490
      clear HB
      have HO468 := n0_
      have HO471 := n1_
      have HO474 := n2_
      have HO477 := n3_
      have HO482 := n4_
      have HO486 := n5_
      have HO489 := n6_
      have HO493 := n7_
      have HO499 := n8_
      have HO503 := n9_
      have HO506 := n10_
      have BK460 := n11_
      have BK461 := n12_
      have BK483 := n13_
      have BK490 := n14_
      have HB := n15_
      clear n0_ n1_ n2_ n3_ n4_ n5_ n6_ n7_ n8_ n9_ n10_ n11_ n12_ n13_ n14_ n15_
      (try clear hb)
      (try clear hb2)
      (try clear hk)
      (try clear hi)
      refine hK.out _ _ ⟨(blk_cell BK490.out 0).trans rfl, (blk_cell BK490.out 1).trans rfl, (blk_cell BK461.out 0).trans rfl, (blk_cell BK461.out 1).trans rfl⟩ (fun hHeld => ?_)
      clear hK K
      refine norm_ (a' := ?_) ?_ ?_
      rotate_left
      ·show Act.put _ (some 48) _ = _
       simp only [Act.put, List.setIfInBounds_toArray, List.set_cons_zero, List.set_cons_succ, i64_w, i32_w]
       rfl
      refine pure_ (i := 4) (N := some 49) (v := ?_) (a' := ?_) (bt_ 5 31) rfl rfl (by kernel_rfl) (fun _ _ _ h => h) (Or.inl ⟨by rfl, ?_⟩) ?_ ?_
      rotate_left
      ·intro w'
       go_simp
       with_reducible rfl
      rotate_left
      ·simp only [Act.put, List.setIfInBounds_toArray, List.set_cons_zero, List.set_cons_succ, i64_w, i32_w]
       rfl
      refine done_ (by kernel_rfl) ?_
      obtain ⟨hcz80_0, hcz80_1, hcz80_2, hfz80_0, hfz80_1, hfz80_2⟩ := cz3_ BK483.out
      go_upto_region 21 with (first | ((with_reducible refine gate_callee (f := 31) rfl ?_); refine gm_ (some 52) Try.func31 #[.agg #[.int .i64 t478, .int .i64 t479, .slice Ao56 t480.length co56], .int .i64 1] rfl ?_; (with_reducible refine (laws_markMesh.calls k t478 t479 (fun k_ => some k_ = (.slice Ao56 t480.length co56 : Value).ownBlock) (.slice Ao56 t480.length co56) t480 1 t508 t509 w _ ?side1 ?side2 A33.out).mono ?_); (case side1 => repeat (first | (with_reducible first | exact HB.out | apply below_alloc | apply pw_below_drewN | apply below_drew1 | refine below_set ?_ GE460.out | refine below_set ?_ GE461.out | refine below_set ?_ GE483.out | refine below_set ?_ GE490.out) | exact HB.out)); (case side2 => exact Kd.R_tight rfl HO482.out); rintro e w81 ⟨rfl, hy0, hb, hkp⟩; refine ⟨_, rfl, ?_⟩; replace BK460 := Aside0.mk (blk_kept (by (with_reducible repeat (first | refine blk_drewN ?_ _ | refine blk_drew ?_ | refine blk_alloc ?_ _)); exact BK460.out) hkp (fun hs_ => (fun e_ => (Kd.R_ne HO482.out BK460.out (by decide)) e_) hs_)); replace BK461 := Aside0.mk (blk_kept (by (with_reducible repeat (first | refine blk_drewN ?_ _ | refine blk_drew ?_ | refine blk_alloc ?_ _)); exact BK461.out) hkp (fun hs_ => (fun e_ => (Kd.R_ne HO482.out BK461.out (by decide)) e_) hs_)); replace HO468 := Aside0.mk (Kd.R_mono (ok' := fun k_ => some k_ ≠ (.slice Ao47 t469.length co47 : Value).ownBlock ∧ some k_ ≠ (.slice Ao48 t472.length co48 : Value).ownBlock ∧ some k_ ≠ (.slice Ao56 t480.length co56 : Value).ownBlock ∧ some k_ ≠ (.slice Ao60 t484.length co60 : Value).ownBlock ∧ some k_ ≠ (.slice Ao65 t487.length co65 : Value).ownBlock ∧ some k_ ≠ (.slice Ao73 t497.length co73 : Value).ownBlock ∧ some k_ ≠ (.slice Ao77 t501.length co77 : Value).ownBlock ∧ some k_ ≠ (.slice Ao78 t504.length co78 : Value).ownBlock) (Kd.R_keptB (HO468.out) hkp (fun k_ hk_ hs_ => (hk_.1.1.1.1.1.2) hs_)) (fun k_ hk_ => ⟨hk_.1.1.1.1.1.1.1.1.2, hk_.1.1.1.1.1.1.1.2, hk_.1.1.1.1.1.1.2, hk_.1.1.1.1.1.2, hk_.1.1.1.1.2, hk_.1.1.1.2, hk_.1.1.2, hk_.1.2⟩)); replace HO471 := Aside0.mk (Kd.R_mono (ok' := fun k_ => some k_ ≠ (.slice Ao46 t466.length co46 : Value).ownBlock ∧ some k_ ≠ (.slice Ao48 t472.length co48 : Value).ownBlock ∧ some k_ ≠ (.slice Ao56 t480.length co56 : Value).ownBlock ∧ some k_ ≠ (.slice Ao60 t484.length co60 : Value).ownBlock ∧ some k_ ≠ (.slice Ao65 t487.length co65 : Value).ownBlock ∧ some k_ ≠ (.slice Ao73 t497.length co73 : Value).ownBlock ∧ some k_ ≠ (.slice Ao77 t501.length co77 : Value).ownBlock ∧ some k_ ≠ (.slice Ao78 t504.length co78 : Value).ownBlock) (Kd.R_keptB (HO471.out) hkp (fun k_ hk_ hs_ => (hk_.1.1.1.1.1.2) hs_)) (fun k_ hk_ => ⟨hk_.1.1.1.1.1.1.1.2, hk_.1.1.1.1.1.1.1.1, hk_.1.1.1.1.1.1.2, hk_.1.1.1.1.1.2, hk_.1.1.1.1.2, hk_.1.1.1.2, hk_.1.1.2, hk_.1.2⟩)); replace HO474 := Aside0.mk (Kd.R_mono (ok' := fun k_ => some k_ ≠ (.slice Ao46 t466.length co46 : Value).ownBlock ∧ some k_ ≠ (.slice Ao47 t469.length co47 : Value).ownBlock ∧ some k_ ≠ (.slice Ao56 t480.length co56 : Value).ownBlock ∧ some k_ ≠ (.slice Ao60 t484.length co60 : Value).ownBlock ∧ some k_ ≠ (.slice Ao65 t487.length co65 : Value).ownBlock ∧ some k_ ≠ (.slice Ao73 t497.length co73 : Value).ownBlock ∧ some k_ ≠ (.slice Ao77 t501.length co77 : Value).ownBlock ∧ some k_ ≠ (.slice Ao78 t504.length co78 : Value).ownBlock) (Kd.R_keptB (HO474.out) hkp (fun k_ hk_ hs_ => (hk_.1.1.1.1.1.2) hs_)) (fun k_ hk_ => ⟨hk_.1.1.1.1.1.1.1.2, hk_.1.1.1.1.1.1.1.1, hk_.1.1.1.1.1.1.2, hk_.1.1.1.1.1.2, hk_.1.1.1.1.2, hk_.1.1.1.2, hk_.1.1.2, hk_.1.2⟩)); replace HO477 := Aside0.mk (Kd.R_mono (ok' := fun k_ => some k_ ≠ (.slice Ao68 t491.length co68 : Value).ownBlock) (Kd.R_keptB ((Kd.R_apart' HO477.out (Kd.R_typed HO482.out) (by decide))) hkp (fun k_ hk_ hs_ => (hk_.2) hs_)) (fun k_ hk_ => hk_.1.1.2)); replace BK483 := Aside0.mk (blk_kept (by (with_reducible repeat (first | refine blk_drewN ?_ _ | refine blk_drew ?_ | refine blk_alloc ?_ _)); exact BK483.out) hkp (fun hs_ => (fun e_ => (Kd.R_ne HO482.out BK483.out (by decide)) e_) hs_)); replace HO486 := Aside0.mk (Kd.R_mono (ok' := fun k_ => some k_ ≠ (.slice Ao46 t466.length co46 : Value).ownBlock ∧ some k_ ≠ (.slice Ao47 t469.length co47 : Value).ownBlock ∧ some k_ ≠ (.slice Ao48 t472.length co48 : Value).ownBlock ∧ some k_ ≠ (.slice Ao56 t480.length co56 : Value).ownBlock ∧ some k_ ≠ (.slice Ao65 t487.length co65 : Value).ownBlock ∧ some k_ ≠ (.slice Ao73 t497.length co73 : Value).ownBlock ∧ some k_ ≠ (.slice Ao77 t501.length co77 : Value).ownBlock ∧ some k_ ≠ (.slice Ao78 t504.length co78 : Value).ownBlock) (Kd.R_keptB (HO486.out) hkp (fun k_ hk_ hs_ => (hk_.1.1.1.2) hs_)) (fun k_ hk_ => ⟨hk_.1.1.1.1.1.1.1.2, hk_.1.1.1.1.1.1.2, hk_.1.1.1.1.1.2, hk_.1.1.1.1.2, hk_.1.1.1.1.1.1.1.1, hk_.1.1.1.2, hk_.1.1.2, hk_.1.2⟩)); replace HO489 := Aside0.mk (Kd.R_mono (ok' := fun k_ => some k_ ≠ (.slice Ao46 t466.length co46 : Value).ownBlock ∧ some k_ ≠ (.slice Ao47 t469.length co47 : Value).ownBlock ∧ some k_ ≠ (.slice Ao48 t472.length co48 : Value).ownBlock ∧ some k_ ≠ (.slice Ao56 t480.length co56 : Value).ownBlock ∧ some k_ ≠ (.slice Ao60 t484.length co60 : Value).ownBlock ∧ some k_ ≠ (.slice Ao73 t497.length co73 : Value).ownBlock ∧ some k_ ≠ (.slice Ao77 t501.length co77 : Value).ownBlock ∧ some k_ ≠ (.slice Ao78 t504.length co78 : Value).ownBlock) (Kd.R_keptB (HO489.out) hkp (fun k_ hk_ hs_ => (hk_.1.1.1.2) hs_)) (fun k_ hk_ => ⟨hk_.1.1.1.1.1.1.1.2, hk_.1.1.1.1.1.1.2, hk_.1.1.1.1.1.2, hk_.1.1.1.1.2, hk_.1.1.1.1.1.1.1.1, hk_.1.1.1.2, hk_.1.1.2, hk_.1.2⟩)); replace BK490 := Aside0.mk (blk_kept (by (with_reducible repeat (first | refine blk_drewN ?_ _ | refine blk_drew ?_ | refine blk_alloc ?_ _)); exact BK490.out) hkp (fun hs_ => (fun e_ => (Kd.R_ne HO482.out BK490.out (by decide)) e_) hs_)); replace HO493 := Aside0.mk (Kd.R_mono (ok' := fun k_ => some k_ ≠ (.slice Ao69 t475.length co69 : Value).ownBlock) (Kd.R_keptB ((Kd.R_apart' HO493.out (Kd.R_typed HO482.out) (by decide))) hkp (fun k_ hk_ hs_ => (hk_.2) hs_)) (fun k_ hk_ => hk_.1.1.2)); replace HO482 := Aside0.mk (Kd.R_reok rfl hy0 (fun k_ e_ => HO482.out.1 k_ e_)); replace HO499 := Aside0.mk (Kd.R_mono (ok' := fun k_ => some k_ ≠ (.slice Ao46 t466.length co46 : Value).ownBlock ∧ some k_ ≠ (.slice Ao47 t469.length co47 : Value).ownBlock ∧ some k_ ≠ (.slice Ao48 t472.length co48 : Value).ownBlock ∧ some k_ ≠ (.slice Ao56 t480.length co56 : Value).ownBlock ∧ some k_ ≠ (.slice Ao60 t484.length co60 : Value).ownBlock ∧ some k_ ≠ (.slice Ao65 t487.length co65 : Value).ownBlock ∧ some k_ ≠ (.slice Ao77 t501.length co77 : Value).ownBlock ∧ some k_ ≠ (.slice Ao78 t504.length co78 : Value).ownBlock) (Kd.R_keptB (HO499.out) hkp (fun k_ hk_ hs_ => (hk_.1.1.1.1.2) hs_)) (fun k_ hk_ => ⟨hk_.1.1.1.1.1.1.1.1.2, hk_.1.1.1.1.1.1.1.2, hk_.1.1.1.1.1.1.2, hk_.1.1.1.1.1.2, hk_.1.1.1.1.2, hk_.1.1.1.2, hk_.1.1.2, hk_.1.2⟩)); replace HO503 := Aside0.mk (Kd.R_mono (ok' := fun k_ => some k_ ≠ (.slice Ao46 t466.length co46 : Value).ownBlock ∧ some k_ ≠ (.slice Ao47 t469.length co47 : Value).ownBlock ∧ some k_ ≠ (.slice Ao48 t472.length co48 : Value).ownBlock ∧ some k_ ≠ (.slice Ao56 t480.length co56 : Value).ownBlock ∧ some k_ ≠ (.slice Ao60 t484.length co60 : Value).ownBlock ∧ some k_ ≠ (.slice Ao65 t487.length co65 : Value).ownBlock ∧ some k_ ≠ (.slice Ao73 t497.length co73 : Value).ownBlock ∧ some k_ ≠ (.slice Ao78 t504.length co78 : Value).ownBlock) (Kd.R_keptB (HO503.out) hkp (fun k_ hk_ hs_ => (hk_.1.1.1.2) hs_)) (fun k_ hk_ => ⟨hk_.1.1.1.1.1.1.1.2, hk_.1.1.1.1.1.1.2, hk_.1.1.1.1.1.2, hk_.1.1.1.1.2, hk_.1.1.1.2, hk_.1.1.2, hk_.1.2, hk_.1.1.1.1.1.1.1.1⟩)); replace HO506 := Aside0.mk (Kd.R_mono (ok' := fun k_ => some k_ ≠ (.slice Ao46 t466.length co46 : Value).ownBlock ∧ some k_ ≠ (.slice Ao47 t469.length co47 : Value).ownBlock ∧ some k_ ≠ (.slice Ao48 t472.length co48 : Value).ownBlock ∧ some k_ ≠ (.slice Ao56 t480.length co56 : Value).ownBlock ∧ some k_ ≠ (.slice Ao60 t484.length co60 : Value).ownBlock ∧ some k_ ≠ (.slice Ao65 t487.length co65 : Value).ownBlock ∧ some k_ ≠ (.slice Ao73 t497.length co73 : Value).ownBlock ∧ some k_ ≠ (.slice Ao77 t501.length co77 : Value).ownBlock) (Kd.R_keptB (HO506.out) hkp (fun k_ hk_ hs_ => (hk_.1.1.1.2) hs_)) (fun k_ hk_ => ⟨hk_.1.1.1.1.1.1.1.2, hk_.1.1.1.1.1.1.2, hk_.1.1.1.1.1.2, hk_.1.1.1.1.2, hk_.1.1.1.2, hk_.1.1.2, hk_.1.2, hk_.1.1.1.1.1.1.1.1⟩)); replace HB := Aside0.mk (hb); (try clear hb); (try clear hkp); (try clear hy0); obtain ⟨hcz82_0, hcz82_1, hfz82_0, hfz82_1⟩ := cz2_ BK490.out) | ((with_reducible refine gate_callee (f := 50) rfl ?_); refine gm_ (some 55) Try.func50 #[.agg #[.slice Ao60 t484.length co60, .slice Ao65 t487.length co65], .int .i64 t508] rfl ?_; (with_reducible refine (laws_markClasses.calls k (fun k_ => some k_ = (.slice Ao60 t484.length co60 : Value).ownBlock) (.slice Ao60 t484.length co60) t484 (fun k_ => some k_ = (.slice Ao65 t487.length co65 : Value).ownBlock) (.slice Ao65 t487.length co65) t487 t508 t510 t511 t512 w _ ?side1 ?side2 ?side3 ?side4 ?side5 A34.out).mono ?_); (case side1 => repeat (first | (with_reducible first | exact HB.out | apply below_alloc | apply pw_below_drewN | apply below_drew1 | refine below_set ?_ GE460.out | refine below_set ?_ GE461.out | refine below_set ?_ GE483.out | refine below_set ?_ GE490.out) | exact HB.out)); (case side2 => exact Kd.R_tight rfl HO486.out); (case side3 => exact fun k_ e_ => (HO486.out.1 k_ e_.symm).2.2.2.2.1); (case side4 => exact Kd.R_tight rfl HO489.out); (case side5 => exact fun k_ e_ => (HO489.out.1 k_ e_.symm).2.2.2.2.1); rintro e w83 ⟨rfl, hy0, hy1, hb, hkp⟩; refine ⟨_, rfl, ?_⟩; replace BK460 := Aside0.mk (blk_kept (by (with_reducible repeat (first | refine blk_drewN ?_ _ | refine blk_drew ?_ | refine blk_alloc ?_ _)); exact BK460.out) hkp (fun hs_ => Or.elim hs_ (fun e_ => (fun e_ => (Kd.R_ne HO486.out BK460.out (by decide)) e_) e_) (fun e_ => (fun e_ => (Kd.R_ne HO489.out BK460.out (by decide)) e_) e_))); replace BK461 := Aside0.mk (blk_kept (by (with_reducible repeat (first | refine blk_drewN ?_ _ | refine blk_drew ?_ | refine blk_alloc ?_ _)); exact BK461.out) hkp (fun hs_ => Or.elim hs_ (fun e_ => (fun e_ => (Kd.R_ne HO486.out BK461.out (by decide)) e_) e_) (fun e_ => (fun e_ => (Kd.R_ne HO489.out BK461.out (by decide)) e_) e_))); replace HO468 := Aside0.mk (Kd.R_mono (ok' := fun k_ => some k_ ≠ (.slice Ao47 t469.length co47 : Value).ownBlock ∧ some k_ ≠ (.slice Ao48 t472.length co48 : Value).ownBlock ∧ some k_ ≠ (.slice Ao56 t480.length co56 : Value).ownBlock ∧ some k_ ≠ (.slice Ao60 t484.length co60 : Value).ownBlock ∧ some k_ ≠ (.slice Ao65 t487.length co65 : Value).ownBlock ∧ some k_ ≠ (.slice Ao73 t497.length co73 : Value).ownBlock ∧ some k_ ≠ (.slice Ao77 t501.length co77 : Value).ownBlock ∧ some k_ ≠ (.slice Ao78 t504.length co78 : Value).ownBlock) (Kd.R_keptB (HO468.out) hkp (fun k_ hk_ hs_ => Or.elim hs_ (fun e_ => (hk_.2.2.2.1) e_) (fun e_ => (hk_.2.2.2.2.1) e_))) (fun k_ hk_ => ⟨hk_.1.1, hk_.1.2.1, hk_.1.2.2.1, hk_.1.2.2.2.1, hk_.1.2.2.2.2.1, hk_.1.2.2.2.2.2.1, hk_.1.2.2.2.2.2.2.1, hk_.1.2.2.2.2.2.2.2⟩)); replace HO471 := Aside0.mk (Kd.R_mono (ok' := fun k_ => some k_ ≠ (.slice Ao46 t466.length co46 : Value).ownBlock ∧ some k_ ≠ (.slice Ao48 t472.length co48 : Value).ownBlock ∧ some k_ ≠ (.slice Ao56 t480.length co56 : Value).ownBlock ∧ some k_ ≠ (.slice Ao60 t484.length co60 : Value).ownBlock ∧ some k_ ≠ (.slice Ao65 t487.length co65 : Value).ownBlock ∧ some k_ ≠ (.slice Ao73 t497.length co73 : Value).ownBlock ∧ some k_ ≠ (.slice Ao77 t501.length co77 : Value).ownBlock ∧ some k_ ≠ (.slice Ao78 t504.length co78 : Value).ownBlock) (Kd.R_keptB (HO471.out) hkp (fun k_ hk_ hs_ => Or.elim hs_ (fun e_ => (hk_.2.2.2.1) e_) (fun e_ => (hk_.2.2.2.2.1) e_))) (fun k_ hk_ => ⟨hk_.1.1, hk_.1.2.1, hk_.1.2.2.1, hk_.1.2.2.2.1, hk_.1.2.2.2.2.1, hk_.1.2.2.2.2.2.1, hk_.1.2.2.2.2.2.2.1, hk_.1.2.2.2.2.2.2.2⟩)); replace HO474 := Aside0.mk (Kd.R_mono (ok' := fun k_ => some k_ ≠ (.slice Ao46 t466.length co46 : Value).ownBlock ∧ some k_ ≠ (.slice Ao47 t469.length co47 : Value).ownBlock ∧ some k_ ≠ (.slice Ao56 t480.length co56 : Value).ownBlock ∧ some k_ ≠ (.slice Ao60 t484.length co60 : Value).ownBlock ∧ some k_ ≠ (.slice Ao65 t487.length co65 : Value).ownBlock ∧ some k_ ≠ (.slice Ao73 t497.length co73 : Value).ownBlock ∧ some k_ ≠ (.slice Ao77 t501.length co77 : Value).ownBlock ∧ some k_ ≠ (.slice Ao78 t504.length co78 : Value).ownBlock) (Kd.R_keptB (HO474.out) hkp (fun k_ hk_ hs_ => Or.elim hs_ (fun e_ => (hk_.2.2.2.1) e_) (fun e_ => (hk_.2.2.2.2.1) e_))) (fun k_ hk_ => ⟨hk_.1.1, hk_.1.2.1, hk_.1.2.2.1, hk_.1.2.2.2.1, hk_.1.2.2.2.2.1, hk_.1.2.2.2.2.2.1, hk_.1.2.2.2.2.2.2.1, hk_.1.2.2.2.2.2.2.2⟩)); replace HO477 := Aside0.mk (Kd.R_mono (ok' := fun k_ => some k_ ≠ (.slice Ao68 t491.length co68 : Value).ownBlock) (Kd.R_keptB ((Kd.R_apart' (Kd.R_apart' HO477.out (Kd.R_typed HO486.out) (by decide)) (Kd.R_typed HO489.out) (by decide))) hkp (fun k_ hk_ hs_ => Or.elim hs_ (fun e_ => (hk_.1.2) e_) (fun e_ => (hk_.2) e_))) (fun k_ hk_ => hk_.1.1.1)); replace HO482 := Aside0.mk (Kd.R_mono (ok' := fun k_ => some k_ ≠ (.slice Ao46 t466.length co46 : Value).ownBlock ∧ some k_ ≠ (.slice Ao47 t469.length co47 : Value).ownBlock ∧ some k_ ≠ (.slice Ao48 t472.length co48 : Value).ownBlock ∧ some k_ ≠ (.slice Ao60 t484.length co60 : Value).ownBlock ∧ some k_ ≠ (.slice Ao65 t487.length co65 : Value).ownBlock ∧ some k_ ≠ (.slice Ao73 t497.length co73 : Value).ownBlock ∧ some k_ ≠ (.slice Ao77 t501.length co77 : Value).ownBlock ∧ some k_ ≠ (.slice Ao78 t504.length co78 : Value).ownBlock) (Kd.R_keptB (HO482.out) hkp (fun k_ hk_ hs_ => Or.elim hs_ (fun e_ => (hk_.1.1.1.1.2) e_) (fun e_ => (hk_.1.1.1.2) e_))) (fun k_ hk_ => ⟨hk_.1.1.1.1.1.1.1.1.2, hk_.1.1.1.1.1.1.1.2, hk_.1.1.1.1.1.1.2, hk_.1.1.1.1.1.2, hk_.1.1.1.1.2, hk_.1.1.1.2, hk_.1.1.2, hk_.1.2⟩)); replace BK483 := Aside0.mk (blk_kept (by (with_reducible repeat (first | refine blk_drewN ?_ _ | refine blk_drew ?_ | refine blk_alloc ?_ _)); exact BK483.out) hkp (fun hs_ => Or.elim hs_ (fun e_ => (fun e_ => (Kd.R_ne HO486.out BK483.out (by decide)) e_) e_) (fun e_ => (fun e_ => (Kd.R_ne HO489.out BK483.out (by decide)) e_) e_))); replace BK490 := Aside0.mk (blk_kept (by (with_reducible repeat (first | refine blk_drewN ?_ _ | refine blk_drew ?_ | refine blk_alloc ?_ _)); exact BK490.out) hkp (fun hs_ => Or.elim hs_ (fun e_ => (fun e_ => (Kd.R_ne HO486.out BK490.out (by decide)) e_) e_) (fun e_ => (fun e_ => (Kd.R_ne HO489.out BK490.out (by decide)) e_) e_))); replace HO493 := Aside0.mk (Kd.R_mono (ok' := fun k_ => some k_ ≠ (.slice Ao69 t475.length co69 : Value).ownBlock) (Kd.R_keptB ((Kd.R_apart' (Kd.R_apart' HO493.out (Kd.R_typed HO486.out) (by decide)) (Kd.R_typed HO489.out) (by decide))) hkp (fun k_ hk_ hs_ => Or.elim hs_ (fun e_ => (hk_.1.2) e_) (fun e_ => (hk_.2) e_))) (fun k_ hk_ => hk_.1.1.1)); replace HO486 := Aside0.mk (Kd.R_reok rfl hy0 (fun k_ e_ => HO486.out.1 k_ e_)); replace HO489 := Aside0.mk (Kd.R_reok rfl hy1 (fun k_ e_ => HO489.out.1 k_ e_)); replace HO499 := Aside0.mk (Kd.R_mono (ok' := fun k_ => some k_ ≠ (.slice Ao46 t466.length co46 : Value).ownBlock ∧ some k_ ≠ (.slice Ao47 t469.length co47 : Value).ownBlock ∧ some k_ ≠ (.slice Ao48 t472.length co48 : Value).ownBlock ∧ some k_ ≠ (.slice Ao56 t480.length co56 : Value).ownBlock ∧ some k_ ≠ (.slice Ao60 t484.length co60 : Value).ownBlock ∧ some k_ ≠ (.slice Ao65 t487.length co65 : Value).ownBlock ∧ some k_ ≠ (.slice Ao77 t501.length co77 : Value).ownBlock ∧ some k_ ≠ (.slice Ao78 t504.length co78 : Value).ownBlock) (Kd.R_keptB (HO499.out) hkp (fun k_ hk_ hs_ => Or.elim hs_ (fun e_ => (hk_.2.2.2.2.1) e_) (fun e_ => (hk_.2.2.2.2.2.1) e_))) (fun k_ hk_ => ⟨hk_.1.1, hk_.1.2.1, hk_.1.2.2.1, hk_.1.2.2.2.1, hk_.1.2.2.2.2.1, hk_.1.2.2.2.2.2.1, hk_.1.2.2.2.2.2.2.1, hk_.1.2.2.2.2.2.2.2⟩)); replace HO503 := Aside0.mk (Kd.R_mono (ok' := fun k_ => some k_ ≠ (.slice Ao46 t466.length co46 : Value).ownBlock ∧ some k_ ≠ (.slice Ao47 t469.length co47 : Value).ownBlock ∧ some k_ ≠ (.slice Ao48 t472.length co48 : Value).ownBlock ∧ some k_ ≠ (.slice Ao56 t480.length co56 : Value).ownBlock ∧ some k_ ≠ (.slice Ao60 t484.length co60 : Value).ownBlock ∧ some k_ ≠ (.slice Ao65 t487.length co65 : Value).ownBlock ∧ some k_ ≠ (.slice Ao73 t497.length co73 : Value).ownBlock ∧ some k_ ≠ (.slice Ao78 t504.length co78 : Value).ownBlock) (Kd.R_keptB (HO503.out) hkp (fun k_ hk_ hs_ => Or.elim hs_ (fun e_ => (hk_.2.2.2.2.1) e_) (fun e_ => (hk_.2.2.2.2.2.1) e_))) (fun k_ hk_ => ⟨hk_.1.1, hk_.1.2.1, hk_.1.2.2.1, hk_.1.2.2.2.1, hk_.1.2.2.2.2.1, hk_.1.2.2.2.2.2.1, hk_.1.2.2.2.2.2.2.1, hk_.1.2.2.2.2.2.2.2⟩)); replace HO506 := Aside0.mk (Kd.R_mono (ok' := fun k_ => some k_ ≠ (.slice Ao46 t466.length co46 : Value).ownBlock ∧ some k_ ≠ (.slice Ao47 t469.length co47 : Value).ownBlock ∧ some k_ ≠ (.slice Ao48 t472.length co48 : Value).ownBlock ∧ some k_ ≠ (.slice Ao56 t480.length co56 : Value).ownBlock ∧ some k_ ≠ (.slice Ao60 t484.length co60 : Value).ownBlock ∧ some k_ ≠ (.slice Ao65 t487.length co65 : Value).ownBlock ∧ some k_ ≠ (.slice Ao73 t497.length co73 : Value).ownBlock ∧ some k_ ≠ (.slice Ao77 t501.length co77 : Value).ownBlock) (Kd.R_keptB (HO506.out) hkp (fun k_ hk_ hs_ => Or.elim hs_ (fun e_ => (hk_.2.2.2.2.1) e_) (fun e_ => (hk_.2.2.2.2.2.1) e_))) (fun k_ hk_ => ⟨hk_.1.1, hk_.1.2.1, hk_.1.2.2.1, hk_.1.2.2.2.1, hk_.1.2.2.2.2.1, hk_.1.2.2.2.2.2.1, hk_.1.2.2.2.2.2.2.1, hk_.1.2.2.2.2.2.2.2⟩)); replace HB := Aside0.mk (hb); (try clear hb); (try clear hkp); (try clear hy0); (try clear hy1)))
      (try simp only [Act.put, List.setIfInBounds_toArray, List.set_cons_zero, List.set_cons_succ])
      go_cut [63] (fun v63 wc => ∃ (kq : Nat) (x63_34 : Bool), v63 = .bool x63_34 ∧ Aside0 (laws_FnExactClassDepends.j0 kq t475 t491 x63_34 a0_0 a0_1 l0_2 l1_0 l1_1 = some r) ∧ Aside0 (kq ≤ k) ∧ Aside0 (Kd.R k94 94 wc w.heap.size (fun k_ => some k_ ≠ ((.slice Ao68 t491.length co68) : Value).ownBlock) (.slice Ao69 t475.length co69) t475) ∧ Aside0 (Kd.R k94 94 wc w.heap.size (fun k_ => some k_ ≠ ((.slice Ao69 t475.length co69) : Value).ownBlock) (.slice Ao68 t491.length co68) t491) ∧ Aside0 (Kd.R (Kd.int .i64) 3 wc w.heap.size (fun k_ => some k_ ≠ ((.slice Ao60 t484.length co60) : Value).ownBlock ∧ some k_ ≠ ((.slice Ao65 t487.length co65) : Value).ownBlock) (.slice Ao56 t480.length co56) t509) ∧ Aside0 (Kd.R (Kd.int .i64) 3 wc w.heap.size (fun k_ => some k_ ≠ ((.slice Ao56 t480.length co56) : Value).ownBlock ∧ some k_ ≠ ((.slice Ao65 t487.length co65) : Value).ownBlock) (.slice Ao60 t484.length co60) t511) ∧ Aside0 (Kd.R (Kd.int .i64) 3 wc w.heap.size (fun k_ => some k_ ≠ ((.slice Ao56 t480.length co56) : Value).ownBlock ∧ some k_ ≠ ((.slice Ao60 t484.length co60) : Value).ownBlock) (.slice Ao65 t487.length co65) t512) ∧ Aside0 (wc.heap[gb460]? = some (.cells #[.int .i64 a0_0, .int .i64 a0_1, (.slice A0_2 l0_2.length c0_2)] 34 (0, 0))) ∧ Aside0 (wc.heap[gb461]? = some (.cells #[(.slice A1_0 l1_0.length c1_0), (.slice A1_1 l1_1.length c1_1)] 66 (0, 0))) ∧ Aside0 (wc.heap[gb483]? = some (.cells #[.int .i64 t478, .int .i64 t479, (.slice Ao56 t480.length co56)] 44 (0, 0))) ∧ Aside0 (wc.heap[gb490]? = some (.cells #[(.slice Ao60 t484.length co60), (.slice Ao65 t487.length co65)] 70 (0, 0))) ∧ Aside0 (Below w.heap.size w wc))
      case first =>
       have H := HC35.out
       clear HC35
       by_cases c84 : t510 < 0
       ·rw [if_pos c84] at H
        have c84b0 : decide (t510 < 0) = true := decide_eq_true c84
        clear c84
        (first | rw [c84b0] | (simp only [i64_w, i32_w]; rw [c84b0]) | skip)
        have H' := Aside0.mk H
        clear H
        go_wp2
        go_meet
        case rel => exact ⟨_, (true), ef_, H', ⟨kq_⟩, ⟨by (with_reducible repeat (first | apply Kd.R_alloc | apply Kd.R_drewN | apply Kd.R_drew)); exact HO477.out⟩, ⟨by (with_reducible repeat (first | apply Kd.R_alloc | apply Kd.R_drewN | apply Kd.R_drew)); exact HO493.out⟩, ⟨by (with_reducible repeat (first | apply Kd.R_alloc | apply Kd.R_drewN | apply Kd.R_drew)); exact Kd.R_mono HO482.out (fun _ hk => ⟨hk.2.2.2.1, hk.2.2.2.2.1⟩)⟩, ⟨by (with_reducible repeat (first | apply Kd.R_alloc | apply Kd.R_drewN | apply Kd.R_drew)); exact Kd.R_mono HO486.out (fun _ hk => ⟨hk.2.2.2.1, hk.2.2.2.2.1⟩)⟩, ⟨by (with_reducible repeat (first | apply Kd.R_alloc | apply Kd.R_drewN | apply Kd.R_drew)); exact Kd.R_mono HO489.out (fun _ hk => ⟨hk.2.2.2.1, hk.2.2.2.2.1⟩)⟩, ⟨bq_ BK460.out⟩, ⟨bq_ BK461.out⟩, ⟨bq_ BK483.out⟩, ⟨bq_ BK490.out⟩, ⟨bb_ HB.out⟩⟩
       ·rw [if_neg c84] at H
        have c84b0 : decide (t510 < 0) = false := decide_eq_false c84
        clear c84
        (first | rw [c84b0] | (simp only [i64_w, i32_w]; rw [c84b0]) | skip)
        replace H := Option.bind_eq_some_iff.mp H
        obtain ⟨t513, A850, H⟩ := H
        try dsimp only at H
        have A85 := Aside0.mk A850
        clear A850
        have H' := Aside0.mk H
        clear H
        go_wp2_with (first | (go_at_call 15; (with_reducible refine (laws_eqDependS.calls k _ _ t491 _ _ t475 t513 _ ?side1 ?side2 ?side3 ?side4 A85.out).mono ?_); (case side1 => repeat (first | exact (Kd.R_reads' HO493.out).2.2 | (with_reducible refine Kd.C_alloc ?_ _) | (with_reducible refine Kd.C_drewN ?_ _) | (with_reducible refine Kd.C_drew ?_))); (case side2 => exact (Kd.R_reads' HO493.out).2.1); (case side3 => repeat (first | exact (Kd.R_reads' HO477.out).2.2 | (with_reducible refine Kd.C_alloc ?_ _) | (with_reducible refine Kd.C_drewN ?_ _) | (with_reducible refine Kd.C_drew ?_))); (case side4 => exact (Kd.R_reads' HO477.out).2.1); rintro e w86 ⟨rfl, hb⟩; replace HO468 := Aside0.mk (Kd.R_below (ra_ HO468.out) hb); replace HO471 := Aside0.mk (Kd.R_below (ra_ HO471.out) hb); replace HO474 := Aside0.mk (Kd.R_below (ra_ HO474.out) hb); replace HO477 := Aside0.mk (Kd.R_below (ra_ HO477.out) hb); replace HO482 := Aside0.mk (Kd.R_below (ra_ HO482.out) hb); replace HO486 := Aside0.mk (Kd.R_below (ra_ HO486.out) hb); replace HO489 := Aside0.mk (Kd.R_below (ra_ HO489.out) hb); replace HO493 := Aside0.mk (Kd.R_below (ra_ HO493.out) hb); replace HO499 := Aside0.mk (Kd.R_below (ra_ HO499.out) hb); replace HO503 := Aside0.mk (Kd.R_below (ra_ HO503.out) hb); replace HO506 := Aside0.mk (Kd.R_below (ra_ HO506.out) hb); replace BK460 := Aside0.mk (bk_ BK460.out hb); replace BK461 := Aside0.mk (bk_ BK461.out hb); replace BK483 := Aside0.mk (bk_ BK483.out hb); replace BK490 := Aside0.mk (bk_ BK490.out hb); replace HB := Aside0.mk (bs_ HB.out hb); (try clear hb)))
        go_meet
        case rel => exact ⟨_, (!t513), ef_, H', ⟨kq_⟩, ⟨by (with_reducible repeat (first | apply Kd.R_alloc | apply Kd.R_drewN | apply Kd.R_drew)); exact HO477.out⟩, ⟨by (with_reducible repeat (first | apply Kd.R_alloc | apply Kd.R_drewN | apply Kd.R_drew)); exact HO493.out⟩, ⟨by (with_reducible repeat (first | apply Kd.R_alloc | apply Kd.R_drewN | apply Kd.R_drew)); exact Kd.R_mono HO482.out (fun _ hk => ⟨hk.2.2.2.1, hk.2.2.2.2.1⟩)⟩, ⟨by (with_reducible repeat (first | apply Kd.R_alloc | apply Kd.R_drewN | apply Kd.R_drew)); exact Kd.R_mono HO486.out (fun _ hk => ⟨hk.2.2.2.1, hk.2.2.2.2.1⟩)⟩, ⟨by (with_reducible repeat (first | apply Kd.R_alloc | apply Kd.R_drewN | apply Kd.R_drew)); exact Kd.R_mono HO489.out (fun _ hk => ⟨hk.2.2.2.1, hk.2.2.2.2.1⟩)⟩, ⟨bq_ BK460.out⟩, ⟨bq_ BK461.out⟩, ⟨bq_ BK483.out⟩, ⟨bq_ BK490.out⟩, ⟨bb_ HB.out⟩⟩
      case rest =>
       clear HC35
       try clear c4
       try clear c29
       try clear hcz50_0 hcz50_1 hcz50_2 hfz50_0 hfz50_1 hfz50_2
       try clear hcz55_0 hcz55_1 hcz55_2 hfz55_0 hfz55_1 hfz55_2
       try clear hcz57_0 hcz57_1 hfz57_0 hfz57_1
       try clear hcz64_0 hcz64_1 hfz64_0 hfz64_1
       try clear hcz66_0 hcz66_1 hcz66_2 hfz66_0 hfz66_1 hfz66_2
       try clear hcz80_0 hcz80_1 hcz80_2 hfz80_0 hfz80_1 hfz80_2
       try clear hcz82_0 hcz82_1 hfz82_0 hfz82_1
       obtain ⟨kq, x63_34, rfl, HA, HJ34, HO_6, HO_9, HO_484002, HO_491000, HO_491001, BK460, BK461, BK483, BK490, HB⟩ := hcut
       have hl484002_34 := (Kd.R_reads' HO_484002.out).1
       rw [hl484002_34] at HO_484002
       (try simp only [hl484002_34])
       (try simp only [hl484002_34] at BK460)
       (try simp only [hl484002_34] at BK461)
       (try simp only [hl484002_34] at BK483)
       (try simp only [hl484002_34] at BK490)
       (try simp only [hl484002_34] at HO_6)
       (try simp only [hl484002_34] at HO_9)
       (try simp only [hl484002_34] at HO_491000)
       (try simp only [hl484002_34] at HO_491001)
       have hl491000_34 := (Kd.R_reads' HO_491000.out).1
       rw [hl491000_34] at HO_491000
       (try simp only [hl491000_34])
       (try simp only [hl491000_34] at BK460)
       (try simp only [hl491000_34] at BK461)
       (try simp only [hl491000_34] at BK483)
       (try simp only [hl491000_34] at BK490)
       (try simp only [hl491000_34] at HO_6)
       (try simp only [hl491000_34] at HO_9)
       (try simp only [hl491000_34] at HO_484002)
       (try simp only [hl491000_34] at HO_491001)
       have hl491001_34 := (Kd.R_reads' HO_491001.out).1
       rw [hl491001_34] at HO_491001
       (try simp only [hl491001_34])
       (try simp only [hl491001_34] at BK460)
       (try simp only [hl491001_34] at BK461)
       (try simp only [hl491001_34] at BK483)
       (try simp only [hl491001_34] at BK490)
       (try simp only [hl491001_34] at HO_6)
       (try simp only [hl491001_34] at HO_9)
       (try simp only [hl491001_34] at HO_484002)
       (try simp only [hl491001_34] at HO_491000)
       cases kq with
       | zero => exact absurd HA.out (by simp [laws_FnExactClassDepends.j0])
       | succ kj34 =>
        have H := HA.out
        clear HA
        simp only [laws_FnExactClassDepends.j0] at H
        by_cases c87 : x63_34 = true
        ·subst c87
         rw [if_pos rfl] at H
         exact absurd H (by simp)
        ·replace c87 := Bool.eq_false_iff.mpr c87
         subst c87
         rw [if_neg (show ¬ (false = true) by decide)] at H
         replace H := Option.bind_eq_some_iff.mp H
         obtain ⟨⟨t514, t515⟩, A880, H⟩ := H
         try dsimp only at H
         have A88 := Aside0.mk A880
         clear A880
         replace H := Option.bind_eq_some_iff.mp H
         obtain ⟨t516, A890, H⟩ := H
         try dsimp only at H
         have A89 := Aside0.mk A890
         clear A890
         by_cases c90 : t516 < 0
         ·rw [if_pos c90] at H
          exact absurd H (by simp)
         ·rw [if_neg c90] at H
          have c90b0 : decide (t516 < 0) = false := decide_eq_false c90
          clear c90
          by_cases c91 : t516 = t514
          ·rw [if_pos c91] at H
           have c91b0 : (t516 == t514) = true := beq_iff_eq.mpr c91
           have c91b1 : (t516 != t514) = false := bne_eq_false_iff_eq.mpr c91
           clear c91
           replace H := Option.bind_eq_some_iff.mp H
           obtain ⟨⟨t517, t518, t519⟩, A920, H⟩ := H
           try dsimp only at H
           have A92 := Aside0.mk A920
           clear A920
           replace H := Option.bind_eq_some_iff.mp H
           obtain ⟨⟨t522, t525⟩, A930, H⟩ := H
           try dsimp only at H
           have A93 := Aside0.mk A930
           clear A930
           replace H := Option.bind_eq_some_iff.mp H
           obtain ⟨t528, A940, H⟩ := H
           try dsimp only at H
           have A94 := Aside0.mk A940
           clear A940
           replace H := Option.bind_eq_some_iff.mp H
           obtain ⟨t531, A950, H⟩ := H
           try dsimp only at H
           have A95 := Aside0.mk A950
           clear A950
           by_cases c96 : t531 = true
           ·subst c96
            rw [if_pos rfl] at H
            replace H := Option.bind_eq_some_iff.mp H
            obtain ⟨t532, A970, H⟩ := H
            try dsimp only at H
            have A97 := Aside0.mk A970
            clear A970
            by_cases c98 : t532 < 0
            ·rw [if_pos c98] at H
             exact absurd H (by simp)
            ·rw [if_neg c98] at H
             have c98b0 : decide (t532 < 0) = false := decide_eq_false c98
             clear c98
             by_cases c99 : t532 = t514
             ·rw [if_pos c99] at H
              have c99b0 : (t532 == t514) = true := beq_iff_eq.mpr c99
              have c99b1 : (t532 != t514) = false := bne_eq_false_iff_eq.mpr c99
              clear c99
              obtain rfl := Option.some.inj H
              try go_wp2_with (first | ((with_reducible refine gate_callee (f := 16) rfl ?_); refine gm_ (some 66) Try.func16 #[.slice Ao68 t491.length co68, .int .i64 1] rfl ?_; (with_reducible refine (laws_markDependS.calls kj34 (fun k_ => some k_ = (.slice Ao68 t491.length co68 : Value).ownBlock) (.slice Ao68 t491.length co68) t491 1 t514 t515 w _ ?side1 ?side2 A88.out).mono ?_); (case side1 => repeat (first | (with_reducible first | exact HB.out | apply below_alloc | apply pw_below_drewN | apply below_drew1 | refine below_set ?_ GE460.out | refine below_set ?_ GE461.out | refine below_set ?_ GE483.out | refine below_set ?_ GE490.out) | exact HB.out)); (case side2 => exact Kd.R_tight rfl HO_9.out); rintro e w100 ⟨rfl, hy0, hb, hkp⟩; refine ⟨_, rfl, ?_⟩; replace HO_6 := Aside0.mk (Kd.R_mono (ok' := fun k_ => some k_ ≠ (.slice Ao68 t491.length co68 : Value).ownBlock) (Kd.R_keptB (HO_6.out) hkp (fun k_ hk_ hs_ => (hk_) hs_)) (fun k_ hk_ => hk_.1)); replace HO_484002 := Aside0.mk (Kd.R_mono (ok' := fun k_ => some k_ ≠ (.slice Ao60 t511.length co60 : Value).ownBlock ∧ some k_ ≠ (.slice Ao65 t512.length co65 : Value).ownBlock) (Kd.R_keptB ((Kd.R_apart' HO_484002.out (Kd.R_typed HO_9.out) (by decide))) hkp (fun k_ hk_ hs_ => (hk_.2) hs_)) (fun k_ hk_ => ⟨hk_.1.1.1, hk_.1.1.2⟩)); replace HO_491000 := Aside0.mk (Kd.R_mono (ok' := fun k_ => some k_ ≠ (.slice Ao56 t509.length co56 : Value).ownBlock ∧ some k_ ≠ (.slice Ao65 t512.length co65 : Value).ownBlock) (Kd.R_keptB ((Kd.R_apart' HO_491000.out (Kd.R_typed HO_9.out) (by decide))) hkp (fun k_ hk_ hs_ => (hk_.2) hs_)) (fun k_ hk_ => ⟨hk_.1.1.1, hk_.1.1.2⟩)); replace HO_491001 := Aside0.mk (Kd.R_mono (ok' := fun k_ => some k_ ≠ (.slice Ao56 t509.length co56 : Value).ownBlock ∧ some k_ ≠ (.slice Ao60 t511.length co60 : Value).ownBlock) (Kd.R_keptB ((Kd.R_apart' HO_491001.out (Kd.R_typed HO_9.out) (by decide))) hkp (fun k_ hk_ hs_ => (hk_.2) hs_)) (fun k_ hk_ => ⟨hk_.1.1.1, hk_.1.1.2⟩)); replace BK460 := Aside0.mk (blk_kept (by (with_reducible repeat (first | refine blk_drewN ?_ _ | refine blk_drew ?_ | refine blk_alloc ?_ _)); exact BK460.out) hkp (fun hs_ => (fun e_ => (Kd.R_ne HO_9.out BK460.out (by decide)) e_) hs_)); replace BK461 := Aside0.mk (blk_kept (by (with_reducible repeat (first | refine blk_drewN ?_ _ | refine blk_drew ?_ | refine blk_alloc ?_ _)); exact BK461.out) hkp (fun hs_ => (fun e_ => (Kd.R_ne HO_9.out BK461.out (by decide)) e_) hs_)); replace BK483 := Aside0.mk (blk_kept (by (with_reducible repeat (first | refine blk_drewN ?_ _ | refine blk_drew ?_ | refine blk_alloc ?_ _)); exact BK483.out) hkp (fun hs_ => (fun e_ => (Kd.R_ne HO_9.out BK483.out (by decide)) e_) hs_)); replace BK490 := Aside0.mk (blk_kept (by (with_reducible repeat (first | refine blk_drewN ?_ _ | refine blk_drew ?_ | refine blk_alloc ?_ _)); exact BK490.out) hkp (fun hs_ => (fun e_ => (Kd.R_ne HO_9.out BK490.out (by decide)) e_) hs_)); replace HO_9 := Aside0.mk (Kd.R_reok rfl hy0 (fun k_ e_ => HO_9.out.1 k_ e_)); replace HB := Aside0.mk (hb); (try clear hb); (try clear hkp); (try clear hy0)) | ((with_reducible refine gate_callee (f := 17) rfl ?_); refine goesL_ (some 69) rfl rfl Try.func17 (by kernel_rfl) rfl #[.slice Ao68 t515.length co68, .int .i64 1] rfl (by (try simp only [List.map_toArray, List.map_cons, List.map_nil]); first | done | (rw [show t515.length = t491.length from (Kd.R_reads' HO_9.out).1.symm] <;> rfl) | rfl | (simp only [List.length_drop, List.length_take]; rfl)) ?_; (with_reducible refine (laws_heldDependS.calls kj34 _ _ t515 1 t516 _ ?side1 ?side2 A89.out).mono ?_); (case side1 => repeat (first | exact (Kd.R_reads' HO_9.out).2.2 | (with_reducible refine Kd.C_alloc ?_ _) | (with_reducible refine Kd.C_drewN ?_ _) | (with_reducible refine Kd.C_drew ?_))); (case side2 => rw [show t515.length = t491.length from (Kd.R_reads' HO_9.out).1.symm]; exact (Kd.R_reads' HO_9.out).2.1); rintro e w' ⟨rfl, ⟨nd, rfl⟩⟩; refine ⟨_, rfl, ?_⟩))
              (try (rw [drewN_self w100]; generalize hq_ : World.drewN w100 _ = w100; have n0_ : Aside0 (Kd.R (Kd.int .i64) 3 w100 w.heap.size (fun k_ => some k_ ≠ (.slice Ao60 t511.length co60 : Value).ownBlock ∧ some k_ ≠ (.slice Ao65 t512.length co65 : Value).ownBlock) (.slice Ao56 t509.length co56) t509) := ⟨by rw [← hq_]; exact (ra_ HO_484002.out)⟩; have n1_ : Aside0 (Kd.R (Kd.int .i64) 3 w100 w.heap.size (fun k_ => some k_ ≠ (.slice Ao56 t509.length co56 : Value).ownBlock ∧ some k_ ≠ (.slice Ao65 t512.length co65 : Value).ownBlock) (.slice Ao60 t511.length co60) t511) := ⟨by rw [← hq_]; exact (ra_ HO_491000.out)⟩; have n2_ : Aside0 (Kd.R (Kd.int .i64) 3 w100 w.heap.size (fun k_ => some k_ ≠ (.slice Ao56 t509.length co56 : Value).ownBlock ∧ some k_ ≠ (.slice Ao60 t511.length co60 : Value).ownBlock) (.slice Ao65 t512.length co65) t512) := ⟨by rw [← hq_]; exact (ra_ HO_491001.out)⟩; have n3_ : Aside0 (Kd.R k94 94 w100 w.heap.size (fun k_ => some k_ ≠ (.slice Ao68 t491.length co68 : Value).ownBlock) (.slice Ao69 t475.length co69) t475) := ⟨by rw [← hq_]; exact (ra_ HO_6.out)⟩; have n4_ : Aside0 (Kd.R k94 94 w100 w.heap.size (fun k_ => some k_ ≠ (.slice Ao69 t475.length co69 : Value).ownBlock) (.slice Ao68 t491.length co68) t515) := ⟨by rw [← hq_]; exact (ra_ HO_9.out)⟩; have n5_ : Aside0 (w100.heap[gb460]? = some (.cells #[.int .i64 a0_0, .int .i64 a0_1, .slice A0_2 l0_2.length c0_2] 34 (0, 0))) := ⟨by rw [← hq_]; exact (by (with_reducible repeat (first | refine blk_drewN ?_ _ | refine blk_drew ?_ | refine blk_alloc ?_ _)); exact BK460.out)⟩; have n6_ : Aside0 (w100.heap[gb461]? = some (.cells #[.slice A1_0 l1_0.length c1_0, .slice A1_1 l1_1.length c1_1] 66 (0, 0))) := ⟨by rw [← hq_]; exact (by (with_reducible repeat (first | refine blk_drewN ?_ _ | refine blk_drew ?_ | refine blk_alloc ?_ _)); exact BK461.out)⟩; have n7_ : Aside0 (w100.heap[gb483]? = some (.cells #[.int .i64 t478, .int .i64 t479, .slice Ao56 t509.length co56] 44 (0, 0))) := ⟨by rw [← hq_]; exact (by (with_reducible repeat (first | refine blk_drewN ?_ _ | refine blk_drew ?_ | refine blk_alloc ?_ _)); exact BK483.out)⟩; have n8_ : Aside0 (w100.heap[gb490]? = some (.cells #[.slice Ao60 t511.length co60, .slice Ao65 t512.length co65] 70 (0, 0))) := ⟨by rw [← hq_]; exact (by (with_reducible repeat (first | refine blk_drewN ?_ _ | refine blk_drew ?_ | refine blk_alloc ?_ _)); exact BK490.out)⟩; have n9_ : Aside0 (Below w.heap.size w w100) := ⟨by rw [← hq_]; exact (by repeat (first | (with_reducible first | exact HB.out | apply below_alloc | apply pw_below_drewN | apply below_drew1 | refine below_set ?_ GE460.out | refine below_set ?_ GE461.out | refine below_set ?_ GE483.out | refine below_set ?_ GE490.out) | exact HB.out))⟩; clear HO_484002 HO_491000 HO_491001 HO_6 HO_9 BK460 BK461 BK483 BK490 HB hq_; have HO_484002 := n0_; have HO_491000 := n1_; have HO_491001 := n2_; have HO_6 := n3_; have HO_9 := n4_; have BK460 := n5_; have BK461 := n6_; have BK483 := n7_; have BK490 := n8_; have HB := n9_; clear n0_ n1_ n2_ n3_ n4_ n5_ n6_ n7_ n8_ n9_))
              have n0_ := Aside0.mk (Kd.R_drew HO_6.out)
              have n1_ := Aside0.mk (Kd.R_drew HO_9.out)
              have n2_ := Aside0.mk (Kd.R_drew HO_484002.out)
              have n3_ := Aside0.mk (Kd.R_drew HO_491000.out)
              have n4_ := Aside0.mk (Kd.R_drew HO_491001.out)
              have n5_ := Aside0.mk (blk_drew BK460.out)
              have n6_ := Aside0.mk (blk_drew BK461.out)
              have n7_ := Aside0.mk (blk_drew BK483.out)
              have n8_ := Aside0.mk (blk_drew BK490.out)
              have n9_ := Aside0.mk (below_drew1 HB.out)
              clear HO_6
              clear HO_9
              clear HO_484002
              clear HO_491000
              clear HO_491001
              clear BK460
              clear BK461
              clear BK483
              clear BK490
              clear HB
              have HO_6 := n0_
              have HO_9 := n1_
              have HO_484002 := n2_
              have HO_491000 := n3_
              have HO_491001 := n4_
              have BK460 := n5_
              have BK461 := n6_
              have BK483 := n7_
              have BK490 := n8_
              have HB := n9_
              clear n0_ n1_ n2_ n3_ n4_ n5_ n6_ n7_ n8_ n9_
              refine start_ (n := 6) (S := fun w' => w'.cell? ⟨gb460, 0, none⟩ = some (.int .i64 a0_0) ∧ w'.cell? ⟨gb460, 1, none⟩ = some (.int .i64 a0_1) ∧ w'.cell? ⟨gb460, 2, none⟩ = some (.slice A0_2 l0_2.length c0_2) ∧ w'.cell? ⟨gb461, 0, none⟩ = some (.slice A1_0 l1_0.length c1_0) ∧ w'.cell? ⟨gb461, 1, none⟩ = some (.slice A1_1 l1_1.length c1_1)) (ds := []) #[false, false, false, false, false, false] (by kernel_rfl) rfl rfl ⟨(blk_cell BK460.out 0).trans rfl, (blk_cell BK460.out 1).trans rfl, (blk_cell BK460.out 2).trans rfl, (blk_cell BK461.out 0).trans rfl, (blk_cell BK461.out 1).trans rfl⟩ (fun hHeld => ?_)
              generalize w100.drew = w101 at HO_6 HO_9 HO_484002 HO_491000 HO_491001 BK460 BK461 BK483 BK490 HB hHeld ⊢
              refine take_ (i := 0) (N := some 75) (v := ?_) (a' := ?_) (bt_ 6 1) rfl rfl (by kernel_rfl) (fun _ _ _ h => h) (Or.inl ⟨by rfl, ?_⟩) hHeld ?_ ?_
              rotate_left
              ·rintro w' ⟨s0, s1, s2, s3, s4⟩
               go_simp
               with_reducible rfl
              rotate_left
              ·simp only [Act.put, List.setIfInBounds_toArray, List.set_cons_zero, List.set_cons_succ, i64_w, i32_w]
               rfl
              refine take_ (i := 2) (N := some 77) (v := ?_) (a' := ?_) (bt_ 6 5) rfl rfl (by kernel_rfl) (fun _ _ _ h => h) (Or.inl ⟨by rfl, ?_⟩) hHeld ?_ ?_
              rotate_left
              ·rintro w' ⟨s0, s1, s2, s3, s4⟩
               go_simp
               with_reducible rfl
              rotate_left
              ·simp only [Act.put, List.setIfInBounds_toArray, List.set_cons_zero, List.set_cons_succ, i64_w, i32_w]
               rfl
              refine one_ (i := 1) (N := some 76) (bt_ 6 7) rfl rfl (by kernel_rfl) (by decide) (fun K hK => ?_)
              refine goes_ Try.func25 (by kernel_rfl) rfl #[.agg #[.int .i64 a0_0, .int .i64 a0_1, .slice A0_2 l0_2.length c0_2]] (by rfl) rfl rfl (by (try simp only [List.map_toArray, List.map_cons, List.map_nil]); first | done | rfl | (simp only [List.length_drop, List.length_take]; rfl)) ?_
              with_reducible refine (laws_toMesh.calls kj34 a0_0 a0_1 _ _ l0_2 t517 t518 t519 _ ?side1 ?side2 A92.out).mono ?_
              (case side1 => exact cb_ HR0_2.out HB.out)
              (case side2 => exact HC0_2.out)
              rintro e w102 ⟨v520, rfl, ho0, hb⟩
              refine ⟨_, rfl, ?_⟩
              have n0_ := Aside0.mk (Kd.R_below (ra_ HO_6.out) hb)
              have n1_ := Aside0.mk (Kd.R_below (ra_ HO_9.out) hb)
              have n2_ := Aside0.mk (Kd.R_elder' (ra_ HO_484002.out) (Kd.R_base ho0) hb)
              have n3_ := Aside0.mk (Kd.R_elder' (ra_ HO_491000.out) (Kd.R_base ho0) hb)
              have n4_ := Aside0.mk (Kd.R_elder' (ra_ HO_491001.out) (Kd.R_base ho0) hb)
              have n5_ := Aside0.mk (Kd.R_lower (Kd.R_new' (Kd.R_new' (Kd.R_new' ho0 (rl_ HO_484002.out)) (rl_ HO_491000.out)) (rl_ HO_491001.out)) (bz_ HB.out))
              have n6_ := Aside0.mk (bk_ BK460.out hb)
              have n7_ := Aside0.mk (bk_ BK461.out hb)
              have n8_ := Aside0.mk (bk_ BK483.out hb)
              have n9_ := Aside0.mk (bk_ BK490.out hb)
              have n10_ := Aside0.mk (bs_ HB.out hb)
              clear HO_6
              clear HO_9
              clear HO_484002
              clear HO_491000
              clear HO_491001
              clear BK460
              clear BK461
              clear BK483
              clear BK490
              clear HB
              have HO_6 := n0_
              have HO_9 := n1_
              have HO_484002 := n2_
              have HO_491000 := n3_
              have HO_491001 := n4_
              have HO521 := n5_
              have BK460 := n6_
              have BK461 := n7_
              have BK483 := n8_
              have BK490 := n9_
              have HB := n10_
              clear n0_ n1_ n2_ n3_ n4_ n5_ n6_ n7_ n8_ n9_ n10_
              (try clear hb)
              (try clear hb2)
              (try clear hk)
              (try clear hi)
              (try clear ho0)
              refine hK.out _ _ ⟨(blk_cell BK460.out 0).trans rfl, (blk_cell BK460.out 1).trans rfl, (blk_cell BK460.out 2).trans rfl, (blk_cell BK461.out 0).trans rfl, (blk_cell BK461.out 1).trans rfl⟩ (fun hHeld => ?_)
              clear hK K
              refine norm_ (a' := ?_) ?_ ?_
              rotate_left
              ·show Act.put _ (some 76) _ = _
               simp only [Act.put, List.setIfInBounds_toArray, List.set_cons_zero, List.set_cons_succ, i64_w, i32_w]
               rfl
              refine one_ (i := 3) (N := some 78) (bt_ 6 15) rfl rfl (by kernel_rfl) (by decide) (fun K hK => ?_)
              refine goes_ Try.func47 (by kernel_rfl) rfl #[.agg #[.slice A1_0 l1_0.length c1_0, .slice A1_1 l1_1.length c1_1]] (by rfl) rfl rfl (by (try simp only [List.map_toArray, List.map_cons, List.map_nil]); first | done | rfl | (simp only [List.length_drop, List.length_take]; rfl)) ?_
              with_reducible refine (laws_toClasses.calls kj34 _ _ l1_0 _ _ l1_1 t522 t525 _ ?side1 ?side2 ?side3 ?side4 A93.out).mono ?_
              (case side1 => exact cb_ HR1_0.out HB.out)
              (case side2 => exact HC1_0.out)
              (case side3 => exact cb_ HR1_1.out HB.out)
              (case side4 => exact HC1_1.out)
              rintro e w103 ⟨v523, v526, rfl, ho0, ho1, hb⟩
              refine ⟨_, rfl, ?_⟩
              have n0_ := Aside0.mk (Kd.R_below (ra_ HO_6.out) hb)
              have n1_ := Aside0.mk (Kd.R_below (ra_ HO_9.out) hb)
              have n2_ := Aside0.mk (Kd.R_mono (Kd.R_told (Kd.R_told (Kd.R_old (ra_ HO_484002.out) hb) (Kd.R_base ho0)) (Kd.R_base ho1)) (fun _ h_ => h_.1))
              have n3_ := Aside0.mk (Kd.R_mono (Kd.R_told (Kd.R_told (Kd.R_old (ra_ HO_491000.out) hb) (Kd.R_base ho0)) (Kd.R_base ho1)) (fun _ h_ => h_.1))
              have n4_ := Aside0.mk (Kd.R_mono (Kd.R_told (Kd.R_told (Kd.R_old (ra_ HO_491001.out) hb) (Kd.R_base ho0)) (Kd.R_base ho1)) (fun _ h_ => h_.1))
              have n5_ := Aside0.mk (Kd.R_mono (Kd.R_told (Kd.R_told (Kd.R_old (ra_ HO521.out) hb) (Kd.R_base ho0)) (Kd.R_base ho1)) (fun _ h_ => h_.1))
              have n6_ := Aside0.mk (Kd.R_lower (Kd.R_new' (Kd.R_new' (Kd.R_new' (Kd.R_new' ho0 (rl_ HO_484002.out)) (rl_ HO_491000.out)) (rl_ HO_491001.out)) (rl_ HO521.out)) (bz_ HB.out))
              have n7_ := Aside0.mk (Kd.R_lower (Kd.R_new' (Kd.R_new' (Kd.R_new' (Kd.R_new' ho1 (rl_ HO_484002.out)) (rl_ HO_491000.out)) (rl_ HO_491001.out)) (rl_ HO521.out)) (bz_ HB.out))
              have n8_ := Aside0.mk (bk_ BK460.out hb)
              have n9_ := Aside0.mk (bk_ BK461.out hb)
              have n10_ := Aside0.mk (bk_ BK483.out hb)
              have n11_ := Aside0.mk (bk_ BK490.out hb)
              have n12_ := Aside0.mk (bs_ HB.out hb)
              clear HO_6
              clear HO_9
              clear HO_484002
              clear HO_491000
              clear HO_491001
              clear HO521
              clear BK460
              clear BK461
              clear BK483
              clear BK490
              clear HB
              have HO_6 := n0_
              have HO_9 := n1_
              have HO_484002 := n2_
              have HO_491000 := n3_
              have HO_491001 := n4_
              have HO521 := n5_
              have HO524 := n6_
              have HO527 := n7_
              have BK460 := n8_
              have BK461 := n9_
              have BK483 := n10_
              have BK490 := n11_
              have HB := n12_
              clear n0_ n1_ n2_ n3_ n4_ n5_ n6_ n7_ n8_ n9_ n10_ n11_ n12_
              (try clear hb)
              (try clear hb2)
              (try clear hk)
              (try clear hi)
              (try clear ho0)
              (try clear ho1)
              obtain ⟨Ao104, co104, eo104⟩ := Kd.R_slice HO521.out
              (first | subst eo104 | (injection eo104 with f1_ f2_ f3_; have f4_ := f1_.symm; have f5_ := f3_.symm; clear f1_ f2_ f3_; subst f4_; subst f5_))
              obtain ⟨Ao105, co105, eo105⟩ := Kd.R_slice HO524.out
              (first | subst eo105 | (injection eo105 with f1_ f2_ f3_; have f4_ := f1_.symm; have f5_ := f3_.symm; clear f1_ f2_ f3_; subst f4_; subst f5_))
              obtain ⟨Ao106, co106, eo106⟩ := Kd.R_slice HO527.out
              (first | subst eo106 | (injection eo106 with f1_ f2_ f3_; have f4_ := f1_.symm; have f5_ := f3_.symm; clear f1_ f2_ f3_; subst f4_; subst f5_))
              refine hK.out _ _ ⟨(blk_cell BK460.out 0).trans rfl, (blk_cell BK460.out 1).trans rfl, (blk_cell BK460.out 2).trans rfl, (blk_cell BK461.out 0).trans rfl, (blk_cell BK461.out 1).trans rfl⟩ (fun hHeld => ?_)
              clear hK K
              refine norm_ (a' := ?_) ?_ ?_
              rotate_left
              ·show Act.put _ (some 78) _ = _
               simp only [Act.put, List.setIfInBounds_toArray, List.set_cons_zero, List.set_cons_succ, i64_w, i32_w]
               rfl
              refine one_ (i := 4) (N := some 79) (bt_ 6 31) rfl rfl (by kernel_rfl) (by decide) (fun K hK => ?_)
              refine goes_ Try.func48 (by kernel_rfl) rfl #[.agg #[.int .i64 t517, .int .i64 t518, .slice Ao104 t519.length co104], .agg #[.slice Ao105 t522.length co105, .slice Ao106 t525.length co106]] (by rfl) rfl rfl (by (try simp only [List.map_toArray, List.map_cons, List.map_nil]); first | done | rfl | (simp only [List.length_drop, List.length_take]; rfl)) ?_
              with_reducible refine (impl_ClassDepends.calls kj34 t517 t518 _ _ t519 _ _ t522 _ _ t525 t528 _ ?side1 ?side2 ?side3 ?side4 ?side5 ?side6 A94.out).mono ?_
              (case side1 => repeat (first | exact (Kd.R_reads' HO521.out).2.2 | (with_reducible refine Kd.C_alloc ?_ _) | (with_reducible refine Kd.C_drewN ?_ _) | (with_reducible refine Kd.C_drew ?_)))
              (case side2 => exact (Kd.R_reads' HO521.out).2.1)
              (case side3 => repeat (first | exact (Kd.R_reads' HO524.out).2.2 | (with_reducible refine Kd.C_alloc ?_ _) | (with_reducible refine Kd.C_drewN ?_ _) | (with_reducible refine Kd.C_drew ?_)))
              (case side4 => exact (Kd.R_reads' HO524.out).2.1)
              (case side5 => repeat (first | exact (Kd.R_reads' HO527.out).2.2 | (with_reducible refine Kd.C_alloc ?_ _) | (with_reducible refine Kd.C_drewN ?_ _) | (with_reducible refine Kd.C_drew ?_)))
              (case side6 => exact (Kd.R_reads' HO527.out).2.1)
              rintro e w107 ⟨v529, rfl, ho0, hb⟩
              refine ⟨_, rfl, ?_⟩
              have n0_ := Aside0.mk (Kd.R_elder' (ra_ HO_6.out) (Kd.R_base ho0) hb)
              have n1_ := Aside0.mk (Kd.R_elder' (ra_ HO_9.out) (Kd.R_base ho0) hb)
              have n2_ := Aside0.mk (Kd.R_below (ra_ HO_484002.out) hb)
              have n3_ := Aside0.mk (Kd.R_below (ra_ HO_491000.out) hb)
              have n4_ := Aside0.mk (Kd.R_below (ra_ HO_491001.out) hb)
              have n5_ := Aside0.mk (Kd.R_below (ra_ HO521.out) hb)
              have n6_ := Aside0.mk (Kd.R_below (ra_ HO524.out) hb)
              have n7_ := Aside0.mk (Kd.R_below (ra_ HO527.out) hb)
              have n8_ := Aside0.mk (Kd.R_lower (Kd.R_new' (Kd.R_new' ho0 (rl_ HO_6.out)) (rl_ HO_9.out)) (bz_ HB.out))
              have n9_ := Aside0.mk (bk_ BK460.out hb)
              have n10_ := Aside0.mk (bk_ BK461.out hb)
              have n11_ := Aside0.mk (bk_ BK483.out hb)
              have n12_ := Aside0.mk (bk_ BK490.out hb)
              have n13_ := Aside0.mk (bs_ HB.out hb)
              clear HO_6
              clear HO_9
              clear HO_484002
              clear HO_491000
              clear HO_491001
              clear HO521
              clear HO524
              clear HO527
              clear BK460
              clear BK461
              clear BK483
              clear BK490
              clear HB
              have HO_6 := n0_
              have HO_9 := n1_
              have HO_484002 := n2_
              have HO_491000 := n3_
              have HO_491001 := n4_
              have HO521 := n5_
              have HO524 := n6_
              have HO527 := n7_
              have HO530 := n8_
              have BK460 := n9_
              have BK461 := n10_
              have BK483 := n11_
              have BK490 := n12_
              have HB := n13_
              clear n0_ n1_ n2_ n3_ n4_ n5_ n6_ n7_ n8_ n9_ n10_ n11_ n12_ n13_
              (try clear hb)
              (try clear hb2)
              (try clear hk)
              (try clear hi)
              (try clear ho0)
              refine hK.out _ _ ⟨(blk_cell BK460.out 0).trans rfl, (blk_cell BK460.out 1).trans rfl, (blk_cell BK460.out 2).trans rfl, (blk_cell BK461.out 0).trans rfl, (blk_cell BK461.out 1).trans rfl⟩ (fun hHeld => ?_)
              clear hK K
              refine norm_ (a' := ?_) ?_ ?_
              rotate_left
              ·show Act.put _ (some 79) _ = _
               simp only [Act.put, List.setIfInBounds_toArray, List.set_cons_zero, List.set_cons_succ, i64_w, i32_w]
               rfl
              refine pure_ (i := 5) (N := some 13) (v := ?_) (a' := ?_) (bt_ 6 63) rfl rfl (by kernel_rfl) (fun _ _ _ h => h) (Or.inl ⟨by rfl, ?_⟩) ?_ ?_
              rotate_left
              ·intro w'
               go_simp
               with_reducible rfl
              rotate_left
              ·simp only [Act.put, List.setIfInBounds_toArray, List.set_cons_zero, List.set_cons_succ, i64_w, i32_w]
               rfl
              refine done_ (by kernel_rfl) ?_
              obtain ⟨Ao108, co108, eo108⟩ := Kd.R_slice HO530.out
              subst eo108
              try go_wp2_with (first | ((with_reducible refine gate_callee (f := 15) rfl ?_); refine gm_ (some 82) Try.func15 #[.slice Ao108 t528.length co108, .slice Ao69 t475.length co69] rfl ?_; (with_reducible refine (laws_eqDependS.calls kj34 _ _ t528 _ _ t475 true _ ?side1 ?side2 ?side3 ?side4 A95.out).mono ?_); (case side1 => repeat (first | exact (Kd.R_reads' HO530.out).2.2 | (with_reducible refine Kd.C_alloc ?_ _) | (with_reducible refine Kd.C_drewN ?_ _) | (with_reducible refine Kd.C_drew ?_))); (case side2 => exact (Kd.R_reads' HO530.out).2.1); (case side3 => repeat (first | exact (Kd.R_reads' HO_6.out).2.2 | (with_reducible refine Kd.C_alloc ?_ _) | (with_reducible refine Kd.C_drewN ?_ _) | (with_reducible refine Kd.C_drew ?_))); (case side4 => exact (Kd.R_reads' HO_6.out).2.1); rintro e w109 ⟨rfl, hb⟩; refine ⟨_, rfl, ?_⟩; replace HO_6 := Aside0.mk (Kd.R_below (ra_ HO_6.out) hb); replace HO_9 := Aside0.mk (Kd.R_below (ra_ HO_9.out) hb); replace HO_484002 := Aside0.mk (Kd.R_below (ra_ HO_484002.out) hb); replace HO_491000 := Aside0.mk (Kd.R_below (ra_ HO_491000.out) hb); replace HO_491001 := Aside0.mk (Kd.R_below (ra_ HO_491001.out) hb); replace HO521 := Aside0.mk (Kd.R_below (ra_ HO521.out) hb); replace HO524 := Aside0.mk (Kd.R_below (ra_ HO524.out) hb); replace HO527 := Aside0.mk (Kd.R_below (ra_ HO527.out) hb); replace HO530 := Aside0.mk (Kd.R_below (ra_ HO530.out) hb); replace BK460 := Aside0.mk (bk_ BK460.out hb); replace BK461 := Aside0.mk (bk_ BK461.out hb); replace BK483 := Aside0.mk (bk_ BK483.out hb); replace BK490 := Aside0.mk (bk_ BK490.out hb); replace HB := Aside0.mk (bs_ HB.out hb); (try clear hb)) | ((with_reducible refine gate_callee (f := 17) rfl ?_); refine goesL_ (some 86) rfl rfl Try.func17 (by kernel_rfl) rfl #[.slice Ao68 t515.length co68, .int .i64 1] rfl (by (try simp only [List.map_toArray, List.map_cons, List.map_nil]); first | done | (rw [show t515.length = t491.length from (Kd.R_reads' HO_9.out).1.symm] <;> rfl) | rfl | (simp only [List.length_drop, List.length_take]; rfl)) ?_; (with_reducible refine (laws_heldDependS.calls kj34 _ _ t515 1 t532 _ ?side1 ?side2 A97.out).mono ?_); (case side1 => repeat (first | exact (Kd.R_reads' HO_9.out).2.2 | (with_reducible refine Kd.C_alloc ?_ _) | (with_reducible refine Kd.C_drewN ?_ _) | (with_reducible refine Kd.C_drew ?_))); (case side2 => rw [show t515.length = t491.length from (Kd.R_reads' HO_9.out).1.symm]; exact (Kd.R_reads' HO_9.out).2.1); rintro e w' ⟨rfl, ⟨nd, rfl⟩⟩; refine ⟨_, rfl, ?_⟩))
              go_ret
              exact ⟨fin_, bb_ HB.out⟩
             ·rw [if_neg c99] at H
              exact absurd H (by simp)
           ·replace c96 := Bool.eq_false_iff.mpr c96
            subst c96
            rw [if_neg (show ¬ (false = true) by decide)] at H
            exact absurd H (by simp)
          ·rw [if_neg c91] at H
           exact absurd H (by simp)
     ·replace c32 := Bool.eq_false_iff.mpr c32
      subst c32
      rw [if_neg (show ¬ (false = true) by decide)] at H
      exact absurd H (by simp)
    ·replace c29 := Bool.eq_false_iff.mpr c29
     subst c29
     rw [if_neg (show ¬ (false = true) by decide)] at H
     exact absurd H (by simp)
   ·replace c26 := Bool.eq_false_iff.mpr c26
    subst c26
    rw [if_neg (show ¬ (false = true) by decide)] at H
    exact absurd H (by simp)

end Go.Proofs.Ytimdefbpoddoaaa.PFnExactClassDepends
-- thin
