/- Each function that the law comes to, as a plain function, with the proof that the call in the model gives what that function says (written by a program of this session out of the translation). No condition. -/
import Derived.Test.YtimdefbpoddoaaaPFnExactClassDependsx0
import Derived.Test.YtimdefbpoddoaaaPFnExactClassDependsx3
import Derived.Test.YtimdefbpoddoaaaPFnExactClassDependsx11
import Derived.Test.YtimdefbpoddoaaaPFnExactClassDependsx13
import Derived.Test.YtimdefbpoddoaaaPFnExactClassDependsx14
import Derived.Test.YtimdefbpoddoaaaPFnExactClassDependsx15
import Derived.Test.YtimdefbpoddoaaaPFnExactClassDependsx16
namespace Go.Proofs.Ytimdefbpoddoaaa.PFnExactClassDepends
open Go.RowKit Go.Proofs.YtimdefbpoddoaaaW.PrintWords Go.Proofs.YtimdefbpoddoaaaW.PrintLast Go.Proofs.YtimdefbpoddoaaaW.PrintMore
attribute [local go_sem] max2_int min2_int max_two min_two max_three min_three max_four min_four   -- for this text's walks alone
set_option linter.unusedVariables false
set_option linter.unusedSimpArgs false

/-! ### impl_MergeDepends: function 90 -/
def impl_MergeDepends.f (k : Nat) (l0 l1 : List S94) : Option (List S94) := (impl_DependsOk.f k l0).bind fun b => (if b = true then ((impl_DependsOk.f k l1).bind fun c => (if c = true then (if l0.length + l1.length < 4398046511104 then impl_arranged.f (l0 ++ l1) else none) else (some []))) else (some []))
theorem impl_MergeDepends.mono (l0 l1 : List S94) : ∀ k, LeO (impl_MergeDepends.f k l0 l1) (impl_MergeDepends.f (k + 1) l0 l1) := by
 intro k
 unfold impl_MergeDepends.f
 exact LeO.bind (impl_DependsOk.mono _ _) (fun _ => LeO.ite (LeO.bind (impl_DependsOk.mono _ _) (fun _ => LeO.ite (LeO.ite (LeO.refl _) (LeO.refl _)) (LeO.refl _))) (LeO.refl _))
theorem impl_MergeDepends.inf : (Try.prog.info? 94).map (fun i => (i.zero, i.size, i.bytes)) = some (some (.agg #[(.int .i64 0), (.int .i64 0)]), 2, 16) := by kernel_rfl
set_option maxHeartbeats 2000000 in
set_option maxRecDepth 100000 in
theorem impl_MergeDepends.grow (n : Nat) (z : Int) (hzn : z = (n : Int)) (w : World) (hn : n < 4398046511104) :
  Calls Try.prog 153 #[.slice none 0 0, .int .i64 z] w fun e w' => ∃ v, e = .returned v ∧ Kd.R k94 94 w' w.heap.size (fun _ => True) v [] ∧ Below w.heap.size w w' := by
 subst hzn
 have h0 : decide ((n : Int) < 0) = false := decide_eq_false (by omega)
 have hw : IntKind.i64.wrap ((n : Int) - 0) = (n : Int) := by rw [IntKind.wrap_i64]; omega
 by_cases hz : n = 0
 ·subst hz
  go_enter Try.func153, Try.ntmps153
  go_wp2
  go_ret
  exact ⟨.slice none 0 0, rfl, ⟨fun _ _ => trivial, [], ⟨rfl, Or.inl ⟨rfl, rfl⟩⟩, Reps.none _ _⟩, Below.refl _ _⟩
 ·have h1 : decide (0 < (n : Int)) = true := decide_eq_true (by omega)
  have h2 : decide ((n : Int) > 0) = true := decide_eq_true (by omega)
  go_enter Try.func153, Try.ntmps153
  have hu3 : Try.prog.underlying 3 = some (.int .i64) := by kernel_rfl
  obtain ⟨i0, hi, hzz⟩ := Option.map_eq_some_iff.1 impl_MergeDepends.inf
  simp only [Prod.mk.injEq] at hzz
  obtain ⟨z1, z2, z3⟩ := hzz
  go_wp2_with (first | ((with_reducible refine gate_builtin (b := .append) (xs := #[.tmp 20, .tmp 21]) rfl ?_); at_builtin; refine Go.Lib.wpList_append_run _ rfl _ _ _ _ rfl _ _ rfl rfl _ _ (Go.Lib.run_append_nil_zeros _ _ _ _ 94 i0 _ .i64 .i64 Try.underlying22 hu3 hi z1 n (by omega) (by rw [z2]; omega) (by omega) (by rw [z3]; omega)) ?_))
  go_ret
  have hge := grownCap_ge w n 0 94
  refine ⟨_, rfl, Kd.R_drew ⟨fun _ _ => trivial, [], ⟨rfl, Or.inr ⟨w.heap.size, grownCap w n 0 94, _, rfl, Nat.le_refl _, blk_new _ _, Nat.zero_le _, grownCap_le_maxLen _ _ _ _ (by have : maxLen = 9223372036854775807 := rfl; omega), ?_, by simp⟩⟩, Reps.none _ _⟩, bb_ (Below.refl _ _)⟩
  show _ = grownCap w n 0 94 * 2
  simp [Builtin.zeroCells]
  omega
set_option maxHeartbeats 4000000 in
set_option maxRecDepth 100000 in
/-- slices.Concat of two lists. -/
theorem impl_MergeDepends.cat (A0 : Option Addr) (c0 : Nat) (l0 : List S94) (A1 : Option Addr) (c1 : Nat) (l1 : List S94) (gx : Nat) (w : World) (hr0 : Kd.C k94 w A0 l0.length l0) (hr1 : Kd.C k94 w A1 l1.length l1)
  (bx : w.heap[gx]? = some (.cells #[.slice A0 l0.length c0, .slice A1 l1.length c1] 22 (0, 0))) (hl : l0.length + l1.length < 4398046511104) :
  Calls Try.prog 129 #[.slice (some ⟨gx, 0, none⟩) 2 2] w fun e w' => ∃ v, e = .returned v ∧ Kd.R k94 94 w' w.heap.size (fun _ => True) v (l0 ++ l1) ∧ Below w.heap.size w w' := by
 obtain ⟨x0, x1, fx0, fx1⟩ := cz2_ bx
 have HR0 := Aside0.mk hr0
 have HR1 := Aside0.mk hr1
 have BX := Aside0.mk bx
 have HL := Aside0.mk hl
 have HB := Aside0.mk (Below.refl w.heap.size w)
 have p0 : wrap64 (l0.length : Int) = (l0.length : Int) := by rw [← i64_w, IntKind.wrap_i64]; omega
 have p1 : wrap64 ((l0.length : Int) + (l1.length : Int)) = (l0.length : Int) + (l1.length : Int) := by rw [← i64_w, IntKind.wrap_i64]; omega
 have d0 : decide ((l0.length : Int) < 0) = false := decide_eq_false (by omega)
 have d1 : decide ((l0.length : Int) + (l1.length : Int) < 0) = false := decide_eq_false (by omega)
 clear hr0 hr1 bx hl
 go_enter Try.func129, Try.ntmps129
 go_wp2
 go_loopg [3, 11] 2 (fun gk v3 v11 wr => ∃ q : Nat, wr = w.drewN q ∧ ((v11 = .int .i64 0 ∧ v3 = .int .i64 0 ∧ 2 ≤ gk) ∨ (v11 = .int .i64 1 ∧ v3 = .int .i64 (l0.length : Int) ∧ 1 ≤ gk) ∨ (v11 = .int .i64 2 ∧ v3 = .int .i64 ((l0.length : Int) + (l1.length : Int)))))
 case atStart => exact ⟨0, rfl, Or.inl ⟨rfl, rfl, Nat.le_refl _⟩⟩
 case round =>
  obtain ⟨q, rfl, ⟨rfl, rfl, hk⟩ | ⟨rfl, rfl, hk⟩ | ⟨rfl, rfl⟩⟩ := hrel
  ·go_wp2
   go_roundg 1
   case measure => omega
   case rel => exact ⟨_, rfl, Or.inr (Or.inl ⟨rfl, by rw [p0], Nat.le_refl _⟩)⟩
  ·go_wp2
   go_roundg 0
   case measure => omega
   case rel => exact ⟨_, rfl, Or.inr (Or.inr ⟨rfl, by rw [p1]⟩)⟩
  ·clear p0 p1 d0 d1
   go_wp2_with (first | (go_at_call 153; refine (impl_MergeDepends.grow (l0.length + l1.length) _ (Int.natCast_add _ _).symm _ HL.out).mono ?_; rintro e w1 ⟨v1, rfl, hR, hb⟩; have HO := Aside0.mk (Kd.R_lower hR (bz_ HB.out)); have HB1 := Aside0.mk (bs_ HB.out hb); have BX1 := Aside0.mk (bk_ BX.out hb); clear hR hb x0 x1 fx0 fx1; obtain ⟨Av, cv, rfl⟩ := Kd.R_slice HO.out))
   go_loopg [6, 27] 2 (fun gk v6 v27 wr => ∃ (qs : List S94), Aside0 (Kd.R k94 94 wr w.heap.size (fun _ => True) v6 qs) ∧ Aside0 (Below w.heap.size w wr) ∧ ((v27 = .int .i64 0 ∧ qs = [] ∧ 2 ≤ gk) ∨ (v27 = .int .i64 1 ∧ qs = l0 ∧ 1 ≤ gk) ∨ (v27 = .int .i64 2 ∧ qs = l0 ++ l1)))
   case atStart => exact ⟨[], ⟨ra_ HO.out⟩, ⟨bb_ HB1.out⟩, Or.inl ⟨rfl, rfl, Nat.le_refl _⟩⟩
   case round =>
    clear HO HB1 BX1 HB
    obtain ⟨qs, HO, HB, ⟨rfl, rfl, hk⟩ | ⟨rfl, rfl, hk⟩ | ⟨rfl, rfl⟩⟩ := hrel
    ·obtain ⟨x0, x1, fx0, fx1⟩ := cz2_ (blk_below BX.out HB.out)
     go_wp2_with (first | ((with_reducible refine gate_builtin (b := .append) (xs := #[.tmp 31, .tmp 32]) rfl ?_); at_builtin; refine Kd.R_append_rows k94 (w0 := w) w.heap.size rfl (.tmp 31) (.tmp 32) 22 94 (.agg #[(.int .i64 0), (.int .i64 0)]) 16 rfl Try.underlying22 impl_MergeDepends.inf rfl (by decide) (by omega) _ [] l0 _ _ _ (fun _ => True) (fun _ => False) rfl rfl ?aO ?aR (fun _ _ h => h) (fun _ h => h.elim) ?aF ?aB ?aS ?aL ?_; (case aO => exact ra_ HO.out); (case aR => exact cb_ HR0.out HB.out); (case aF => exact fun _ _ => trivial); (case aB => exact bb_ HB.out); (case aS => exact bz_ HB.out); (case aL => have := HL.out; simp only [List.length_nil]; omega); intro v2 w2 ho hb hg hat; have HO2 := Aside0.mk ho; have HB2 := Aside0.mk hb; clear ho hb hg hat))
     go_roundg 1
     case measure => omega
     case rel => exact ⟨l0, ⟨ra_ HO2.out⟩, ⟨bb_ HB2.out⟩, Or.inr (Or.inl ⟨rfl, rfl, Nat.le_refl _⟩)⟩
    ·obtain ⟨x0, x1, fx0, fx1⟩ := cz2_ (blk_below BX.out HB.out)
     go_wp2_with (first | ((with_reducible refine gate_builtin (b := .append) (xs := #[.tmp 31, .tmp 32]) rfl ?_); at_builtin; refine Kd.R_append_rows k94 (w0 := w) w.heap.size rfl (.tmp 31) (.tmp 32) 22 94 (.agg #[(.int .i64 0), (.int .i64 0)]) 16 rfl Try.underlying22 impl_MergeDepends.inf rfl (by decide) (by omega) _ qs l1 _ _ _ (fun _ => True) (fun _ => False) rfl rfl ?aO ?aR (fun _ _ h => h) (fun _ h => h.elim) ?aF ?aB ?aS ?aL ?_; (case aO => exact ra_ HO.out); (case aR => exact cb_ HR1.out HB.out); (case aF => exact fun _ _ => trivial); (case aB => exact bb_ HB.out); (case aS => exact bz_ HB.out); (case aL => have := HL.out; omega); intro v2 w2 ho hb hg hat; have HO2 := Aside0.mk ho; have HB2 := Aside0.mk hb; clear ho hb hg hat))
     go_roundg 0
     case measure => omega
     case rel => exact ⟨qs ++ l1, ⟨ra_ HO2.out⟩, ⟨bb_ HB2.out⟩, Or.inr (Or.inr ⟨rfl, rfl⟩)⟩
    ·go_wp2
     go_ret
     exact ⟨_, rfl, ra_ HO.out, bb_ HB.out⟩
theorem impl_MergeDepends.e0 {P : Prop} (h : P := by
 go_enter Try.func90, Try.ntmps90
 go_wp2_with (first | (go_at_call 124; (with_reducible refine (impl_DependsOk.calls k A0 c0 l0 _ _ ?side1 HC0.out A1_.out).mono ?_); (case side1 => exact cb_ HR0.out HB.out); rintro e w_0 ⟨rfl, hb⟩; replace HB := Aside0.mk (bs_ HB.out hb); (try clear hb); clear A1_) | (go_at_call 124; (with_reducible refine (impl_DependsOk.calls k A1 c1 l1 _ _ ?side2 HC1.out A2_.out).mono ?_); (case side2 => exact cb_ HR1.out HB.out); rintro e w_0 ⟨rfl, hb⟩; replace HB := Aside0.mk (bs_ HB.out hb); (try clear hb)))
 go_ret
 exact ⟨.slice none 0 0, rfl, ⟨fun _ _ => trivial, [], ⟨rfl, Or.inl ⟨rfl, rfl⟩⟩, Reps.none _ _⟩, bb_ HB.out⟩) : P := h
set_option maxHeartbeats 4000000 in
set_option maxRecDepth 100000 in
theorem impl_MergeDepends.calls (k : Nat) (A0 : Option Addr) (c0 : Nat) (l0 : List S94) (A1 : Option Addr) (c1 : Nat) (l1 : List S94) (r : List S94) (w : World) (hr0 : Kd.C k94 w A0 l0.length l0) (hc0 : l0.length ≤ c0) (hr1 : Kd.C k94 w A1 l1.length l1) (hc1 : l1.length ≤ c1) (h : impl_MergeDepends.f k l0 l1 = some r) :
  Calls Try.prog 90 #[.slice A0 l0.length c0, .slice A1 l1.length c1] w fun e w' => ∃ v0_ : Value, e = .returned (v0_) ∧ Kd.R k94 94 w' w.heap.size (fun _ => True) v0_ r ∧ Below w.heap.size w w' := by
 have HR0 := Aside0.mk hr0
 have HC0 := Aside0.mk hc0
 have HR1 := Aside0.mk hr1
 have HC1 := Aside0.mk hc1
 have HB := Aside0.mk (Below.refl w.heap.size w)
 clear hr0 hc0 hr1 hc1
 unfold impl_MergeDepends.f at h
 obtain ⟨b1, A10, h⟩ := Option.bind_eq_some_iff.1 h
 have A1_ := Aside0.mk A10
 clear A10
 cases b1 with
 | false =>
  have h1 : some [] = some r := h
  obtain rfl := Option.some.inj h1
  clear h h1
  exact impl_MergeDepends.e0
 | true =>
  rw [if_pos rfl] at h
  obtain ⟨b2, A20, h⟩ := Option.bind_eq_some_iff.1 h
  have A2_ := Aside0.mk A20
  clear A20
  cases b2 with
  | false =>
   have h1 : some [] = some r := h
   obtain rfl := Option.some.inj h1
   clear h h1
   exact impl_MergeDepends.e0
  | true =>
   rw [if_pos rfl] at h
   by_cases hl : l0.length + l1.length < 4398046511104
   ·rw [if_pos hl] at h
    obtain ⟨q, hq⟩ : ∃ q : List S94, l0 ++ l1 = q := ⟨_, rfl⟩
    rw [hq] at h
    have HQ := Aside0.mk hq
    have HL := Aside0.mk hl
    have HAR := Aside0.mk h
    clear hl h hq
    go_enter Try.func90, Try.ntmps90
    go_wp2_with (first | (go_at_call 124; (with_reducible refine (impl_DependsOk.calls k A0 c0 l0 _ _ ?side1 HC0.out A1_.out).mono ?_); (case side1 => exact cb_ HR0.out HB.out); rintro e w1 ⟨rfl, hb⟩; replace HB := Aside0.mk (bs_ HB.out hb); (try clear hb); clear A1_) | (go_at_call 124; (with_reducible refine (impl_DependsOk.calls k A1 c1 l1 _ _ ?side2 HC1.out A2_.out).mono ?_); (case side2 => exact cb_ HR1.out HB.out); rintro e w2 ⟨rfl, hb⟩; replace HB := Aside0.mk (bs_ HB.out hb); (try clear hb)) | (go_at_call 129; refine (impl_MergeDepends.cat A0 c0 l0 A1 c1 l1 _ _ ?side3 ?side4 (blk_new _ _) HL.out).mono ?_; (case side3 => exact cb_ HR0.out HB.out); (case side4 => exact cb_ HR1.out HB.out); rintro e w3 ⟨v3, rfl, hR, hb⟩; rw [HQ.out] at hR; have HO3 := Aside0.mk (Kd.R_lower hR (bz_ HB.out)); have HB3 := Aside0.mk (bs_ HB.out hb); clear hR hb; obtain ⟨A3, c3, rfl⟩ := Kd.R_slice HO3.out) | (go_at_call 66; (with_reducible refine (impl_arranged.calls (fun k_ => some k_ = (.slice A3 q.length c3 : Value).ownBlock) (.slice A3 q.length c3) q r w _ ?side1 ?side2 HAR.out).mono ?_); (case side1 => exact bb_ HB3.out); (case side2 => exact Kd.R_tight rfl (ra_ HO3.out)); rintro e w9 ⟨v9, rfl, ho9, hb9, hkp⟩; have HO9 := Aside0.mk (Kd.R_mono (ok' := fun k_ => True) ho9 (fun k_ hk_ => trivial)); have HB9 := Aside0.mk hb9; clear hb9 hkp ho9; obtain ⟨A9, c9, rfl⟩ := Kd.R_slice HO9.out))
    go_ret
    exact ⟨_, by first | rfl | (simp; done), ra_ HO9.out, bb_ HB9.out⟩
   ·rw [if_neg hl] at h
    cases h

/-! ### impl_ShiftDepends: function 91 -/
mutual
def impl_ShiftDepends.j0 : Nat → List (S94) → Int → Bool → Option ((List (S94)))
 | 0, _, _, _ => none
 | k + 1, x0, x1, x15 => if x15 = true then (some ([] : List (S94))) else (impl_ShiftDepends.l0 k x1 (([] : List (S94))) x0 (x0.length : Int) 0)
def impl_ShiftDepends.l0 : Nat → Int → List (S94) → List (S94) → Int → Int → Option ((List (S94)))
 | 0, _, _, _, _, _ => none
 | k + 1, x1, x5, x17, x18, x19 => if x19 < x18 then (if 0 ≤ x19 then (if x19 < (x17.length : Int) then (if x5.length < 8796093022208 then (impl_ShiftDepends.l0 k x1 (x5 ++ [(⟨wrap64 (((rd_T94 x17 x19).f0) + x1), wrap64 (((rd_T94 x17 x19).f1) + x1)⟩ : S94)]) x17 x18 (wrap64 (x19 + 1))) else (none)) else (none)) else (none)) else ((impl_DependsOk.f k x5).bind fun t429 => (if t429 = true then (some x5) else (some ([] : List (S94)))))
end
def impl_ShiftDepends.f (k : Nat) (l0 : List (S94)) (a1 : Int) : Option ((List (S94))) := (impl_DependsOk.f k l0).bind fun t419 => (if t419 = true then ((impl_inside.f a1 (-1000) 1000).bind fun t420 => (impl_ShiftDepends.j0 k l0 a1 (!t420))) else (impl_ShiftDepends.j0 k l0 a1 true))
theorem impl_ShiftDepends.mono_l : ∀ k, (∀ y0 y1 y2, LeO (impl_ShiftDepends.j0 k y0 y1 y2) (impl_ShiftDepends.j0 (k + 1) y0 y1 y2)) ∧ (∀ y0 y1 y2 y3 y4, LeO (impl_ShiftDepends.l0 k y0 y1 y2 y3 y4) (impl_ShiftDepends.l0 (k + 1) y0 y1 y2 y3 y4))
 | 0 => ⟨fun _ _ _ r h => by simp [impl_ShiftDepends.j0] at h, fun _ _ _ _ _ r h => by simp [impl_ShiftDepends.l0] at h⟩
 | k + 1 => by
  obtain ⟨ih0, ih1⟩ := impl_ShiftDepends.mono_l k
  refine ⟨?_, ?_⟩
  ·intro y0 y1 y2
   unfold impl_ShiftDepends.j0
   repeat' first
   | (with_reducible exact ih0 _ _ _)
   | (with_reducible exact ih1 _ _ _ _ _)
   | (with_reducible exact impl_DependsOk.mono _ _)
   | (with_reducible exact LeO.refl _)
   | (with_reducible exact LeO.none _)
   | (with_reducible refine LeO.ite ?_ ?_)
   | (with_reducible refine LeO.bind ?_ (fun _ => ?_))
   | exact ih0 _ _ _
   | exact ih1 _ _ _ _ _
   | exact impl_DependsOk.mono _ _
   | exact LeO.none _
   | refine LeO.ite ?_ ?_
   | refine LeO.bind ?_ (fun _ => ?_)
  ·intro y0 y1 y2 y3 y4
   unfold impl_ShiftDepends.l0
   repeat' first
   | (with_reducible exact ih0 _ _ _)
   | (with_reducible exact ih1 _ _ _ _ _)
   | (with_reducible exact impl_DependsOk.mono _ _)
   | (with_reducible exact LeO.refl _)
   | (with_reducible exact LeO.none _)
   | (with_reducible refine LeO.ite ?_ ?_)
   | (with_reducible refine LeO.bind ?_ (fun _ => ?_))
   | exact ih0 _ _ _
   | exact ih1 _ _ _ _ _
   | exact impl_DependsOk.mono _ _
   | exact LeO.none _
   | refine LeO.ite ?_ ?_
   | refine LeO.bind ?_ (fun _ => ?_)
theorem impl_ShiftDepends.mono : ∀ a0 a1 k, LeO (impl_ShiftDepends.f k a0 a1) (impl_ShiftDepends.f (k + 1) a0 a1) := by
 intro a0 a1 k
 obtain ⟨ih0, ih1⟩ := impl_ShiftDepends.mono_l k
 unfold impl_ShiftDepends.f
 repeat' first
   | (with_reducible exact ih0 _ _ _)
   | (with_reducible exact ih1 _ _ _ _ _)
   | (with_reducible exact impl_DependsOk.mono _ _)
   | (with_reducible exact LeO.refl _)
   | (with_reducible exact LeO.none _)
   | (with_reducible refine LeO.ite ?_ ?_)
   | (with_reducible refine LeO.bind ?_ (fun _ => ?_))
   | exact ih0 _ _ _
   | exact ih1 _ _ _ _ _
   | exact impl_DependsOk.mono _ _
   | exact LeO.none _
   | refine LeO.ite ?_ ?_
   | refine LeO.bind ?_ (fun _ => ?_)
theorem impl_ShiftDepends.e0 {P : Prop} (h : P := by
 go_wp2_with (first | ((with_reducible refine gate_callee (f := 124) rfl ?_); refine gm_ (some 37) Try.func124 #[.slice Ao23 x5_2.length co23] rfl ?_; (with_reducible refine (impl_DependsOk.calls k2 _ _ x5_2 _ _ ?side1 ?side2 A19.out).mono ?_); (case side1 => repeat (first | exact (Kd.R_reads' HO_5.out).2.2 | (with_reducible refine Kd.C_alloc ?_ _) | (with_reducible refine Kd.C_drewN ?_ _) | (with_reducible refine Kd.C_drew ?_))); (case side2 => exact (Kd.R_reads' HO_5.out).2.1); rintro e w_0 ⟨rfl, hb⟩; refine ⟨_, rfl, ?_⟩; replace HO_5 := Aside0.mk (Kd.R_below (ra_ HO_5.out) hb); replace HB := Aside0.mk (bs_ HB.out hb); (try clear hb)))
 go_ret
 exact ⟨_, fin_, by first | exact Kd.R_nil _ _ _ _ _ | exact Kd.N_nil _ _ _ _ _ | exact Kd.V_nil _ _ _ _ _ | exact Kd.Q_nil _ _ _ _ _ | exact Kd.S_nil _ _ _ _ _, bb_ HB.out⟩) : P := h
set_option maxHeartbeats 8000000 in
set_option maxRecDepth 100000 in
theorem impl_ShiftDepends.calls (k : Nat) (A0 : Option Addr) (c0 : Nat) (l0 : List (S94)) (a1 : Int) (r : List (S94)) (w : World) (hr0 : Kd.C k94 w A0 l0.length l0) (hc0 : l0.length ≤ c0) (h : impl_ShiftDepends.f k l0 a1 = some r) :
  Calls Try.prog 91 #[.slice A0 l0.length c0, .int .i64 a1] w fun e w' => ∃ v0_ : Value, e = .returned (v0_) ∧ Kd.R k94 94 w' w.heap.size (fun _ => True) v0_ r ∧ Below w.heap.size w w' := by
 have hu94 := Try.underlying94
 have HR0 := Aside0.mk hr0
 have HC0 := Aside0.mk hc0
 clear hr0 hc0
 have HB := Aside0.mk (Below.refl w.heap.size w)
 have H : ((impl_DependsOk.f k l0).bind fun t419 => (if t419 = true then ((impl_inside.f a1 (-1000) 1000).bind fun t420 => (impl_ShiftDepends.j0 k l0 a1 (!t420))) else (impl_ShiftDepends.j0 k l0 a1 true))) = some r := h
 clear h
 have HC3 := Aside0.mk H
 clear H
 go_enter Try.func91, Try.ntmps91
 go_upto_region 1 with (fail)
 go_cut [15] (fun v15 wc => ∃ (kq : Nat) (x15_2 : Bool), v15 = .bool x15_2 ∧ Aside0 (impl_ShiftDepends.j0 kq l0 a1 x15_2 = some r) ∧ Aside0 (kq ≤ k) ∧ Aside0 (Below w.heap.size w wc))
 case first =>
  have H := HC3.out
  clear HC3
  replace H := Option.bind_eq_some_iff.mp H
  obtain ⟨t419, A40, H⟩ := H
  try dsimp only at H
  have A4 := Aside0.mk A40
  clear A40
  by_cases c5 : t419 = true
  ·subst c5
   rw [if_pos rfl] at H
   replace H := Option.bind_eq_some_iff.mp H
   obtain ⟨t420, A60, H⟩ := H
   try dsimp only at H
   have A6 := Aside0.mk A60
   clear A60
   have H' := Aside0.mk H
   clear H
   go_wp2_with (first | ((with_reducible refine gate_callee (f := 124) rfl ?_); refine gm_ (some 9) Try.func124 #[.slice A0 l0.length c0] rfl ?_; (with_reducible refine (impl_DependsOk.calls k _ _ l0 true _ ?side1 HC0.out A4.out).mono ?_); (case side1 => exact cb_ HR0.out HB.out); rintro e w7 ⟨rfl, hb⟩; refine ⟨_, rfl, ?_⟩; replace HB := Aside0.mk (bs_ HB.out hb); (try clear hb)) | (go_at_call 94; (with_reducible refine (impl_inside.calls a1 (-1000) 1000 t420 _ A6.out).mono ?_); rintro e w' ⟨rfl, ⟨nd, rfl⟩⟩))
   go_meet
   case rel => exact ⟨_, (!t420), ef_, H', ⟨kq_⟩, ⟨bb_ HB.out⟩⟩
  ·replace c5 := Bool.eq_false_iff.mpr c5
   subst c5
   rw [if_neg (show ¬ (false = true) by decide)] at H
   have H' := Aside0.mk H
   clear H
   go_wp2_with (first | ((with_reducible refine gate_callee (f := 124) rfl ?_); refine gm_ (some 9) Try.func124 #[.slice A0 l0.length c0] rfl ?_; (with_reducible refine (impl_DependsOk.calls k _ _ l0 false _ ?side1 HC0.out A4.out).mono ?_); (case side1 => exact cb_ HR0.out HB.out); rintro e w8 ⟨rfl, hb⟩; refine ⟨_, rfl, ?_⟩; replace HB := Aside0.mk (bs_ HB.out hb); (try clear hb)))
   go_meet
   case rel => exact ⟨_, (true), ef_, H', ⟨kq_⟩, ⟨bb_ HB.out⟩⟩
 case rest =>
  clear HC3
  obtain ⟨kq, x15_2, rfl, HA, HJ2, HB⟩ := hcut
  cases kq with
  | zero => exact absurd HA.out (by simp [impl_ShiftDepends.j0])
  | succ kj2 =>
   have H := HA.out
   clear HA
   simp only [impl_ShiftDepends.j0] at H
   by_cases c9 : x15_2 = true
   ·subst c9
    rw [if_pos rfl] at H
    obtain rfl := Option.some.inj H
    exact impl_ShiftDepends.e0
   ·replace c9 := Bool.eq_false_iff.mpr c9
    subst c9
    rw [if_neg (show ¬ (false = true) by decide)] at H
    obtain ⟨y421, hy421⟩ : ∃ y_ : List (S94), y_ = (([] : List (S94))) := ⟨_, rfl⟩
    replace H : (impl_ShiftDepends.l0 kj2 a1 y421 l0 (l0.length : Int) 0) = some r := by first | (rw [hy421]; with_reducible exact H) | (have H2_ := (Option.bind_some _ _).symm.trans H; rw [hy421]; with_reducible exact H2_) | (have H2_ := (Option.bind_some _ _).symm.trans H; with_reducible exact H2_) | with_reducible exact H | (rw [hy421]; exact H) | exact H
    have Ny421 := Aside0.mk hy421
    clear hy421
    have H' := Aside0.mk H
    clear H
    go_wp2_with (first | ((with_reducible refine gate_dst (N := 16) rfl ?_); refine Kd.R_lit k94 _ 94 ?hg (N := 16) ?hd (xs := ([] : List (S94))) (inner := []) (ok := fun _ => True) (okp := fun _ => True) ?hr ?hp (fun _ hk => hk) trivial (Below.refl _ _) (Nat.le_refl _) (by simp) ?_; (case hd => rfl); (case hg => rfl); (case hr => first | (go_simp; done) | (go_simp; rfl)); (case hp => exact (Reps.none _ _)); intro v422 w10 ho11 hb hg_ hnew_; clear hg_ hnew_; (first | rw [← Ny421.out] at ho11 | (simp only [Int.reduceToNat] at ho11; rw [← Ny421.out] at ho11)); have HO423 := Aside0.mk (Kd.R_lower ho11 (bz_ HB.out)); replace HB := Aside0.mk (bs_ HB.out hb); clear hb ho11))
    go_loopg [5, 19] kj2 (fun kq v5 v19 w' => ∃ (x5_2 : List (S94)) (x19_2 : Int), v19 = .int .i64 x19_2 ∧ Aside0 (impl_ShiftDepends.l0 kq a1 x5_2 l0 (l0.length : Int) x19_2 = some r) ∧ Aside0 (kq ≤ kj2) ∧ Aside0 (Kd.R k94 94 w' w.heap.size (fun _ => True) v5 x5_2) ∧ Aside0 (Below w.heap.size w w'))
    case atStart => exact ⟨(y421), (0), ef_, H', ⟨Nat.le_refl _⟩, ⟨by (with_reducible repeat (first | apply Kd.R_alloc | apply Kd.R_drewN | apply Kd.R_drew)); exact HO423.out⟩, ⟨bb_ HB.out⟩⟩
    case round =>
     clear H'
     try clear c9
     obtain ⟨x5_2, x19_2, rfl, HA, HK2, HO_5, HB⟩ := hrel
     cases gk with
     | zero => exact absurd HA.out (by simp [impl_ShiftDepends.l0])
     | succ k2 =>
      have H := HA.out
      clear HA
      simp only [impl_ShiftDepends.l0] at H
      by_cases c12 : x19_2 < (l0.length : Int)
      ·rw [if_pos c12] at H
       have c12b0 : decide (x19_2 < (l0.length : Int)) = true := decide_eq_true c12
       clear c12
       by_cases c13 : 0 ≤ x19_2
       ·rw [if_pos c13] at H
        have c13b0 : decide (0 ≤ x19_2) = true := decide_eq_true c13
        clear c13
        by_cases c14 : x19_2 < (l0.length : Int)
        ·rw [if_pos c14] at H
         have c14b0 : decide (x19_2 < (l0.length : Int)) = true := decide_eq_true c14
         clear c14
         by_cases c15 : x5_2.length < 8796093022208
         ·rw [if_pos c15] at H
          have LMc15 := Aside0.mk c15
          clear c15
          obtain ⟨y426, hy426⟩ : ∃ y_ : List (S94), y_ = (x5_2 ++ [(⟨wrap64 (((rd_T94 l0 x19_2).f0) + a1), wrap64 (((rd_T94 l0 x19_2).f1) + a1)⟩ : S94)]) := ⟨_, rfl⟩
          replace H : (impl_ShiftDepends.l0 k2 a1 y426 l0 (l0.length : Int) (wrap64 (x19_2 + 1))) = some r := by first | (rw [hy426]; with_reducible exact H) | (have H2_ := (Option.bind_some _ _).symm.trans H; rw [hy426]; with_reducible exact H2_) | (have H2_ := (Option.bind_some _ _).symm.trans H; with_reducible exact H2_) | with_reducible exact H | (rw [hy426]; exact H) | exact H
          have Ny426 := Aside0.mk hy426
          clear hy426
          have H' := Aside0.mk H
          clear H
          have p424 : 0 ≤ (x19_2 : Int) := of_decide_eq_true dg_
          have q424 : x19_2 < (l0.length : Int) := of_decide_eq_true dg_
          obtain ⟨ad424, e424, hx424_0, hx424_1⟩ := at_T94 HR0.out x19_2 p424 q424
          cases e424
          replace hx424_0 := (HB.out.cell (World.block_lt_of_cell? w _ hx424_0)).trans hx424_0
          replace hx424_1 := (HB.out.cell (World.block_lt_of_cell? w _ hx424_1)).trans hx424_1
          replace p424 := eq_true p424
          replace q424 := eq_true q424
          go_wp2_with (first | ((with_reducible refine gate_dst (N := 7) rfl ?_); refine box_event ?hg (N := 7) ?hd (cs := #[.int .i64 0, .int .i64 0]) (t := 94) ?hr ?_; (case hd => rfl); (case hg => rfl); (case hr => first | (go_simp; done) | (go_simp; rfl)); intro gb425 hg w16 hbox hb; replace HO_5 := Aside0.mk (Kd.R_below (Kd.R_elderB (ra_ HO_5.out) gb425 (Nat.le_of_eq hg.symm)) hb); have BK425 := Aside0.mk (hbox); have GW425 := Aside0.mk ((by rw [hg]; exact (bz_ HB.out) : w.heap.size ≤ gb425)); have GE425 := Aside0.mk ((by rw [hg]; exact (bz_ HB.out) : w.heap.size ≤ gb425)); replace HB := Aside0.mk (bs_ HB.out hb); clear hb hbox hg; obtain ⟨hcz17_0, hcz17_1, hfz17_0, hfz17_1⟩ := cz2_ BK425.out) | ((with_reducible refine gate_builtin (b := .append) (xs := #[.tmp 23, .tmp 33]) rfl ?_); at_builtin; refine Kd.R_append k94 (w0 := w) w.heap.size rfl (.tmp 23) (.tmp 33) 22 94 (.agg #[(.int .i64 0), (.int .i64 0)]) 16 rfl Try.underlying22 info94 rfl (by decide) (by omega) u5 x5_2 (⟨wrap64 (((rd_T94 l0 x19_2).f0) + a1), wrap64 (((rd_T94 l0 x19_2).f1) + a1)⟩ : S94) [.int .i64 (wrap64 (((rd_T94 l0 x19_2).f0) + a1)), .int .i64 (wrap64 (((rd_T94 l0 x19_2).f1) + a1))] (fun k_ => k_ ≠ gb425) (fun _ => False) rfl (by first | (go_simp; done) | (go_simp; rfl)) ?aP (fun _ hk => hk.elim) ?aF ?aO ?aB ?aS ?aL ?_; (case aP => exact k94_mkM _ _ _ (⟨wrap64 (((rd_T94 l0 x19_2).f0) + a1), wrap64 (((rd_T94 l0 x19_2).f1) + a1)⟩ : S94)); (case aB => exact (by repeat (first | (with_reducible first | exact HB.out | apply below_alloc | apply pw_below_drewN | apply below_drew1 | refine below_set ?_ GE425.out) | exact HB.out))); (case aF => exact (fun k_ hk => Kd.freshB (g := gb425) (o := .cells #[.int .i64 ((rd_T94 l0 x19_2).f0), .int .i64 ((rd_T94 l0 x19_2).f1)] 94 (0, 0)) (by (with_reducible repeat (first | refine blk_drewN ?_ _ | refine blk_drew ?_ | refine blk_alloc ?_ _)); refine blk_put (cs := #[.int .i64 ((rd_T94 l0 x19_2).f0), .int .i64 0]) ?_ 1 _ rfl; (with_reducible repeat (first | refine blk_drewN ?_ _ | refine blk_drew ?_ | refine blk_alloc ?_ _)); refine blk_put (cs := #[.int .i64 0, .int .i64 0]) ?_ 0 _ rfl; (with_reducible repeat (first | refine blk_drewN ?_ _ | refine blk_drew ?_ | refine blk_alloc ?_ _)); exact BK425.out) k_ hk)); (case aO => exact (rm_ (Kd.R_mono HO_5.out (fun k_ hk => (⟨hk, hk.2⟩ : _ ∧ k_ ≠ gb425))) (fun _ hk => hk.1.2))); (case aS => exact (bz_ HB.out)); (case aL => have := LMc15.out; omega); intro v427 w18 ho hb hg hat; rw [← Ny426.out] at ho; have n0_ := Aside0.mk (blk_grown (g := gb425) (o := .cells #[.int .i64 ((rd_T94 l0 x19_2).f0), .int .i64 ((rd_T94 l0 x19_2).f1)] 94 (0, 0)) (by (with_reducible repeat (first | refine blk_drewN ?_ _ | refine blk_drew ?_ | refine blk_alloc ?_ _)); refine blk_put (cs := #[.int .i64 ((rd_T94 l0 x19_2).f0), .int .i64 0]) ?_ 1 _ rfl; (with_reducible repeat (first | refine blk_drewN ?_ _ | refine blk_drew ?_ | refine blk_alloc ?_ _)); refine blk_put (cs := #[.int .i64 0, .int .i64 0]) ?_ 0 _ rfl; (with_reducible repeat (first | refine blk_drewN ?_ _ | refine blk_drew ?_ | refine blk_alloc ?_ _)); exact BK425.out) hg (Kd.R_away HO_5.out (fun _ hk => hk.2))); have n1_ := Aside0.mk (hb); have n2_ := Aside0.mk (ho); clear BK425; clear HB; clear HO_5; have BK425 := n0_; have HB := n1_; have HO428 := n2_; clear n0_ n1_ n2_; clear ho hb hg hat))
          go_roundg k2
          case measure => have := HJ2.out; have := HK2.out; omega
          case rel => exact ⟨(y426), (wrap64 (x19_2 + 1)), ef_, H', ⟨by have := HJ2.out; have := HK2.out; omega⟩, ⟨by (with_reducible repeat (first | apply Kd.R_alloc | apply Kd.R_drewN | apply Kd.R_drew)); exact Kd.R_mono HO428.out (fun _ hk => trivial)⟩, ⟨bb_ HB.out⟩⟩
         ·rw [if_neg c15] at H
          exact absurd H (by simp)
        ·rw [if_neg c14] at H
         exact absurd H (by simp)
       ·rw [if_neg c13] at H
        exact absurd H (by simp)
      ·rw [if_neg c12] at H
       have c12b0 : decide (x19_2 < (l0.length : Int)) = false := decide_eq_false c12
       clear c12
       replace H := Option.bind_eq_some_iff.mp H
       obtain ⟨t429, A190, H⟩ := H
       try dsimp only at H
       have A19 := Aside0.mk A190
       clear A190
       by_cases c20 : t429 = true
       ·subst c20
        rw [if_pos rfl] at H
        obtain rfl := Option.some.inj H
        obtain ⟨Ao21, co21, eo21⟩ := Kd.R_slice HO_5.out
        subst eo21
        go_wp2_with (first | ((with_reducible refine gate_callee (f := 124) rfl ?_); refine gm_ (some 37) Try.func124 #[.slice Ao21 x5_2.length co21] rfl ?_; (with_reducible refine (impl_DependsOk.calls k2 _ _ x5_2 true _ ?side1 ?side2 A19.out).mono ?_); (case side1 => repeat (first | exact (Kd.R_reads' HO_5.out).2.2 | (with_reducible refine Kd.C_alloc ?_ _) | (with_reducible refine Kd.C_drewN ?_ _) | (with_reducible refine Kd.C_drew ?_))); (case side2 => exact (Kd.R_reads' HO_5.out).2.1); rintro e w22 ⟨rfl, hb⟩; refine ⟨_, rfl, ?_⟩; replace HO_5 := Aside0.mk (Kd.R_below (ra_ HO_5.out) hb); replace HB := Aside0.mk (bs_ HB.out hb); (try clear hb)))
        go_ret
        exact ⟨_, fin_, by (with_reducible repeat (first | apply Kd.R_alloc | apply Kd.R_drewN | apply Kd.R_drew)); exact HO_5.out, bb_ HB.out⟩
       ·replace c20 := Bool.eq_false_iff.mpr c20
        subst c20
        rw [if_neg (show ¬ (false = true) by decide)] at H
        obtain rfl := Option.some.inj H
        obtain ⟨Ao23, co23, eo23⟩ := Kd.R_slice HO_5.out
        subst eo23
        exact impl_ShiftDepends.e0

/-! ### impl_ClassDepends: function 48 -/
def impl_ClassDepends.f (k : Nat) (a0_0 : Int) (a0_1 : Int) (l0_2 : List Int) (l1_0 : List Int) (l1_1 : List Int) : Option ((List (S94))) := (impl_ClassesOk.f k a0_0 a0_1 l0_2 l1_0 l1_1).bind fun t432 => (if t432 = true then ((impl_DependsOf.f k a0_0 a0_1 l0_2 l1_0).bind fun t433 => ((impl_DependsOf.f k a0_0 a0_1 l0_2 l1_1).bind fun t436 => ((impl_ShiftDepends.f k t436 64).bind fun t439 => ((impl_MergeDepends.f k t433 t439).bind fun t442 => (some t442))))) else (some ([] : List (S94))))
theorem impl_ClassDepends.mono : ∀ a0 a1 a2 a3 a4 k, LeO (impl_ClassDepends.f k a0 a1 a2 a3 a4) (impl_ClassDepends.f (k + 1) a0 a1 a2 a3 a4) := by
 intro a0 a1 a2 a3 a4 k
 unfold impl_ClassDepends.f
 repeat' first
   | (with_reducible exact impl_ClassesOk.mono _ _ _ _ _ _)
   | (with_reducible exact impl_DependsOf.mono _ _ _ _ _)
   | (with_reducible exact impl_MergeDepends.mono _ _ _)
   | (with_reducible exact impl_ShiftDepends.mono _ _ _)
   | (with_reducible exact LeO.refl _)
   | (with_reducible exact LeO.none _)
   | (with_reducible refine LeO.ite ?_ ?_)
   | (with_reducible refine LeO.bind ?_ (fun _ => ?_))
   | exact impl_ClassesOk.mono _ _ _ _ _ _
   | exact impl_DependsOf.mono _ _ _ _ _
   | exact impl_MergeDepends.mono _ _ _
   | exact impl_ShiftDepends.mono _ _ _
   | exact LeO.none _
   | refine LeO.ite ?_ ?_
   | refine LeO.bind ?_ (fun _ => ?_)
def impl_ClassDepends.T3 : Bool × List (List Nat × List Nat) := (true, [([], []), ([], []), ([1], [1]), ([0, 2], [0, 2]), ([], []), ([], []), ([5], [5]), ([4, 6, 3], [4, 6]), ([7, 7], [7]), ([3, 8, 8], [3, 8]), ([9, 9, 0, 1, 2, 3, 4, 5, 6, 7, 8, 9], [9])])
def impl_ClassDepends.B3 : List Nat := [0, 0, 2, 7, 0, 0, 32, 127, 255, 511, 1023]
theorem impl_ClassDepends.tab3 : rtab .any (opsOf Try.f48 3) = impl_ClassDepends.T3 := by kernel_rfl
theorem impl_ClassDepends.bits3 : waitsOk impl_ClassDepends.T3.2 impl_ClassDepends.B3 = true := by kernel_rfl
set_option maxHeartbeats 8000000 in
set_option maxRecDepth 100000 in
theorem impl_ClassDepends.calls (k : Nat) (a0_0 : Int) (a0_1 : Int) (A0_2 : Option Addr) (c0_2 : Nat) (l0_2 : List Int) (A1_0 : Option Addr) (c1_0 : Nat) (l1_0 : List Int) (A1_1 : Option Addr) (c1_1 : Nat) (l1_1 : List Int) (r : List (S94)) (w : World) (hr0_2 : Kd.C (Kd.int .i64) w A0_2 l0_2.length l0_2) (hc0_2 : l0_2.length ≤ c0_2) (hr1_0 : Kd.C (Kd.int .i64) w A1_0 l1_0.length l1_0) (hc1_0 : l1_0.length ≤ c1_0) (hr1_1 : Kd.C (Kd.int .i64) w A1_1 l1_1.length l1_1) (hc1_1 : l1_1.length ≤ c1_1) (h : impl_ClassDepends.f k a0_0 a0_1 l0_2 l1_0 l1_1 = some r) :
  Calls Try.prog 48 #[.agg #[.int .i64 a0_0, .int .i64 a0_1, .slice A0_2 l0_2.length c0_2], .agg #[.slice A1_0 l1_0.length c1_0, .slice A1_1 l1_1.length c1_1]] w fun e w' => ∃ v0_ : Value, e = .returned (v0_) ∧ Kd.R k94 94 w' w.heap.size (fun _ => True) v0_ r ∧ Below w.heap.size w w' := by
 have hu44 := Try.underlying44
 have hu70 := Try.underlying70
 have hu46 := Try.underlying46
 have HR0_2 := Aside0.mk hr0_2
 have HC0_2 := Aside0.mk hc0_2
 clear hr0_2 hc0_2
 have HR1_0 := Aside0.mk hr1_0
 have HC1_0 := Aside0.mk hc1_0
 clear hr1_0 hc1_0
 have HR1_1 := Aside0.mk hr1_1
 have HC1_1 := Aside0.mk hc1_1
 clear hr1_1 hc1_1
 have HB := Aside0.mk (Below.refl w.heap.size w)
 have H : ((impl_ClassesOk.f k a0_0 a0_1 l0_2 l1_0 l1_1).bind fun t432 => (if t432 = true then ((impl_DependsOf.f k a0_0 a0_1 l0_2 l1_0).bind fun t433 => ((impl_DependsOf.f k a0_0 a0_1 l0_2 l1_1).bind fun t436 => ((impl_ShiftDepends.f k t436 64).bind fun t439 => ((impl_MergeDepends.f k t433 t439).bind fun t442 => (some t442))))) else (some ([] : List (S94))))) = some r := h
 clear h
 replace H := Option.bind_eq_some_iff.mp H
 obtain ⟨t432, A30, H⟩ := H
 try dsimp only at H
 have A3 := Aside0.mk A30
 clear A30
 by_cases c4 : t432 = true
 ·subst c4
  rw [if_pos rfl] at H
  replace H := Option.bind_eq_some_iff.mp H
  obtain ⟨t433, A50, H⟩ := H
  try dsimp only at H
  have A5 := Aside0.mk A50
  clear A50
  replace H := Option.bind_eq_some_iff.mp H
  obtain ⟨t436, A60, H⟩ := H
  try dsimp only at H
  have A6 := Aside0.mk A60
  clear A60
  replace H := Option.bind_eq_some_iff.mp H
  obtain ⟨t439, A70, H⟩ := H
  try dsimp only at H
  have A7 := Aside0.mk A70
  clear A70
  replace H := Option.bind_eq_some_iff.mp H
  obtain ⟨t442, A80, H⟩ := H
  try dsimp only at H
  have A8 := Aside0.mk A80
  clear A80
  obtain rfl := Option.some.inj H
  go_enter Try.func48, Try.ntmps48
  try go_wp2_with (first | ((with_reducible refine gate_dst (N := 2) rfl ?_); refine box_event ?hg (N := 2) ?hd (cs := #[.int .i64 a0_0, .int .i64 a0_1, .slice A0_2 l0_2.length c0_2]) (t := 44) ?hr ?_; (case hd => rfl); (case hg => rfl); (case hr => first | (go_simp; done) | (go_simp; rfl)); intro gb430 hg w9 hbox hb; have BK430 := Aside0.mk (hbox); have GW430 := Aside0.mk ((by rw [hg]; exact (bz_ HB.out) : w.heap.size ≤ gb430)); have GE430 := Aside0.mk ((by rw [hg]; exact (bz_ HB.out) : w.heap.size ≤ gb430)); replace HB := Aside0.mk (bs_ HB.out hb); clear hb hbox hg) | ((with_reducible refine gate_dst (N := 3) rfl ?_); refine box_event ?hg (N := 3) ?hd (cs := #[.slice A1_0 l1_0.length c1_0, .slice A1_1 l1_1.length c1_1]) (t := 70) ?hr ?_; (case hd => rfl); (case hg => rfl); (case hr => first | (go_simp; done) | (go_simp; rfl)); intro gb431 hg w10 hbox hb; have BK431 := Aside0.mk (hbox); have GW431 := Aside0.mk ((by rw [hg]; exact (bz_ HB.out) : w.heap.size ≤ gb431)); have GE431 := Aside0.mk ((by rw [hg]; exact (bz_ HB.out) : w.heap.size ≤ gb431)); replace HB := Aside0.mk (bs_ HB.out hb); have NB430_431 := Aside0.mk ((by rw [hg]; exact Nat.ne_of_lt (bl_ BK430.out) : gb430 ≠ gb431)); have NB431_430 := Aside0.mk ((by rw [hg]; exact Nat.ne_of_gt (bl_ BK430.out) : gb431 ≠ gb430)); replace BK430 := Aside0.mk (bk_ BK430.out hb); clear hb hbox hg; have hnb11 := NB430_431.out; have hnc11 := NB431_430.out; obtain ⟨hcz12_0, hcz12_1, hcz12_2, hfz12_0, hfz12_1, hfz12_2⟩ := cz3_ BK430.out; obtain ⟨hcz13_0, hcz13_1, hfz13_0, hfz13_1⟩ := cz2_ BK431.out) | ((with_reducible refine gate_callee (f := 55) rfl ?_); refine gm_ (some 7) Try.func55 #[.agg #[.int .i64 a0_0, .int .i64 a0_1, .slice A0_2 l0_2.length c0_2], .agg #[.slice A1_0 l1_0.length c1_0, .slice A1_1 l1_1.length c1_1]] rfl ?_; (with_reducible refine (impl_ClassesOk.calls k a0_0 a0_1 _ _ l0_2 _ _ l1_0 _ _ l1_1 true _ ?side1 HC0_2.out ?side3 HC1_0.out ?side5 HC1_1.out A3.out).mono ?_); (case side1 => exact cb_ HR0_2.out HB.out); (case side3 => exact cb_ HR1_0.out HB.out); (case side5 => exact cb_ HR1_1.out HB.out); rintro e w14 ⟨rfl, hb⟩; refine ⟨_, rfl, ?_⟩; replace BK430 := Aside0.mk (bk_ BK430.out hb); replace BK431 := Aside0.mk (bk_ BK431.out hb); replace HB := Aside0.mk (bs_ HB.out hb); (try clear hb)))
  have n0_ := Aside0.mk (blk_drew BK430.out)
  have n1_ := Aside0.mk (blk_drew BK431.out)
  have n2_ := Aside0.mk (below_drew1 HB.out)
  clear BK430
  clear BK431
  clear HB
  have BK430 := n0_
  have BK431 := n1_
  have HB := n2_
  clear n0_ n1_ n2_
  refine start_ (n := 11) (S := fun w' => w'.cell? ⟨gb430, 0, none⟩ = some (.int .i64 a0_0) ∧ w'.cell? ⟨gb430, 1, none⟩ = some (.int .i64 a0_1) ∧ w'.cell? ⟨gb430, 2, none⟩ = some (.slice A0_2 l0_2.length c0_2) ∧ w'.cell? ⟨gb431, 0, none⟩ = some (.slice A1_0 l1_0.length c1_0) ∧ w'.cell? ⟨gb431, 1, none⟩ = some (.slice A1_1 l1_1.length c1_1)) (ds := []) #[false, false, false, false, false, false, false, false, false, false, false] (by kernel_rfl) rfl rfl ⟨(blk_cell BK430.out 0).trans rfl, (blk_cell BK430.out 1).trans rfl, (blk_cell BK430.out 2).trans rfl, (blk_cell BK431.out 0).trans rfl, (blk_cell BK431.out 1).trans rfl⟩ (fun hHeld => ?_); refine with_tabW impl_ClassDepends.tab3 impl_ClassDepends.bits3 (fun HT_ HW_ => ?_)
  generalize w14.drew = w15 at BK430 BK431 HB hHeld ⊢
  refine pu_ 1 10 (bt_ 11 2) HT_ ?_
  refine pu_ 5 14 (bt_ 11 34) HT_ ?_
  refine take_ (i := 0) (N := some 9) (v := ?_) (a' := ?_) (bt_ 11 35) rfl rfl (take_ofW HT_.out HW_.out (by kernel_rfl)) (fun _ _ _ h => h) (Or.inl ⟨by rfl, ?_⟩) hHeld ?_ ?_
  rotate_left
  ·rintro w' ⟨s0, s1, s2, s3, s4⟩
   go_simp
   with_reducible rfl
  rotate_left
  ·simp only [Act.put, List.setIfInBounds_toArray, List.set_cons_zero, List.set_cons_succ, i64_w, i32_w]
   rfl
  refine take_ (i := 2) (N := some 11) (v := ?_) (a' := ?_) (bt_ 11 39) rfl rfl (take_ofW HT_.out HW_.out (by kernel_rfl)) (fun _ _ _ h => h) (Or.inl ⟨by rfl, ?_⟩) hHeld ?_ ?_
  rotate_left
  ·rintro w' ⟨s0, s1, s2, s3, s4⟩
   go_simp
   with_reducible rfl
  rotate_left
  ·simp only [Act.put, List.setIfInBounds_toArray, List.set_cons_zero, List.set_cons_succ, i64_w, i32_w]
   rfl
  refine take_ (i := 4) (N := some 13) (v := ?_) (a' := ?_) (bt_ 11 55) rfl rfl (take_ofW HT_.out HW_.out (by kernel_rfl)) (fun _ _ _ h => h) (Or.inl ⟨by rfl, ?_⟩) hHeld ?_ ?_
  rotate_left
  ·rintro w' ⟨s0, s1, s2, s3, s4⟩
   go_simp
   with_reducible rfl
  rotate_left
  ·simp only [Act.put, List.setIfInBounds_toArray, List.set_cons_zero, List.set_cons_succ, i64_w, i32_w]
   rfl
  refine take_ (i := 6) (N := some 15) (v := ?_) (a' := ?_) (bt_ 11 119) rfl rfl (take_ofW HT_.out HW_.out (by kernel_rfl)) (fun _ _ _ h => h) (Or.inl ⟨by rfl, ?_⟩) hHeld ?_ ?_
  rotate_left
  ·rintro w' ⟨s0, s1, s2, s3, s4⟩
   go_simp
   with_reducible rfl
  rotate_left
  ·simp only [Act.put, List.setIfInBounds_toArray, List.set_cons_zero, List.set_cons_succ, i64_w, i32_w]
   rfl
  refine one_ (i := 3) (N := some 12) (bt_ 11 127) rfl rfl (one_of HT_.out (by kernel_rfl)) (by decide) (fun K hK => ?_)
  refine goes_ Try.func60 (by kernel_rfl) rfl #[.agg #[.int .i64 a0_0, .int .i64 a0_1, .slice A0_2 l0_2.length c0_2], .agg #[.slice A1_0 l1_0.length c1_0]] (by rfl) rfl rfl (by (try simp only [List.map_toArray, List.map_cons, List.map_nil]); first | done | rfl | (simp only [List.length_drop, List.length_take]; rfl)) ?_
  with_reducible refine (impl_DependsOf.calls k a0_0 a0_1 _ _ l0_2 _ _ l1_0 t433 _ ?side1 ?side2 ?side3 ?side4 A5.out).mono ?_
  (case side1 => exact cb_ HR0_2.out HB.out)
  (case side2 => exact HC0_2.out)
  (case side3 => exact cb_ HR1_0.out HB.out)
  (case side4 => exact HC1_0.out)
  rintro e w16 ⟨v434, rfl, ho0, hb⟩
  refine ⟨_, rfl, ?_⟩
  have n0_ := Aside0.mk (Kd.R_lower ho0 (bz_ HB.out))
  have n1_ := Aside0.mk (bk_ BK430.out hb)
  have n2_ := Aside0.mk (bk_ BK431.out hb)
  have n3_ := Aside0.mk (bs_ HB.out hb)
  clear BK430
  clear BK431
  clear HB
  have HO435 := n0_
  have BK430 := n1_
  have BK431 := n2_
  have HB := n3_
  clear n0_ n1_ n2_ n3_
  (try clear hb)
  (try clear hb2)
  (try clear hk)
  (try clear hi)
  (try clear ho0)
  refine hK.out _ _ ⟨(blk_cell BK430.out 0).trans rfl, (blk_cell BK430.out 1).trans rfl, (blk_cell BK430.out 2).trans rfl, (blk_cell BK431.out 0).trans rfl, (blk_cell BK431.out 1).trans rfl⟩ (fun hHeld => ?_)
  clear hK K
  refine norm_ (a' := ?_) ?_ ?_
  rotate_left
  ·show Act.put _ (some 12) _ = _
   simp only [Act.put, List.setIfInBounds_toArray, List.set_cons_zero, List.set_cons_succ, i64_w, i32_w]
   rfl
  refine one_ (i := 7) (N := some 16) (bt_ 11 255) rfl rfl (one_of HT_.out (by kernel_rfl)) (by decide) (fun K hK => ?_)
  refine goes_ Try.func60 (by kernel_rfl) rfl #[.agg #[.int .i64 a0_0, .int .i64 a0_1, .slice A0_2 l0_2.length c0_2], .agg #[.slice A1_1 l1_1.length c1_1]] (by rfl) rfl rfl (by (try simp only [List.map_toArray, List.map_cons, List.map_nil]); first | done | rfl | (simp only [List.length_drop, List.length_take]; rfl)) ?_
  with_reducible refine (impl_DependsOf.calls k a0_0 a0_1 _ _ l0_2 _ _ l1_1 t436 _ ?side1 ?side2 ?side3 ?side4 A6.out).mono ?_
  (case side1 => exact cb_ HR0_2.out HB.out)
  (case side2 => exact HC0_2.out)
  (case side3 => exact cb_ HR1_1.out HB.out)
  (case side4 => exact HC1_1.out)
  rintro e w17 ⟨v437, rfl, ho0, hb⟩
  refine ⟨_, rfl, ?_⟩
  have n0_ := Aside0.mk (Kd.R_elder' (ra_ HO435.out) (Kd.R_base ho0) hb)
  have n1_ := Aside0.mk (Kd.R_lower (Kd.R_new' ho0 (rl_ HO435.out)) (bz_ HB.out))
  have n2_ := Aside0.mk (bk_ BK430.out hb)
  have n3_ := Aside0.mk (bk_ BK431.out hb)
  have n4_ := Aside0.mk (bs_ HB.out hb)
  clear HO435
  clear BK430
  clear BK431
  clear HB
  have HO435 := n0_
  have HO438 := n1_
  have BK430 := n2_
  have BK431 := n3_
  have HB := n4_
  clear n0_ n1_ n2_ n3_ n4_
  (try clear hb)
  (try clear hb2)
  (try clear hk)
  (try clear hi)
  (try clear ho0)
  obtain ⟨Ao18, co18, eo18⟩ := Kd.R_slice HO438.out
  (first | subst eo18 | (injection eo18 with f1_ f2_ f3_; have f4_ := f1_.symm; have f5_ := f3_.symm; clear f1_ f2_ f3_; subst f4_; subst f5_))
  refine hK.out _ _ ⟨(blk_cell BK430.out 0).trans rfl, (blk_cell BK430.out 1).trans rfl, (blk_cell BK430.out 2).trans rfl, (blk_cell BK431.out 0).trans rfl, (blk_cell BK431.out 1).trans rfl⟩ (fun hHeld => ?_)
  clear hK K
  refine norm_ (a' := ?_) ?_ ?_
  rotate_left
  ·show Act.put _ (some 16) _ = _
   simp only [Act.put, List.setIfInBounds_toArray, List.set_cons_zero, List.set_cons_succ, i64_w, i32_w]
   rfl
  refine one_ (i := 8) (N := some 17) (bt_ 11 511) rfl rfl (one_of HT_.out (by kernel_rfl)) (by decide) (fun K hK => ?_)
  refine goes_ Try.func91 (by kernel_rfl) rfl #[.slice Ao18 t436.length co18, .int .i64 64] (by rfl) rfl rfl (by (try simp only [List.map_toArray, List.map_cons, List.map_nil]); first | done | rfl | (simp only [List.length_drop, List.length_take]; rfl)) ?_
  with_reducible refine (impl_ShiftDepends.calls k _ _ t436 64 t439 _ ?side1 ?side2 A7.out).mono ?_
  (case side1 => repeat (first | exact (Kd.R_reads' HO438.out).2.2 | (with_reducible refine Kd.C_alloc ?_ _) | (with_reducible refine Kd.C_drewN ?_ _) | (with_reducible refine Kd.C_drew ?_)))
  (case side2 => exact (Kd.R_reads' HO438.out).2.1)
  rintro e w19 ⟨v440, rfl, ho0, hb⟩
  refine ⟨_, rfl, ?_⟩
  have n0_ := Aside0.mk (Kd.R_elder' (ra_ HO435.out) (Kd.R_base ho0) hb)
  have n1_ := Aside0.mk (Kd.R_elder' (ra_ HO438.out) (Kd.R_base ho0) hb)
  have n2_ := Aside0.mk (Kd.R_lower (Kd.R_new' (Kd.R_new' ho0 (rl_ HO435.out)) (rl_ HO438.out)) (bz_ HB.out))
  have n3_ := Aside0.mk (bk_ BK430.out hb)
  have n4_ := Aside0.mk (bk_ BK431.out hb)
  have n5_ := Aside0.mk (bs_ HB.out hb)
  clear HO435
  clear HO438
  clear BK430
  clear BK431
  clear HB
  have HO435 := n0_
  have HO438 := n1_
  have HO441 := n2_
  have BK430 := n3_
  have BK431 := n4_
  have HB := n5_
  clear n0_ n1_ n2_ n3_ n4_ n5_
  (try clear hb)
  (try clear hb2)
  (try clear hk)
  (try clear hi)
  (try clear ho0)
  obtain ⟨Ao20, co20, eo20⟩ := Kd.R_slice HO435.out
  (first | subst eo20 | (injection eo20 with f1_ f2_ f3_; have f4_ := f1_.symm; have f5_ := f3_.symm; clear f1_ f2_ f3_; subst f4_; subst f5_))
  obtain ⟨Ao21, co21, eo21⟩ := Kd.R_slice HO441.out
  (first | subst eo21 | (injection eo21 with f1_ f2_ f3_; have f4_ := f1_.symm; have f5_ := f3_.symm; clear f1_ f2_ f3_; subst f4_; subst f5_))
  refine hK.out _ _ ⟨(blk_cell BK430.out 0).trans rfl, (blk_cell BK430.out 1).trans rfl, (blk_cell BK430.out 2).trans rfl, (blk_cell BK431.out 0).trans rfl, (blk_cell BK431.out 1).trans rfl⟩ (fun hHeld => ?_)
  clear hK K
  refine norm_ (a' := ?_) ?_ ?_
  rotate_left
  ·show Act.put _ (some 17) _ = _
   simp only [Act.put, List.setIfInBounds_toArray, List.set_cons_zero, List.set_cons_succ, i64_w, i32_w]
   rfl
  refine one_ (i := 9) (N := some 18) (bt_ 11 1023) rfl rfl (one_of HT_.out (by kernel_rfl)) (by decide) (fun K hK => ?_)
  refine goes_ Try.func90 (by kernel_rfl) rfl #[.slice Ao20 t433.length co20, .slice Ao21 t439.length co21] (by rfl) rfl rfl (by (try simp only [List.map_toArray, List.map_cons, List.map_nil]); first | done | rfl | (simp only [List.length_drop, List.length_take]; rfl)) ?_
  with_reducible refine (impl_MergeDepends.calls k _ _ t433 _ _ t439 t442 _ ?side1 ?side2 ?side3 ?side4 A8.out).mono ?_
  (case side1 => repeat (first | exact (Kd.R_reads' HO435.out).2.2 | (with_reducible refine Kd.C_alloc ?_ _) | (with_reducible refine Kd.C_drewN ?_ _) | (with_reducible refine Kd.C_drew ?_)))
  (case side2 => exact (Kd.R_reads' HO435.out).2.1)
  (case side3 => repeat (first | exact (Kd.R_reads' HO441.out).2.2 | (with_reducible refine Kd.C_alloc ?_ _) | (with_reducible refine Kd.C_drewN ?_ _) | (with_reducible refine Kd.C_drew ?_)))
  (case side4 => exact (Kd.R_reads' HO441.out).2.1)
  rintro e w22 ⟨v443, rfl, ho0, hb⟩
  refine ⟨_, rfl, ?_⟩
  have n0_ := Aside0.mk (Kd.R_elder' (ra_ HO435.out) (Kd.R_base ho0) hb)
  have n1_ := Aside0.mk (Kd.R_elder' (ra_ HO438.out) (Kd.R_base ho0) hb)
  have n2_ := Aside0.mk (Kd.R_elder' (ra_ HO441.out) (Kd.R_base ho0) hb)
  have n3_ := Aside0.mk (Kd.R_lower (Kd.R_new' (Kd.R_new' (Kd.R_new' ho0 (rl_ HO435.out)) (rl_ HO438.out)) (rl_ HO441.out)) (bz_ HB.out))
  have n4_ := Aside0.mk (bk_ BK430.out hb)
  have n5_ := Aside0.mk (bk_ BK431.out hb)
  have n6_ := Aside0.mk (bs_ HB.out hb)
  clear HO435
  clear HO438
  clear HO441
  clear BK430
  clear BK431
  clear HB
  have HO435 := n0_
  have HO438 := n1_
  have HO441 := n2_
  have HO444 := n3_
  have BK430 := n4_
  have BK431 := n5_
  have HB := n6_
  clear n0_ n1_ n2_ n3_ n4_ n5_ n6_
  (try clear hb)
  (try clear hb2)
  (try clear hk)
  (try clear hi)
  (try clear ho0)
  refine hK.out _ _ ⟨(blk_cell BK430.out 0).trans rfl, (blk_cell BK430.out 1).trans rfl, (blk_cell BK430.out 2).trans rfl, (blk_cell BK431.out 0).trans rfl, (blk_cell BK431.out 1).trans rfl⟩ (fun hHeld => ?_)
  clear hK K
  refine norm_ (a' := ?_) ?_ ?_
  rotate_left
  ·show Act.put _ (some 18) _ = _
   simp only [Act.put, List.setIfInBounds_toArray, List.set_cons_zero, List.set_cons_succ, i64_w, i32_w]
   rfl
  refine pu_ 10 4 (bt_ 11 2047) HT_ ?_
  refine done_ (done_of HT_.out (by kernel_rfl)) ?_
  try go_wp2
  go_ret
  exact ⟨_, fin_, by (with_reducible repeat (first | apply Kd.R_alloc | apply Kd.R_drewN | apply Kd.R_drew)); exact Kd.R_mono HO444.out (fun _ hk => trivial), bb_ HB.out⟩
 ·replace c4 := Bool.eq_false_iff.mpr c4
  subst c4
  rw [if_neg (show ¬ (false = true) by decide)] at H
  obtain rfl := Option.some.inj H
  go_enter Try.func48, Try.ntmps48
  go_wp2_with (first | ((with_reducible refine gate_dst (N := 2) rfl ?_); refine box_event ?hg (N := 2) ?hd (cs := #[.int .i64 a0_0, .int .i64 a0_1, .slice A0_2 l0_2.length c0_2]) (t := 44) ?hr ?_; (case hd => rfl); (case hg => rfl); (case hr => first | (go_simp; done) | (go_simp; rfl)); intro gb430 hg w23 hbox hb; have BK430 := Aside0.mk (hbox); have GW430 := Aside0.mk ((by rw [hg]; exact (bz_ HB.out) : w.heap.size ≤ gb430)); have GE430 := Aside0.mk ((by rw [hg]; exact (bz_ HB.out) : w.heap.size ≤ gb430)); replace HB := Aside0.mk (bs_ HB.out hb); clear hb hbox hg) | ((with_reducible refine gate_dst (N := 3) rfl ?_); refine box_event ?hg (N := 3) ?hd (cs := #[.slice A1_0 l1_0.length c1_0, .slice A1_1 l1_1.length c1_1]) (t := 70) ?hr ?_; (case hd => rfl); (case hg => rfl); (case hr => first | (go_simp; done) | (go_simp; rfl)); intro gb431 hg w24 hbox hb; have BK431 := Aside0.mk (hbox); have GW431 := Aside0.mk ((by rw [hg]; exact (bz_ HB.out) : w.heap.size ≤ gb431)); have GE431 := Aside0.mk ((by rw [hg]; exact (bz_ HB.out) : w.heap.size ≤ gb431)); replace HB := Aside0.mk (bs_ HB.out hb); have NB430_431 := Aside0.mk ((by rw [hg]; exact Nat.ne_of_lt (bl_ BK430.out) : gb430 ≠ gb431)); have NB431_430 := Aside0.mk ((by rw [hg]; exact Nat.ne_of_gt (bl_ BK430.out) : gb431 ≠ gb430)); replace BK430 := Aside0.mk (bk_ BK430.out hb); clear hb hbox hg; have hnb25 := NB430_431.out; have hnc25 := NB431_430.out; obtain ⟨hcz26_0, hcz26_1, hcz26_2, hfz26_0, hfz26_1, hfz26_2⟩ := cz3_ BK430.out; obtain ⟨hcz27_0, hcz27_1, hfz27_0, hfz27_1⟩ := cz2_ BK431.out) | ((with_reducible refine gate_callee (f := 55) rfl ?_); refine gm_ (some 7) Try.func55 #[.agg #[.int .i64 a0_0, .int .i64 a0_1, .slice A0_2 l0_2.length c0_2], .agg #[.slice A1_0 l1_0.length c1_0, .slice A1_1 l1_1.length c1_1]] rfl ?_; (with_reducible refine (impl_ClassesOk.calls k a0_0 a0_1 _ _ l0_2 _ _ l1_0 _ _ l1_1 false _ ?side1 HC0_2.out ?side3 HC1_0.out ?side5 HC1_1.out A3.out).mono ?_); (case side1 => exact cb_ HR0_2.out HB.out); (case side3 => exact cb_ HR1_0.out HB.out); (case side5 => exact cb_ HR1_1.out HB.out); rintro e w28 ⟨rfl, hb⟩; refine ⟨_, rfl, ?_⟩; replace BK430 := Aside0.mk (bk_ BK430.out hb); replace BK431 := Aside0.mk (bk_ BK431.out hb); replace HB := Aside0.mk (bs_ HB.out hb); (try clear hb)))
  go_ret
  exact ⟨_, fin_, by first | exact Kd.R_nil _ _ _ _ _ | exact Kd.N_nil _ _ _ _ _ | exact Kd.V_nil _ _ _ _ _ | exact Kd.Q_nil _ _ _ _ _ | exact Kd.S_nil _ _ _ _ _, bb_ HB.out⟩

/-! ### laws_eqTable: function 30 -/
def laws_eqTable.f (k : Nat) (l0_0 : List Int) (l1_0 : List Int) : Option (Bool) := (laws_eqIntS.f k l0_0 l1_0).bind fun t447 => (if t447 = true then (some true) else (none))
theorem laws_eqTable.mono : ∀ a0 a1 k, LeO (laws_eqTable.f k a0 a1) (laws_eqTable.f (k + 1) a0 a1) := by
 intro a0 a1 k
 unfold laws_eqTable.f
 repeat' first
   | (with_reducible exact laws_eqIntS.mono _ _ _)
   | (with_reducible exact LeO.refl _)
   | (with_reducible exact LeO.none _)
   | (with_reducible refine LeO.ite ?_ ?_)
   | (with_reducible refine LeO.bind ?_ (fun _ => ?_))
   | exact laws_eqIntS.mono _ _ _
   | exact LeO.none _
   | refine LeO.ite ?_ ?_
   | refine LeO.bind ?_ (fun _ => ?_)
set_option maxHeartbeats 8000000 in
set_option maxRecDepth 100000 in
theorem laws_eqTable.calls (k : Nat) (A0_0 : Option Addr) (c0_0 : Nat) (l0_0 : List Int) (A1_0 : Option Addr) (c1_0 : Nat) (l1_0 : List Int) (r : Bool) (w : World) (hr0_0 : Kd.C (Kd.int .i64) w A0_0 l0_0.length l0_0) (hc0_0 : l0_0.length ≤ c0_0) (hr1_0 : Kd.C (Kd.int .i64) w A1_0 l1_0.length l1_0) (hc1_0 : l1_0.length ≤ c1_0) (h : laws_eqTable.f k l0_0 l1_0 = some r) :
  Calls Try.prog 30 #[.agg #[.slice A0_0 l0_0.length c0_0], .agg #[.slice A1_0 l1_0.length c1_0]] w fun e w' => e = .returned (.bool r) ∧ Below w.heap.size w w' := by
 have hu46 := Try.underlying46
 have HR0_0 := Aside0.mk hr0_0
 have HC0_0 := Aside0.mk hc0_0
 clear hr0_0 hc0_0
 have HR1_0 := Aside0.mk hr1_0
 have HC1_0 := Aside0.mk hc1_0
 clear hr1_0 hc1_0
 have HB := Aside0.mk (Below.refl w.heap.size w)
 have H : ((laws_eqIntS.f k l0_0 l1_0).bind fun t447 => (if t447 = true then (some true) else (none))) = some r := h
 clear h
 replace H := Option.bind_eq_some_iff.mp H
 obtain ⟨t447, A30, H⟩ := H
 try dsimp only at H
 have A3 := Aside0.mk A30
 clear A30
 by_cases c4 : t447 = true
 ·subst c4
  rw [if_pos rfl] at H
  obtain rfl := Option.some.inj H
  go_enter Try.func30, Try.ntmps30
  go_wp2_with (first | ((with_reducible refine gate_dst (N := 2) rfl ?_); refine box_event ?hg (N := 2) ?hd (cs := #[.slice A0_0 l0_0.length c0_0]) (t := 46) ?hr ?_; (case hd => rfl); (case hg => rfl); (case hr => first | (go_simp; done) | (go_simp; rfl)); intro gb445 hg w5 hbox hb; have BK445 := Aside0.mk (hbox); have GW445 := Aside0.mk ((by rw [hg]; exact (bz_ HB.out) : w.heap.size ≤ gb445)); have GE445 := Aside0.mk ((by rw [hg]; exact (bz_ HB.out) : w.heap.size ≤ gb445)); replace HB := Aside0.mk (bs_ HB.out hb); clear hb hbox hg) | ((with_reducible refine gate_dst (N := 3) rfl ?_); refine box_event ?hg (N := 3) ?hd (cs := #[.slice A1_0 l1_0.length c1_0]) (t := 46) ?hr ?_; (case hd => rfl); (case hg => rfl); (case hr => first | (go_simp; done) | (go_simp; rfl)); intro gb446 hg w6 hbox hb; have BK446 := Aside0.mk (hbox); have GW446 := Aside0.mk ((by rw [hg]; exact (bz_ HB.out) : w.heap.size ≤ gb446)); have GE446 := Aside0.mk ((by rw [hg]; exact (bz_ HB.out) : w.heap.size ≤ gb446)); replace HB := Aside0.mk (bs_ HB.out hb); have NB445_446 := Aside0.mk ((by rw [hg]; exact Nat.ne_of_lt (bl_ BK445.out) : gb445 ≠ gb446)); have NB446_445 := Aside0.mk ((by rw [hg]; exact Nat.ne_of_gt (bl_ BK445.out) : gb446 ≠ gb445)); replace BK445 := Aside0.mk (bk_ BK445.out hb); clear hb hbox hg; have hnb7 := NB445_446.out; have hnc7 := NB446_445.out; obtain ⟨hcz8_0, hfz8_0⟩ := cz1_ BK445.out; obtain ⟨hcz9_0, hfz9_0⟩ := cz1_ BK446.out) | ((with_reducible refine gate_callee (f := 38) rfl ?_); refine gm_ (some 9) Try.func38 #[.slice A0_0 l0_0.length c0_0, .slice A1_0 l1_0.length c1_0] rfl ?_; (with_reducible refine (laws_eqIntS.calls k _ _ l0_0 _ _ l1_0 true _ ?side1 HC0_0.out ?side3 HC1_0.out A3.out).mono ?_); (case side1 => exact cb_ HR0_0.out HB.out); (case side3 => exact cb_ HR1_0.out HB.out); rintro e w' ⟨rfl, ⟨nd, rfl⟩⟩; refine ⟨_, rfl, ?_⟩))
  go_ret
  exact ⟨fin_, bb_ HB.out⟩
 ·replace c4 := Bool.eq_false_iff.mpr c4
  subst c4
  rw [if_neg (show ¬ (false = true) by decide)] at H
  exact absurd H (by simp)

/-! ### laws_eqClasses: function 49 -/
def laws_eqClasses.f (k : Nat) (l0_0 : List Int) (l0_1 : List Int) (l1_0 : List Int) (l1_1 : List Int) : Option (Bool) := (laws_eqTable.f k l0_0 l1_0).bind fun t450 => (if t450 = true then ((laws_eqTable.f k l0_1 l1_1).bind fun t451 => (if t451 = true then (some true) else (none))) else (none))
theorem laws_eqClasses.mono : ∀ a0 a1 a2 a3 k, LeO (laws_eqClasses.f k a0 a1 a2 a3) (laws_eqClasses.f (k + 1) a0 a1 a2 a3) := by
 intro a0 a1 a2 a3 k
 unfold laws_eqClasses.f
 repeat' first
   | (with_reducible exact laws_eqTable.mono _ _ _)
   | (with_reducible exact LeO.refl _)
   | (with_reducible exact LeO.none _)
   | (with_reducible refine LeO.ite ?_ ?_)
   | (with_reducible refine LeO.bind ?_ (fun _ => ?_))
   | exact laws_eqTable.mono _ _ _
   | exact LeO.none _
   | refine LeO.ite ?_ ?_
   | refine LeO.bind ?_ (fun _ => ?_)
set_option maxHeartbeats 8000000 in
set_option maxRecDepth 100000 in
theorem laws_eqClasses.calls (k : Nat) (A0_0 : Option Addr) (c0_0 : Nat) (l0_0 : List Int) (A0_1 : Option Addr) (c0_1 : Nat) (l0_1 : List Int) (A1_0 : Option Addr) (c1_0 : Nat) (l1_0 : List Int) (A1_1 : Option Addr) (c1_1 : Nat) (l1_1 : List Int) (r : Bool) (w : World) (hr0_0 : Kd.C (Kd.int .i64) w A0_0 l0_0.length l0_0) (hc0_0 : l0_0.length ≤ c0_0) (hr0_1 : Kd.C (Kd.int .i64) w A0_1 l0_1.length l0_1) (hc0_1 : l0_1.length ≤ c0_1) (hr1_0 : Kd.C (Kd.int .i64) w A1_0 l1_0.length l1_0) (hc1_0 : l1_0.length ≤ c1_0) (hr1_1 : Kd.C (Kd.int .i64) w A1_1 l1_1.length l1_1) (hc1_1 : l1_1.length ≤ c1_1) (h : laws_eqClasses.f k l0_0 l0_1 l1_0 l1_1 = some r) :
  Calls Try.prog 49 #[.agg #[.slice A0_0 l0_0.length c0_0, .slice A0_1 l0_1.length c0_1], .agg #[.slice A1_0 l1_0.length c1_0, .slice A1_1 l1_1.length c1_1]] w fun e w' => e = .returned (.bool r) ∧ Below w.heap.size w w' := by
 have hu70 := Try.underlying70
 have hu46 := Try.underlying46
 have HR0_0 := Aside0.mk hr0_0
 have HC0_0 := Aside0.mk hc0_0
 clear hr0_0 hc0_0
 have HR0_1 := Aside0.mk hr0_1
 have HC0_1 := Aside0.mk hc0_1
 clear hr0_1 hc0_1
 have HR1_0 := Aside0.mk hr1_0
 have HC1_0 := Aside0.mk hc1_0
 clear hr1_0 hc1_0
 have HR1_1 := Aside0.mk hr1_1
 have HC1_1 := Aside0.mk hc1_1
 clear hr1_1 hc1_1
 have HB := Aside0.mk (Below.refl w.heap.size w)
 have H : ((laws_eqTable.f k l0_0 l1_0).bind fun t450 => (if t450 = true then ((laws_eqTable.f k l0_1 l1_1).bind fun t451 => (if t451 = true then (some true) else (none))) else (none))) = some r := h
 clear h
 replace H := Option.bind_eq_some_iff.mp H
 obtain ⟨t450, A30, H⟩ := H
 try dsimp only at H
 have A3 := Aside0.mk A30
 clear A30
 by_cases c4 : t450 = true
 ·subst c4
  rw [if_pos rfl] at H
  replace H := Option.bind_eq_some_iff.mp H
  obtain ⟨t451, A50, H⟩ := H
  try dsimp only at H
  have A5 := Aside0.mk A50
  clear A50
  by_cases c6 : t451 = true
  ·subst c6
   rw [if_pos rfl] at H
   obtain rfl := Option.some.inj H
   go_enter Try.func49, Try.ntmps49
   go_wp2_with (first | ((with_reducible refine gate_dst (N := 2) rfl ?_); refine box_event ?hg (N := 2) ?hd (cs := #[.slice A0_0 l0_0.length c0_0, .slice A0_1 l0_1.length c0_1]) (t := 70) ?hr ?_; (case hd => rfl); (case hg => rfl); (case hr => first | (go_simp; done) | (go_simp; rfl)); intro gb448 hg w7 hbox hb; have BK448 := Aside0.mk (hbox); have GW448 := Aside0.mk ((by rw [hg]; exact (bz_ HB.out) : w.heap.size ≤ gb448)); have GE448 := Aside0.mk ((by rw [hg]; exact (bz_ HB.out) : w.heap.size ≤ gb448)); replace HB := Aside0.mk (bs_ HB.out hb); clear hb hbox hg) | ((with_reducible refine gate_dst (N := 3) rfl ?_); refine box_event ?hg (N := 3) ?hd (cs := #[.slice A1_0 l1_0.length c1_0, .slice A1_1 l1_1.length c1_1]) (t := 70) ?hr ?_; (case hd => rfl); (case hg => rfl); (case hr => first | (go_simp; done) | (go_simp; rfl)); intro gb449 hg w8 hbox hb; have BK449 := Aside0.mk (hbox); have GW449 := Aside0.mk ((by rw [hg]; exact (bz_ HB.out) : w.heap.size ≤ gb449)); have GE449 := Aside0.mk ((by rw [hg]; exact (bz_ HB.out) : w.heap.size ≤ gb449)); replace HB := Aside0.mk (bs_ HB.out hb); have NB448_449 := Aside0.mk ((by rw [hg]; exact Nat.ne_of_lt (bl_ BK448.out) : gb448 ≠ gb449)); have NB449_448 := Aside0.mk ((by rw [hg]; exact Nat.ne_of_gt (bl_ BK448.out) : gb449 ≠ gb448)); replace BK448 := Aside0.mk (bk_ BK448.out hb); clear hb hbox hg; have hnb9 := NB448_449.out; have hnc9 := NB449_448.out; obtain ⟨hcz10_0, hcz10_1, hfz10_0, hfz10_1⟩ := cz2_ BK448.out; obtain ⟨hcz11_0, hcz11_1, hfz11_0, hfz11_1⟩ := cz2_ BK449.out) | ((with_reducible refine gate_callee (f := 30) rfl ?_); refine gm_ (some 9) Try.func30 #[.agg #[.slice A0_0 l0_0.length c0_0], .agg #[.slice A1_0 l1_0.length c1_0]] rfl ?_; (with_reducible refine (laws_eqTable.calls k _ _ l0_0 _ _ l1_0 true _ ?side1 HC0_0.out ?side3 HC1_0.out A3.out).mono ?_); (case side1 => exact cb_ HR0_0.out HB.out); (case side3 => exact cb_ HR1_0.out HB.out); rintro e w12 ⟨rfl, hb⟩; refine ⟨_, rfl, ?_⟩; replace BK448 := Aside0.mk (bk_ BK448.out hb); replace BK449 := Aside0.mk (bk_ BK449.out hb); replace HB := Aside0.mk (bs_ HB.out hb); (try clear hb); obtain ⟨hcz13_0, hcz13_1, hfz13_0, hfz13_1⟩ := cz2_ BK448.out; obtain ⟨hcz14_0, hcz14_1, hfz14_0, hfz14_1⟩ := cz2_ BK449.out) | ((with_reducible refine gate_callee (f := 30) rfl ?_); refine gm_ (some 15) Try.func30 #[.agg #[.slice A0_1 l0_1.length c0_1], .agg #[.slice A1_1 l1_1.length c1_1]] rfl ?_; (with_reducible refine (laws_eqTable.calls k _ _ l0_1 _ _ l1_1 true _ ?side1 HC0_1.out ?side3 HC1_1.out A5.out).mono ?_); (case side1 => exact cb_ HR0_1.out HB.out); (case side3 => exact cb_ HR1_1.out HB.out); rintro e w15 ⟨rfl, hb⟩; refine ⟨_, rfl, ?_⟩; replace BK448 := Aside0.mk (bk_ BK448.out hb); replace BK449 := Aside0.mk (bk_ BK449.out hb); replace HB := Aside0.mk (bs_ HB.out hb); (try clear hb)))
   go_ret
   exact ⟨fin_, bb_ HB.out⟩
  ·replace c6 := Bool.eq_false_iff.mpr c6
   subst c6
   rw [if_neg (show ¬ (false = true) by decide)] at H
   exact absurd H (by simp)
 ·replace c4 := Bool.eq_false_iff.mpr c4
  subst c4
  rw [if_neg (show ¬ (false = true) by decide)] at H
  exact absurd H (by simp)

/-! ### laws_markTable: function 32 -/
def laws_markTable.f (k : Nat) (l0_0 : List Int) (a1 : Int) : Option (Int × List Int) := (laws_markIntS.f k l0_0 a1).bind fun bt453 => (some (bt453.1, bt453.2))
theorem laws_markTable.mono : ∀ a0 a1 k, LeO (laws_markTable.f k a0 a1) (laws_markTable.f (k + 1) a0 a1) := by
 intro a0 a1 k
 unfold laws_markTable.f
 repeat' first
   | (with_reducible exact laws_markIntS.mono _ _ _)
   | (with_reducible exact LeO.refl _)
   | (with_reducible exact LeO.none _)
   | (with_reducible refine LeO.ite ?_ ?_)
   | (with_reducible refine LeO.bind ?_ (fun _ => ?_))
   | exact laws_markIntS.mono _ _ _
   | exact LeO.none _
   | refine LeO.ite ?_ ?_
   | refine LeO.bind ?_ (fun _ => ?_)
set_option maxHeartbeats 8000000 in
set_option maxRecDepth 100000 in
theorem laws_markTable.calls (k : Nat) (P0_0_ : Nat → Prop) (u9000_ : Value) (l0_0 : List Int) (a1 : Int) (r1 : Int) (r2 : List Int) (w0 w : World) (hB : Below w0.heap.size w0 w) (ho0_0 : Kd.R (Kd.int .i64) 3 w w0.heap.size P0_0_ u9000_ l0_0) (h : laws_markTable.f k l0_0 a1 = some (r1, r2)) :
  Calls Try.prog 32 #[.agg #[u9000_], .int .i64 a1] w fun e w' => e = .returned (.int .i64 r1) ∧ Kd.R (Kd.int .i64) 3 w' w0.heap.size (fun k_ => (P0_0_ k_ ∨ w.heap.size ≤ k_)) u9000_ r2 ∧ Below w0.heap.size w0 w' ∧ Kept w w' (fun k_ => P0_0_ k_) := by
 have hu46 := Try.underlying46
 have HO0_0 := Aside0.mk (show Kd.R (Kd.int .i64) 3 w w0.heap.size (fun k_ => (P0_0_ k_ ∨ w.heap.size ≤ k_)) u9000_ l0_0 from Kd.R_mono ho0_0 (fun k_ hk => (.inl hk)))
 have HK := Aside0.mk (Kept.refl w (fun k_ => P0_0_ k_))
 have HW0 := Aside0.mk hB.size
 have HB := Aside0.mk hB
 clear hB
 have H : ((laws_markIntS.f k l0_0 a1).bind fun bt453 => (some (bt453.1, bt453.2))) = some (r1, r2) := h
 clear h
 replace H := Option.bind_eq_some_iff.mp H
 obtain ⟨⟨t453, t454⟩, A30, H⟩ := H
 try dsimp only at H
 have A3 := Aside0.mk A30
 clear A30
 simp only [Option.some.injEq, Prod.mk.injEq] at H
 obtain ⟨rfl, rfl⟩ := H
 obtain ⟨Ao4, co4, eo4⟩ := Kd.R_slice HO0_0.out
 subst eo4
 go_enter Try.func32, Try.ntmps32
 go_wp2_with (first | ((with_reducible refine gate_dst (N := 2) rfl ?_); refine box_event ?hg (N := 2) ?hd (cs := #[.slice Ao4 l0_0.length co4]) (t := 46) ?hr ?_; (case hd => rfl); (case hg => rfl); (case hr => first | (go_simp; done) | (go_simp; rfl)); intro gb452 hg w5 hbox hb; replace HO0_0 := Aside0.mk (Kd.R_below (ra_ HO0_0.out) hb); have BK452 := Aside0.mk (hbox); have GW452 := Aside0.mk ((by rw [hg]; exact (by first | exact HK.out.1 | exact (show Kept w _ (fun k_ => P0_0_ k_) from by repeat (first | (with_reducible first | exact HK.out | apply Kept.alloc | apply Kept.drewN | apply Kept.drew) | exact HK.out)).1) : w.heap.size ≤ gb452)); replace HK := Aside0.mk (Kept.below (S := (fun k_ => P0_0_ k_)) (by repeat (first | (with_reducible first | exact HK.out | apply Kept.alloc | apply Kept.drewN | apply Kept.drew) | exact HK.out)) hb); have GE452 := Aside0.mk ((by rw [hg]; exact (bz_ HB.out) : w0.heap.size ≤ gb452)); replace HB := Aside0.mk (bs_ HB.out hb); clear hb hbox hg; obtain ⟨hcz6_0, hfz6_0⟩ := cz1_ BK452.out) | ((with_reducible refine gate_callee (f := 39) rfl ?_); refine gm_ (some 8) Try.func39 #[.slice Ao4 l0_0.length co4, .int .i64 a1] rfl ?_; (with_reducible refine (laws_markIntS.calls k (fun k_ => some k_ = (.slice Ao4 l0_0.length co4 : Value).ownBlock) (.slice Ao4 l0_0.length co4) l0_0 a1 t453 t454 w0 _ ?side1 ?side2 A3.out).mono ?_); (case side1 => repeat (first | (with_reducible first | exact HB.out | apply below_alloc | apply pw_below_drewN | apply below_drew1 | refine below_set ?_ GE452.out) | exact HB.out)); (case side2 => exact Kd.R_tight rfl HO0_0.out); rintro e w7 ⟨rfl, hy0, hb, hkp⟩; refine ⟨_, rfl, ?_⟩; replace BK452 := Aside0.mk (blk_kept (by (with_reducible repeat (first | refine blk_drewN ?_ _ | refine blk_drew ?_ | refine blk_alloc ?_ _)); exact BK452.out) hkp (fun hs_ => (fun e_ => (Kd.R_ne HO0_0.out BK452.out (by decide)) e_) hs_)); replace HK := Aside0.mk (Kept.then_ (S := (fun k_ => P0_0_ k_)) (by repeat (first | (with_reducible first | exact HK.out | apply Kept.alloc | apply Kept.drewN | apply Kept.drew | refine Kept.setCell ?_ (.inr GW452.out) _) | exact HK.out)) hkp (fun k_ hs_ => (fun e_ => (HO0_0.out.1 k_ e_.symm)) hs_)); replace HO0_0 := Aside0.mk (Kd.R_reok rfl hy0 (fun k_ e_ => HO0_0.out.1 k_ e_)); replace HB := Aside0.mk (hb); (try clear hb); (try clear hkp); (try clear hy0)))
 go_ret
 exact ⟨fin_, by (with_reducible repeat (first | apply Kd.R_alloc | apply Kd.R_drewN | apply Kd.R_drew)); exact HO0_0.out, bb_ HB.out, by repeat (first | (with_reducible first | exact HK.out | apply Kept.alloc | apply Kept.drewN | apply Kept.drew | refine Kept.setCell ?_ (.inr GW452.out) _) | exact HK.out)⟩

end Go.Proofs.Ytimdefbpoddoaaa.PFnExactClassDepends
-- thin
