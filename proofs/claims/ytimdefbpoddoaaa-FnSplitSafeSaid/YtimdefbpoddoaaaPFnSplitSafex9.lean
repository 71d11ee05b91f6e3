/- Each function that the law comes to, as a plain function, with the proof that the call in the model gives what that function says (written by a program of this session out of the translation). No condition. -/
import Derived.Test.YtimdefbpoddoaaaPFnSplitSafex0
import Derived.Test.YtimdefbpoddoaaaPFnSplitSafex1
import Derived.Test.YtimdefbpoddoaaaPFnSplitSafex5
import Derived.Test.YtimdefbpoddoaaaPFnSplitSafex6
import Derived.Test.YtimdefbpoddoaaaPFnSplitSafex7
import Derived.Test.YtimdefbpoddoaaaPFnSplitSafex8
namespace Go.Proofs.Ytimdefbpoddoaaa.PFnSplitSafe
open Go.RowKit Go.Proofs.YtimdefbpoddoaaaW.PrintWords Go.Proofs.YtimdefbpoddoaaaW.PrintLast Go.Proofs.YtimdefbpoddoaaaW.PrintMore
attribute [local go_sem] max2_int min2_int max_two min_two max_three min_three max_four min_four   -- for this text's walks alone
set_option linter.unusedVariables false
set_option linter.unusedSimpArgs false

/-! ### impl_MergeDepends: function 90 -/
def impl_MergeDepends.f (k : Nat) (l0 l1 : List S94) : Option (List S94) := (impl_DependsOk.f k l0).bind fun b => (if b = true then ((impl_DependsOk.f k l1).bind fun c => (if c = true then (if l0.length + l1.length < 4398046511104 then impl_arranged.f (l0 ++ l1) else none) else (some []))) else (some []))
theorem impl_MergeDepends.mono (l0 l1 : List S94) : ∀ k, LeO (impl_MergeDepends.f k l0 l1) (impl_MergeDepends.f (k + 1) l0 l1) := by
 intro k
 unfold impl_MergeDepends.f
 exact LeO.bind (impl_DependsOk.mono _ _) (fun _ => LeO.ite (LeO.bind (impl_DependsOk.mono _ _) (fun _ => LeO.ite (LeO.ite (LeO.refl _) (LeO.refl _)) (LeO.refl _))) (LeO.refl _))
theorem impl_MergeDepends.inf : (Try.prog.info? 94).map (fun i => (i.zero, i.size, i.bytes)) = some (some (.agg #[(.int .i64 0), (.int .i64 0)]), 2, 16) := by kernel_rfl
set_option maxHeartbeats 2000000 in
set_option maxRecDepth 100000 in
theorem impl_MergeDepends.grow (n : Nat) (z : Int) (hzn : z = (n : Int)) (w : World) (hn : n < 4398046511104) :
  Calls Try.prog 153 #[.slice none 0 0, .int .i64 z] w fun e w' => ∃ v, e = .returned v ∧ Kd.R k94 94 w' w.heap.size (fun _ => True) v [] ∧ Below w.heap.size w w' := by
 subst hzn
 have h0 : decide ((n : Int) < 0) = false := decide_eq_false (by omega)
 have hw : IntKind.i64.wrap ((n : Int) - 0) = (n : Int) := by rw [IntKind.wrap_i64]; omega
 by_cases hz : n = 0
 ·subst hz
  go_enter Try.func153, Try.ntmps153
  go_wp2
  go_ret
  exact ⟨.slice none 0 0, rfl, ⟨fun _ _ => trivial, [], ⟨rfl, Or.inl ⟨rfl, rfl⟩⟩, Reps.none _ _⟩, Below.refl _ _⟩
 ·have h1 : decide (0 < (n : Int)) = true := decide_eq_true (by omega)
  have h2 : decide ((n : Int) > 0) = true := decide_eq_true (by omega)
  go_enter Try.func153, Try.ntmps153
  have hu3 : Try.prog.underlying 3 = some (.int .i64) := by kernel_rfl
  obtain ⟨i0, hi, hzz⟩ := Option.map_eq_some_iff.1 impl_MergeDepends.inf
  simp only [Prod.mk.injEq] at hzz
  obtain ⟨z1, z2, z3⟩ := hzz
  go_wp2_with (first | ((with_reducible refine gate_builtin (b := .append) (xs := #[.tmp 20, .tmp 21]) rfl ?_); at_builtin; refine Go.Lib.wpList_append_run _ rfl _ _ _ _ rfl _ _ rfl rfl _ _ (Go.Lib.run_append_nil_zeros _ _ _ _ 94 i0 _ .i64 .i64 Try.underlying22 hu3 hi z1 n (by omega) (by rw [z2]; omega) (by omega) (by rw [z3]; omega)) ?_))
  go_ret
  have hge := grownCap_ge w n 0 94
  refine ⟨_, rfl, Kd.R_drew ⟨fun _ _ => trivial, [], ⟨rfl, Or.inr ⟨w.heap.size, grownCap w n 0 94, _, rfl, Nat.le_refl _, blk_new _ _, Nat.zero_le _, grownCap_le_maxLen _ _ _ _ (by have : maxLen = 9223372036854775807 := rfl; omega), ?_, by simp⟩⟩, Reps.none _ _⟩, bb_ (Below.refl _ _)⟩
  show _ = grownCap w n 0 94 * 2
  simp [Builtin.zeroCells]
  omega
set_option maxHeartbeats 4000000 in
set_option maxRecDepth 100000 in
/-- slices.Concat of two lists. -/
theorem impl_MergeDepends.cat (A0 : Option Addr) (c0 : Nat) (l0 : List S94) (A1 : Option Addr) (c1 : Nat) (l1 : List S94) (gx : Nat) (w : World) (hr0 : Kd.C k94 w A0 l0.length l0) (hr1 : Kd.C k94 w A1 l1.length l1)
  (bx : w.heap[gx]? = some (.cells #[.slice A0 l0.length c0, .slice A1 l1.length c1] 22 (0, 0))) (hl : l0.length + l1.length < 4398046511104) :
  Calls Try.prog 129 #[.slice (some ⟨gx, 0, none⟩) 2 2] w fun e w' => ∃ v, e = .returned v ∧ Kd.R k94 94 w' w.heap.size (fun _ => True) v (l0 ++ l1) ∧ Below w.heap.size w w' := by
 obtain ⟨x0, x1, fx0, fx1⟩ := cz2_ bx
 have HR0 := Aside0.mk hr0
 have HR1 := Aside0.mk hr1
 have BX := Aside0.mk bx
 have HL := Aside0.mk hl
 have HB := Aside0.mk (Below.refl w.heap.size w)
 have p0 : wrap64 (l0.length : Int) = (l0.length : Int) := by rw [← i64_w, IntKind.wrap_i64]; omega
 have p1 : wrap64 ((l0.length : Int) + (l1.length : Int)) = (l0.length : Int) + (l1.length : Int) := by rw [← i64_w, IntKind.wrap_i64]; omega
 have d0 : decide ((l0.length : Int) < 0) = false := decide_eq_false (by omega)
 have d1 : decide ((l0.length : Int) + (l1.length : Int) < 0) = false := decide_eq_false (by omega)
 clear hr0 hr1 bx hl
 go_enter Try.func129, Try.ntmps129
 go_wp2
 go_loopg [3, 11] 2 (fun gk v3 v11 wr => ∃ q : Nat, wr = w.drewN q ∧ ((v11 = .int .i64 0 ∧ v3 = .int .i64 0 ∧ 2 ≤ gk) ∨ (v11 = .int .i64 1 ∧ v3 = .int .i64 (l0.length : Int) ∧ 1 ≤ gk) ∨ (v11 = .int .i64 2 ∧ v3 = .int .i64 ((l0.length : Int) + (l1.length : Int)))))
 case atStart => exact ⟨0, rfl, Or.inl ⟨rfl, rfl, Nat.le_refl _⟩⟩
 case round =>
  obtain ⟨q, rfl, ⟨rfl, rfl, hk⟩ | ⟨rfl, rfl, hk⟩ | ⟨rfl, rfl⟩⟩ := hrel
  ·go_wp2
   go_roundg 1
   case measure => omega
   case rel => exact ⟨_, rfl, Or.inr (Or.inl ⟨rfl, by rw [p0], Nat.le_refl _⟩)⟩
  ·go_wp2
   go_roundg 0
   case measure => omega
   case rel => exact ⟨_, rfl, Or.inr (Or.inr ⟨rfl, by rw [p1]⟩)⟩
  ·clear p0 p1 d0 d1
   go_wp2_with (first | (go_at_call 153; refine (impl_MergeDepends.grow (l0.length + l1.length) _ (Int.natCast_add _ _).symm _ HL.out).mono ?_; rintro e w1 ⟨v1, rfl, hR, hb⟩; have HO := Aside0.mk (Kd.R_lower hR (bz_ HB.out)); have HB1 := Aside0.mk (bs_ HB.out hb); have BX1 := Aside0.mk (bk_ BX.out hb); clear hR hb x0 x1 fx0 fx1; obtain ⟨Av, cv, rfl⟩ := Kd.R_slice HO.out))
   go_loopg [6, 27] 2 (fun gk v6 v27 wr => ∃ (qs : List S94), Aside0 (Kd.R k94 94 wr w.heap.size (fun _ => True) v6 qs) ∧ Aside0 (Below w.heap.size w wr) ∧ ((v27 = .int .i64 0 ∧ qs = [] ∧ 2 ≤ gk) ∨ (v27 = .int .i64 1 ∧ qs = l0 ∧ 1 ≤ gk) ∨ (v27 = .int .i64 2 ∧ qs = l0 ++ l1)))
   case atStart => exact ⟨[], ⟨ra_ HO.out⟩, ⟨bb_ HB1.out⟩, Or.inl ⟨rfl, rfl, Nat.le_refl _⟩⟩
   case round =>
    clear HO HB1 BX1 HB
    obtain ⟨qs, HO, HB, ⟨rfl, rfl, hk⟩ | ⟨rfl, rfl, hk⟩ | ⟨rfl, rfl⟩⟩ := hrel
    ·obtain ⟨x0, x1, fx0, fx1⟩ := cz2_ (blk_below BX.out HB.out)
     go_wp2_with (first | ((with_reducible refine gate_builtin (b := .append) (xs := #[.tmp 31, .tmp 32]) rfl ?_); at_builtin; refine Kd.R_append_rows k94 (w0 := w) w.heap.size rfl (.tmp 31) (.tmp 32) 22 94 (.agg #[(.int .i64 0), (.int .i64 0)]) 16 rfl Try.underlying22 impl_MergeDepends.inf rfl (by decide) (by omega) _ [] l0 _ _ _ (fun _ => True) (fun _ => False) rfl rfl ?aO ?aR (fun _ _ h => h) (fun _ h => h.elim) ?aF ?aB ?aS ?aL ?_; (case aO => exact ra_ HO.out); (case aR => exact cb_ HR0.out HB.out); (case aF => exact fun _ _ => trivial); (case aB => exact bb_ HB.out); (case aS => exact bz_ HB.out); (case aL => have := HL.out; simp only [List.length_nil]; omega); intro v2 w2 ho hb hg hat; have HO2 := Aside0.mk ho; have HB2 := Aside0.mk hb; clear ho hb hg hat))
     go_roundg 1
     case measure => omega
     case rel => exact ⟨l0, ⟨ra_ HO2.out⟩, ⟨bb_ HB2.out⟩, Or.inr (Or.inl ⟨rfl, rfl, Nat.le_refl _⟩)⟩
    ·obtain ⟨x0, x1, fx0, fx1⟩ := cz2_ (blk_below BX.out HB.out)
     go_wp2_with (first | ((with_reducible refine gate_builtin (b := .append) (xs := #[.tmp 31, .tmp 32]) rfl ?_); at_builtin; refine Kd.R_append_rows k94 (w0 := w) w.heap.size rfl (.tmp 31) (.tmp 32) 22 94 (.agg #[(.int .i64 0), (.int .i64 0)]) 16 rfl Try.underlying22 impl_MergeDepends.inf rfl (by decide) (by omega) _ qs l1 _ _ _ (fun _ => True) (fun _ => False) rfl rfl ?aO ?aR (fun _ _ h => h) (fun _ h => h.elim) ?aF ?aB ?aS ?aL ?_; (case aO => exact ra_ HO.out); (case aR => exact cb_ HR1.out HB.out); (case aF => exact fun _ _ => trivial); (case aB => exact bb_ HB.out); (case aS => exact bz_ HB.out); (case aL => have := HL.out; omega); intro v2 w2 ho hb hg hat; have HO2 := Aside0.mk ho; have HB2 := Aside0.mk hb; clear ho hb hg hat))
     go_roundg 0
     case measure => omega
     case rel => exact ⟨qs ++ l1, ⟨ra_ HO2.out⟩, ⟨bb_ HB2.out⟩, Or.inr (Or.inr ⟨rfl, rfl⟩)⟩
    ·go_wp2
     go_ret
     exact ⟨_, rfl, ra_ HO.out, bb_ HB.out⟩
theorem impl_MergeDepends.e0 {P : Prop} (h : P := by
 go_enter Try.func90, Try.ntmps90
 go_wp2_with (first | (go_at_call 124; (with_reducible refine (impl_DependsOk.calls k A0 c0 l0 _ _ ?side1 HC0.out A1_.out).mono ?_); (case side1 => exact cb_ HR0.out HB.out); rintro e w_0 ⟨rfl, hb⟩; replace HB := Aside0.mk (bs_ HB.out hb); (try clear hb); clear A1_) | (go_at_call 124; (with_reducible refine (impl_DependsOk.calls k A1 c1 l1 _ _ ?side2 HC1.out A2_.out).mono ?_); (case side2 => exact cb_ HR1.out HB.out); rintro e w_0 ⟨rfl, hb⟩; replace HB := Aside0.mk (bs_ HB.out hb); (try clear hb)))
 go_ret
 exact ⟨.slice none 0 0, rfl, ⟨fun _ _ => trivial, [], ⟨rfl, Or.inl ⟨rfl, rfl⟩⟩, Reps.none _ _⟩, bb_ HB.out⟩) : P := h
set_option maxHeartbeats 4000000 in
set_option maxRecDepth 100000 in
theorem impl_MergeDepends.calls (k : Nat) (A0 : Option Addr) (c0 : Nat) (l0 : List S94) (A1 : Option Addr) (c1 : Nat) (l1 : List S94) (r : List S94) (w : World) (hr0 : Kd.C k94 w A0 l0.length l0) (hc0 : l0.length ≤ c0) (hr1 : Kd.C k94 w A1 l1.length l1) (hc1 : l1.length ≤ c1) (h : impl_MergeDepends.f k l0 l1 = some r) :
  Calls Try.prog 90 #[.slice A0 l0.length c0, .slice A1 l1.length c1] w fun e w' => ∃ v0_ : Value, e = .returned (v0_) ∧ Kd.R k94 94 w' w.heap.size (fun _ => True) v0_ r ∧ Below w.heap.size w w' := by
 have HR0 := Aside0.mk hr0
 have HC0 := Aside0.mk hc0
 have HR1 := Aside0.mk hr1
 have HC1 := Aside0.mk hc1
 have HB := Aside0.mk (Below.refl w.heap.size w)
 clear hr0 hc0 hr1 hc1
 unfold impl_MergeDepends.f at h
 obtain ⟨b1, A10, h⟩ := Option.bind_eq_some_iff.1 h
 have A1_ := Aside0.mk A10
 clear A10
 cases b1 with
 | false =>
  have h1 : some [] = some r := h
  obtain rfl := Option.some.inj h1
  clear h h1
  exact impl_MergeDepends.e0
 | true =>
  rw [if_pos rfl] at h
  obtain ⟨b2, A20, h⟩ := Option.bind_eq_some_iff.1 h
  have A2_ := Aside0.mk A20
  clear A20
  cases b2 with
  | false =>
   have h1 : some [] = some r := h
   obtain rfl := Option.some.inj h1
   clear h h1
   exact impl_MergeDepends.e0
  | true =>
   rw [if_pos rfl] at h
   by_cases hl : l0.length + l1.length < 4398046511104
   ·rw [if_pos hl] at h
    obtain ⟨q, hq⟩ : ∃ q : List S94, l0 ++ l1 = q := ⟨_, rfl⟩
    rw [hq] at h
    have HQ := Aside0.mk hq
    have HL := Aside0.mk hl
    have HAR := Aside0.mk h
    clear hl h hq
    go_enter Try.func90, Try.ntmps90
    go_wp2_with (first | (go_at_call 124; (with_reducible refine (impl_DependsOk.calls k A0 c0 l0 _ _ ?side1 HC0.out A1_.out).mono ?_); (case side1 => exact cb_ HR0.out HB.out); rintro e w1 ⟨rfl, hb⟩; replace HB := Aside0.mk (bs_ HB.out hb); (try clear hb); clear A1_) | (go_at_call 124; (with_reducible refine (impl_DependsOk.calls k A1 c1 l1 _ _ ?side2 HC1.out A2_.out).mono ?_); (case side2 => exact cb_ HR1.out HB.out); rintro e w2 ⟨rfl, hb⟩; replace HB := Aside0.mk (bs_ HB.out hb); (try clear hb)) | (go_at_call 129; refine (impl_MergeDepends.cat A0 c0 l0 A1 c1 l1 _ _ ?side3 ?side4 (blk_new _ _) HL.out).mono ?_; (case side3 => exact cb_ HR0.out HB.out); (case side4 => exact cb_ HR1.out HB.out); rintro e w3 ⟨v3, rfl, hR, hb⟩; rw [HQ.out] at hR; have HO3 := Aside0.mk (Kd.R_lower hR (bz_ HB.out)); have HB3 := Aside0.mk (bs_ HB.out hb); clear hR hb; obtain ⟨A3, c3, rfl⟩ := Kd.R_slice HO3.out) | (go_at_call 66; (with_reducible refine (impl_arranged.calls (fun k_ => some k_ = (.slice A3 q.length c3 : Value).ownBlock) (.slice A3 q.length c3) q r w _ ?side1 ?side2 HAR.out).mono ?_); (case side1 => exact bb_ HB3.out); (case side2 => exact Kd.R_tight rfl (ra_ HO3.out)); rintro e w9 ⟨v9, rfl, ho9, hb9, hkp⟩; have HO9 := Aside0.mk (Kd.R_mono (ok' := fun k_ => True) ho9 (fun k_ hk_ => trivial)); have HB9 := Aside0.mk hb9; clear hb9 hkp ho9; obtain ⟨A9, c9, rfl⟩ := Kd.R_slice HO9.out))
    go_ret
    exact ⟨_, by first | rfl | (simp; done), ra_ HO9.out, bb_ HB9.out⟩
   ·rw [if_neg hl] at h
    cases h

/-! ### impl_ShiftDepends: function 91 -/
mutual
def impl_ShiftDepends.j0 : Nat → List (S94) → Int → Bool → Option ((List (S94)))
 | 0, _, _, _ => none
 | k + 1, x0, x1, x15 => if x15 = true then (some ([] : List (S94))) else (impl_ShiftDepends.l0 k x1 (([] : List (S94))) x0 (x0.length : Int) 0)
def impl_ShiftDepends.l0 : Nat → Int → List (S94) → List (S94) → Int → Int → Option ((List (S94)))
 | 0, _, _, _, _, _ => none
 | k + 1, x1, x5, x17, x18, x19 => if x19 < x18 then (if 0 ≤ x19 then (if x19 < (x17.length : Int) then (if x5.length < 8796093022208 then (impl_ShiftDepends.l0 k x1 (x5 ++ [(⟨wrap64 (((rd_T94 x17 x19).f0) + x1), wrap64 (((rd_T94 x17 x19).f1) + x1)⟩ : S94)]) x17 x18 (wrap64 (x19 + 1))) else (none)) else (none)) else (none)) else ((impl_DependsOk.f k x5).bind fun t256 => (if t256 = true then (some x5) else (some ([] : List (S94)))))
end
def impl_ShiftDepends.f (k : Nat) (l0 : List (S94)) (a1 : Int) : Option ((List (S94))) := (impl_DependsOk.f k l0).bind fun t246 => (if t246 = true then ((impl_inside.f a1 (-1000) 1000).bind fun t247 => (impl_ShiftDepends.j0 k l0 a1 (!t247))) else (impl_ShiftDepends.j0 k l0 a1 true))
theorem impl_ShiftDepends.mono_l : ∀ k, (∀ y0 y1 y2, LeO (impl_ShiftDepends.j0 k y0 y1 y2) (impl_ShiftDepends.j0 (k + 1) y0 y1 y2)) ∧ (∀ y0 y1 y2 y3 y4, LeO (impl_ShiftDepends.l0 k y0 y1 y2 y3 y4) (impl_ShiftDepends.l0 (k + 1) y0 y1 y2 y3 y4))
 | 0 => ⟨fun _ _ _ r h => by simp [impl_ShiftDepends.j0] at h, fun _ _ _ _ _ r h => by simp [impl_ShiftDepends.l0] at h⟩
 | k + 1 => by
  obtain ⟨ih0, ih1⟩ := impl_ShiftDepends.mono_l k
  refine ⟨?_, ?_⟩
  ·intro y0 y1 y2
   unfold impl_ShiftDepends.j0
   repeat' first
   | (with_reducible exact ih0 _ _ _)
   | (with_reducible exact ih1 _ _ _ _ _)
   | (with_reducible exact impl_DependsOk.mono _ _)
   | (with_reducible exact LeO.refl _)
   | (with_reducible exact LeO.none _)
   | (with_reducible refine LeO.ite ?_ ?_)
   | (with_reducible refine LeO.bind ?_ (fun _ => ?_))
   | exact ih0 _ _ _
   | exact ih1 _ _ _ _ _
   | exact impl_DependsOk.mono _ _
   | exact LeO.none _
   | refine LeO.ite ?_ ?_
   | refine LeO.bind ?_ (fun _ => ?_)
  ·intro y0 y1 y2 y3 y4
   unfold impl_ShiftDepends.l0
   repeat' first
   | (with_reducible exact ih0 _ _ _)
   | (with_reducible exact ih1 _ _ _ _ _)
   | (with_reducible exact impl_DependsOk.mono _ _)
   | (with_reducible exact LeO.refl _)
   | (with_reducible exact LeO.none _)
   | (with_reducible refine LeO.ite ?_ ?_)
   | (with_reducible refine LeO.bind ?_ (fun _ => ?_))
   | exact ih0 _ _ _
   | exact ih1 _ _ _ _ _
   | exact impl_DependsOk.mono _ _
   | exact LeO.none _
   | refine LeO.ite ?_ ?_
   | refine LeO.bind ?_ (fun _ => ?_)
theorem impl_ShiftDepends.mono : ∀ a0 a1 k, LeO (impl_ShiftDepends.f k a0 a1) (impl_ShiftDepends.f (k + 1) a0 a1) := by
 intro a0 a1 k
 obtain ⟨ih0, ih1⟩ := impl_ShiftDepends.mono_l k
 unfold impl_ShiftDepends.f
 repeat' first
   | (with_reducible exact ih0 _ _ _)
   | (with_reducible exact ih1 _ _ _ _ _)
   | (with_reducible exact impl_DependsOk.mono _ _)
   | (with_reducible exact LeO.refl _)
   | (with_reducible exact LeO.none _)
   | (with_reducible refine LeO.ite ?_ ?_)
   | (with_reducible refine LeO.bind ?_ (fun _ => ?_))
   | exact ih0 _ _ _
   | exact ih1 _ _ _ _ _
   | exact impl_DependsOk.mono _ _
   | exact LeO.none _
   | refine LeO.ite ?_ ?_
   | refine LeO.bind ?_ (fun _ => ?_)
theorem impl_ShiftDepends.e0 {P : Prop} (h : P := by
 go_wp2_with (first | ((with_reducible refine gate_callee (f := 124) rfl ?_); refine gm_ (some 37) Try.func124 #[.slice Ao23 x5_2.length co23] rfl ?_; (with_reducible refine (impl_DependsOk.calls k2 _ _ x5_2 _ _ ?side1 ?side2 A19.out).mono ?_); (case side1 => repeat (first | exact (Kd.R_reads' HO_5.out).2.2 | (with_reducible refine Kd.C_alloc ?_ _) | (with_reducible refine Kd.C_drewN ?_ _) | (with_reducible refine Kd.C_drew ?_))); (case side2 => exact (Kd.R_reads' HO_5.out).2.1); rintro e w_0 ⟨rfl, hb⟩; refine ⟨_, rfl, ?_⟩; replace HO_5 := Aside0.mk (Kd.R_below (ra_ HO_5.out) hb); replace HB := Aside0.mk (bs_ HB.out hb); (try clear hb)))
 go_ret
 exact ⟨_, fin_, by first | exact Kd.R_nil _ _ _ _ _ | exact Kd.N_nil _ _ _ _ _ | exact Kd.V_nil _ _ _ _ _ | exact Kd.Q_nil _ _ _ _ _ | exact Kd.S_nil _ _ _ _ _, bb_ HB.out⟩) : P := h
set_option maxHeartbeats 8000000 in
set_option maxRecDepth 100000 in
theorem impl_ShiftDepends.calls (k : Nat) (A0 : Option Addr) (c0 : Nat) (l0 : List (S94)) (a1 : Int) (r : List (S94)) (w : World) (hr0 : Kd.C k94 w A0 l0.length l0) (hc0 : l0.length ≤ c0) (h : impl_ShiftDepends.f k l0 a1 = some r) :
  Calls Try.prog 91 #[.slice A0 l0.length c0, .int .i64 a1] w fun e w' => ∃ v0_ : Value, e = .returned (v0_) ∧ Kd.R k94 94 w' w.heap.size (fun _ => True) v0_ r ∧ Below w.heap.size w w' := by
 have hu94 := Try.underlying94
 have HR0 := Aside0.mk hr0
 have HC0 := Aside0.mk hc0
 clear hr0 hc0
 have HB := Aside0.mk (Below.refl w.heap.size w)
 have H : ((impl_DependsOk.f k l0).bind fun t246 => (if t246 = true then ((impl_inside.f a1 (-1000) 1000).bind fun t247 => (impl_ShiftDepends.j0 k l0 a1 (!t247))) else (impl_ShiftDepends.j0 k l0 a1 true))) = some r := h
 clear h
 have HC3 := Aside0.mk H
 clear H
 go_enter Try.func91, Try.ntmps91
 go_upto_region 1 with (fail)
 go_cut [15] (fun v15 wc => ∃ (kq : Nat) (x15_2 : Bool), v15 = .bool x15_2 ∧ Aside0 (impl_ShiftDepends.j0 kq l0 a1 x15_2 = some r) ∧ Aside0 (kq ≤ k) ∧ Aside0 (Below w.heap.size w wc))
 case first =>
  have H := HC3.out
  clear HC3
  replace H := Option.bind_eq_some_iff.mp H
  obtain ⟨t246, A40, H⟩ := H
  try dsimp only at H
  have A4 := Aside0.mk A40
  clear A40
  by_cases c5 : t246 = true
  ·subst c5
   rw [if_pos rfl] at H
   replace H := Option.bind_eq_some_iff.mp H
   obtain ⟨t247, A60, H⟩ := H
   try dsimp only at H
   have A6 := Aside0.mk A60
   clear A60
   have H' := Aside0.mk H
   clear H
   go_wp2_with (first | ((with_reducible refine gate_callee (f := 124) rfl ?_); refine gm_ (some 9) Try.func124 #[.slice A0 l0.length c0] rfl ?_; (with_reducible refine (impl_DependsOk.calls k _ _ l0 true _ ?side1 HC0.out A4.out).mono ?_); (case side1 => exact cb_ HR0.out HB.out); rintro e w7 ⟨rfl, hb⟩; refine ⟨_, rfl, ?_⟩; replace HB := Aside0.mk (bs_ HB.out hb); (try clear hb)) | (go_at_call 94; (with_reducible refine (impl_inside.calls a1 (-1000) 1000 t247 _ A6.out).mono ?_); rintro e w' ⟨rfl, ⟨nd, rfl⟩⟩))
   go_meet
   case rel => exact ⟨_, (!t247), ef_, H', ⟨kq_⟩, ⟨bb_ HB.out⟩⟩
  ·replace c5 := Bool.eq_false_iff.mpr c5
   subst c5
   rw [if_neg (show ¬ (false = true) by decide)] at H
   have H' := Aside0.mk H
   clear H
   go_wp2_with (first | ((with_reducible refine gate_callee (f := 124) rfl ?_); refine gm_ (some 9) Try.func124 #[.slice A0 l0.length c0] rfl ?_; (with_reducible refine (impl_DependsOk.calls k _ _ l0 false _ ?side1 HC0.out A4.out).mono ?_); (case side1 => exact cb_ HR0.out HB.out); rintro e w8 ⟨rfl, hb⟩; refine ⟨_, rfl, ?_⟩; replace HB := Aside0.mk (bs_ HB.out hb); (try clear hb)))
   go_meet
   case rel => exact ⟨_, (true), ef_, H', ⟨kq_⟩, ⟨bb_ HB.out⟩⟩
 case rest =>
  clear HC3
  obtain ⟨kq, x15_2, rfl, HA, HJ2, HB⟩ := hcut
  cases kq with
  | zero => exact absurd HA.out (by simp [impl_ShiftDepends.j0])
  | succ kj2 =>
   have H := HA.out
   clear HA
   simp only [impl_ShiftDepends.j0] at H
   by_cases c9 : x15_2 = true
   ·subst c9
    rw [if_pos rfl] at H
    obtain rfl := Option.some.inj H
    exact impl_ShiftDepends.e0
   ·replace c9 := Bool.eq_false_iff.mpr c9
    subst c9
    rw [if_neg (show ¬ (false = true) by decide)] at H
    obtain ⟨y248, hy248⟩ : ∃ y_ : List (S94), y_ = (([] : List (S94))) := ⟨_, rfl⟩
    replace H : (impl_ShiftDepends.l0 kj2 a1 y248 l0 (l0.length : Int) 0) = some r := by first | (rw [hy248]; with_reducible exact H) | (have H2_ := (Option.bind_some _ _).symm.trans H; rw [hy248]; with_reducible exact H2_) | (have H2_ := (Option.bind_some _ _).symm.trans H; with_reducible exact H2_) | with_reducible exact H | (rw [hy248]; exact H) | exact H
    have Ny248 := Aside0.mk hy248
    clear hy248
    have H' := Aside0.mk H
    clear H
    go_wp2_with (first | ((with_reducible refine gate_dst (N := 16) rfl ?_); refine Kd.R_lit k94 _ 94 ?hg (N := 16) ?hd (xs := ([] : List (S94))) (inner := []) (ok := fun _ => True) (okp := fun _ => True) ?hr ?hp (fun _ hk => hk) trivial (Below.refl _ _) (Nat.le_refl _) (by simp) ?_; (case hd => rfl); (case hg => rfl); (case hr => first | (go_simp; done) | (go_simp; rfl)); (case hp => exact (Reps.none _ _)); intro v249 w10 ho11 hb hg_ hnew_; clear hg_ hnew_; (first | rw [← Ny248.out] at ho11 | (simp only [Int.reduceToNat] at ho11; rw [← Ny248.out] at ho11)); have HO250 := Aside0.mk (Kd.R_lower ho11 (bz_ HB.out)); replace HB := Aside0.mk (bs_ HB.out hb); clear hb ho11))
    go_loopg [5, 19] kj2 (fun kq v5 v19 w' => ∃ (x5_2 : List (S94)) (x19_2 : Int), v19 = .int .i64 x19_2 ∧ Aside0 (impl_ShiftDepends.l0 kq a1 x5_2 l0 (l0.length : Int) x19_2 = some r) ∧ Aside0 (kq ≤ kj2) ∧ Aside0 (Kd.R k94 94 w' w.heap.size (fun _ => True) v5 x5_2) ∧ Aside0 (Below w.heap.size w w'))
    case atStart => exact ⟨(y248), (0), ef_, H', ⟨Nat.le_refl _⟩, ⟨by (with_reducible repeat (first | apply Kd.R_alloc | apply Kd.R_drewN | apply Kd.R_drew)); exact HO250.out⟩, ⟨bb_ HB.out⟩⟩
    case round =>
     clear H'
     try clear c9
     obtain ⟨x5_2, x19_2, rfl, HA, HK2, HO_5, HB⟩ := hrel
     cases gk with
     | zero => exact absurd HA.out (by simp [impl_ShiftDepends.l0])
     | succ k2 =>
      have H := HA.out
      clear HA
      simp only [impl_ShiftDepends.l0] at H
      by_cases c12 : x19_2 < (l0.length : Int)
      ·rw [if_pos c12] at H
       have c12b0 : decide (x19_2 < (l0.length : Int)) = true := decide_eq_true c12
       clear c12
       by_cases c13 : 0 ≤ x19_2
       ·rw [if_pos c13] at H
        have c13b0 : decide (0 ≤ x19_2) = true := decide_eq_true c13
        clear c13
        by_cases c14 : x19_2 < (l0.length : Int)
        ·rw [if_pos c14] at H
         have c14b0 : decide (x19_2 < (l0.length : Int)) = true := decide_eq_true c14
         clear c14
         by_cases c15 : x5_2.length < 8796093022208
         ·rw [if_pos c15] at H
          have LMc15 := Aside0.mk c15
          clear c15
          obtain ⟨y253, hy253⟩ : ∃ y_ : List (S94), y_ = (x5_2 ++ [(⟨wrap64 (((rd_T94 l0 x19_2).f0) + a1), wrap64 (((rd_T94 l0 x19_2).f1) + a1)⟩ : S94)]) := ⟨_, rfl⟩
          replace H : (impl_ShiftDepends.l0 k2 a1 y253 l0 (l0.length : Int) (wrap64 (x19_2 + 1))) = some r := by first | (rw [hy253]; with_reducible exact H) | (have H2_ := (Option.bind_some _ _).symm.trans H; rw [hy253]; with_reducible exact H2_) | (have H2_ := (Option.bind_some _ _).symm.trans H; with_reducible exact H2_) | with_reducible exact H | (rw [hy253]; exact H) | exact H
          have Ny253 := Aside0.mk hy253
          clear hy253
          have H' := Aside0.mk H
          clear H
          have p251 : 0 ≤ (x19_2 : Int) := of_decide_eq_true dg_
          have q251 : x19_2 < (l0.length : Int) := of_decide_eq_true dg_
          obtain ⟨ad251, e251, hx251_0, hx251_1⟩ := at_T94 HR0.out x19_2 p251 q251
          cases e251
          replace hx251_0 := (HB.out.cell (World.block_lt_of_cell? w _ hx251_0)).trans hx251_0
          replace hx251_1 := (HB.out.cell (World.block_lt_of_cell? w _ hx251_1)).trans hx251_1
          replace p251 := eq_true p251
          replace q251 := eq_true q251
          go_wp2_with (first | ((with_reducible refine gate_dst (N := 7) rfl ?_); refine box_event ?hg (N := 7) ?hd (cs := #[.int .i64 0, .int .i64 0]) (t := 94) ?hr ?_; (case hd => rfl); (case hg => rfl); (case hr => first | (go_simp; done) | (go_simp; rfl)); intro gb252 hg w16 hbox hb; replace HO_5 := Aside0.mk (Kd.R_below (Kd.R_elderB (ra_ HO_5.out) gb252 (Nat.le_of_eq hg.symm)) hb); have BK252 := Aside0.mk (hbox); have GW252 := Aside0.mk ((by rw [hg]; exact (bz_ HB.out) : w.heap.size ≤ gb252)); have GE252 := Aside0.mk ((by rw [hg]; exact (bz_ HB.out) : w.heap.size ≤ gb252)); replace HB := Aside0.mk (bs_ HB.out hb); clear hb hbox hg; obtain ⟨hcz17_0, hcz17_1, hfz17_0, hfz17_1⟩ := cz2_ BK252.out) | ((with_reducible refine gate_builtin (b := .append) (xs := #[.tmp 23, .tmp 33]) rfl ?_); at_builtin; refine Kd.R_append k94 (w0 := w) w.heap.size rfl (.tmp 23) (.tmp 33) 22 94 (.agg #[(.int .i64 0), (.int .i64 0)]) 16 rfl Try.underlying22 info94 rfl (by decide) (by omega) u5 x5_2 (⟨wrap64 (((rd_T94 l0 x19_2).f0) + a1), wrap64 (((rd_T94 l0 x19_2).f1) + a1)⟩ : S94) [.int .i64 (wrap64 (((rd_T94 l0 x19_2).f0) + a1)), .int .i64 (wrap64 (((rd_T94 l0 x19_2).f1) + a1))] (fun k_ => k_ ≠ gb252) (fun _ => False) rfl (by first | (go_simp; done) | (go_simp; rfl)) ?aP (fun _ hk => hk.elim) ?aF ?aO ?aB ?aS ?aL ?_; (case aP => exact k94_mkM _ _ _ (⟨wrap64 (((rd_T94 l0 x19_2).f0) + a1), wrap64 (((rd_T94 l0 x19_2).f1) + a1)⟩ : S94)); (case aB => exact (by repeat (first | (with_reducible first | exact HB.out | apply below_alloc | apply pw_below_drewN | apply below_drew1 | refine below_set ?_ GE252.out) | exact HB.out))); (case aF => exact (fun k_ hk => Kd.freshB (g := gb252) (o := .cells #[.int .i64 ((rd_T94 l0 x19_2).f0), .int .i64 ((rd_T94 l0 x19_2).f1)] 94 (0, 0)) (by (with_reducible repeat (first | refine blk_drewN ?_ _ | refine blk_drew ?_ | refine blk_alloc ?_ _)); refine blk_put (cs := #[.int .i64 ((rd_T94 l0 x19_2).f0), .int .i64 0]) ?_ 1 _ rfl; (with_reducible repeat (first | refine blk_drewN ?_ _ | refine blk_drew ?_ | refine blk_alloc ?_ _)); refine blk_put (cs := #[.int .i64 0, .int .i64 0]) ?_ 0 _ rfl; (with_reducible repeat (first | refine blk_drewN ?_ _ | refine blk_drew ?_ | refine blk_alloc ?_ _)); exact BK252.out) k_ hk)); (case aO => exact (rm_ (Kd.R_mono HO_5.out (fun k_ hk => (⟨hk, hk.2⟩ : _ ∧ k_ ≠ gb252))) (fun _ hk => hk.1.2))); (case aS => exact (bz_ HB.out)); (case aL => have := LMc15.out; omega); intro v254 w18 ho hb hg hat; rw [← Ny253.out] at ho; have n0_ := Aside0.mk (blk_grown (g := gb252) (o := .cells #[.int .i64 ((rd_T94 l0 x19_2).f0), .int .i64 ((rd_T94 l0 x19_2).f1)] 94 (0, 0)) (by (with_reducible repeat (first | refine blk_drewN ?_ _ | refine blk_drew ?_ | refine blk_alloc ?_ _)); refine blk_put (cs := #[.int .i64 ((rd_T94 l0 x19_2).f0), .int .i64 0]) ?_ 1 _ rfl; (with_reducible repeat (first | refine blk_drewN ?_ _ | refine blk_drew ?_ | refine blk_alloc ?_ _)); refine blk_put (cs := #[.int .i64 0, .int .i64 0]) ?_ 0 _ rfl; (with_reducible repeat (first | refine blk_drewN ?_ _ | refine blk_drew ?_ | refine blk_alloc ?_ _)); exact BK252.out) hg (Kd.R_away HO_5.out (fun _ hk => hk.2))); have n1_ := Aside0.mk (hb); have n2_ := Aside0.mk (ho); clear BK252; clear HB; clear HO_5; have BK252 := n0_; have HB := n1_; have HO255 := n2_; clear n0_ n1_ n2_; clear ho hb hg hat))
          go_roundg k2
          case measure => have := HJ2.out; have := HK2.out; omega
          case rel => exact ⟨(y253), (wrap64 (x19_2 + 1)), ef_, H', ⟨by have := HJ2.out; have := HK2.out; omega⟩, ⟨by (with_reducible repeat (first | apply Kd.R_alloc | apply Kd.R_drewN | apply Kd.R_drew)); exact Kd.R_mono HO255.out (fun _ hk => trivial)⟩, ⟨bb_ HB.out⟩⟩
         ·rw [if_neg c15] at H
          exact absurd H (by simp)
        ·rw [if_neg c14] at H
         exact absurd H (by simp)
       ·rw [if_neg c13] at H
        exact absurd H (by simp)
      ·rw [if_neg c12] at H
       have c12b0 : decide (x19_2 < (l0.length : Int)) = false := decide_eq_false c12
       clear c12
       replace H := Option.bind_eq_some_iff.mp H
       obtain ⟨t256, A190, H⟩ := H
       try dsimp only at H
       have A19 := Aside0.mk A190
       clear A190
       by_cases c20 : t256 = true
       ·subst c20
        rw [if_pos rfl] at H
        obtain rfl := Option.some.inj H
        obtain ⟨Ao21, co21, eo21⟩ := Kd.R_slice HO_5.out
        subst eo21
        go_wp2_with (first | ((with_reducible refine gate_callee (f := 124) rfl ?_); refine gm_ (some 37) Try.func124 #[.slice Ao21 x5_2.length co21] rfl ?_; (with_reducible refine (impl_DependsOk.calls k2 _ _ x5_2 true _ ?side1 ?side2 A19.out).mono ?_); (case side1 => repeat (first | exact (Kd.R_reads' HO_5.out).2.2 | (with_reducible refine Kd.C_alloc ?_ _) | (with_reducible refine Kd.C_drewN ?_ _) | (with_reducible refine Kd.C_drew ?_))); (case side2 => exact (Kd.R_reads' HO_5.out).2.1); rintro e w22 ⟨rfl, hb⟩; refine ⟨_, rfl, ?_⟩; replace HO_5 := Aside0.mk (Kd.R_below (ra_ HO_5.out) hb); replace HB := Aside0.mk (bs_ HB.out hb); (try clear hb)))
        go_ret
        exact ⟨_, fin_, by (with_reducible repeat (first | apply Kd.R_alloc | apply Kd.R_drewN | apply Kd.R_drew)); exact HO_5.out, bb_ HB.out⟩
       ·replace c20 := Bool.eq_false_iff.mpr c20
        subst c20
        rw [if_neg (show ¬ (false = true) by decide)] at H
        obtain rfl := Option.some.inj H
        obtain ⟨Ao23, co23, eo23⟩ := Kd.R_slice HO_5.out
        subst eo23
        exact impl_ShiftDepends.e0

/-! ### impl_ClassDepends: function 48 -/
def impl_ClassDepends.f (k : Nat) (a0_0 : Int) (a0_1 : Int) (l0_2 : List Int) (l1_0 : List Int) (l1_1 : List Int) : Option ((List (S94))) := (impl_ClassesOk.f k a0_0 a0_1 l0_2 l1_0 l1_1).bind fun t259 => (if t259 = true then ((impl_DependsOf.f k a0_0 a0_1 l0_2 l1_0).bind fun t260 => ((impl_DependsOf.f k a0_0 a0_1 l0_2 l1_1).bind fun t263 => ((impl_ShiftDepends.f k t263 64).bind fun t266 => ((impl_MergeDepends.f k t260 t266).bind fun t269 => (some t269))))) else (some ([] : List (S94))))
theorem impl_ClassDepends.mono : ∀ a0 a1 a2 a3 a4 k, LeO (impl_ClassDepends.f k a0 a1 a2 a3 a4) (impl_ClassDepends.f (k + 1) a0 a1 a2 a3 a4) := by
 intro a0 a1 a2 a3 a4 k
 unfold impl_ClassDepends.f
 repeat' first
   | (with_reducible exact impl_ClassesOk.mono _ _ _ _ _ _)
   | (with_reducible exact impl_DependsOf.mono _ _ _ _ _)
   | (with_reducible exact impl_MergeDepends.mono _ _ _)
   | (with_reducible exact impl_ShiftDepends.mono _ _ _)
   | (with_reducible exact LeO.refl _)
   | (with_reducible exact LeO.none _)
   | (with_reducible refine LeO.ite ?_ ?_)
   | (with_reducible refine LeO.bind ?_ (fun _ => ?_))
   | exact impl_ClassesOk.mono _ _ _ _ _ _
   | exact impl_DependsOf.mono _ _ _ _ _
   | exact impl_MergeDepends.mono _ _ _
   | exact impl_ShiftDepends.mono _ _ _
   | exact LeO.none _
   | refine LeO.ite ?_ ?_
   | refine LeO.bind ?_ (fun _ => ?_)
def impl_ClassDepends.T3 : Bool × List (List Nat × List Nat) := (true, [([], []), ([], []), ([1], [1]), ([0, 2], [0, 2]), ([], []), ([], []), ([5], [5]), ([4, 6, 3], [4, 6]), ([7, 7], [7]), ([3, 8, 8], [3, 8]), ([9, 9, 0, 1, 2, 3, 4, 5, 6, 7, 8, 9], [9])])
def impl_ClassDepends.B3 : List Nat := [0, 0, 2, 7, 0, 0, 32, 127, 255, 511, 1023]
theorem impl_ClassDepends.tab3 : rtab .any (opsOf Try.f48 3) = impl_ClassDepends.T3 := by kernel_rfl
theorem impl_ClassDepends.bits3 : waitsOk impl_ClassDepends.T3.2 impl_ClassDepends.B3 = true := by kernel_rfl
set_option maxHeartbeats 8000000 in
set_option maxRecDepth 100000 in
theorem impl_ClassDepends.calls (k : Nat) (a0_0 : Int) (a0_1 : Int) (A0_2 : Option Addr) (c0_2 : Nat) (l0_2 : List Int) (A1_0 : Option Addr) (c1_0 : Nat) (l1_0 : List Int) (A1_1 : Option Addr) (c1_1 : Nat) (l1_1 : List Int) (r : List (S94)) (w : World) (hr0_2 : Kd.C (Kd.int .i64) w A0_2 l0_2.length l0_2) (hc0_2 : l0_2.length ≤ c0_2) (hr1_0 : Kd.C (Kd.int .i64) w A1_0 l1_0.length l1_0) (hc1_0 : l1_0.length ≤ c1_0) (hr1_1 : Kd.C (Kd.int .i64) w A1_1 l1_1.length l1_1) (hc1_1 : l1_1.length ≤ c1_1) (h : impl_ClassDepends.f k a0_0 a0_1 l0_2 l1_0 l1_1 = some r) :
  Calls Try.prog 48 #[.agg #[.int .i64 a0_0, .int .i64 a0_1, .slice A0_2 l0_2.length c0_2], .agg #[.slice A1_0 l1_0.length c1_0, .slice A1_1 l1_1.length c1_1]] w fun e w' => ∃ v0_ : Value, e = .returned (v0_) ∧ Kd.R k94 94 w' w.heap.size (fun _ => True) v0_ r ∧ Below w.heap.size w w' := by
 have hu44 := Try.underlying44
 have hu70 := Try.underlying70
 have hu46 := Try.underlying46
 have HR0_2 := Aside0.mk hr0_2
 have HC0_2 := Aside0.mk hc0_2
 clear hr0_2 hc0_2
 have HR1_0 := Aside0.mk hr1_0
 have HC1_0 := Aside0.mk hc1_0
 clear hr1_0 hc1_0
 have HR1_1 := Aside0.mk hr1_1
 have HC1_1 := Aside0.mk hc1_1
 clear hr1_1 hc1_1
 have HB := Aside0.mk (Below.refl w.heap.size w)
 have H : ((impl_ClassesOk.f k a0_0 a0_1 l0_2 l1_0 l1_1).bind fun t259 => (if t259 = true then ((impl_DependsOf.f k a0_0 a0_1 l0_2 l1_0).bind fun t260 => ((impl_DependsOf.f k a0_0 a0_1 l0_2 l1_1).bind fun t263 => ((impl_ShiftDepends.f k t263 64).bind fun t266 => ((impl_MergeDepends.f k t260 t266).bind fun t269 => (some t269))))) else (some ([] : List (S94))))) = some r := h
 clear h
 replace H := Option.bind_eq_some_iff.mp H
 obtain ⟨t259, A30, H⟩ := H
 try dsimp only at H
 have A3 := Aside0.mk A30
 clear A30
 by_cases c4 : t259 = true
 ·subst c4
  rw [if_pos rfl] at H
  replace H := Option.bind_eq_some_iff.mp H
  obtain ⟨t260, A50, H⟩ := H
  try dsimp only at H
  have A5 := Aside0.mk A50
  clear A50
  replace H := Option.bind_eq_some_iff.mp H
  obtain ⟨t263, A60, H⟩ := H
  try dsimp only at H
  have A6 := Aside0.mk A60
  clear A60
  replace H := Option.bind_eq_some_iff.mp H
  obtain ⟨t266, A70, H⟩ := H
  try dsimp only at H
  have A7 := Aside0.mk A70
  clear A70
  replace H := Option.bind_eq_some_iff.mp H
  obtain ⟨t269, A80, H⟩ := H
  try dsimp only at H
  have A8 := Aside0.mk A80
  clear A80
  obtain rfl := Option.some.inj H
  go_enter Try.func48, Try.ntmps48
  try go_wp2_with (first | ((with_reducible refine gate_dst (N := 2) rfl ?_); refine box_event ?hg (N := 2) ?hd (cs := #[.int .i64 a0_0, .int .i64 a0_1, .slice A0_2 l0_2.length c0_2]) (t := 44) ?hr ?_; (case hd => rfl); (case hg => rfl); (case hr => first | (go_simp; done) | (go_simp; rfl)); intro gb257 hg w9 hbox hb; have BK257 := Aside0.mk (hbox); have GW257 := Aside0.mk ((by rw [hg]; exact (bz_ HB.out) : w.heap.size ≤ gb257)); have GE257 := Aside0.mk ((by rw [hg]; exact (bz_ HB.out) : w.heap.size ≤ gb257)); replace HB := Aside0.mk (bs_ HB.out hb); clear hb hbox hg) | ((with_reducible refine gate_dst (N := 3) rfl ?_); refine box_event ?hg (N := 3) ?hd (cs := #[.slice A1_0 l1_0.length c1_0, .slice A1_1 l1_1.length c1_1]) (t := 70) ?hr ?_; (case hd => rfl); (case hg => rfl); (case hr => first | (go_simp; done) | (go_simp; rfl)); intro gb258 hg w10 hbox hb; have BK258 := Aside0.mk (hbox); have GW258 := Aside0.mk ((by rw [hg]; exact (bz_ HB.out) : w.heap.size ≤ gb258)); have GE258 := Aside0.mk ((by rw [hg]; exact (bz_ HB.out) : w.heap.size ≤ gb258)); replace HB := Aside0.mk (bs_ HB.out hb); have NB257_258 := Aside0.mk ((by rw [hg]; exact Nat.ne_of_lt (bl_ BK257.out) : gb257 ≠ gb258)); have NB258_257 := Aside0.mk ((by rw [hg]; exact Nat.ne_of_gt (bl_ BK257.out) : gb258 ≠ gb257)); replace BK257 := Aside0.mk (bk_ BK257.out hb); clear hb hbox hg; have hnb11 := NB257_258.out; have hnc11 := NB258_257.out; obtain ⟨hcz12_0, hcz12_1, hcz12_2, hfz12_0, hfz12_1, hfz12_2⟩ := cz3_ BK257.out; obtain ⟨hcz13_0, hcz13_1, hfz13_0, hfz13_1⟩ := cz2_ BK258.out) | ((with_reducible refine gate_callee (f := 55) rfl ?_); refine gm_ (some 7) Try.func55 #[.agg #[.int .i64 a0_0, .int .i64 a0_1, .slice A0_2 l0_2.length c0_2], .agg #[.slice A1_0 l1_0.length c1_0, .slice A1_1 l1_1.length c1_1]] rfl ?_; (with_reducible refine (impl_ClassesOk.calls k a0_0 a0_1 _ _ l0_2 _ _ l1_0 _ _ l1_1 true _ ?side1 HC0_2.out ?side3 HC1_0.out ?side5 HC1_1.out A3.out).mono ?_); (case side1 => exact cb_ HR0_2.out HB.out); (case side3 => exact cb_ HR1_0.out HB.out); (case side5 => exact cb_ HR1_1.out HB.out); rintro e w14 ⟨rfl, hb⟩; refine ⟨_, rfl, ?_⟩; replace BK257 := Aside0.mk (bk_ BK257.out hb); replace BK258 := Aside0.mk (bk_ BK258.out hb); replace HB := Aside0.mk (bs_ HB.out hb); (try clear hb)))
  have n0_ := Aside0.mk (blk_drew BK257.out)
  have n1_ := Aside0.mk (blk_drew BK258.out)
  have n2_ := Aside0.mk (below_drew1 HB.out)
  clear BK257
  clear BK258
  clear HB
  have BK257 := n0_
  have BK258 := n1_
  have HB := n2_
  clear n0_ n1_ n2_
  refine start_ (n := 11) (S := fun w' => w'.cell? ⟨gb257, 0, none⟩ = some (.int .i64 a0_0) ∧ w'.cell? ⟨gb257, 1, none⟩ = some (.int .i64 a0_1) ∧ w'.cell? ⟨gb257, 2, none⟩ = some (.slice A0_2 l0_2.length c0_2) ∧ w'.cell? ⟨gb258, 0, none⟩ = some (.slice A1_0 l1_0.length c1_0) ∧ w'.cell? ⟨gb258, 1, none⟩ = some (.slice A1_1 l1_1.length c1_1)) (ds := []) #[false, false, false, false, false, false, false, false, false, false, false] (by kernel_rfl) rfl rfl ⟨(blk_cell BK257.out 0).trans rfl, (blk_cell BK257.out 1).trans rfl, (blk_cell BK257.out 2).trans rfl, (blk_cell BK258.out 0).trans rfl, (blk_cell BK258.out 1).trans rfl⟩ (fun hHeld => ?_); refine with_tabW impl_ClassDepends.tab3 impl_ClassDepends.bits3 (fun HT_ HW_ => ?_)
  generalize w14.drew = w15 at BK257 BK258 HB hHeld ⊢
  refine pu_ 1 10 (bt_ 11 2) HT_ ?_
  refine pu_ 5 14 (bt_ 11 34) HT_ ?_
  refine take_ (i := 0) (N := some 9) (v := ?_) (a' := ?_) (bt_ 11 35) rfl rfl (take_ofW HT_.out HW_.out (by kernel_rfl)) (fun _ _ _ h => h) (Or.inl ⟨by rfl, ?_⟩) hHeld ?_ ?_
  rotate_left
  ·rintro w' ⟨s0, s1, s2, s3, s4⟩
   go_simp
   with_reducible rfl
  rotate_left
  ·simp only [Act.put, List.setIfInBounds_toArray, List.set_cons_zero, List.set_cons_succ, i64_w, i32_w]
   rfl
  refine take_ (i := 2) (N := some 11) (v := ?_) (a' := ?_) (bt_ 11 39) rfl rfl (take_ofW HT_.out HW_.out (by kernel_rfl)) (fun _ _ _ h => h) (Or.inl ⟨by rfl, ?_⟩) hHeld ?_ ?_
  rotate_left
  ·rintro w' ⟨s0, s1, s2, s3, s4⟩
   go_simp
   with_reducible rfl
  rotate_left
  ·simp only [Act.put, List.setIfInBounds_toArray, List.set_cons_zero, List.set_cons_succ, i64_w, i32_w]
   rfl
  refine take_ (i := 4) (N := some 13) (v := ?_) (a' := ?_) (bt_ 11 55) rfl rfl (take_ofW HT_.out HW_.out (by kernel_rfl)) (fun _ _ _ h => h) (Or.inl ⟨by rfl, ?_⟩) hHeld ?_ ?_
  rotate_left
  ·rintro w' ⟨s0, s1, s2, s3, s4⟩
   go_simp
   with_reducible rfl
  rotate_left
  ·simp only [Act.put, List.setIfInBounds_toArray, List.set_cons_zero, List.set_cons_succ, i64_w, i32_w]
   rfl
  refine take_ (i := 6) (N := some 15) (v := ?_) (a' := ?_) (bt_ 11 119) rfl rfl (take_ofW HT_.out HW_.out (by kernel_rfl)) (fun _ _ _ h => h) (Or.inl ⟨by rfl, ?_⟩) hHeld ?_ ?_
  rotate_left
  ·rintro w' ⟨s0, s1, s2, s3, s4⟩
   go_simp
   with_reducible rfl
  rotate_left
  ·simp only [Act.put, List.setIfInBounds_toArray, List.set_cons_zero, List.set_cons_succ, i64_w, i32_w]
   rfl
  refine one_ (i := 3) (N := some 12) (bt_ 11 127) rfl rfl (one_of HT_.out (by kernel_rfl)) (by decide) (fun K hK => ?_)
  refine goes_ Try.func60 (by kernel_rfl) rfl #[.agg #[.int .i64 a0_0, .int .i64 a0_1, .slice A0_2 l0_2.length c0_2], .agg #[.slice A1_0 l1_0.length c1_0]] (by rfl) rfl rfl (by (try simp only [List.map_toArray, List.map_cons, List.map_nil]); first | done | rfl | (simp only [List.length_drop, List.length_take]; rfl)) ?_
  with_reducible refine (impl_DependsOf.calls k a0_0 a0_1 _ _ l0_2 _ _ l1_0 t260 _ ?side1 ?side2 ?side3 ?side4 A5.out).mono ?_
  (case side1 => exact cb_ HR0_2.out HB.out)
  (case side2 => exact HC0_2.out)
  (case side3 => exact cb_ HR1_0.out HB.out)
  (case side4 => exact HC1_0.out)
  rintro e w16 ⟨v261, rfl, ho0, hb⟩
  refine ⟨_, rfl, ?_⟩
  have n0_ := Aside0.mk (Kd.R_lower ho0 (bz_ HB.out))
  have n1_ := Aside0.mk (bk_ BK257.out hb)
  have n2_ := Aside0.mk (bk_ BK258.out hb)
  have n3_ := Aside0.mk (bs_ HB.out hb)
  clear BK257
  clear BK258
  clear HB
  have HO262 := n0_
  have BK257 := n1_
  have BK258 := n2_
  have HB := n3_
  clear n0_ n1_ n2_ n3_
  (try clear hb)
  (try clear hb2)
  (try clear hk)
  (try clear hi)
  (try clear ho0)
  refine hK.out _ _ ⟨(blk_cell BK257.out 0).trans rfl, (blk_cell BK257.out 1).trans rfl, (blk_cell BK257.out 2).trans rfl, (blk_cell BK258.out 0).trans rfl, (blk_cell BK258.out 1).trans rfl⟩ (fun hHeld => ?_)
  clear hK K
  refine norm_ (a' := ?_) ?_ ?_
  rotate_left
  ·show Act.put _ (some 12) _ = _
   simp only [Act.put, List.setIfInBounds_toArray, List.set_cons_zero, List.set_cons_succ, i64_w, i32_w]
   rfl
  refine one_ (i := 7) (N := some 16) (bt_ 11 255) rfl rfl (one_of HT_.out (by kernel_rfl)) (by decide) (fun K hK => ?_)
  refine goes_ Try.func60 (by kernel_rfl) rfl #[.agg #[.int .i64 a0_0, .int .i64 a0_1, .slice A0_2 l0_2.length c0_2], .agg #[.slice A1_1 l1_1.length c1_1]] (by rfl) rfl rfl (by (try simp only [List.map_toArray, List.map_cons, List.map_nil]); first | done | rfl | (simp only [List.length_drop, List.length_take]; rfl)) ?_
  with_reducible refine (impl_DependsOf.calls k a0_0 a0_1 _ _ l0_2 _ _ l1_1 t263 _ ?side1 ?side2 ?side3 ?side4 A6.out).mono ?_
  (case side1 => exact cb_ HR0_2.out HB.out)
  (case side2 => exact HC0_2.out)
  (case side3 => exact cb_ HR1_1.out HB.out)
  (case side4 => exact HC1_1.out)
  rintro e w17 ⟨v264, rfl, ho0, hb⟩
  refine ⟨_, rfl, ?_⟩
  have n0_ := Aside0.mk (Kd.R_elder' (ra_ HO262.out) (Kd.R_base ho0) hb)
  have n1_ := Aside0.mk (Kd.R_lower (Kd.R_new' ho0 (rl_ HO262.out)) (bz_ HB.out))
  have n2_ := Aside0.mk (bk_ BK257.out hb)
  have n3_ := Aside0.mk (bk_ BK258.out hb)
  have n4_ := Aside0.mk (bs_ HB.out hb)
  clear HO262
  clear BK257
  clear BK258
  clear HB
  have HO262 := n0_
  have HO265 := n1_
  have BK257 := n2_
  have BK258 := n3_
  have HB := n4_
  clear n0_ n1_ n2_ n3_ n4_
  (try clear hb)
  (try clear hb2)
  (try clear hk)
  (try clear hi)
  (try clear ho0)
  obtain ⟨Ao18, co18, eo18⟩ := Kd.R_slice HO265.out
  (first | subst eo18 | (injection eo18 with f1_ f2_ f3_; have f4_ := f1_.symm; have f5_ := f3_.symm; clear f1_ f2_ f3_; subst f4_; subst f5_))
  refine hK.out _ _ ⟨(blk_cell BK257.out 0).trans rfl, (blk_cell BK257.out 1).trans rfl, (blk_cell BK257.out 2).trans rfl, (blk_cell BK258.out 0).trans rfl, (blk_cell BK258.out 1).trans rfl⟩ (fun hHeld => ?_)
  clear hK K
  refine norm_ (a' := ?_) ?_ ?_
  rotate_left
  ·show Act.put _ (some 16) _ = _
   simp only [Act.put, List.setIfInBounds_toArray, List.set_cons_zero, List.set_cons_succ, i64_w, i32_w]
   rfl
  refine one_ (i := 8) (N := some 17) (bt_ 11 511) rfl rfl (one_of HT_.out (by kernel_rfl)) (by decide) (fun K hK => ?_)
  refine goes_ Try.func91 (by kernel_rfl) rfl #[.slice Ao18 t263.length co18, .int .i64 64] (by rfl) rfl rfl (by (try simp only [List.map_toArray, List.map_cons, List.map_nil]); first | done | rfl | (simp only [List.length_drop, List.length_take]; rfl)) ?_
  with_reducible refine (impl_ShiftDepends.calls k _ _ t263 64 t266 _ ?side1 ?side2 A7.out).mono ?_
  (case side1 => repeat (first | exact (Kd.R_reads' HO265.out).2.2 | (with_reducible refine Kd.C_alloc ?_ _) | (with_reducible refine Kd.C_drewN ?_ _) | (with_reducible refine Kd.C_drew ?_)))
  (case side2 => exact (Kd.R_reads' HO265.out).2.1)
  rintro e w19 ⟨v267, rfl, ho0, hb⟩
  refine ⟨_, rfl, ?_⟩
  have n0_ := Aside0.mk (Kd.R_elder' (ra_ HO262.out) (Kd.R_base ho0) hb)
  have n1_ := Aside0.mk (Kd.R_elder' (ra_ HO265.out) (Kd.R_base ho0) hb)
  have n2_ := Aside0.mk (Kd.R_lower (Kd.R_new' (Kd.R_new' ho0 (rl_ HO262.out)) (rl_ HO265.out)) (bz_ HB.out))
  have n3_ := Aside0.mk (bk_ BK257.out hb)
  have n4_ := Aside0.mk (bk_ BK258.out hb)
  have n5_ := Aside0.mk (bs_ HB.out hb)
  clear HO262
  clear HO265
  clear BK257
  clear BK258
  clear HB
  have HO262 := n0_
  have HO265 := n1_
  have HO268 := n2_
  have BK257 := n3_
  have BK258 := n4_
  have HB := n5_
  clear n0_ n1_ n2_ n3_ n4_ n5_
  (try clear hb)
  (try clear hb2)
  (try clear hk)
  (try clear hi)
  (try clear ho0)
  obtain ⟨Ao20, co20, eo20⟩ := Kd.R_slice HO262.out
  (first | subst eo20 | (injection eo20 with f1_ f2_ f3_; have f4_ := f1_.symm; have f5_ := f3_.symm; clear f1_ f2_ f3_; subst f4_; subst f5_))
  obtain ⟨Ao21, co21, eo21⟩ := Kd.R_slice HO268.out
  (first | subst eo21 | (injection eo21 with f1_ f2_ f3_; have f4_ := f1_.symm; have f5_ := f3_.symm; clear f1_ f2_ f3_; subst f4_; subst f5_))
  refine hK.out _ _ ⟨(blk_cell BK257.out 0).trans rfl, (blk_cell BK257.out 1).trans rfl, (blk_cell BK257.out 2).trans rfl, (blk_cell BK258.out 0).trans rfl, (blk_cell BK258.out 1).trans rfl⟩ (fun hHeld => ?_)
  clear hK K
  refine norm_ (a' := ?_) ?_ ?_
  rotate_left
  ·show Act.put _ (some 17) _ = _
   simp only [Act.put, List.setIfInBounds_toArray, List.set_cons_zero, List.set_cons_succ, i64_w, i32_w]
   rfl
  refine one_ (i := 9) (N := some 18) (bt_ 11 1023) rfl rfl (one_of HT_.out (by kernel_rfl)) (by decide) (fun K hK => ?_)
  refine goes_ Try.func90 (by kernel_rfl) rfl #[.slice Ao20 t260.length co20, .slice Ao21 t266.length co21] (by rfl) rfl rfl (by (try simp only [List.map_toArray, List.map_cons, List.map_nil]); first | done | rfl | (simp only [List.length_drop, List.length_take]; rfl)) ?_
  with_reducible refine (impl_MergeDepends.calls k _ _ t260 _ _ t266 t269 _ ?side1 ?side2 ?side3 ?side4 A8.out).mono ?_
  (case side1 => repeat (first | exact (Kd.R_reads' HO262.out).2.2 | (with_reducible refine Kd.C_alloc ?_ _) | (with_reducible refine Kd.C_drewN ?_ _) | (with_reducible refine Kd.C_drew ?_)))
  (case side2 => exact (Kd.R_reads' HO262.out).2.1)
  (case side3 => repeat (first | exact (Kd.R_reads' HO268.out).2.2 | (with_reducible refine Kd.C_alloc ?_ _) | (with_reducible refine Kd.C_drewN ?_ _) | (with_reducible refine Kd.C_drew ?_)))
  (case side4 => exact (Kd.R_reads' HO268.out).2.1)
  rintro e w22 ⟨v270, rfl, ho0, hb⟩
  refine ⟨_, rfl, ?_⟩
  have n0_ := Aside0.mk (Kd.R_elder' (ra_ HO262.out) (Kd.R_base ho0) hb)
  have n1_ := Aside0.mk (Kd.R_elder' (ra_ HO265.out) (Kd.R_base ho0) hb)
  have n2_ := Aside0.mk (Kd.R_elder' (ra_ HO268.out) (Kd.R_base ho0) hb)
  have n3_ := Aside0.mk (Kd.R_lower (Kd.R_new' (Kd.R_new' (Kd.R_new' ho0 (rl_ HO262.out)) (rl_ HO265.out)) (rl_ HO268.out)) (bz_ HB.out))
  have n4_ := Aside0.mk (bk_ BK257.out hb)
  have n5_ := Aside0.mk (bk_ BK258.out hb)
  have n6_ := Aside0.mk (bs_ HB.out hb)
  clear HO262
  clear HO265
  clear HO268
  clear BK257
  clear BK258
  clear HB
  have HO262 := n0_
  have HO265 := n1_
  have HO268 := n2_
  have HO271 := n3_
  have BK257 := n4_
  have BK258 := n5_
  have HB := n6_
  clear n0_ n1_ n2_ n3_ n4_ n5_ n6_
  (try clear hb)
  (try clear hb2)
  (try clear hk)
  (try clear hi)
  (try clear ho0)
  refine hK.out _ _ ⟨(blk_cell BK257.out 0).trans rfl, (blk_cell BK257.out 1).trans rfl, (blk_cell BK257.out 2).trans rfl, (blk_cell BK258.out 0).trans rfl, (blk_cell BK258.out 1).trans rfl⟩ (fun hHeld => ?_)
  clear hK K
  refine norm_ (a' := ?_) ?_ ?_
  rotate_left
  ·show Act.put _ (some 18) _ = _
   simp only [Act.put, List.setIfInBounds_toArray, List.set_cons_zero, List.set_cons_succ, i64_w, i32_w]
   rfl
  refine pu_ 10 4 (bt_ 11 2047) HT_ ?_
  refine done_ (done_of HT_.out (by kernel_rfl)) ?_
  try go_wp2
  go_ret
  exact ⟨_, fin_, by (with_reducible repeat (first | apply Kd.R_alloc | apply Kd.R_drewN | apply Kd.R_drew)); exact Kd.R_mono HO271.out (fun _ hk => trivial), bb_ HB.out⟩
 ·replace c4 := Bool.eq_false_iff.mpr c4
  subst c4
  rw [if_neg (show ¬ (false = true) by decide)] at H
  obtain rfl := Option.some.inj H
  go_enter Try.func48, Try.ntmps48
  go_wp2_with (first | ((with_reducible refine gate_dst (N := 2) rfl ?_); refine box_event ?hg (N := 2) ?hd (cs := #[.int .i64 a0_0, .int .i64 a0_1, .slice A0_2 l0_2.length c0_2]) (t := 44) ?hr ?_; (case hd => rfl); (case hg => rfl); (case hr => first | (go_simp; done) | (go_simp; rfl)); intro gb257 hg w23 hbox hb; have BK257 := Aside0.mk (hbox); have GW257 := Aside0.mk ((by rw [hg]; exact (bz_ HB.out) : w.heap.size ≤ gb257)); have GE257 := Aside0.mk ((by rw [hg]; exact (bz_ HB.out) : w.heap.size ≤ gb257)); replace HB := Aside0.mk (bs_ HB.out hb); clear hb hbox hg) | ((with_reducible refine gate_dst (N := 3) rfl ?_); refine box_event ?hg (N := 3) ?hd (cs := #[.slice A1_0 l1_0.length c1_0, .slice A1_1 l1_1.length c1_1]) (t := 70) ?hr ?_; (case hd => rfl); (case hg => rfl); (case hr => first | (go_simp; done) | (go_simp; rfl)); intro gb258 hg w24 hbox hb; have BK258 := Aside0.mk (hbox); have GW258 := Aside0.mk ((by rw [hg]; exact (bz_ HB.out) : w.heap.size ≤ gb258)); have GE258 := Aside0.mk ((by rw [hg]; exact (bz_ HB.out) : w.heap.size ≤ gb258)); replace HB := Aside0.mk (bs_ HB.out hb); have NB257_258 := Aside0.mk ((by rw [hg]; exact Nat.ne_of_lt (bl_ BK257.out) : gb257 ≠ gb258)); have NB258_257 := Aside0.mk ((by rw [hg]; exact Nat.ne_of_gt (bl_ BK257.out) : gb258 ≠ gb257)); replace BK257 := Aside0.mk (bk_ BK257.out hb); clear hb hbox hg; have hnb25 := NB257_258.out; have hnc25 := NB258_257.out; obtain ⟨hcz26_0, hcz26_1, hcz26_2, hfz26_0, hfz26_1, hfz26_2⟩ := cz3_ BK257.out; obtain ⟨hcz27_0, hcz27_1, hfz27_0, hfz27_1⟩ := cz2_ BK258.out) | ((with_reducible refine gate_callee (f := 55) rfl ?_); refine gm_ (some 7) Try.func55 #[.agg #[.int .i64 a0_0, .int .i64 a0_1, .slice A0_2 l0_2.length c0_2], .agg #[.slice A1_0 l1_0.length c1_0, .slice A1_1 l1_1.length c1_1]] rfl ?_; (with_reducible refine (impl_ClassesOk.calls k a0_0 a0_1 _ _ l0_2 _ _ l1_0 _ _ l1_1 false _ ?side1 HC0_2.out ?side3 HC1_0.out ?side5 HC1_1.out A3.out).mono ?_); (case side1 => exact cb_ HR0_2.out HB.out); (case side3 => exact cb_ HR1_0.out HB.out); (case side5 => exact cb_ HR1_1.out HB.out); rintro e w28 ⟨rfl, hb⟩; refine ⟨_, rfl, ?_⟩; replace BK257 := Aside0.mk (bk_ BK257.out hb); replace BK258 := Aside0.mk (bk_ BK258.out hb); replace HB := Aside0.mk (bs_ HB.out hb); (try clear hb)))
  go_ret
  exact ⟨_, fin_, by first | exact Kd.R_nil _ _ _ _ _ | exact Kd.N_nil _ _ _ _ _ | exact Kd.V_nil _ _ _ _ _ | exact Kd.Q_nil _ _ _ _ _ | exact Kd.S_nil _ _ _ _ _, bb_ HB.out⟩

/-! ### bits_Mul32: function 179 -/
def bits_Mul32.f (a0 : Int) (a1 : Int) : Option (Int × Int) := some (((IntKind.u64.wrap ((IntKind.u64.wrap (a0)) * (IntKind.u64.wrap (a1)))) / 4294967296) % 4294967296, (IntKind.u64.wrap ((IntKind.u64.wrap (a0)) * (IntKind.u64.wrap (a1)))) % 4294967296)
set_option maxHeartbeats 8000000 in
set_option maxRecDepth 100000 in
theorem bits_Mul32.calls (a0 : Int) (a1 : Int) (r1 : Int) (r2 : Int) (w : World) (h : bits_Mul32.f a0 a1 = some (r1, r2)) :
  Calls Try.prog 179 #[.int .u32 a0, .int .u32 a1] w fun e w' => e = .returned (.tuple #[.int .u32 r1, .int .u32 r2]) ∧ Drawn0 w w' := by
 have H : (some (((IntKind.u64.wrap ((IntKind.u64.wrap (a0)) * (IntKind.u64.wrap (a1)))) / 4294967296) % 4294967296, (IntKind.u64.wrap ((IntKind.u64.wrap (a0)) * (IntKind.u64.wrap (a1)))) % 4294967296)) = some (r1, r2) := h
 clear h
 simp only [Option.some.injEq, Prod.mk.injEq] at H
 obtain ⟨rfl, rfl⟩ := H
 go_enter Try.func179, Try.ntmps179
 go_wp2
 go_ret2
 exact ⟨by first | rfl | (simp; done) | (simp [*]; done), by repeat (first | exact Drawn0.refl _ | apply Drawn0.step)⟩

/-! ### bits_Mul64: function 180 -/
def bits_Mul64.f (a0 : Int) (a1 : Int) : Option (Int × Int) := some (IntKind.u64.wrap ((IntKind.u64.wrap ((IntKind.u64.wrap ((a0 / 4294967296) * (a1 / 4294967296))) + ((IntKind.u64.wrap ((IntKind.u64.wrap ((a0 / 4294967296) * (Go.bits .and .u64 a1 4294967295))) + ((IntKind.u64.wrap ((Go.bits .and .u64 a0 4294967295) * (Go.bits .and .u64 a1 4294967295))) / 4294967296))) / 4294967296))) + ((IntKind.u64.wrap ((Go.bits .and .u64 (IntKind.u64.wrap ((IntKind.u64.wrap ((a0 / 4294967296) * (Go.bits .and .u64 a1 4294967295))) + ((IntKind.u64.wrap ((Go.bits .and .u64 a0 4294967295) * (Go.bits .and .u64 a1 4294967295))) / 4294967296))) 4294967295) + (IntKind.u64.wrap ((Go.bits .and .u64 a0 4294967295) * (a1 / 4294967296))))) / 4294967296)), IntKind.u64.wrap (a0 * a1))
set_option maxHeartbeats 8000000 in
set_option maxRecDepth 100000 in
theorem bits_Mul64.calls (a0 : Int) (a1 : Int) (r1 : Int) (r2 : Int) (w : World) (h : bits_Mul64.f a0 a1 = some (r1, r2)) :
  Calls Try.prog 180 #[.int .u64 a0, .int .u64 a1] w fun e w' => e = .returned (.tuple #[.int .u64 r1, .int .u64 r2]) ∧ Drawn0 w w' := by
 have H : (some (IntKind.u64.wrap ((IntKind.u64.wrap ((IntKind.u64.wrap ((a0 / 4294967296) * (a1 / 4294967296))) + ((IntKind.u64.wrap ((IntKind.u64.wrap ((a0 / 4294967296) * (Go.bits .and .u64 a1 4294967295))) + ((IntKind.u64.wrap ((Go.bits .and .u64 a0 4294967295) * (Go.bits .and .u64 a1 4294967295))) / 4294967296))) / 4294967296))) + ((IntKind.u64.wrap ((Go.bits .and .u64 (IntKind.u64.wrap ((IntKind.u64.wrap ((a0 / 4294967296) * (Go.bits .and .u64 a1 4294967295))) + ((IntKind.u64.wrap ((Go.bits .and .u64 a0 4294967295) * (Go.bits .and .u64 a1 4294967295))) / 4294967296))) 4294967295) + (IntKind.u64.wrap ((Go.bits .and .u64 a0 4294967295) * (a1 / 4294967296))))) / 4294967296)), IntKind.u64.wrap (a0 * a1))) = some (r1, r2) := h
 clear h
 simp only [Option.some.injEq, Prod.mk.injEq] at H
 obtain ⟨rfl, rfl⟩ := H
 go_enter Try.func180, Try.ntmps180
 go_wp2
 go_ret2
 exact ⟨by first | rfl | (simp; done) | (simp [*]; done), by repeat (first | exact Drawn0.refl _ | apply Drawn0.step)⟩

/-! ### bits_Mul: function 170 -/
def bits_Mul.f (a0 : Int) (a1 : Int) : Option (Int × Int) := (bits_Mul64.f a0 a1).bind fun bt272 => (some (bt272.1, bt272.2))
set_option maxHeartbeats 8000000 in
set_option maxRecDepth 100000 in
theorem bits_Mul.calls (a0 : Int) (a1 : Int) (r1 : Int) (r2 : Int) (w : World) (h : bits_Mul.f a0 a1 = some (r1, r2)) :
  Calls Try.prog 170 #[.int .u64 a0, .int .u64 a1] w fun e w' => e = .returned (.tuple #[.int .u64 r1, .int .u64 r2]) ∧ Drawn0 w w' := by
 have H : ((bits_Mul64.f a0 a1).bind fun bt272 => (some (bt272.1, bt272.2))) = some (r1, r2) := h
 clear h
 replace H := Option.bind_eq_some_iff.mp H
 obtain ⟨⟨t272, t273⟩, A30, H⟩ := H
 try dsimp only at H
 have A3 := Aside0.mk A30
 clear A30
 simp only [Option.some.injEq, Prod.mk.injEq] at H
 obtain ⟨rfl, rfl⟩ := H
 go_enter Try.func170, Try.ntmps170
 go_wp2_with (first | ((with_reducible refine gate_callee (f := 180) rfl ?_); refine gm_ (some 25) Try.func180 #[.int .u64 a0, .int .u64 a1] rfl ?_; (with_reducible refine (bits_Mul64.calls a0 a1 t272 t273 _ A3.out).mono ?_); rintro e w' ⟨rfl, ⟨nd, rfl⟩⟩; refine ⟨_, rfl, ?_⟩))
 go_ret2
 exact ⟨by first | rfl | (simp; done) | (simp [*]; done), by repeat (first | exact Drawn0.refl _ | apply Drawn0.step)⟩

/-! ### slices_Repeat_int_int: function 145 -/
/-- A row of cells of which the first m hold -1. -/
def Minus (W : World) (g cap m : Nat) : Prop := ∃ cur : List Value, W.heap[g]? = some (.cells cur.toArray 3 (0, 0)) ∧ cur.length = cap ∧ ∀ j, j < m → cur[j]? = some (.int .i64 (-1))
theorem Minus.splice {W : World} {g cap m : Nat} {cur cs : List Value} (hb : W.heap[g]? = some (.cells (Go.splice cur m cs).toArray 3 (0, 0))) (hl : cur.length = cap) (hm : m + cs.length ≤ cap) (hc : ∀ u ∈ cs, u = .int .i64 (-1)) (h : ∀ j, j < m → cur[j]? = some (.int .i64 (-1))) : Minus W g cap (m + cs.length) := by
 refine ⟨_, hb, by rw [length_splice _ _ _ (by omega)]; exact hl, fun j hj => ?_⟩
 unfold Go.splice
 by_cases h1 : j < m
 ·rw [List.getElem?_append_left (by simp; omega), List.getElem?_take_of_lt h1]
  exact h j h1
 ·rw [List.getElem?_append_right (by simp; omega), List.getElem?_append_left (by simp; omega), List.length_take, Nat.min_eq_left (by omega)]
  have hlt : j - m < cs.length := by omega
  rw [List.getElem?_eq_getElem hlt, hc _ (List.getElem_mem hlt)]
theorem Minus.of_R {W : World} {base : Nat} {ok : Nat → Prop} {v : Value} (h : Kd.R (Kd.int .i64) 3 W base ok v (List.replicate 128 0)) : ∃ (g cap : Nat) (cur : List Value), v = .slice (some ⟨g, 0, none⟩) 128 cap ∧ base ≤ g ∧ 128 ≤ cap ∧ cap ≤ maxLen ∧ W.heap[g]? = some (.cells cur.toArray 3 (0, 0)) ∧ cur.length = cap := by
 obtain ⟨_, h2⟩ := Kd.own_of_R h
 rw [List.length_replicate] at h2
 rcases h2 with ⟨_, h0⟩ | ⟨g, cap, cur, rfl, hb, hh, hn, hm, hs, _⟩
 ·omega
 ·exact ⟨g, cap, cur.toList, rfl, hb, hn, hm, by simpa using hh, by simpa using hs⟩
theorem Minus.R {W : World} {base g cap : Nat} (h : Minus W g cap 128) (hb : base ≤ g) (hc : 128 ≤ cap) (hm : cap ≤ maxLen) : Kd.R (Kd.int .i64) 3 W base (fun _ => True) (.slice (some ⟨g, 0, none⟩) 128 cap) (List.replicate 128 (-1)) := by
 obtain ⟨cur, hh, hl, hj⟩ := h
 refine Kd.R_of_own ⟨by simp [encs], .inr ⟨g, cap, cur.toArray, by rw [List.length_replicate], hb, hh, by simp; omega, hm, by simpa using hl, ?_⟩⟩ (fun _ _ => trivial)
 refine List.ext_getElem? fun j => ?_
 simp only [List.length_replicate, Nat.mul_one, encs, List.map_replicate]
 by_cases h1 : j < 128
 ·rw [List.getElem?_take_of_lt h1, hj j h1, List.getElem?_replicate, if_pos h1]
 ·rw [List.getElem?_eq_none (by simp; omega), List.getElem?_eq_none (by simp; omega)]
theorem ad_zero (ad : Addr) : ad.add 0 = ad := by unfold Addr.add; split <;> simp_all
theorem minus_cell {w : World} {A : Option Addr} (h : Kd.C (Kd.int .i64) w A 1 [-1]) : ∃ ad, A = some ad ∧ w.cell? ad = some (.int .i64 (-1)) := by
 obtain ⟨_, _, h⟩ := h
 obtain ⟨ad, rfl, h9⟩ := h (by omega)
 obtain ⟨c, hl, hK, hc⟩ := h9 0 (-1) rfl
 have e : c = [.int .i64 (-1)] := hK
 have := hc 0 (.int .i64 (-1)) (by rw [e]; rfl)
 exact ⟨ad, rfl, by simpa [ad_zero] using this⟩
def slices_Repeat_int_int.f (l : List Int) (n : Int) : Option (List Int) := if l = [-1] ∧ n = 128 then some (List.replicate 128 (-1)) else none
theorem slices_Repeat_int_int.mul : bits_Mul.f 1 128 = some (0, 128) := by decide +kernel
set_option maxHeartbeats 4000000 in
set_option maxRecDepth 100000 in
theorem slices_Repeat_int_int.calls (A0 : Option Addr) (c0 : Nat) (l0 : List Int) (a1 : Int) (r : List Int) (w : World) (hr0 : Kd.C (Kd.int .i64) w A0 l0.length l0) (hc0 : l0.length ≤ c0) (h : slices_Repeat_int_int.f l0 a1 = some r) :
  Calls Try.prog 145 #[.slice A0 l0.length c0, .int .i64 a1] w fun e w' => ∃ v0_ : Value, e = .returned (v0_) ∧ Kd.R (Kd.int .i64) 3 w' w.heap.size (fun _ => True) v0_ r ∧ Below w.heap.size w w' := by
 unfold slices_Repeat_int_int.f at h
 by_cases hq : l0 = [-1] ∧ a1 = 128
 ·rw [if_pos hq] at h
  obtain ⟨rfl, rfl⟩ := hq
  obtain rfl := Option.some.inj h
  clear h
  obtain ⟨ad, rfl, hcell⟩ := minus_cell hr0
  have HE := Aside0.mk hcell
  have HM := Aside0.mk slices_Repeat_int_int.mul
  have HB := Aside0.mk (Below.refl w.heap.size w)
  clear hr0 hcell
  simp only [List.length_cons, List.length_nil, Nat.zero_add]
  go_enter Try.func145, Try.ntmps145
  go_wp2_with (first
   | (go_at_call 170; (with_reducible refine (bits_Mul.calls 1 128 0 128 _ HM.out).mono ?_); rintro e w' ⟨rfl, ⟨nd, rfl⟩⟩)
   | ((with_reducible refine gate_dst (N := 30) rfl ?_); refine Kd.R_make (Kd.int .i64) _ 3 rfl (N := 30) rfl 29 _ _ rfl 128 rfl rfl Try.underlying29 (.int .i64 0) 8 info3 rfl (by decide) (by omega) 0 (ok := fun _ => True) (okp := fun _ => True) rfl (fun _ hk => hk) trivial (by omega) (by omega) (Below.refl _ _) (Nat.le_refl _) ?_; intro v134 w4 ho5 hb hg_ hnew_; obtain ⟨g, cap, cur, rfl, hgb, hcap, hcm, hcur, hcl⟩ := Minus.of_R ho5; clear ho5 hnew_ hg_; replace HB := Aside0.mk (below_step (pw_below_drewN HB.out nd) hb); have GB := Aside0.mk (show w.heap.size ≤ g from hgb); replace HE := Aside0.mk ((Below.cell hb (World.block_lt_of_cell? w ad HE.out)).trans HE.out); clear hb hgb; have HCUR := Aside0.mk hcur; clear hcur)
   | ((with_reducible refine gate_dst (N := 33) rfl ?_); refine wpList_copy_splice rfl (.tmp 31) (.tmp 32) 29 29 rfl 3 Try.underlying29 (by kernel_rfl) (some ⟨g, 0, none⟩) (some ad) 128 cap 1 c0 rfl rfl g 0 cur 3 HCUR.out [.int .i64 (-1)] rfl ?hp ?hf ?h1 w.heap.size w HB.out GB.out ?_; (case hp => exact fun _ => ⟨rfl, ad, rfl, fun j v hj => by (cases j with | zero => (cases hj; rw [ad_zero]; exact HE.out) | succ j => simp at hj)⟩); (case hf => simp; omega); (case h1 => intro v hv; rw [List.mem_singleton.1 hv]; rfl); intro w5 hg5 hb5; have HM5 := Aside0.mk (Minus.splice (cs := [.int .i64 (-1)]) hg5.out hcl (by simp; omega) (fun u hu => List.mem_singleton.1 hu) (fun j hj => absurd hj (by omega))); clear hg5 HB; have HB := Aside0.mk hb5; clear hb5))
  go_loopg [8] 128 (fun kq v8 w' => ∃ m : Nat, v8 = .int .i64 (m : Int) ∧ Aside0 (1 ≤ m ∧ m ≤ 128 ∧ 128 ≤ m + kq) ∧ Aside0 (Minus w' g cap m) ∧ Aside0 (Below w.heap.size w w'))
  case atStart => exact ⟨1, by first | rfl | (simp; done), ⟨by omega, by omega, by omega⟩, HM5, HB⟩
  case round =>
   clear HM5 HCUR HB HE HM
   obtain ⟨m, rfl, HM, HK, HB⟩ := hrel
   obtain ⟨hm1, hm2, hm3⟩ := HM.out
   by_cases h1 : (m : Int) < 128
   ·have h1b : decide ((m : Int) < 128) = true := decide_eq_true h1
    have h1c : decide (m < 128) = true := decide_eq_true (by omega)
    obtain ⟨k1, rfl⟩ : ∃ k1, gk = k1 + 1 := ⟨gk - 1, by omega⟩
    obtain ⟨cr, hcr, hcrl, hcrm⟩ := HK.out
    have HCR := Aside0.mk hcr
    have HCM := Aside0.mk hcrm
    clear hcr hcrm HK HM
    obtain ⟨cs, hcs⟩ : ∃ cs : List Value, cs = List.replicate (Nat.min m (128 - m)) (.int .i64 (-1)) := ⟨_, rfl⟩
    have hcl1 : cs.length = Nat.min m (128 - m) := by rw [hcs, List.length_replicate]
    have hcl0 : cs.length = min m (128 - m) := hcl1
    have hcu := Aside0.mk (show ∀ u ∈ cs, u = Value.int .i64 (-1) from fun u hu => List.eq_of_mem_replicate (hcs ▸ hu))
    clear hcs
    have hcl2 : m + cs.length ≤ 128 := by omega
    have hcl3 : 0 < cs.length := by omega
    have hcl4 : cs.length ≤ m := by omega
    have hcl5 : m + cs.length ≤ cr.length := by omega
    have hcw : IntKind.i64.wrap ((m : Int) + (cs.length : Int)) = ((m + cs.length : Nat) : Int) := by rw [IntKind.wrap_i64]; omega
    have hcw2 : IntKind.i64.wrap ((m : Int) + ((Nat.min m (128 - m) : Nat) : Int)) = (m : Int) + (cs.length : Int) := by rw [← hcl1, hcw]; omega
    clear hcl0
    have hsrc := Aside0.mk (show ∀ j v, cs[j]? = some v → ∀ W : World, W.heap[g]? = some (.cells cr.toArray 3 (0, 0)) → W.cell? ((⟨g, 0, none⟩ : Addr).add j) = some v from fun j v hj W hW => by
     have hlt := (List.getElem?_eq_some_iff.1 hj).1
     have e : v = .int .i64 (-1) := hcu.out v (List.mem_of_getElem? hj)
     have e2 := HCM.out j (by omega)
     rw [e, Addr.add_lit, Nat.zero_add]
     simpa [World.cell?, hW] using e2)
    have h0 : (0 : Int) ≤ (m : Int) := by omega
    have h2 : m ≠ cap := by omega
    have h3 : (m : Int) ≤ 128 := by omega
    have h4 : (m : Int) ≤ (cap : Int) := by omega
    have h5 : (128 : Int) ≤ (cap : Int) := by omega
    have h6 : cap ≠ m := by omega
    go_wp2
    go_region_law (refine step_copy_splice rfl (.tmp 41) (.tmp 44) 29 29 rfl 3 Try.underlying29 (by kernel_rfl) (some ⟨g, m, none⟩) (some ⟨g, 0, none⟩) (128 - m) (cap - m) m cap (by simp [Act.eval, Act.put]) (by simp [Act.eval, Act.put]) g m cr 3 HCR.out cs hcl1 (fun _ => ⟨rfl, _, rfl, fun j v hj => hsrc.out j v hj _ HCR.out⟩) hcl5 (fun u hu => by rw [hcu.out u hu]; rfl) w.heap.size w (pw_below_drewN HB.out 1) GB.out ?_; intro w4 hg4 hb4)
    have HM4 := Aside0.mk (Minus.splice hg4.out hcrl (by omega) hcu.out HCM.out)
    have HB4 := Aside0.mk hb4
    clear hg4 hb4
    go_wp2
    go_roundg k1
    case measure => omega
    case rel => exact ⟨m + cs.length, by first | rfl | (simp; done) | (simp [hcw2]; done) | (simp [hcw2]; rw [hcl1]), ⟨by omega, by omega, by omega⟩, HM4, HB4⟩
   ·have h1b : decide ((m : Int) < 128) = false := decide_eq_false h1
    have h1c : decide (m < 128) = false := decide_eq_false (by omega)
    obtain rfl : m = 128 := by omega
    go_wp2
    go_ret
    exact ⟨_, rfl, Minus.R HK.out GB.out hcap hcm, HB.out⟩
 ·rw [if_neg hq] at h
  cases h

end Go.Proofs.Ytimdefbpoddoaaa.PFnSplitSafe
-- thin
