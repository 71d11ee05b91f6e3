/- Each function that the law comes to, as a plain function, with the proof that the call in the model gives what that function says (written by a program of this session out of the translation). No condition. -/
import Derived.Test.YtagmogkdlimofaaPFnCyclesx0
import Derived.Test.YtagmogkdlimofaaPFnCyclesx5
import Derived.Test.YtagmogkdlimofaaPFnCyclesx6
import Derived.Test.YtagmogkdlimofaaPFnCyclesx8
namespace Go.Proofs.Ytagmogkdlimofaa.PFnCycles
open Go.RowKit Go.Proofs.YtagmogkdlimofaaW.PrintWords Go.Proofs.YtagmogkdlimofaaW.PrintLast Go.Proofs.YtagmogkdlimofaaW.PrintMore
attribute [local go_sem] max2_int min2_int max_two min_two max_three min_three max_four min_four   -- for this text's walks alone
set_option linter.unusedVariables false
set_option linter.unusedSimpArgs false

/-! ### impl_ShortestCycle: function 21 -/
def impl_ShortestCycle.l0 : Nat → List (S44) → List Int → Int → Option (List Int)
 | 0, _, _, _ => none
 | k + 1, l, out, x => if x < 128 then ((impl_cycleFrom.f k l x).bind fun own => (if own = [] then (impl_ShortestCycle.l0 k l out (wrap64 (x + 1))) else (if out = [] then (impl_ShortestCycle.l0 k l own (wrap64 (x + 1))) else (if (own.length : Int) < (out.length : Int) then (impl_ShortestCycle.l0 k l own (wrap64 (x + 1))) else (impl_ShortestCycle.l0 k l out (wrap64 (x + 1))))))) else (some out)
def impl_ShortestCycle.f (k : Nat) (l : List (S44)) : Option (List Int) := (impl_DependsOk.f k l).bind fun b => (if b = true then (impl_ShortestCycle.l0 k l [] 0) else (some []))
theorem impl_ShortestCycle.mono_l : ∀ k l out x, LeO (impl_ShortestCycle.l0 k l out x) (impl_ShortestCycle.l0 (k + 1) l out x)
 | 0, _, _, _ => fun r h => by simp [impl_ShortestCycle.l0] at h
 | k + 1, l, out, x => by
  have ih := impl_ShortestCycle.mono_l k
  unfold impl_ShortestCycle.l0
  exact LeO.ite (LeO.bind (impl_cycleFrom.mono _ _ _) (fun _ => LeO.ite (ih _ _ _) (LeO.ite (ih _ _ _) (LeO.ite (ih _ _ _) (ih _ _ _))))) (LeO.refl _)
theorem impl_ShortestCycle.mono (l : List (S44)) : ∀ k, LeO (impl_ShortestCycle.f k l) (impl_ShortestCycle.f (k + 1) l) := by
 intro k
 unfold impl_ShortestCycle.f
 exact LeO.bind (impl_DependsOk.mono _ _) (fun _ => LeO.ite (impl_ShortestCycle.mono_l _ _ _ _) (LeO.refl _))
theorem eq_nil_slice (W : World) (a : Option Addr) (n c : Nat) : (binOp .eql 26 (.slice a n c) (.slice none 0 0)).run Try.prog W = .ok (.bool a.isNone) W := Lib.run_eql_slice_nil W 26 _ a n c 0 0 Try.underlying26
theorem ne_nil_slice (W : World) (a : Option Addr) (n c : Nat) : (binOp .neq 26 (.slice a n c) (.slice none 0 0)).run Try.prog W = .ok (.bool (!a.isNone)) W := by
 simp only [binOp]
 simp [Op.equal, Op.maxDepth, Lib.run_equalIn_slice_nil W 9999 26 _ a n c 0 0 Try.underlying26]
theorem impl_ShortestCycle.nn {w : World} {base : Nat} {ok : Nat → Prop} {v : Value} {xs : List Int} (h : Kd.R (Kd.int .i64) 3 w base ok v xs) (hn : xs ≠ []) : ∃ (ad : Addr) (c : Nat), v = .slice (some ad) xs.length c := Kd.R_slice1 h (by cases xs with | nil => exact absurd rfl hn | cons x xs => simp)
theorem impl_ShortestCycle.e0 {P : Prop} (h : P := by
 go_wp2_with (first | (go_at_call 45; (with_reducible refine (impl_cycleFrom.callsN k1 A0 c0 l0 x [] _ ?side1 HC0.out A3.out).mono ?_); (case side1 => exact cb_ HR0.out HB.out); rintro e w_0 ⟨v5, rfl, ho, hb, hn⟩; obtain rfl := hn rfl; have HO5 := Aside0.mk (Kd.R_lower ho (bz_ HB.out)); replace HO := Aside0.mk (Kd.R_below HO.out hb); replace HB := Aside0.mk (bs_ HB.out hb); clear ho hb hn) | (go_at_call 45; (with_reducible refine (impl_cycleFrom.callsN k1 A0 c0 l0 x own _ ?side1 HC0.out A3.out).mono ?_); (case side1 => exact cb_ HR0.out HB.out); rintro e w_0 ⟨v5, rfl, ho, hb, hn⟩; obtain ⟨ad5, c5, rfl⟩ := impl_ShortestCycle.nn ho hown; have HO5 := Aside0.mk (Kd.R_lower ho (bz_ HB.out)); replace HO := Aside0.mk (Kd.R_below HO.out hb); replace HB := Aside0.mk (bs_ HB.out hb); clear ho hb hn))
 go_roundg k1
 case measure => omega
 case rel => exact ⟨out, wrap64 (x + 1), ef_, H', ⟨by have := HK1.out; omega⟩, HO, ⟨fun e_ => absurd e_ hout⟩, ⟨bb_ HB.out⟩⟩) : P := h
theorem impl_ShortestCycle.e1 {P : Prop} (h : P := by
 go_wp2_with (first | (go_at_call 45; (with_reducible refine (impl_cycleFrom.callsN k1 A0 c0 l0 x own _ ?side1 HC0.out A3.out).mono ?_); (case side1 => exact cb_ HR0.out HB.out); rintro e w_0 ⟨v5, rfl, ho, hb, hn⟩; obtain ⟨ad5, c5, rfl⟩ := impl_ShortestCycle.nn ho hown; have HO5 := Aside0.mk (Kd.R_lower ho (bz_ HB.out)); replace HO := Aside0.mk (Kd.R_below HO.out hb); replace HB := Aside0.mk (bs_ HB.out hb); clear ho hb hn))
 go_roundg k1
 case measure => omega
 case rel => exact ⟨own, wrap64 (x + 1), ef_, H', ⟨by have := HK1.out; omega⟩, HO5, ⟨fun e_ => absurd e_ hown⟩, ⟨bb_ HB.out⟩⟩) : P := h
set_option maxHeartbeats 4000000 in
set_option maxRecDepth 100000 in
theorem impl_ShortestCycle.calls (k : Nat) (A0 : Option Addr) (c0 : Nat) (l0 : List (S44)) (r : List Int) (w : World) (hr0 : Kd.C k44 w A0 l0.length l0) (hc0 : l0.length ≤ c0) (h : impl_ShortestCycle.f k l0 = some r) :
  Calls Try.prog 21 #[.slice A0 l0.length c0] w fun e w' => ∃ v0_ : Value, e = .returned (v0_) ∧ Kd.R (Kd.int .i64) 3 w' w.heap.size (fun _ => True) v0_ r ∧ Below w.heap.size w w' := by
 have HR0 := Aside0.mk hr0
 have HC0 := Aside0.mk hc0
 clear hr0 hc0
 have HB := Aside0.mk (Below.refl w.heap.size w)
 have hEQ := eq_nil_slice
 have hNE := ne_nil_slice
 unfold impl_ShortestCycle.f at h
 obtain ⟨b1, A10, h⟩ := Option.bind_eq_some_iff.1 h
 have A1 := Aside0.mk A10
 clear A10
 cases b1 with
 | false =>
  have h1 : some ([] : List Int) = some r := h
  obtain rfl := Option.some.inj h1
  clear h h1
  go_enter Try.func21, Try.ntmps21
  go_wp2_with (first | (go_at_call 33; (with_reducible refine (impl_DependsOk.calls k A0 c0 l0 _ _ ?side1 HC0.out A1.out).mono ?_); (case side1 => exact HR0.out); rintro e w1 ⟨rfl, hb⟩; replace HB := Aside0.mk (bs_ HB.out hb); (try clear hb)))
  go_ret
  exact ⟨_, fin_, Kd.R_nil _ _ _ _ _, bb_ HB.out⟩
 | true =>
  rw [if_pos rfl] at h
  have A2_ := Aside0.mk h
  clear h
  go_enter Try.func21, Try.ntmps21
  go_wp2_with (first | (go_at_call 33; (with_reducible refine (impl_DependsOk.calls k A0 c0 l0 _ _ ?side1 HC0.out A1.out).mono ?_); (case side1 => exact HR0.out); rintro e w1 ⟨rfl, hb⟩; replace HB := Aside0.mk (bs_ HB.out hb); (try clear hb)))
  go_loopg [3, 9] k (fun kq v3 v9 w' => ∃ (out : List Int) (x : Int), v9 = .int .i64 x ∧ Aside0 (impl_ShortestCycle.l0 kq l0 out x = some r) ∧ Aside0 (kq ≤ k) ∧ Aside0 (Kd.R (Kd.int .i64) 3 w' w.heap.size (fun _ => True) v3 out) ∧ Aside0 (out = [] → v3 = .slice none 0 0) ∧ Aside0 (Below w.heap.size w w'))
  case atStart => exact ⟨[], 0, ef_, A2_, ⟨Nat.le_refl _⟩, ⟨Kd.R_nil _ _ _ _ _⟩, ⟨fun _ => rfl⟩, ⟨bb_ HB.out⟩⟩
  case round =>
   clear A1 A2_ HB
   obtain ⟨out, x, rfl, HA, HK1, HO, HN, HB⟩ := hrel
   cases gk with
   | zero => exact absurd HA.out (by simp [impl_ShortestCycle.l0])
   | succ k1 =>
    have H := HA.out
    clear HA
    simp only [impl_ShortestCycle.l0] at H
    by_cases c1 : x < 128
    ·rw [if_pos c1] at H
     have c1b : decide (x < 128) = true := decide_eq_true c1
     clear c1
     obtain ⟨own, A30, H⟩ := Option.bind_eq_some_iff.1 H
     have A3 := Aside0.mk A30
     clear A30
     have hout0 : (out = [] ∧ u3 = .slice none 0 0) ∨ (out ≠ [] ∧ ∃ (ad : Addr) (c : Nat), u3 = .slice (some ad) out.length c) := by
      by_cases h : out = []
      ·exact Or.inl ⟨h, HN.out h⟩
      ·exact Or.inr ⟨h, impl_ShortestCycle.nn HO.out h⟩
     clear HN
     by_cases hown : own = []
     ·subst hown
      rw [if_pos rfl] at H
      have H' := Aside0.mk H
      clear H
      rcases hout0 with ⟨rfl, rfl⟩ | ⟨hout, ad3, c3, rfl⟩
      ·go_wp2_with (first | (go_at_call 45; (with_reducible refine (impl_cycleFrom.callsN k1 A0 c0 l0 x [] _ ?side1 HC0.out A3.out).mono ?_); (case side1 => exact cb_ HR0.out HB.out); rintro e w2 ⟨v5, rfl, ho, hb, hn⟩; obtain rfl := hn rfl; have HO5 := Aside0.mk (Kd.R_lower ho (bz_ HB.out)); replace HO := Aside0.mk (Kd.R_below HO.out hb); replace HB := Aside0.mk (bs_ HB.out hb); clear ho hb hn))
       go_roundg k1
       case measure => omega
       case rel => exact ⟨[], wrap64 (x + 1), ef_, H', ⟨by have := HK1.out; omega⟩, HO, ⟨fun _ => rfl⟩, ⟨bb_ HB.out⟩⟩
      ·exact impl_ShortestCycle.e0
     ·rw [if_neg hown] at H
      rcases hout0 with ⟨rfl, rfl⟩ | ⟨hout, ad3, c3, rfl⟩
      ·rw [if_pos rfl] at H
       have H' := Aside0.mk H
       clear H
       exact impl_ShortestCycle.e1
      ·rw [if_neg hout] at H
       by_cases c2 : (own.length : Int) < (out.length : Int)
       ·rw [if_pos c2] at H
        have H' := Aside0.mk H
        clear H
        have c2b : decide ((own.length : Int) < (out.length : Int)) = true := decide_eq_true c2
        have c2c : decide (own.length < out.length) = true := decide_eq_true (by omega)
        exact impl_ShortestCycle.e1
       ·rw [if_neg c2] at H
        have H' := Aside0.mk H
        clear H
        have c2b : decide ((own.length : Int) < (out.length : Int)) = false := decide_eq_false c2
        have c2c : decide (own.length < out.length) = false := decide_eq_false (by omega)
        exact impl_ShortestCycle.e0
    ·rw [if_neg c1] at H
     have c1b : decide (x < 128) = false := decide_eq_false c1
     clear c1
     obtain rfl := Option.some.inj H
     go_wp2
     go_ret
     exact ⟨_, fin_, HO.out, bb_ HB.out⟩

/-! ### impl_HasCycle: function 19 -/
def impl_HasCycle.f (k : Nat) (l0 : List (S44)) : Option (Bool) := (impl_ShortestCycle.f k l0).bind fun t258 => (some (decide ((t258.length : Int) > 0)))
theorem impl_HasCycle.mono : ∀ a0 k, LeO (impl_HasCycle.f k a0) (impl_HasCycle.f (k + 1) a0) := by
 intro a0 k
 unfold impl_HasCycle.f
 repeat' first
   | (with_reducible exact impl_ShortestCycle.mono _ _)
   | (with_reducible exact LeO.refl _)
   | (with_reducible exact LeO.none _)
   | (with_reducible refine LeO.ite ?_ ?_)
   | (with_reducible refine LeO.bind ?_ (fun _ => ?_))
   | exact impl_ShortestCycle.mono _ _
   | exact LeO.none _
   | refine LeO.ite ?_ ?_
   | refine LeO.bind ?_ (fun _ => ?_)
set_option maxHeartbeats 8000000 in
set_option maxRecDepth 100000 in
theorem impl_HasCycle.calls (k : Nat) (A0 : Option Addr) (c0 : Nat) (l0 : List (S44)) (r : Bool) (w : World) (hr0 : Kd.C k44 w A0 l0.length l0) (hc0 : l0.length ≤ c0) (h : impl_HasCycle.f k l0 = some r) :
  Calls Try.prog 19 #[.slice A0 l0.length c0] w fun e w' => e = .returned (.bool r) ∧ Below w.heap.size w w' := by
 have HR0 := Aside0.mk hr0
 have HC0 := Aside0.mk hc0
 clear hr0 hc0
 have HB := Aside0.mk (Below.refl w.heap.size w)
 have H : ((impl_ShortestCycle.f k l0).bind fun t258 => (some (decide ((t258.length : Int) > 0)))) = some r := h
 clear h
 replace H := Option.bind_eq_some_iff.mp H
 obtain ⟨t258, A20, H⟩ := H
 try dsimp only at H
 have A2 := Aside0.mk A20
 clear A20
 obtain rfl := Option.some.inj H
 go_enter Try.func19, Try.ntmps19
 go_wp2_with (first | ((with_reducible refine gate_callee (f := 21) rfl ?_); refine gm_ (some 4) Try.func21 #[.slice A0 l0.length c0] rfl ?_; (with_reducible refine (impl_ShortestCycle.calls k _ _ l0 t258 _ ?side1 HC0.out A2.out).mono ?_); (case side1 => repeat (first | exact HR0.out | (with_reducible refine Kd.C_alloc ?_ _) | (with_reducible refine Kd.C_drewN ?_ _) | (with_reducible refine Kd.C_drew ?_))); rintro e w3 ⟨v259, rfl, ho0, hb⟩; refine ⟨_, rfl, ?_⟩; have HO260 := Aside0.mk (Kd.R_lower ho0 (bz_ HB.out)); replace HB := Aside0.mk (bs_ HB.out hb); (try clear hb); (try clear ho0); obtain ⟨Ao4, co4, eo4⟩ := Kd.R_slice HO260.out; subst eo4))
 go_ret
 exact ⟨fin_, bb_ HB.out⟩

/-! ### slices_Clone_int_int: function 43 -/
def slices_Clone_int_int.f (l : List Int) : Option (List Int) := if 0 < l.length ∧ l.length < 17592186044416 then some l else none
theorem slices_Clone_int_int.ad {w : World} {A : Option Addr} {l : List Int} (h : Kd.C (Kd.int .i64) w A l.length l) (hn : 0 < l.length) : ∃ ad, A = some ad := by
 obtain ⟨_, _, h9⟩ := h
 obtain ⟨ad, e, _⟩ := h9 hn
 exact ⟨ad, e⟩
set_option maxHeartbeats 4000000 in
set_option maxRecDepth 100000 in
theorem slices_Clone_int_int.calls (A0 : Option Addr) (c0 : Nat) (l0 : List Int) (r : List Int) (w : World) (hr0 : Kd.C (Kd.int .i64) w A0 l0.length l0) (hc0 : l0.length ≤ c0) (h : slices_Clone_int_int.f l0 = some r) :
  Calls Try.prog 43 #[.slice A0 l0.length c0] w fun e w' => ∃ v0_ : Value, e = .returned (v0_) ∧ Kd.R (Kd.int .i64) 3 w' w.heap.size (fun _ => True) v0_ r ∧ Below w.heap.size w w' := by
 unfold slices_Clone_int_int.f at h
 by_cases hq : 0 < l0.length ∧ l0.length < 17592186044416
 ·rw [if_pos hq] at h
  obtain rfl := Option.some.inj h
  clear h
  obtain ⟨ad, rfl⟩ := slices_Clone_int_int.ad hr0 hq.1
  have HR0 := Aside0.mk hr0
  have HQ := Aside0.mk hq
  have HB := Aside0.mk (Below.refl w.heap.size w)
  have hEQ := eq_nil_slice
  clear hr0 hq hc0
  go_enter Try.func43, Try.ntmps43
  go_wp2_with (first
   | ((with_reducible refine gate_dst (N := 5) rfl ?_); refine Kd.R_lit (Kd.int .i64) _ 3 ?hg (N := 5) ?hd (xs := ([] : List Int)) (inner := []) (ok := fun _ => True) (okp := fun _ => True) ?hr ?hp (fun _ hk => hk) trivial (Below.refl _ _) (Nat.le_refl _) (by simp) ?_; (case hd => rfl); (case hg => rfl); (case hr => first | (go_simp; done) | (go_simp; rfl)); (case hp => exact (Reps.none _ _)); intro v5 w5 ho hb hg_ hnew_; clear hg_ hnew_; have HO := Aside0.mk (Kd.R_lower ho (bz_ HB.out)); replace HB := Aside0.mk (bs_ HB.out hb); clear ho hb)
   | ((with_reducible refine gate_builtin (b := .append) (xs := #[.tmp 5, .tmp 6]) rfl ?_); at_builtin; refine Kd.R_append_rows (Kd.int .i64) (w0 := w) w.heap.size rfl (.tmp 5) (.tmp 6) 26 3 (.int .i64 0) 8 rfl Try.underlying26 info3 rfl (by decide) (by omega) v5 [] l0 _ _ _ (fun _ => True) (fun _ => False) rfl rfl ?aO ?aR (fun _ _ h => h) (fun _ h => h.elim) ?aF ?aB ?aS ?aL ?_; (case aR => exact cb_ HR0.out HB.out); (case aB => exact bb_ HB.out); (case aF => exact (fun _ _ => trivial)); (case aO => exact HO.out); (case aS => exact bz_ HB.out); (case aL => have := HQ.out.2; simp only [List.length_nil]; omega); intro v7 w7 ho hb hg hat; rw [List.nil_append] at ho; replace HO := Aside0.mk ho; replace HB := Aside0.mk hb; clear ho hb hg hat))
  go_ret
  exact ⟨_, fin_, HO.out, bb_ HB.out⟩
 ·rw [if_neg hq] at h
  cases h

/-! ### impl_nextRanked: function 44 -/
def impl_nextRanked.l0 : Nat → List Int → Int → Option Int
 | 0, _, _ => none
 | k + 1, a, x => if x < (a.length : Int) then (if 0 ≤ x then (if rd a x = -2 then (some x) else (impl_nextRanked.l0 k a (wrap64 (x + 1)))) else none) else (some (-1))
def impl_nextRanked.f (k : Nat) (l0 : List S44) (l1 : List Int) : Option Int := impl_nextRanked.l0 k l1 0
theorem impl_nextRanked.mono_l : ∀ k a x, LeO (impl_nextRanked.l0 k a x) (impl_nextRanked.l0 (k + 1) a x)
 | 0, _, _ => fun r h => by simp [impl_nextRanked.l0] at h
 | k + 1, a, x => by
  have ih := impl_nextRanked.mono_l k
  unfold impl_nextRanked.l0
  exact LeO.ite (LeO.ite (LeO.ite (LeO.refl _) (ih _ _)) (LeO.refl _)) (LeO.refl _)
theorem impl_nextRanked.mono (l0 : List S44) (l1 : List Int) : ∀ k, LeO (impl_nextRanked.f k l0 l1) (impl_nextRanked.f (k + 1) l0 l1) := by
 intro k
 unfold impl_nextRanked.f
 exact impl_nextRanked.mono_l _ _ _
set_option maxHeartbeats 4000000 in
set_option maxRecDepth 100000 in
theorem impl_nextRanked.is2 (x : Int) (w : World) : Calls Try.prog 58 #[.int .i64 x] w fun e w' => e = .returned (.bool (x == -2)) ∧ Drawn0 w w' := by
 go_enter Try.func58, Try.ntmps58
 go_wp2
 go_ret
 exact ⟨by first | rfl | (simp; done) | (simp [*]; done), by repeat (first | exact Drawn0.refl _ | apply Drawn0.step)⟩
set_option maxHeartbeats 4000000 in
set_option maxRecDepth 100000 in
theorem impl_nextRanked.idx (k : Nat) (A0 : Option Addr) (c0 : Nat) (l0 : List Int) (r : Int) (w : World) (hr0 : Kd.C (Kd.int .i64) w A0 l0.length l0) (h : impl_nextRanked.l0 k l0 0 = some r) :
  Calls Try.prog 57 #[.slice A0 l0.length c0, .func (.func 58) #[] #[]] w fun e w' => e = .returned (.int .i64 r) ∧ Drawn0 w w' := by
 have HR0 := Aside0.mk hr0
 have H' := Aside0.mk h
 clear hr0 h
 go_enter Try.func57, Try.ntmps57
 go_wp2
 go_loopg [8] k (fun kq v8 w' => ∃ (x8_1 : Int), v8 = .int .i64 x8_1 ∧ Aside0 (impl_nextRanked.l0 kq l0 x8_1 = some r) ∧ Aside0 (kq ≤ k) ∧ Drawn0 w w')
 case atStart => exact ⟨(0), ef_, H', ⟨Nat.le_refl _⟩, by repeat (first | exact Drawn0.refl _ | apply Drawn0.step)⟩
 case round =>
  clear H'
  obtain ⟨x8_1, rfl, HA, HK1, ⟨m1, rfl⟩⟩ := hrel
  cases gk with
  | zero => exact absurd HA.out (by simp [impl_nextRanked.l0])
  | succ k1 =>
   have H := HA.out
   clear HA
   simp only [impl_nextRanked.l0] at H
   by_cases c3 : x8_1 < (l0.length : Int)
   ·rw [if_pos c3] at H
    have c3b0 : decide (x8_1 < (l0.length : Int)) = true := decide_eq_true c3
    by_cases c4 : 0 ≤ x8_1
    ·rw [if_pos c4] at H
     have c4b0 : decide (0 ≤ x8_1) = true := decide_eq_true c4
     obtain ⟨ad278, e278, hx278_0⟩ := Kd.at_int HR0.out x8_1 c4 c3
     cases e278
     by_cases c6 : rd l0 x8_1 = -2
     ·rw [if_pos c6] at H
      have c6b0 : (rd l0 x8_1 == -2) = true := beq_iff_eq.mpr c6
      clear c6
      obtain rfl := Option.some.inj H
      replace c3 := eq_true c3
      replace c4 := eq_true c4
      go_wp2_with (first | (go_at_call 58; (with_reducible refine (impl_nextRanked.is2 (rd l0 x8_1) _).mono ?_); rintro e w' ⟨rfl, ⟨nd, rfl⟩⟩))
      go_ret
      exact ⟨by first | rfl | (simp; done) | (simp [*]; done), by repeat (first | exact Drawn0.refl _ | apply Drawn0.step)⟩
     ·rw [if_neg c6] at H
      have c6b0 : (rd l0 x8_1 == -2) = false := beq_eq_false_iff_ne.mpr c6
      clear c6
      have H' := Aside0.mk H
      clear H
      replace c3 := eq_true c3
      replace c4 := eq_true c4
      go_wp2_with (first | (go_at_call 58; (with_reducible refine (impl_nextRanked.is2 (rd l0 x8_1) _).mono ?_); rintro e w' ⟨rfl, ⟨nd, rfl⟩⟩))
      go_roundg k1
      case measure => have := HK1.out; omega
      case rel => exact ⟨(wrap64 (x8_1 + 1)), ef_, H', ⟨by have := HK1.out; omega⟩, by repeat (first | exact Drawn0.refl _ | apply Drawn0.step)⟩
    ·rw [if_neg c4] at H
     exact absurd H (by simp)
   ·rw [if_neg c3] at H
    have c3b0 : decide (x8_1 < (l0.length : Int)) = false := decide_eq_false c3
    clear c3
    obtain rfl := Option.some.inj H
    go_wp2
    go_ret
    exact ⟨by first | rfl | (simp; done) | (simp [*]; done), by repeat (first | exact Drawn0.refl _ | apply Drawn0.step)⟩
set_option maxHeartbeats 4000000 in
set_option maxRecDepth 100000 in
theorem impl_nextRanked.calls (k : Nat) (A0 : Option Addr) (c0 : Nat) (l0 : List S44) (A1 : Option Addr) (c1 : Nat) (l1 : List Int) (r : Int) (w : World) (hr0 : Kd.C k44 w A0 l0.length l0) (hc0 : l0.length ≤ c0) (hr1 : Kd.C (Kd.int .i64) w A1 l1.length l1) (hc1 : l1.length ≤ c1) (h : impl_nextRanked.f k l0 l1 = some r) :
  Calls Try.prog 44 #[.slice A0 l0.length c0, .slice A1 l1.length c1] w fun e w' => e = .returned (.int .i64 r) ∧ Drawn0 w w' := by
 have hq := Aside0.mk (impl_nextRanked.idx k A1 c1 l1 r w hr1 h)
 clear hr0 hc0 hr1 hc1 h
 go_enter Try.func44, Try.ntmps44
 go_wp2_with (first | (go_at_call 57; (with_reducible refine hq.out.mono ?_); rintro e w' ⟨rfl, ⟨nd, rfl⟩⟩))
 go_ret
 exact ⟨by first | rfl | (simp; done) | (simp [*]; done), by repeat (first | exact Drawn0.refl _ | apply Drawn0.step)⟩

/-! ### impl_OrderOf: function 20 -/
mutual
def impl_OrderOf.l0 : Nat → List (S44) → List Int → Int → Option (List Int × Bool)
 | 0, _, _, _ => none
 | k + 1, x0, x4, x17 => if x17 < 128 then ((slices_Clone_int_int.f x4).bind fun t268 => (impl_OrderOf.l1 k x0 x4 x17 t268 x17 x4 (x4.length : Int) 0)) else (some (x4, true))
def impl_OrderOf.l1 : Nat → List (S44) → List Int → Int → List Int → Int → List Int → Int → Int → Option (List Int × Bool)
 | 0, _, _, _, _, _, _, _, _ => none
 | k + 1, x0, x4, x5, x6, x17, x22, x23, x24 => if x24 < x23 then (if 0 ≤ x24 then (if x24 < (x22.length : Int) then (if (rd x22 x24) < 0 then (if x24 < (x6.length : Int) then (impl_OrderOf.l1 k x0 x4 x5 (x6.set (x24 : Int).toNat (-2)) x17 x22 x23 (wrap64 (x24 + 1))) else (none)) else (impl_OrderOf.l1 k x0 x4 x5 x6 x17 x22 x23 (wrap64 (x24 + 1)))) else (none)) else (none)) else (impl_OrderOf.l2 k x0 x4 x5 x6 x17 x0 (x0.length : Int) 0)
def impl_OrderOf.l2 : Nat → List (S44) → List Int → Int → List Int → Int → List (S44) → Int → Int → Option (List Int × Bool)
 | 0, _, _, _, _, _, _, _, _ => none
 | k + 1, x0, x4, x5, x6, x17, x35, x36, x37 => if x37 < x36 then (if 0 ≤ x37 then (if x37 < (x35.length : Int) then (if 0 ≤ ((rd_T44 x35 x37).f0) then (if ((rd_T44 x35 x37).f0) < (x4.length : Int) then (if (rd x4 ((rd_T44 x35 x37).f0)) < 0 then (if 0 ≤ ((rd_T44 x35 x37).f1) then (if ((rd_T44 x35 x37).f1) < (x4.length : Int) then (if (rd x4 ((rd_T44 x35 x37).f1)) < 0 then (if ((rd_T44 x35 x37).f1) < (x6.length : Int) then (impl_OrderOf.l2 k x0 x4 x5 (x6.set (((rd_T44 x35 x37).f1) : Int).toNat (-1)) x17 x35 x36 (wrap64 (x37 + 1))) else (none)) else (impl_OrderOf.l2 k x0 x4 x5 x6 x17 x35 x36 (wrap64 (x37 + 1)))) else (none)) else (none)) else (impl_OrderOf.l2 k x0 x4 x5 x6 x17 x35 x36 (wrap64 (x37 + 1)))) else (none)) else (none)) else (none)) else (none)) else ((impl_nextRanked.f k x0 x6).bind fun t278 => (if t278 < 0 then (some (([] : List Int), false)) else (if 0 ≤ t278 then (if t278 < (x4.length : Int) then (impl_OrderOf.l0 k x0 (x4.set (t278 : Int).toNat x5) (wrap64 (x17 + 1))) else (none)) else (none))))
end
def impl_OrderOf.f (k : Nat) (l0 : List (S44)) : Option (List Int × Bool) := (impl_DependsOk.f k l0).bind fun t261 => (if t261 = true then ((slices_Repeat_int_int.f (([(-1)] : List Int)) 128).bind fun t265 => (impl_OrderOf.l0 k l0 t265 0)) else (some (([] : List Int), false)))
theorem impl_OrderOf.mono_l : ∀ k, (∀ y0 y1 y2, LeO (impl_OrderOf.l0 k y0 y1 y2) (impl_OrderOf.l0 (k + 1) y0 y1 y2)) ∧ (∀ y0 y1 y2 y3 y4 y5 y6 y7, LeO (impl_OrderOf.l1 k y0 y1 y2 y3 y4 y5 y6 y7) (impl_OrderOf.l1 (k + 1) y0 y1 y2 y3 y4 y5 y6 y7)) ∧ (∀ y0 y1 y2 y3 y4 y5 y6 y7, LeO (impl_OrderOf.l2 k y0 y1 y2 y3 y4 y5 y6 y7) (impl_OrderOf.l2 (k + 1) y0 y1 y2 y3 y4 y5 y6 y7))
 | 0 => ⟨fun _ _ _ r h => by simp [impl_OrderOf.l0] at h, fun _ _ _ _ _ _ _ _ r h => by simp [impl_OrderOf.l1] at h, fun _ _ _ _ _ _ _ _ r h => by simp [impl_OrderOf.l2] at h⟩
 | k + 1 => by
  obtain ⟨ih0, ih1, ih2⟩ := impl_OrderOf.mono_l k
  refine ⟨?_, ?_, ?_⟩
  ·intro y0 y1 y2
   unfold impl_OrderOf.l0
   repeat' first
   | (with_reducible exact ih0 _ _ _)
   | (with_reducible exact ih1 _ _ _ _ _ _ _ _)
   | (with_reducible exact ih2 _ _ _ _ _ _ _ _)
   | (with_reducible exact impl_DependsOk.mono _ _)
   | (with_reducible exact impl_nextRanked.mono _ _ _)
   | (with_reducible exact LeO.refl _)
   | (with_reducible exact LeO.none _)
   | (with_reducible refine LeO.ite ?_ ?_)
   | (with_reducible refine LeO.bind ?_ (fun _ => ?_))
   | exact ih0 _ _ _
   | exact ih1 _ _ _ _ _ _ _ _
   | exact ih2 _ _ _ _ _ _ _ _
   | exact impl_DependsOk.mono _ _
   | exact impl_nextRanked.mono _ _ _
   | exact LeO.none _
   | refine LeO.ite ?_ ?_
   | refine LeO.bind ?_ (fun _ => ?_)
  ·intro y0 y1 y2 y3 y4 y5 y6 y7
   unfold impl_OrderOf.l1
   repeat' first
   | (with_reducible exact ih0 _ _ _)
   | (with_reducible exact ih1 _ _ _ _ _ _ _ _)
   | (with_reducible exact ih2 _ _ _ _ _ _ _ _)
   | (with_reducible exact impl_DependsOk.mono _ _)
   | (with_reducible exact impl_nextRanked.mono _ _ _)
   | (with_reducible exact LeO.refl _)
   | (with_reducible exact LeO.none _)
   | (with_reducible refine LeO.ite ?_ ?_)
   | (with_reducible refine LeO.bind ?_ (fun _ => ?_))
   | exact ih0 _ _ _
   | exact ih1 _ _ _ _ _ _ _ _
   | exact ih2 _ _ _ _ _ _ _ _
   | exact impl_DependsOk.mono _ _
   | exact impl_nextRanked.mono _ _ _
   | exact LeO.none _
   | refine LeO.ite ?_ ?_
   | refine LeO.bind ?_ (fun _ => ?_)
  ·intro y0 y1 y2 y3 y4 y5 y6 y7
   unfold impl_OrderOf.l2
   repeat' first
   | (with_reducible exact ih0 _ _ _)
   | (with_reducible exact ih1 _ _ _ _ _ _ _ _)
   | (with_reducible exact ih2 _ _ _ _ _ _ _ _)
   | (with_reducible exact impl_DependsOk.mono _ _)
   | (with_reducible exact impl_nextRanked.mono _ _ _)
   | (with_reducible exact LeO.refl _)
   | (with_reducible exact LeO.none _)
   | (with_reducible refine LeO.ite ?_ ?_)
   | (with_reducible refine LeO.bind ?_ (fun _ => ?_))
   | exact ih0 _ _ _
   | exact ih1 _ _ _ _ _ _ _ _
   | exact ih2 _ _ _ _ _ _ _ _
   | exact impl_DependsOk.mono _ _
   | exact impl_nextRanked.mono _ _ _
   | exact LeO.none _
   | refine LeO.ite ?_ ?_
   | refine LeO.bind ?_ (fun _ => ?_)
theorem impl_OrderOf.mono : ∀ a0 k, LeO (impl_OrderOf.f k a0) (impl_OrderOf.f (k + 1) a0) := by
 intro a0 k
 obtain ⟨ih0, ih1, ih2⟩ := impl_OrderOf.mono_l k
 unfold impl_OrderOf.f
 repeat' first
   | (with_reducible exact ih0 _ _ _)
   | (with_reducible exact ih1 _ _ _ _ _ _ _ _)
   | (with_reducible exact ih2 _ _ _ _ _ _ _ _)
   | (with_reducible exact impl_DependsOk.mono _ _)
   | (with_reducible exact impl_nextRanked.mono _ _ _)
   | (with_reducible exact LeO.refl _)
   | (with_reducible exact LeO.none _)
   | (with_reducible refine LeO.ite ?_ ?_)
   | (with_reducible refine LeO.bind ?_ (fun _ => ?_))
   | exact ih0 _ _ _
   | exact ih1 _ _ _ _ _ _ _ _
   | exact ih2 _ _ _ _ _ _ _ _
   | exact impl_DependsOk.mono _ _
   | exact impl_nextRanked.mono _ _ _
   | exact LeO.none _
   | refine LeO.ite ?_ ?_
   | refine LeO.bind ?_ (fun _ => ?_)
theorem impl_OrderOf.e0 {P : Prop} (h : P := by
 go_wp2_with (first | ((with_reducible refine gate_dst (N := 10) rfl ?_); refine box_event ?hg (N := 10) ?hd (cs := #[.int .i64 0, .int .i64 0]) (t := 44) ?hr ?_; (case hd => rfl); (case hg => rfl); (case hr => first | (go_simp; done) | (go_simp; rfl)); intro gb274 hg w_0 hbox hb; replace HO_4 := Aside0.mk (Kd.R_below (ra_ HO_4.out) hb); replace HO_6 := Aside0.mk (Kd.R_below (ra_ HO_6.out) hb); have BK274 := Aside0.mk (hbox); have GW274 := Aside0.mk ((by rw [hg]; exact (bz_ HB.out) : w.heap.size ≤ gb274)); have GE274 := Aside0.mk ((by rw [hg]; exact (bz_ HB.out) : w.heap.size ≤ gb274)); replace HB := Aside0.mk (bs_ HB.out hb); clear hb hbox hg; obtain ⟨hcz_0, hcz_1, hfz_0, hfz_1⟩ := cz2_ BK274.out; have p275 : 0 ≤ (((rd_T44 l0 x37_3).f0) : Int) := of_decide_eq_true dg_; have q275 : ((rd_T44 l0 x37_3).f0) < (x4_1.length : Int) := of_decide_eq_true dg_; obtain ⟨ad275, e275, hx275_0⟩ := Kd.at_int (Kd.R_reads' HO_4.out).2.2 ((rd_T44 l0 x37_3).f0) p275 q275; cases e275; have hn275_0 : ad275.block ≠ gb274 := Kd.own_blk (Kd.R_ne HO_4.out BK274.out (by decide)); have hn275_1 : ad275.block ≠ gb274 := Kd.own_blk (Kd.R_ne HO_4.out BK274.out (by decide)); replace hx275_0 := (cell_far (p := ⟨gb274, 0, none⟩) (by first | (rw [add_block]; exact hn275_0) | (show (Addr.add _ _).block ≠ _; rw [add_block]; exact hn275_0) | exact hn275_0) (.int .i64 ((rd_T44 l0 x37_3).f0))).trans hx275_0; replace hx275_0 := (cell_far (p := ⟨gb274, 1, none⟩) (by first | (rw [add_block]; exact hn275_1) | (show (Addr.add _ _).block ≠ _; rw [add_block]; exact hn275_1) | exact hn275_1) (.int .i64 ((rd_T44 l0 x37_3).f1))).trans hx275_0; clear hn275_0; clear hn275_1; replace p275 := eq_true p275; replace q275 := eq_true q275; have p276 : 0 ≤ (((rd_T44 l0 x37_3).f1) : Int) := of_decide_eq_true dg_; have q276 : ((rd_T44 l0 x37_3).f1) < (x4_1.length : Int) := of_decide_eq_true dg_; obtain ⟨ad276, e276, hx276_0⟩ := Kd.at_int (Kd.R_reads' HO_4.out).2.2 ((rd_T44 l0 x37_3).f1) p276 q276; obtain rfl : ad275 = ad276 := (by injection e276); have hn276_0 : ad275.block ≠ gb274 := Kd.own_blk (Kd.R_ne HO_4.out BK274.out (by decide)); have hn276_1 : ad275.block ≠ gb274 := Kd.own_blk (Kd.R_ne HO_4.out BK274.out (by decide)); replace hx276_0 := (cell_far (p := ⟨gb274, 0, none⟩) (by first | (rw [add_block]; exact hn276_0) | (show (Addr.add _ _).block ≠ _; rw [add_block]; exact hn276_0) | exact hn276_0) (.int .i64 ((rd_T44 l0 x37_3).f0))).trans hx276_0; replace hx276_0 := (cell_far (p := ⟨gb274, 1, none⟩) (by first | (rw [add_block]; exact hn276_1) | (show (Addr.add _ _).block ≠ _; rw [add_block]; exact hn276_1) | exact hn276_1) (.int .i64 ((rd_T44 l0 x37_3).f1))).trans hx276_0; clear hn276_0; clear hn276_1; replace p276 := eq_true p276; replace q276 := eq_true q276) | ((with_reducible refine gate_dst (N := 10) rfl ?_); refine box_event ?hg (N := 10) ?hd (cs := #[.int .i64 0, .int .i64 0]) (t := 44) ?hr ?_; (case hd => rfl); (case hg => rfl); (case hr => first | (go_simp; done) | (go_simp; rfl)); intro gb274 hg w_0 hbox hb; replace HO_4 := Aside0.mk (Kd.R_below (ra_ HO_4.out) hb); replace HO_6 := Aside0.mk (Kd.R_below (ra_ HO_6.out) hb); have BK274 := Aside0.mk (hbox); have GW274 := Aside0.mk ((by rw [hg]; exact (bz_ HB.out) : w.heap.size ≤ gb274)); have GE274 := Aside0.mk ((by rw [hg]; exact (bz_ HB.out) : w.heap.size ≤ gb274)); replace HB := Aside0.mk (bs_ HB.out hb); clear hb hbox hg; obtain ⟨hcz_0, hcz_1, hfz_0, hfz_1⟩ := cz2_ BK274.out; have p275 : 0 ≤ (((rd_T44 l0 x37_3).f0) : Int) := of_decide_eq_true dg_; have q275 : ((rd_T44 l0 x37_3).f0) < (x4_1.length : Int) := of_decide_eq_true dg_; obtain ⟨ad275, e275, hx275_0⟩ := Kd.at_int (Kd.R_reads' HO_4.out).2.2 ((rd_T44 l0 x37_3).f0) p275 q275; cases e275; have hn275_0 : ad275.block ≠ gb274 := Kd.own_blk (Kd.R_ne HO_4.out BK274.out (by decide)); have hn275_1 : ad275.block ≠ gb274 := Kd.own_blk (Kd.R_ne HO_4.out BK274.out (by decide)); replace hx275_0 := (cell_far (p := ⟨gb274, 0, none⟩) (by first | (rw [add_block]; exact hn275_0) | (show (Addr.add _ _).block ≠ _; rw [add_block]; exact hn275_0) | exact hn275_0) (.int .i64 ((rd_T44 l0 x37_3).f0))).trans hx275_0; replace hx275_0 := (cell_far (p := ⟨gb274, 1, none⟩) (by first | (rw [add_block]; exact hn275_1) | (show (Addr.add _ _).block ≠ _; rw [add_block]; exact hn275_1) | exact hn275_1) (.int .i64 ((rd_T44 l0 x37_3).f1))).trans hx275_0; clear hn275_0; clear hn275_1; replace p275 := eq_true p275; replace q275 := eq_true q275))
 go_roundg k3
 case measure => have := HK1.out; have := HK2.out; have := HK3.out; omega
 case rel => exact ⟨(x6_3), (wrap64 (x37_3 + 1)), ef_, H', ⟨by have := HK1.out; have := HK2.out; have := HK3.out; omega⟩, ⟨rm_ (Kd.R_types HO_4.out BK274.out (by decide)) (fun _ hk => hk.1)⟩, ⟨rm_ (Kd.R_types HO_6.out BK274.out (by decide)) (fun _ hk => hk.1)⟩, ⟨bb_ HB.out⟩⟩) : P := h
set_option maxHeartbeats 8000000 in
set_option maxRecDepth 100000 in
theorem impl_OrderOf.calls (k : Nat) (A0 : Option Addr) (c0 : Nat) (l0 : List (S44)) (r1 : List Int) (r2 : Bool) (w : World) (hr0 : Kd.C k44 w A0 l0.length l0) (hc0 : l0.length ≤ c0) (h : impl_OrderOf.f k l0 = some (r1, r2)) :
  Calls Try.prog 20 #[.slice A0 l0.length c0] w fun e w' => ∃ v0_ : Value, e = .returned (.tuple #[v0_, .bool r2]) ∧ Kd.R (Kd.int .i64) 3 w' w.heap.size (fun _ => True) v0_ r1 ∧ Below w.heap.size w w' := by
 have hu44 := Try.underlying44
 have HR0 := Aside0.mk hr0
 have HC0 := Aside0.mk hc0
 clear hr0 hc0
 have HB := Aside0.mk (Below.refl w.heap.size w)
 have H : ((impl_DependsOk.f k l0).bind fun t261 => (if t261 = true then ((slices_Repeat_int_int.f (([(-1)] : List Int)) 128).bind fun t265 => (impl_OrderOf.l0 k l0 t265 0)) else (some (([] : List Int), false)))) = some (r1, r2) := h
 clear h
 replace H := Option.bind_eq_some_iff.mp H
 obtain ⟨t261, A20, H⟩ := H
 try dsimp only at H
 have A2 := Aside0.mk A20
 clear A20
 by_cases c3 : t261 = true
 ·subst c3
  rw [if_pos rfl] at H
  obtain ⟨y262, hy262⟩ : ∃ y_ : List Int, y_ = (([(-1)] : List Int)) := ⟨_, rfl⟩
  replace H : ((slices_Repeat_int_int.f y262 128).bind fun t265 => (impl_OrderOf.l0 k l0 t265 0)) = some (r1, r2) := by first | (rw [hy262]; with_reducible exact H) | (have H2_ := (Option.bind_some _ _).symm.trans H; rw [hy262]; with_reducible exact H2_) | (have H2_ := (Option.bind_some _ _).symm.trans H; with_reducible exact H2_) | with_reducible exact H | (rw [hy262]; exact H) | exact H
  have Ny262 := Aside0.mk hy262
  clear hy262
  replace H := Option.bind_eq_some_iff.mp H
  obtain ⟨t265, A40, H⟩ := H
  try dsimp only at H
  have A4 := Aside0.mk A40
  clear A40
  have H' := Aside0.mk H
  clear H
  go_enter Try.func20, Try.ntmps20
  go_wp2_with (first | ((with_reducible refine gate_callee (f := 33) rfl ?_); refine gm_ (some 13) Try.func33 #[.slice A0 l0.length c0] rfl ?_; (with_reducible refine (impl_DependsOk.calls k _ _ l0 true _ ?side1 HC0.out A2.out).mono ?_); (case side1 => repeat (first | exact HR0.out | (with_reducible refine Kd.C_alloc ?_ _) | (with_reducible refine Kd.C_drewN ?_ _) | (with_reducible refine Kd.C_drew ?_))); rintro e w5 ⟨rfl, hb⟩; refine ⟨_, rfl, ?_⟩; replace HB := Aside0.mk (bs_ HB.out hb); (try clear hb)) | ((with_reducible refine gate_dst (N := 15) rfl ?_); refine Kd.R_lit (Kd.int .i64) _ 3 ?hg (N := 15) ?hd (xs := ([(-1)] : List Int)) (inner := [.int .i64 (-1)]) (ok := fun _ => True) (okp := fun _ => True) ?hr ?hp (fun _ hk => hk) trivial (Below.refl _ _) (Nat.le_refl _) (by simp) ?_; (case hd => rfl); (case hg => rfl); (case hr => first | (go_simp; done) | (go_simp; rfl)); (case hp => exact (Reps.one (show Kd.M (Kd.int .i64) _ _ _ (-1) [.int .i64 (-1)] from rfl) (Reps.none _ _))); intro v263 w6 ho7 hb hg_ hnew_; clear hg_ hnew_; (first | rw [← Ny262.out] at ho7 | (simp only [Int.reduceToNat] at ho7; rw [← Ny262.out] at ho7)); have HO264 := Aside0.mk (Kd.R_lower ho7 (bz_ HB.out)); replace HB := Aside0.mk (bs_ HB.out hb); clear hb ho7; obtain ⟨Ao8, co8, eo8⟩ := Kd.R_slice HO264.out; subst eo8) | ((with_reducible refine gate_callee (f := 42) rfl ?_); refine gm_ (some 16) Try.func42 #[.slice Ao8 y262.length co8, .int .i64 128] rfl ?_; (with_reducible refine (slices_Repeat_int_int.calls _ _ y262 128 t265 _ ?side1 ?side2 A4.out).mono ?_); (case side1 => repeat (first | exact (Kd.R_reads' HO264.out).2.2 | (with_reducible refine Kd.C_alloc ?_ _) | (with_reducible refine Kd.C_drewN ?_ _) | (with_reducible refine Kd.C_drew ?_))); (case side2 => exact (Kd.R_reads' HO264.out).2.1); rintro e w9 ⟨v266, rfl, ho0, hb⟩; refine ⟨_, rfl, ?_⟩; have HO267 := Aside0.mk (Kd.R_lower (Kd.R_new' ho0 (rl_ HO264.out)) (bz_ HB.out)); replace HO264 := Aside0.mk (Kd.R_elder' (ra_ HO264.out) (Kd.R_base ho0) hb); replace HB := Aside0.mk (bs_ HB.out hb); (try clear hb); (try clear ho0)))
  go_loopg [17] k (fun kq v17 w' => ∃ (x4_1 : List Int) (x17_1 : Int), v17 = .int .i64 x17_1 ∧ Aside0 (impl_OrderOf.l0 kq l0 x4_1 x17_1 = some (r1, r2)) ∧ Aside0 (kq ≤ k) ∧ Aside0 (Kd.R (Kd.int .i64) 3 w' w.heap.size (fun _ => True) v266 x4_1) ∧ Aside0 (Below w.heap.size w w'))
  case atStart => exact ⟨(t265), (0), ef_, H', ⟨Nat.le_refl _⟩, ⟨by (with_reducible repeat (first | apply Kd.R_alloc | apply Kd.R_drewN | apply Kd.R_drew)); exact Kd.R_mono HO267.out (fun _ hk => trivial)⟩, ⟨bb_ HB.out⟩⟩
  case round =>
   clear H'
   try clear c3
   obtain ⟨x4_1, x17_1, rfl, HA, HK1, HO_4, HB⟩ := hrel
   cases gk with
   | zero => exact absurd HA.out (by simp [impl_OrderOf.l0])
   | succ k1 =>
    have H := HA.out
    clear HA
    simp only [impl_OrderOf.l0] at H
    by_cases c10 : x17_1 < 128
    ·rw [if_pos c10] at H
     have c10b0 : decide (x17_1 < 128) = true := decide_eq_true c10
     clear c10
     replace H := Option.bind_eq_some_iff.mp H
     obtain ⟨t268, A110, H⟩ := H
     try dsimp only at H
     have A11 := Aside0.mk A110
     clear A110
     have H' := Aside0.mk H
     clear H
     obtain ⟨Ao12, co12, eo12⟩ := Kd.R_slice HO_4.out
     subst eo12
     go_wp2_with (first | ((with_reducible refine gate_callee (f := 43) rfl ?_); refine gm_ (some 21) Try.func43 #[.slice Ao12 x4_1.length co12] rfl ?_; (with_reducible refine (slices_Clone_int_int.calls _ _ x4_1 t268 _ ?side1 ?side2 A11.out).mono ?_); (case side1 => repeat (first | exact (Kd.R_reads' HO_4.out).2.2 | (with_reducible refine Kd.C_alloc ?_ _) | (with_reducible refine Kd.C_drewN ?_ _) | (with_reducible refine Kd.C_drew ?_))); (case side2 => exact (Kd.R_reads' HO_4.out).2.1); rintro e w13 ⟨v269, rfl, ho0, hb⟩; refine ⟨_, rfl, ?_⟩; have HO270 := Aside0.mk (Kd.R_lower (Kd.R_new' ho0 (rl_ HO_4.out)) (bz_ HB.out)); replace HO_4 := Aside0.mk (Kd.R_elder' (ra_ HO_4.out) (Kd.R_base ho0) hb); replace HB := Aside0.mk (bs_ HB.out hb); (try clear hb); (try clear ho0)))
     go_loopg [24] k1 (fun kq v24 w' => ∃ (x6_2 : List Int) (x24_2 : Int), v24 = .int .i64 x24_2 ∧ Aside0 (impl_OrderOf.l1 kq l0 x4_1 x17_1 x6_2 x17_1 x4_1 (x4_1.length : Int) x24_2 = some (r1, r2)) ∧ Aside0 (kq ≤ k1) ∧ Aside0 (Kd.R (Kd.int .i64) 3 w' w.heap.size (fun k_ => some k_ ≠ (v269 : Value).ownBlock) (.slice Ao12 x4_1.length co12) x4_1) ∧ Aside0 (Kd.R (Kd.int .i64) 3 w' w.heap.size (fun k_ => some k_ ≠ ((.slice Ao12 x4_1.length co12) : Value).ownBlock ∧ some k_ ≠ ((.slice Ao12 x4_1.length co12) : Value).ownBlock) v269 x6_2) ∧ Aside0 (Kd.R (Kd.int .i64) 3 w' w.heap.size (fun k_ => some k_ ≠ (v269 : Value).ownBlock) (.slice Ao12 x4_1.length co12) x4_1) ∧ Aside0 (Below w.heap.size w w'))
     case atStart => exact ⟨(t268), (0), ef_, H', ⟨Nat.le_refl _⟩, ⟨by (with_reducible repeat (first | apply Kd.R_alloc | apply Kd.R_drewN | apply Kd.R_drew)); exact Kd.R_mono HO_4.out (fun _ hk => hk.2)⟩, ⟨by (with_reducible repeat (first | apply Kd.R_alloc | apply Kd.R_drewN | apply Kd.R_drew)); exact Kd.R_mono HO270.out (fun _ hk => ⟨hk.2, hk.2⟩)⟩, ⟨by (with_reducible repeat (first | apply Kd.R_alloc | apply Kd.R_drewN | apply Kd.R_drew)); exact Kd.R_mono HO_4.out (fun _ hk => hk.2)⟩, ⟨bb_ HB.out⟩⟩
     case round =>
      clear H'
      try clear c3
      try clear c10
      try clear c10b0
      obtain ⟨x6_2, x24_2, rfl, HA, HK2, HO_4, HO_6, HO_22, HB⟩ := hrel
      cases gk with
      | zero => exact absurd HA.out (by simp [impl_OrderOf.l1])
      | succ k2 =>
       have H := HA.out
       clear HA
       simp only [impl_OrderOf.l1] at H
       by_cases c14 : x24_2 < (x4_1.length : Int)
       ·rw [if_pos c14] at H
        have c14b0 : decide (x24_2 < (x4_1.length : Int)) = true := decide_eq_true c14
        clear c14
        by_cases c15 : 0 ≤ x24_2
        ·rw [if_pos c15] at H
         have c15b0 : decide (0 ≤ x24_2) = true := decide_eq_true c15
         clear c15
         by_cases c16 : x24_2 < (x4_1.length : Int)
         ·rw [if_pos c16] at H
          have c16b0 : decide (x24_2 < (x4_1.length : Int)) = true := decide_eq_true c16
          clear c16
          by_cases c17 : (rd x4_1 x24_2) < 0
          ·rw [if_pos c17] at H
           have c17b0 : decide ((rd x4_1 x24_2) < 0) = true := decide_eq_true c17
           clear c17
           by_cases c18 : x24_2 < (x6_2.length : Int)
           ·rw [if_pos c18] at H
            have c18b0 : decide (x24_2 < (x6_2.length : Int)) = true := decide_eq_true c18
            clear c18
            obtain ⟨y272, hy272⟩ : ∃ y_ : List Int, y_ = (x6_2.set (x24_2 : Int).toNat (-2)) := ⟨_, rfl⟩
            replace H : (impl_OrderOf.l1 k2 l0 x4_1 x17_1 y272 x17_1 x4_1 (x4_1.length : Int) (wrap64 (x24_2 + 1))) = some (r1, r2) := by first | (rw [hy272]; with_reducible exact H) | (have H2_ := (Option.bind_some _ _).symm.trans H; rw [hy272]; with_reducible exact H2_) | (have H2_ := (Option.bind_some _ _).symm.trans H; with_reducible exact H2_) | with_reducible exact H | (rw [hy272]; exact H) | exact H
            have Ny272 := Aside0.mk hy272
            clear hy272
            have H' := Aside0.mk H
            clear H
            have p271 : 0 ≤ (x24_2 : Int) := of_decide_eq_true dg_
            have q271 : x24_2 < (x4_1.length : Int) := of_decide_eq_true dg_
            obtain ⟨ad271, e271, hx271_0⟩ := Kd.at_int (Kd.R_reads' HO_22.out).2.2 x24_2 p271 q271
            cases e271
            replace p271 := eq_true p271
            replace q271 := eq_true q271
            have p19 : 0 ≤ (x24_2 : Int) := of_decide_eq_true dg_
            have q19 : (x24_2 : Int) < ((x6_2.length : Int) : Int) := of_decide_eq_true dg_
            obtain ⟨go19, co19, eo19, gb19, gl19, cl19, HG19⟩ := Kd.R_form HO_6.out (by omega)
            (first | cases eo19 | (injection eo19 with ea_ en_ ec_; (first | subst ea_ | (injection ea_ with ea_; subst ea_)); subst ec_; clear en_))
            have GB19 := Aside0.mk gb19
            have GG19 := Aside0.mk HG19
            clear gb19 gl19 HG19
            obtain ⟨hx19_0, hf19_0⟩ := Kd.R_celln 0 HO_6.out (x24_2 : Int) p19 q19
            replace p19 := eq_true p19
            replace q19 := eq_true q19
            have HP20 := Kd.R_putg HO_6.out (x24_2 : Int) (-2)
            go_wp2_with (first | ((with_reducible refine gate_store (t := 3) (p := 33) rfl ?_); refine store_event (t := 3) (p := 33) (v := ?vo_w21) (w1 := (wr.setCell ⟨go19, (x24_2 : Int).toNat, none⟩ (.int .i64 (-2)))) ?hg ?ho ?hn ?hr ?_; (case ho => rfl); (case hg => rfl); (case hn => rfl); (case hr => first | (go_simp; done) | (go_simp; rfl)); intro w21 hw; have hg : wr.grownBy w21 (some go19) := (by rw [hw]; exact HP20.2); have hp_ : Kd.R (Kd.int .i64) 3 w21 w.heap.size (fun k_ => some k_ ≠ (.slice (some ad271) x4_1.length co12 : Value).ownBlock ∧ some k_ ≠ (.slice (some ad271) x4_1.length co12 : Value).ownBlock) (.slice (some ⟨go19, 0, none⟩) x6_2.length co19) y272 := (by rw [hw, Ny272.out]; exact HP20.1); clear HP20; replace HO_4 := Aside0.mk (Kd.R_after (v := (.slice (some ⟨go19, 0, none⟩) x6_2.length co19)) (v1 := (.slice (some ⟨go19, 0, none⟩) x6_2.length co19)) (ok := (fun _ => True)) (by (with_reducible repeat (first | apply Kd.R_alloc | apply Kd.R_drewN | apply Kd.R_drew)); exact Kd.R_mono HO_4.out (fun _ hk => ⟨trivial, hk⟩)) hg (.inl rfl)); replace HO_6 := Aside0.mk (hp_); replace HO_22 := Aside0.mk (Kd.R_after (v := (.slice (some ⟨go19, 0, none⟩) x6_2.length co19)) (v1 := (.slice (some ⟨go19, 0, none⟩) x6_2.length co19)) (ok := (fun _ => True)) (by (with_reducible repeat (first | apply Kd.R_alloc | apply Kd.R_drewN | apply Kd.R_drew)); exact Kd.R_mono HO_22.out (fun _ hk => ⟨trivial, hk⟩)) hg (.inl rfl)); replace HB := Aside0.mk ((by rw [hw]; exact below_set (HB.out) GB19.out : Below w.heap.size w w21)); clear hg hw hp_))
            go_roundg k2
            case measure => have := HK1.out; have := HK2.out; omega
            case rel => exact ⟨(y272), (wrap64 (x24_2 + 1)), ef_, H', ⟨by have := HK1.out; have := HK2.out; omega⟩, ⟨by (with_reducible repeat (first | apply Kd.R_alloc | apply Kd.R_drewN | apply Kd.R_drew)); exact Kd.R_mono HO_4.out (fun _ hk => hk.2)⟩, ⟨by (with_reducible repeat (first | apply Kd.R_alloc | apply Kd.R_drewN | apply Kd.R_drew)); exact HO_6.out⟩, ⟨by (with_reducible repeat (first | apply Kd.R_alloc | apply Kd.R_drewN | apply Kd.R_drew)); exact Kd.R_mono HO_22.out (fun _ hk => hk.2)⟩, ⟨bb_ HB.out⟩⟩
           ·rw [if_neg c18] at H
            exact absurd H (by simp)
          ·rw [if_neg c17] at H
           have c17b0 : decide ((rd x4_1 x24_2) < 0) = false := decide_eq_false c17
           clear c17
           have H' := Aside0.mk H
           clear H
           have p271 : 0 ≤ (x24_2 : Int) := of_decide_eq_true dg_
           have q271 : x24_2 < (x4_1.length : Int) := of_decide_eq_true dg_
           obtain ⟨ad271, e271, hx271_0⟩ := Kd.at_int (Kd.R_reads' HO_22.out).2.2 x24_2 p271 q271
           cases e271
           replace p271 := eq_true p271
           replace q271 := eq_true q271
           go_wp2
           go_roundg k2
           case measure => have := HK1.out; have := HK2.out; omega
           case rel => exact ⟨(x6_2), (wrap64 (x24_2 + 1)), ef_, H', ⟨by have := HK1.out; have := HK2.out; omega⟩, ⟨by (with_reducible repeat (first | apply Kd.R_alloc | apply Kd.R_drewN | apply Kd.R_drew)); exact HO_4.out⟩, ⟨by (with_reducible repeat (first | apply Kd.R_alloc | apply Kd.R_drewN | apply Kd.R_drew)); exact HO_6.out⟩, ⟨by (with_reducible repeat (first | apply Kd.R_alloc | apply Kd.R_drewN | apply Kd.R_drew)); exact HO_22.out⟩, ⟨bb_ HB.out⟩⟩
         ·rw [if_neg c16] at H
          exact absurd H (by simp)
        ·rw [if_neg c15] at H
         exact absurd H (by simp)
       ·rw [if_neg c14] at H
        have c14b0 : decide (x24_2 < (x4_1.length : Int)) = false := decide_eq_false c14
        clear c14
        have H' := Aside0.mk H
        clear H
        go_wp2
        go_loopg [37] k2 (fun kq v37 w' => ∃ (x6_3 : List Int) (x37_3 : Int), v37 = .int .i64 x37_3 ∧ Aside0 (impl_OrderOf.l2 kq l0 x4_1 x17_1 x6_3 x17_1 l0 (l0.length : Int) x37_3 = some (r1, r2)) ∧ Aside0 (kq ≤ k2) ∧ Aside0 (Kd.R (Kd.int .i64) 3 w' w.heap.size (fun k_ => some k_ ≠ (v269 : Value).ownBlock) (.slice Ao12 x4_1.length co12) x4_1) ∧ Aside0 (Kd.R (Kd.int .i64) 3 w' w.heap.size (fun k_ => some k_ ≠ ((.slice Ao12 x4_1.length co12) : Value).ownBlock) v269 x6_3) ∧ Aside0 (Below w.heap.size w w'))
        case atStart => exact ⟨(x6_2), (0), ef_, H', ⟨Nat.le_refl _⟩, ⟨by (with_reducible repeat (first | apply Kd.R_alloc | apply Kd.R_drewN | apply Kd.R_drew)); exact HO_4.out⟩, ⟨by (with_reducible repeat (first | apply Kd.R_alloc | apply Kd.R_drewN | apply Kd.R_drew)); exact Kd.R_mono HO_6.out (fun _ hk => hk.1)⟩, ⟨bb_ HB.out⟩⟩
        case round =>
         clear H'
         try clear c3
         try clear c10
         try clear c10b0
         try clear c14
         try clear c14b0
         obtain ⟨x6_3, x37_3, rfl, HA, HK3, HO_4, HO_6, HB⟩ := hrel
         cases gk with
         | zero => exact absurd HA.out (by simp [impl_OrderOf.l2])
         | succ k3 =>
          have H := HA.out
          clear HA
          simp only [impl_OrderOf.l2] at H
          by_cases c22 : x37_3 < (l0.length : Int)
          ·rw [if_pos c22] at H
           have c22b0 : decide (x37_3 < (l0.length : Int)) = true := decide_eq_true c22
           clear c22
           by_cases c23 : 0 ≤ x37_3
           ·rw [if_pos c23] at H
            have c23b0 : decide (0 ≤ x37_3) = true := decide_eq_true c23
            clear c23
            by_cases c24 : x37_3 < (l0.length : Int)
            ·rw [if_pos c24] at H
             have c24b0 : decide (x37_3 < (l0.length : Int)) = true := decide_eq_true c24
             clear c24
             by_cases c25 : 0 ≤ ((rd_T44 l0 x37_3).f0)
             ·rw [if_pos c25] at H
              have c25b0 : decide (0 ≤ ((rd_T44 l0 x37_3).f0)) = true := decide_eq_true c25
              clear c25
              by_cases c26 : ((rd_T44 l0 x37_3).f0) < (x4_1.length : Int)
              ·rw [if_pos c26] at H
               have c26b0 : decide (((rd_T44 l0 x37_3).f0) < (x4_1.length : Int)) = true := decide_eq_true c26
               clear c26
               by_cases c27 : (rd x4_1 ((rd_T44 l0 x37_3).f0)) < 0
               ·rw [if_pos c27] at H
                have c27b0 : decide ((rd x4_1 ((rd_T44 l0 x37_3).f0)) < 0) = true := decide_eq_true c27
                clear c27
                by_cases c28 : 0 ≤ ((rd_T44 l0 x37_3).f1)
                ·rw [if_pos c28] at H
                 have c28b0 : decide (0 ≤ ((rd_T44 l0 x37_3).f1)) = true := decide_eq_true c28
                 clear c28
                 by_cases c29 : ((rd_T44 l0 x37_3).f1) < (x4_1.length : Int)
                 ·rw [if_pos c29] at H
                  have c29b0 : decide (((rd_T44 l0 x37_3).f1) < (x4_1.length : Int)) = true := decide_eq_true c29
                  clear c29
                  by_cases c30 : (rd x4_1 ((rd_T44 l0 x37_3).f1)) < 0
                  ·rw [if_pos c30] at H
                   have c30b0 : decide ((rd x4_1 ((rd_T44 l0 x37_3).f1)) < 0) = true := decide_eq_true c30
                   clear c30
                   by_cases c31 : ((rd_T44 l0 x37_3).f1) < (x6_3.length : Int)
                   ·rw [if_pos c31] at H
                    have c31b0 : decide (((rd_T44 l0 x37_3).f1) < (x6_3.length : Int)) = true := decide_eq_true c31
                    clear c31
                    obtain ⟨y277, hy277⟩ : ∃ y_ : List Int, y_ = (x6_3.set (((rd_T44 l0 x37_3).f1) : Int).toNat (-1)) := ⟨_, rfl⟩
                    replace H : (impl_OrderOf.l2 k3 l0 x4_1 x17_1 y277 x17_1 l0 (l0.length : Int) (wrap64 (x37_3 + 1))) = some (r1, r2) := by first | (rw [hy277]; with_reducible exact H) | (have H2_ := (Option.bind_some _ _).symm.trans H; rw [hy277]; with_reducible exact H2_) | (have H2_ := (Option.bind_some _ _).symm.trans H; with_reducible exact H2_) | with_reducible exact H | (rw [hy277]; exact H) | exact H
                    have Ny277 := Aside0.mk hy277
                    clear hy277
                    have H' := Aside0.mk H
                    clear H
                    have p273 : 0 ≤ (x37_3 : Int) := of_decide_eq_true dg_
                    have q273 : x37_3 < (l0.length : Int) := of_decide_eq_true dg_
                    obtain ⟨ad273, e273, hx273_0, hx273_1⟩ := at_T44 HR0.out x37_3 p273 q273
                    cases e273
                    replace hx273_0 := (HB.out.cell (World.block_lt_of_cell? w _ hx273_0)).trans hx273_0
                    replace hx273_1 := (HB.out.cell (World.block_lt_of_cell? w _ hx273_1)).trans hx273_1
                    replace p273 := eq_true p273
                    replace q273 := eq_true q273
                    go_wp2_with (first | ((with_reducible refine gate_dst (N := 10) rfl ?_); refine box_event ?hg (N := 10) ?hd (cs := #[.int .i64 0, .int .i64 0]) (t := 44) ?hr ?_; (case hd => rfl); (case hg => rfl); (case hr => first | (go_simp; done) | (go_simp; rfl)); intro gb274 hg w33 hbox hb; replace HO_4 := Aside0.mk (Kd.R_below (ra_ HO_4.out) hb); replace HO_6 := Aside0.mk (Kd.R_below (ra_ HO_6.out) hb); have BK274 := Aside0.mk (hbox); have GW274 := Aside0.mk ((by rw [hg]; exact (bz_ HB.out) : w.heap.size ≤ gb274)); have GE274 := Aside0.mk ((by rw [hg]; exact (bz_ HB.out) : w.heap.size ≤ gb274)); replace HB := Aside0.mk (bs_ HB.out hb); clear hb hbox hg; obtain ⟨hcz34_0, hcz34_1, hfz34_0, hfz34_1⟩ := cz2_ BK274.out) | ((with_reducible refine gate_store (t := 44) (p := 10) rfl ?_); refine store_event (t := 44) (p := 10) (v := ?vo_w35) (w1 := ((w33.setCell ⟨gb274, 0, none⟩ (.int .i64 ((rd_T44 l0 x37_3).f0))).setCell ⟨gb274, 1, none⟩ (.int .i64 ((rd_T44 l0 x37_3).f1)))) ?hg ?ho ?hn ?hr ?_; (case ho => rfl); (case hg => rfl); (case hn => rfl); (case hr => first | (go_simp; done) | (go_simp; rfl)); intro w35 hw; have n0_ : Aside0 (Kd.R (Kd.int .i64) 3 w35 w.heap.size (fun k_ => some k_ ≠ (v269 : Value).ownBlock) (.slice Ao12 x4_1.length co12) x4_1) := ⟨(by rw [hw]; exact (rm_ (Kd.R_types HO_4.out BK274.out (by decide)) (fun _ hk => hk.1)))⟩; have n1_ : Aside0 (Kd.R (Kd.int .i64) 3 w35 w.heap.size (fun k_ => some k_ ≠ (.slice Ao12 x4_1.length co12 : Value).ownBlock) v269 x6_3) := ⟨(by rw [hw]; exact (rm_ (Kd.R_types HO_6.out BK274.out (by decide)) (fun _ hk => hk.1)))⟩; have n2_ : Aside0 (w35.heap[gb274]? = some (.cells #[.int .i64 ((rd_T44 l0 x37_3).f0), .int .i64 ((rd_T44 l0 x37_3).f1)] 44 (0, 0))) := ⟨(by rw [hw]; exact (by (with_reducible repeat (first | refine blk_drewN ?_ _ | refine blk_drew ?_ | refine blk_alloc ?_ _)); refine blk_put (cs := #[.int .i64 ((rd_T44 l0 x37_3).f0), .int .i64 0]) ?_ 1 _ rfl; (with_reducible repeat (first | refine blk_drewN ?_ _ | refine blk_drew ?_ | refine blk_alloc ?_ _)); refine blk_put (cs := #[.int .i64 0, .int .i64 0]) ?_ 0 _ rfl; (with_reducible repeat (first | refine blk_drewN ?_ _ | refine blk_drew ?_ | refine blk_alloc ?_ _)); exact BK274.out))⟩; have n3_ : Aside0 (Below w.heap.size w w35) := ⟨(by rw [hw]; exact (by repeat (first | (with_reducible first | exact HB.out | apply below_alloc | apply pw_below_drewN | apply below_drew1 | refine below_set ?_ GE274.out) | exact HB.out)))⟩; clear hw; clear HO_4; clear HO_6; clear BK274; clear HB; have HO_4 := n0_; have HO_6 := n1_; have BK274 := n2_; have HB := n3_; clear n0_ n1_ n2_ n3_; obtain ⟨hcz36_0, hcz36_1, hfz36_0, hfz36_1⟩ := cz2_ BK274.out; have p275 : 0 ≤ (((rd_T44 l0 x37_3).f0) : Int) := of_decide_eq_true dg_; have q275 : ((rd_T44 l0 x37_3).f0) < (x4_1.length : Int) := of_decide_eq_true dg_; obtain ⟨ad275, e275, hx275_0⟩ := Kd.at_int (Kd.R_reads' HO_4.out).2.2 ((rd_T44 l0 x37_3).f0) p275 q275; cases e275; replace p275 := eq_true p275; replace q275 := eq_true q275; have p276 : 0 ≤ (((rd_T44 l0 x37_3).f1) : Int) := of_decide_eq_true dg_; have q276 : ((rd_T44 l0 x37_3).f1) < (x4_1.length : Int) := of_decide_eq_true dg_; obtain ⟨ad276, e276, hx276_0⟩ := Kd.at_int (Kd.R_reads' HO_4.out).2.2 ((rd_T44 l0 x37_3).f1) p276 q276; obtain rfl : ad275 = ad276 := (by injection e276); replace p276 := eq_true p276; replace q276 := eq_true q276; have p32 : 0 ≤ (((rd_T44 l0 x37_3).f1) : Int) := of_decide_eq_true dg_; have q32 : (((rd_T44 l0 x37_3).f1) : Int) < ((x6_3.length : Int) : Int) := of_decide_eq_true dg_; obtain ⟨go32, co32, eo32, gb32, gl32, cl32, HG32⟩ := Kd.R_form HO_6.out (by omega); (first | cases eo32 | (injection eo32 with ea_ en_ ec_; (first | subst ea_ | (injection ea_ with ea_; subst ea_)); subst ec_; clear en_)); have GB32 := Aside0.mk gb32; have GG32 := Aside0.mk HG32; clear gb32 gl32 HG32; obtain ⟨hx32_0, hf32_0⟩ := Kd.R_celln 0 HO_6.out (((rd_T44 l0 x37_3).f1) : Int) p32 q32; replace p32 := eq_true p32; replace q32 := eq_true q32; obtain ⟨hy37_, hz37_⟩ := Kd.R_celln 0 HO_6.out (((rd_T44 l0 x37_3).f1) : Int) (of_decide_eq_true dg_) (of_decide_eq_true dg_); have HP37 := Kd.R_putg HO_6.out (((rd_T44 l0 x37_3).f1) : Int) (-1)) | ((with_reducible refine gate_store (t := 3) (p := 58) rfl ?_); refine store_event (t := 3) (p := 58) (v := ?vo_w38) (w1 := (w35.setCell ⟨go32, (((rd_T44 l0 x37_3).f1) : Int).toNat, none⟩ (.int .i64 (-1)))) ?hg ?ho ?hn ?hr ?_; (case ho => rfl); (case hg => rfl); (case hn => rfl); (case hr => first | (go_simp; done) | (go_simp; rfl)); intro w38 hw; have hg : w35.grownBy w38 (some go32) := (by rw [hw]; exact HP37.2); have hp_ : Kd.R (Kd.int .i64) 3 w38 w.heap.size (fun k_ => some k_ ≠ (.slice (some ad275) x4_1.length co12 : Value).ownBlock) (.slice (some ⟨go32, 0, none⟩) x6_3.length co32) y277 := (by rw [hw, Ny277.out]; exact HP37.1); clear HP37; replace HO_4 := Aside0.mk (Kd.R_after (v := (.slice (some ⟨go32, 0, none⟩) x6_3.length co32)) (v1 := (.slice (some ⟨go32, 0, none⟩) x6_3.length co32)) (ok := (fun _ => True)) (by (with_reducible repeat (first | apply Kd.R_alloc | apply Kd.R_drewN | apply Kd.R_drew)); exact Kd.R_mono HO_4.out (fun _ hk => ⟨trivial, hk⟩)) hg (.inl rfl)); replace BK274 := Aside0.mk (blk_grown (g := gb274) (o := .cells #[.int .i64 ((rd_T44 l0 x37_3).f0), .int .i64 ((rd_T44 l0 x37_3).f1)] 44 (0, 0)) (by (with_reducible repeat (first | refine blk_drewN ?_ _ | refine blk_drew ?_ | refine blk_alloc ?_ _)); exact BK274.out) hg (Kd.R_ne HO_6.out BK274.out (by decide))); replace HO_6 := Aside0.mk (hp_); replace HB := Aside0.mk ((by rw [hw]; exact below_set (HB.out) GB32.out : Below w.heap.size w w38)); clear hg hw hp_))
                    go_roundg k3
                    case measure => have := HK1.out; have := HK2.out; have := HK3.out; omega
                    case rel => exact ⟨(y277), (wrap64 (x37_3 + 1)), ef_, H', ⟨by have := HK1.out; have := HK2.out; have := HK3.out; omega⟩, ⟨by (with_reducible repeat (first | apply Kd.R_alloc | apply Kd.R_drewN | apply Kd.R_drew)); exact Kd.R_mono HO_4.out (fun _ hk => hk.2)⟩, ⟨by (with_reducible repeat (first | apply Kd.R_alloc | apply Kd.R_drewN | apply Kd.R_drew)); exact HO_6.out⟩, ⟨bb_ HB.out⟩⟩
                   ·rw [if_neg c31] at H
                    exact absurd H (by simp)
                  ·rw [if_neg c30] at H
                   have c30b0 : decide ((rd x4_1 ((rd_T44 l0 x37_3).f1)) < 0) = false := decide_eq_false c30
                   clear c30
                   have H' := Aside0.mk H
                   clear H
                   have p273 : 0 ≤ (x37_3 : Int) := of_decide_eq_true dg_
                   have q273 : x37_3 < (l0.length : Int) := of_decide_eq_true dg_
                   obtain ⟨ad273, e273, hx273_0, hx273_1⟩ := at_T44 HR0.out x37_3 p273 q273
                   cases e273
                   replace hx273_0 := (HB.out.cell (World.block_lt_of_cell? w _ hx273_0)).trans hx273_0
                   replace hx273_1 := (HB.out.cell (World.block_lt_of_cell? w _ hx273_1)).trans hx273_1
                   replace p273 := eq_true p273
                   replace q273 := eq_true q273
                   exact impl_OrderOf.e0
                 ·rw [if_neg c29] at H
                  exact absurd H (by simp)
                ·rw [if_neg c28] at H
                 exact absurd H (by simp)
               ·rw [if_neg c27] at H
                have c27b0 : decide ((rd x4_1 ((rd_T44 l0 x37_3).f0)) < 0) = false := decide_eq_false c27
                clear c27
                have H' := Aside0.mk H
                clear H
                have p273 : 0 ≤ (x37_3 : Int) := of_decide_eq_true dg_
                have q273 : x37_3 < (l0.length : Int) := of_decide_eq_true dg_
                obtain ⟨ad273, e273, hx273_0, hx273_1⟩ := at_T44 HR0.out x37_3 p273 q273
                cases e273
                replace hx273_0 := (HB.out.cell (World.block_lt_of_cell? w _ hx273_0)).trans hx273_0
                replace hx273_1 := (HB.out.cell (World.block_lt_of_cell? w _ hx273_1)).trans hx273_1
                replace p273 := eq_true p273
                replace q273 := eq_true q273
                exact impl_OrderOf.e0
              ·rw [if_neg c26] at H
               exact absurd H (by simp)
             ·rw [if_neg c25] at H
              exact absurd H (by simp)
            ·rw [if_neg c24] at H
             exact absurd H (by simp)
           ·rw [if_neg c23] at H
            exact absurd H (by simp)
          ·rw [if_neg c22] at H
           have c22b0 : decide (x37_3 < (l0.length : Int)) = false := decide_eq_false c22
           clear c22
           replace H := Option.bind_eq_some_iff.mp H
           obtain ⟨t278, A430, H⟩ := H
           try dsimp only at H
           have A43 := Aside0.mk A430
           clear A430
           by_cases c44 : t278 < 0
           ·rw [if_pos c44] at H
            have c44b0 : decide (t278 < 0) = true := decide_eq_true c44
            clear c44
            simp only [Option.some.injEq, Prod.mk.injEq] at H
            obtain ⟨rfl, rfl⟩ := H
            obtain ⟨Ao45, co45, eo45⟩ := Kd.R_slice HO_6.out
            subst eo45
            go_wp2_with (first | ((with_reducible refine gate_callee (f := 44) rfl ?_); refine gm_ (some 62) Try.func44 #[.slice A0 l0.length c0, .slice Ao45 x6_3.length co45] rfl ?_; (with_reducible refine (impl_nextRanked.calls k3 _ _ l0 _ _ x6_3 t278 _ ?side1 HC0.out ?side3 ?side4 A43.out).mono ?_); (case side1 => exact cb_ HR0.out HB.out); (case side3 => repeat (first | exact (Kd.R_reads' HO_6.out).2.2 | (with_reducible refine Kd.C_alloc ?_ _) | (with_reducible refine Kd.C_drewN ?_ _) | (with_reducible refine Kd.C_drew ?_))); (case side4 => exact (Kd.R_reads' HO_6.out).2.1); rintro e w' ⟨rfl, ⟨nd, rfl⟩⟩; refine ⟨_, rfl, ?_⟩))
            go_ret2
            exact ⟨_, fin_, by first | exact Kd.R_nil _ _ _ _ _ | exact Kd.N_nil _ _ _ _ _ | exact Kd.V_nil _ _ _ _ _ | exact Kd.Q_nil _ _ _ _ _ | exact Kd.S_nil _ _ _ _ _, bb_ HB.out⟩
           ·rw [if_neg c44] at H
            have c44b0 : decide (t278 < 0) = false := decide_eq_false c44
            clear c44
            by_cases c46 : 0 ≤ t278
            ·rw [if_pos c46] at H
             have c46b0 : decide (0 ≤ t278) = true := decide_eq_true c46
             clear c46
             by_cases c47 : t278 < (x4_1.length : Int)
             ·rw [if_pos c47] at H
              have c47b0 : decide (t278 < (x4_1.length : Int)) = true := decide_eq_true c47
              clear c47
              obtain ⟨y279, hy279⟩ : ∃ y_ : List Int, y_ = (x4_1.set (t278 : Int).toNat x17_1) := ⟨_, rfl⟩
              replace H : (impl_OrderOf.l0 k3 l0 y279 (wrap64 (x17_1 + 1))) = some (r1, r2) := by first | (rw [hy279]; with_reducible exact H) | (have H2_ := (Option.bind_some _ _).symm.trans H; rw [hy279]; with_reducible exact H2_) | (have H2_ := (Option.bind_some _ _).symm.trans H; with_reducible exact H2_) | with_reducible exact H | (rw [hy279]; exact H) | exact H
              have Ny279 := Aside0.mk hy279
              clear hy279
              have H' := Aside0.mk H
              clear H
              obtain ⟨Ao49, co49, eo49⟩ := Kd.R_slice HO_6.out
              subst eo49
              go_wp2_with (first | ((with_reducible refine gate_callee (f := 44) rfl ?_); refine gm_ (some 62) Try.func44 #[.slice A0 l0.length c0, .slice Ao49 x6_3.length co49] rfl ?_; (with_reducible refine (impl_nextRanked.calls k3 _ _ l0 _ _ x6_3 t278 _ ?side1 HC0.out ?side3 ?side4 A43.out).mono ?_); (case side1 => exact cb_ HR0.out HB.out); (case side3 => repeat (first | exact (Kd.R_reads' HO_6.out).2.2 | (with_reducible refine Kd.C_alloc ?_ _) | (with_reducible refine Kd.C_drewN ?_ _) | (with_reducible refine Kd.C_drew ?_))); (case side4 => exact (Kd.R_reads' HO_6.out).2.1); rintro e w' ⟨rfl, ⟨nd, rfl⟩⟩; refine ⟨_, rfl, ?_⟩; (try (rw [drewN_self wr]; generalize hq_ : World.drewN wr _ = wr; have n0_ : Aside0 (Kd.R (Kd.int .i64) 3 wr w.heap.size (fun k_ => some k_ ≠ (.slice Ao49 x6_3.length co49 : Value).ownBlock) (.slice Ao12 x4_1.length co12) x4_1) := ⟨by rw [← hq_]; exact (ra_ HO_4.out)⟩; have n1_ : Aside0 (Kd.R (Kd.int .i64) 3 wr w.heap.size (fun k_ => some k_ ≠ (.slice Ao12 x4_1.length co12 : Value).ownBlock) (.slice Ao49 x6_3.length co49) x6_3) := ⟨by rw [← hq_]; exact (ra_ HO_6.out)⟩; have n2_ : Aside0 (Below w.heap.size w wr) := ⟨by rw [← hq_]; exact (by repeat (first | (with_reducible first | exact HB.out | apply below_alloc | apply pw_below_drewN | apply below_drew1) | exact HB.out))⟩; clear HO_4 HO_6 HB hq_; have HO_4 := n0_; have HO_6 := n1_; have HB := n2_; clear n0_ n1_ n2_)); have p48 : 0 ≤ (t278 : Int) := of_decide_eq_true dg_; have q48 : (t278 : Int) < ((x4_1.length : Int) : Int) := of_decide_eq_true dg_; obtain ⟨go48, co48, eo48, gb48, gl48, cl48, HG48⟩ := Kd.R_form HO_4.out (by omega); (first | cases eo48 | (injection eo48 with ea_ en_ ec_; (first | subst ea_ | (injection ea_ with ea_; subst ea_)); subst ec_; clear en_)); have GB48 := Aside0.mk gb48; have GG48 := Aside0.mk HG48; clear gb48 gl48 HG48; obtain ⟨hx48_0, hf48_0⟩ := Kd.R_celln 0 HO_4.out (t278 : Int) p48 q48; replace p48 := eq_true p48; replace q48 := eq_true q48; obtain ⟨hy50_, hz50_⟩ := Kd.R_celln 0 HO_4.out (t278 : Int) (of_decide_eq_true dg_) (of_decide_eq_true dg_); have HP50 := Kd.R_putg HO_4.out (t278 : Int) x17_1) | ((with_reducible refine gate_store (t := 3) (p := 68) rfl ?_); refine store_event (t := 3) (p := 68) (v := ?vo_w51) (w1 := (wr.setCell ⟨go48, (t278 : Int).toNat, none⟩ (.int .i64 x17_1))) ?hg ?ho ?hn ?hr ?_; (case ho => rfl); (case hg => rfl); (case hn => rfl); (case hr => first | (go_simp; done) | (go_simp; rfl)); intro w51 hw; have hg : wr.grownBy w51 (some go48) := (by rw [hw]; exact HP50.2); have hp_ : Kd.R (Kd.int .i64) 3 w51 w.heap.size (fun k_ => some k_ ≠ (.slice Ao49 x6_3.length co49 : Value).ownBlock) (.slice (some ⟨go48, 0, none⟩) x4_1.length co12) y279 := (by rw [hw, Ny279.out]; exact HP50.1); clear HP50; replace HO_4 := Aside0.mk (hp_); replace HO_6 := Aside0.mk (Kd.R_after (v := (.slice (some ⟨go48, 0, none⟩) x4_1.length co12)) (v1 := (.slice (some ⟨go48, 0, none⟩) x4_1.length co12)) (ok := (fun _ => True)) (by (with_reducible repeat (first | apply Kd.R_alloc | apply Kd.R_drewN | apply Kd.R_drew)); exact Kd.R_mono HO_6.out (fun _ hk => ⟨trivial, hk⟩)) hg (.inl rfl)); replace HB := Aside0.mk ((by rw [hw]; exact below_set (HB.out) GB48.out : Below w.heap.size w w51)); clear hg hw hp_))
              go_roundg k3
              case measure => have := HK1.out; have := HK2.out; have := HK3.out; omega
              case rel => exact ⟨(y279), (wrap64 (x17_1 + 1)), ef_, H', ⟨by have := HK1.out; have := HK2.out; have := HK3.out; omega⟩, ⟨by (with_reducible repeat (first | apply Kd.R_alloc | apply Kd.R_drewN | apply Kd.R_drew)); exact Kd.R_mono HO_4.out (fun _ hk => trivial)⟩, ⟨bb_ HB.out⟩⟩
             ·rw [if_neg c47] at H
              exact absurd H (by simp)
            ·rw [if_neg c46] at H
             exact absurd H (by simp)
    ·rw [if_neg c10] at H
     have c10b0 : decide (x17_1 < 128) = false := decide_eq_false c10
     clear c10
     simp only [Option.some.injEq, Prod.mk.injEq] at H
     obtain ⟨rfl, rfl⟩ := H
     go_wp2
     go_ret2
     exact ⟨_, fin_, by (with_reducible repeat (first | apply Kd.R_alloc | apply Kd.R_drewN | apply Kd.R_drew)); exact HO_4.out, bb_ HB.out⟩
 ·replace c3 := Bool.eq_false_iff.mpr c3
  subst c3
  rw [if_neg (show ¬ (false = true) by decide)] at H
  simp only [Option.some.injEq, Prod.mk.injEq] at H
  obtain ⟨rfl, rfl⟩ := H
  go_enter Try.func20, Try.ntmps20
  go_wp2_with (first | ((with_reducible refine gate_callee (f := 33) rfl ?_); refine gm_ (some 13) Try.func33 #[.slice A0 l0.length c0] rfl ?_; (with_reducible refine (impl_DependsOk.calls k _ _ l0 false _ ?side1 HC0.out A2.out).mono ?_); (case side1 => repeat (first | exact HR0.out | (with_reducible refine Kd.C_alloc ?_ _) | (with_reducible refine Kd.C_drewN ?_ _) | (with_reducible refine Kd.C_drew ?_))); rintro e w52 ⟨rfl, hb⟩; refine ⟨_, rfl, ?_⟩; replace HB := Aside0.mk (bs_ HB.out hb); (try clear hb)))
  go_ret2
  exact ⟨_, fin_, by first | exact Kd.R_nil _ _ _ _ _ | exact Kd.N_nil _ _ _ _ _ | exact Kd.V_nil _ _ _ _ _ | exact Kd.Q_nil _ _ _ _ _ | exact Kd.S_nil _ _ _ _ _, bb_ HB.out⟩

/-! ### slices_Index_int_int: function 59 -/
def slices_Index_int_int.l0 : Nat → List Int → Int → Int → Int → Option (Int)
 | 0, _, _, _, _ => none
 | k + 1, x0, x1, x7, x8 => if x8 < x7 then (if 0 ≤ x8 then (if x8 < (x0.length : Int) then (if x1 = (rd x0 x8) then (some x8) else (slices_Index_int_int.l0 k x0 x1 x7 (wrap64 (x8 + 1)))) else (none)) else (none)) else (some (-1))
def slices_Index_int_int.f (k : Nat) (l0 : List Int) (a1 : Int) : Option (Int) := slices_Index_int_int.l0 k l0 a1 (l0.length : Int) 0
theorem slices_Index_int_int.mono_l : ∀ k, (∀ y0 y1 y2 y3, LeO (slices_Index_int_int.l0 k y0 y1 y2 y3) (slices_Index_int_int.l0 (k + 1) y0 y1 y2 y3))
 | 0 => fun _ _ _ _ r h => by simp [slices_Index_int_int.l0] at h
 | k + 1 => by
  have ih0 := slices_Index_int_int.mono_l k
  ·intro y0 y1 y2 y3
   unfold slices_Index_int_int.l0
   repeat' first
   | (with_reducible exact ih0 _ _ _ _)
   | (with_reducible exact LeO.refl _)
   | (with_reducible exact LeO.none _)
   | (with_reducible refine LeO.ite ?_ ?_)
   | (with_reducible refine LeO.bind ?_ (fun _ => ?_))
   | exact ih0 _ _ _ _
   | exact LeO.none _
   | refine LeO.ite ?_ ?_
   | refine LeO.bind ?_ (fun _ => ?_)
theorem slices_Index_int_int.mono : ∀ a0 a1 k, LeO (slices_Index_int_int.f k a0 a1) (slices_Index_int_int.f (k + 1) a0 a1) := by
 intro a0 a1 k
 have ih0 := slices_Index_int_int.mono_l k
 unfold slices_Index_int_int.f
 repeat' first
   | (with_reducible exact ih0 _ _ _ _)
   | (with_reducible exact LeO.refl _)
   | (with_reducible exact LeO.none _)
   | (with_reducible refine LeO.ite ?_ ?_)
   | (with_reducible refine LeO.bind ?_ (fun _ => ?_))
   | exact ih0 _ _ _ _
   | exact LeO.none _
   | refine LeO.ite ?_ ?_
   | refine LeO.bind ?_ (fun _ => ?_)
set_option maxHeartbeats 8000000 in
set_option maxRecDepth 100000 in
theorem slices_Index_int_int.calls (k : Nat) (A0 : Option Addr) (c0 : Nat) (l0 : List Int) (a1 : Int) (r : Int) (w : World) (hr0 : Kd.C (Kd.int .i64) w A0 l0.length l0) (hc0 : l0.length ≤ c0) (h : slices_Index_int_int.f k l0 a1 = some r) :
  Calls Try.prog 59 #[.slice A0 l0.length c0, .int .i64 a1] w fun e w' => e = .returned (.int .i64 r) ∧ Drawn0 w w' := by
 have HR0 := Aside0.mk hr0
 have HC0 := Aside0.mk hc0
 clear hr0 hc0
 have H : (slices_Index_int_int.l0 k l0 a1 (l0.length : Int) 0) = some r := h
 clear h
 have H' := Aside0.mk H
 clear H
 go_enter Try.func59, Try.ntmps59
 go_wp2
 go_loopg [8] k (fun kq v8 w' => ∃ (x8_1 : Int), v8 = .int .i64 x8_1 ∧ Aside0 (slices_Index_int_int.l0 kq l0 a1 (l0.length : Int) x8_1 = some r) ∧ Aside0 (kq ≤ k) ∧ Drawn0 w w')
 case atStart => exact ⟨(0), ef_, H', ⟨Nat.le_refl _⟩, by repeat (first | exact Drawn0.refl _ | apply Drawn0.step)⟩
 case round =>
  clear H'
  obtain ⟨x8_1, rfl, HA, HK1, ⟨m1, rfl⟩⟩ := hrel
  cases gk with
  | zero => exact absurd HA.out (by simp [slices_Index_int_int.l0])
  | succ k1 =>
   have H := HA.out
   clear HA
   simp only [slices_Index_int_int.l0] at H
   by_cases c3 : x8_1 < (l0.length : Int)
   ·rw [if_pos c3] at H
    have c3b0 : decide (x8_1 < (l0.length : Int)) = true := decide_eq_true c3
    clear c3
    by_cases c4 : 0 ≤ x8_1
    ·rw [if_pos c4] at H
     have c4b0 : decide (0 ≤ x8_1) = true := decide_eq_true c4
     clear c4
     by_cases c5 : x8_1 < (l0.length : Int)
     ·rw [if_pos c5] at H
      have c5b0 : decide (x8_1 < (l0.length : Int)) = true := decide_eq_true c5
      clear c5
      by_cases c6 : a1 = (rd l0 x8_1)
      ·rw [if_pos c6] at H
       have c6b0 : (a1 == (rd l0 x8_1)) = true := beq_iff_eq.mpr c6
       have c6b1 : (a1 != (rd l0 x8_1)) = false := bne_eq_false_iff_eq.mpr c6
       clear c6
       obtain rfl := Option.some.inj H
       have p280 : 0 ≤ (x8_1 : Int) := of_decide_eq_true dg_
       have q280 : x8_1 < (l0.length : Int) := of_decide_eq_true dg_
       obtain ⟨ad280, e280, hx280_0⟩ := Kd.at_int HR0.out x8_1 p280 q280
       cases e280
       replace p280 := eq_true p280
       replace q280 := eq_true q280
       go_wp2
       go_ret
       exact ⟨by first | rfl | (simp; done) | (simp [*]; done), by repeat (first | exact Drawn0.refl _ | apply Drawn0.step)⟩
      ·rw [if_neg c6] at H
       have c6b0 : (a1 == (rd l0 x8_1)) = false := beq_eq_false_iff_ne.mpr c6
       have c6b1 : (a1 != (rd l0 x8_1)) = true := bne_iff_ne.mpr c6
       have H' := Aside0.mk H
       clear H
       have p280 : 0 ≤ (x8_1 : Int) := of_decide_eq_true dg_
       have q280 : x8_1 < (l0.length : Int) := of_decide_eq_true dg_
       obtain ⟨ad280, e280, hx280_0⟩ := Kd.at_int HR0.out x8_1 p280 q280
       cases e280
       replace p280 := eq_true p280
       replace q280 := eq_true q280
       go_wp2
       go_roundg k1
       case measure => have := HK1.out; omega
       case rel => exact ⟨(wrap64 (x8_1 + 1)), ef_, H', ⟨by have := HK1.out; omega⟩, by repeat (first | exact Drawn0.refl _ | apply Drawn0.step)⟩
     ·rw [if_neg c5] at H
      exact absurd H (by simp)
    ·rw [if_neg c4] at H
     exact absurd H (by simp)
   ·rw [if_neg c3] at H
    have c3b0 : decide (x8_1 < (l0.length : Int)) = false := decide_eq_false c3
    clear c3
    obtain rfl := Option.some.inj H
    go_wp2
    go_ret
    exact ⟨by first | rfl | (simp; done) | (simp [*]; done), by repeat (first | exact Drawn0.refl _ | apply Drawn0.step)⟩

/-! ### slices_Contains_int_int: function 46 -/
def slices_Contains_int_int.f (k : Nat) (l0 : List Int) (a1 : Int) : Option (Bool) := (slices_Index_int_int.f k l0 a1).bind fun t281 => (some (decide (t281 ≥ 0)))
theorem slices_Contains_int_int.mono : ∀ a0 a1 k, LeO (slices_Contains_int_int.f k a0 a1) (slices_Contains_int_int.f (k + 1) a0 a1) := by
 intro a0 a1 k
 unfold slices_Contains_int_int.f
 repeat' first
   | (with_reducible exact slices_Index_int_int.mono _ _ _)
   | (with_reducible exact LeO.refl _)
   | (with_reducible exact LeO.none _)
   | (with_reducible refine LeO.ite ?_ ?_)
   | (with_reducible refine LeO.bind ?_ (fun _ => ?_))
   | exact slices_Index_int_int.mono _ _ _
   | exact LeO.none _
   | refine LeO.ite ?_ ?_
   | refine LeO.bind ?_ (fun _ => ?_)
set_option maxHeartbeats 8000000 in
set_option maxRecDepth 100000 in
theorem slices_Contains_int_int.calls (k : Nat) (A0 : Option Addr) (c0 : Nat) (l0 : List Int) (a1 : Int) (r : Bool) (w : World) (hr0 : Kd.C (Kd.int .i64) w A0 l0.length l0) (hc0 : l0.length ≤ c0) (h : slices_Contains_int_int.f k l0 a1 = some r) :
  Calls Try.prog 46 #[.slice A0 l0.length c0, .int .i64 a1] w fun e w' => e = .returned (.bool r) ∧ Drawn0 w w' := by
 have HR0 := Aside0.mk hr0
 have HC0 := Aside0.mk hc0
 clear hr0 hc0
 have H : ((slices_Index_int_int.f k l0 a1).bind fun t281 => (some (decide (t281 ≥ 0)))) = some r := h
 clear h
 replace H := Option.bind_eq_some_iff.mp H
 obtain ⟨t281, A30, H⟩ := H
 try dsimp only at H
 have A3 := Aside0.mk A30
 clear A30
 obtain rfl := Option.some.inj H
 go_enter Try.func46, Try.ntmps46
 go_wp2_with (first | ((with_reducible refine gate_callee (f := 59) rfl ?_); refine gm_ (some 7) Try.func59 #[.slice A0 l0.length c0, .int .i64 a1] rfl ?_; (with_reducible refine (slices_Index_int_int.calls k _ _ l0 a1 t281 _ ?side1 HC0.out A3.out).mono ?_); (case side1 => repeat (first | exact HR0.out | (with_reducible refine Kd.C_alloc ?_ _) | (with_reducible refine Kd.C_drewN ?_ _) | (with_reducible refine Kd.C_drew ?_))); rintro e w' ⟨rfl, ⟨nd, rfl⟩⟩; refine ⟨_, rfl, ?_⟩))
 go_ret
 exact ⟨by first | rfl | (simp; done) | (simp [*]; done), by repeat (first | exact Drawn0.refl _ | apply Drawn0.step)⟩

end Go.Proofs.Ytagmogkdlimofaa.PFnCycles
-- thin
