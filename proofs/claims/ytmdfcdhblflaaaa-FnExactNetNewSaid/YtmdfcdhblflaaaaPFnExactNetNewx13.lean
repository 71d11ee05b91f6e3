/- Each function that the law comes to, as a plain function, with the proof that the call in the model gives what that function says (written by a program of this session out of the translation). No condition. -/
import Derived.Test.YtmdfcdhblflaaaaPFnExactNetNewx0
import Derived.Test.YtmdfcdhblflaaaaPFnExactNetNewx1
import Derived.Test.YtmdfcdhblflaaaaPFnExactNetNewx8
import Derived.Test.YtmdfcdhblflaaaaPFnExactNetNewx9
import Derived.Test.YtmdfcdhblflaaaaPFnExactNetNewx10
import Derived.Test.YtmdfcdhblflaaaaPFnExactNetNewx11
import Derived.Test.YtmdfcdhblflaaaaPFnExactNetNewx12
namespace Go.Proofs.Ytmdfcdhblflaaaa.PFnExactNetNew
open Go.RowKit Go.Proofs.YtmdfcdhblflaaaaW.PrintWords Go.Proofs.YtmdfcdhblflaaaaW.PrintLast Go.Proofs.YtmdfcdhblflaaaaW.PrintMore
attribute [local go_sem] max2_int min2_int max_two min_two max_three min_three max_four min_four   -- for this text's walks alone
set_option linter.unusedVariables false
set_option linter.unusedSimpArgs false

/-! ### laws_FnExactNetNew: function 3 -/
def laws_FnExactNetNew.f (k : Nat) (a0_0 a0_1 : Int) (l0_2 l1_0 l1_1 : List Int) : Option Bool := (laws_szMesh.f a0_0 a0_1 l0_2 1048576).bind fun s => if s < 0 then some true else (laws_szClasses.f l1_0 l1_1 s).bind fun s2 => if s2 < 0 then some true else (laws_toMesh.f k a0_0 a0_1 l0_2).bind fun m => (laws_toClasses.f k l1_0 l1_1).bind fun t => (spec_NetNew.f k m.1 m.2.1 m.2.2 t.1 t.2).bind fun v => (impl_NetNew.f k m.1 m.2.1 m.2.2 t.1 t.2).bind fun g => (laws_eqNet.f k g.1 g.2.1 g.2.2.1 g.2.2.2.1 g.2.2.2.2.1 g.2.2.2.2.2.1 g.2.2.2.2.2.2.1 g.2.2.2.2.2.2.2.1 g.2.2.2.2.2.2.2.2.1 g.2.2.2.2.2.2.2.2.2.1 g.2.2.2.2.2.2.2.2.2.2.1 v.1 v.2.1 v.2.2.1 v.2.2.2.1 v.2.2.2.2.1 v.2.2.2.2.2.1 v.2.2.2.2.2.2.1 v.2.2.2.2.2.2.2.1 v.2.2.2.2.2.2.2.2.1 v.2.2.2.2.2.2.2.2.2.1 v.2.2.2.2.2.2.2.2.2.2.1).bind fun e => if e = true then (if g.2.2.2.2.2.2.2.2.2.2.2 = v.2.2.2.2.2.2.2.2.2.2.2 then (laws_eqMesh.f k m.1 m.2.1 m.2.2 m.1 m.2.1 m.2.2).bind fun e2 => if e2 = true then ((laws_eqClasses.f k t.1 t.2 t.1 t.2).bind fun e3 => if e3 = true then ((laws_markMesh.f k m.1 m.2.1 m.2.2 1).bind fun b => (laws_markClasses.f k t.1 t.2 b.1).bind fun c => if c.1 < 0 then none else (laws_markNet.f k g.1 g.2.1 g.2.2.1 g.2.2.2.1 g.2.2.2.2.1 g.2.2.2.2.2.1 g.2.2.2.2.2.2.1 g.2.2.2.2.2.2.2.1 g.2.2.2.2.2.2.2.2.1 g.2.2.2.2.2.2.2.2.2.1 g.2.2.2.2.2.2.2.2.2.2.1 1).bind fun d => (laws_heldNet.f k g.1 g.2.1 d.2.1 d.2.2.1 d.2.2.2.1 d.2.2.2.2.1 d.2.2.2.2.2.1 d.2.2.2.2.2.2.1 d.2.2.2.2.2.2.2.1 d.2.2.2.2.2.2.2.2 g.2.2.2.2.2.2.2.2.2.2.1 1).bind fun z => if z < 0 then none else if z = d.1 then some true else none) else none) else none else none) else none
/-- A network and a flag, as NetNew answers: its rows, to be read. -/
def Ev.N (B : Nat) (a0 a1 : Int) (l2 : List Int) (l3 : List Int) (l4 : List Int) (l5 : List (List S81)) (l6 : List Int) (l7 : List Int) (l8 : List (List S81)) (l9 : List (List S81)) (t : Int) (b : Bool) : Ev :=
 ⟨fun ok v w => ∃ u2 u3 u4 u5 u6 u7 u8 u9 : Value, v = .tuple #[.agg #[.int .i64 a0, .int .i64 a1, u2, u3, u4, u5, u6, u7, u8, u9, .int .i64 t], .bool b] ∧ Kd.R (Kd.int .i64) 3 w B ok u2 l2 ∧ Kd.R (Kd.int .i64) 3 w B ok u3 l3 ∧ Kd.R (Kd.int .i64) 3 w B ok u4 l4 ∧ Kd.S (Kd.slice 81 k81) 72 w B ok u5 l5 ∧ Kd.R (Kd.int .i64) 3 w B ok u6 l6 ∧ Kd.R (Kd.int .i64) 3 w B ok u7 l7 ∧ Kd.S (Kd.slice 81 k81) 72 w B ok u8 l8 ∧ Kd.S (Kd.slice 81 k81) 72 w B ok u9 l9,
  fun _ _ _ _ ⟨u2, u3, u4, u5, u6, u7, u8, u9, e, h2, h3, h4, h5, h6, h7, h8, h9⟩ hk => ⟨u2, u3, u4, u5, u6, u7, u8, u9, e, Kd.R_mono h2 hk, Kd.R_mono h3 hk, Kd.R_mono h4 hk, Kd.S_mono h5 hk, Kd.R_mono h6 hk, Kd.R_mono h7 hk, Kd.S_mono h8 hk, Kd.S_mono h9 hk⟩,
  fun _ _ _ _ ⟨u2, u3, u4, u5, u6, u7, u8, u9, e, h2, h3, h4, h5, h6, h7, h8, h9⟩ hm => ⟨u2, u3, u4, u5, u6, u7, u8, u9, e, Kd.R_step h2 hm, Kd.R_step h3 hm, Kd.R_step h4 hm, Kd.S_step h5 hm, Kd.R_step h6 hm, Kd.R_step h7 hm, Kd.S_step h8 hm, Kd.S_step h9 hm⟩⟩
/-- A block of cells that has been stored into: the ghost value is its place and its cells. -/
def Ev.C (t : TypeId) : Ev := ⟨fun ok v w => ∃ g cs, v = .agg #[.pointer (some ⟨g, 0, none⟩), .agg cs] ∧ ok g ∧ w.heap[g]? = some (.cells cs t (0, 0)), fun _ _ _ _ ⟨g, cs, h1, h, h'⟩ hk => ⟨g, cs, h1, hk g h, h'⟩, fun _ _ _ _ ⟨g, cs, h1, h, h'⟩ hm => ⟨g, cs, h1, h, (hm g h (blk_lt h')).trans h'⟩⟩
/-! ### a network's rows, to be read -/
structure RNet (ok : Nat → Prop) (B : Nat) (w : World) (v2 v3 v4 v5 v6 v7 v8 v9 : Value) (l2 : List Int) (l3 : List Int) (l4 : List Int) (l5 : List (List S81)) (l6 : List Int) (l7 : List Int) (l8 : List (List S81)) (l9 : List (List S81)) : Prop where
 h2 : Kd.R (Kd.int .i64) 3 w B (ok) v2 l2
 h3 : Kd.R (Kd.int .i64) 3 w B (ok) v3 l3
 h4 : Kd.R (Kd.int .i64) 3 w B (ok) v4 l4
 h5 : Kd.S (Kd.slice 81 k81) 72 w B (ok) v5 l5
 h6 : Kd.R (Kd.int .i64) 3 w B (ok) v6 l6
 h7 : Kd.R (Kd.int .i64) 3 w B (ok) v7 l7
 h8 : Kd.S (Kd.slice 81 k81) 72 w B (ok) v8 l8
 h9 : Kd.S (Kd.slice 81 k81) 72 w B (ok) v9 l9
section
variable {ok ok' : Nat → Prop} {B : Nat} {w w1 : World} {v2 v3 v4 v5 v6 v7 v8 v9 : Value} {l2 : List Int} {l3 : List Int} {l4 : List Int} {l5 : List (List S81)} {l6 : List Int} {l7 : List Int} {l8 : List (List S81)} {l9 : List (List S81)}
theorem RNet.move (h : RNet ok B w v2 v3 v4 v5 v6 v7 v8 v9 l2 l3 l4 l5 l6 l7 l8 l9) (hm : ∀ k, ok k → w1.heap[k]? = w.heap[k]?) : RNet ok B w1 v2 v3 v4 v5 v6 v7 v8 v9 l2 l3 l4 l5 l6 l7 l8 l9 := ⟨Kd.R_move h.h2 hm, Kd.R_move h.h3 hm, Kd.R_move h.h4 hm, Kd.S_move h.h5 hm, Kd.R_move h.h6 hm, Kd.R_move h.h7 hm, Kd.S_move h.h8 hm, Kd.S_move h.h9 hm⟩
theorem RNet.below (h : RNet ok B w v2 v3 v4 v5 v6 v7 v8 v9 l2 l3 l4 l5 l6 l7 l8 l9) (hb : Below w.heap.size w w1) : RNet ok B w1 v2 v3 v4 v5 v6 v7 v8 v9 l2 l3 l4 l5 l6 l7 l8 l9 := ⟨Kd.R_below h.h2 hb, Kd.R_below h.h3 hb, Kd.R_below h.h4 hb, Kd.S_below h.h5 hb, Kd.R_below h.h6 hb, Kd.R_below h.h7 hb, Kd.S_below h.h8 hb, Kd.S_below h.h9 hb⟩
theorem RNet.belowV {V : World} (h : RNet ok B w v2 v3 v4 v5 v6 v7 v8 v9 l2 l3 l4 l5 l6 l7 l8 l9) (hb : Below V.heap.size V w1) (hV : V.heap = w.heap := by rfl) : RNet ok B w1 v2 v3 v4 v5 v6 v7 v8 v9 l2 l3 l4 l5 l6 l7 l8 l9 :=
 (h.move (w1 := V) (fun k _ => by rw [hV])).below hb
theorem RNet.kept {S : Nat → Prop} {V : World} (h : RNet ok B w v2 v3 v4 v5 v6 v7 v8 v9 l2 l3 l4 l5 l6 l7 l8 l9) (hk : Kept V w1 S) (hne : ∀ k, ok k → ¬ S k) (hV : V.heap = w.heap := by rfl) : RNet ok B w1 v2 v3 v4 v5 v6 v7 v8 v9 l2 l3 l4 l5 l6 l7 l8 l9 :=
 have h0 := h.move (w1 := V) (fun k _ => by rw [hV])
 ⟨Kd.R_kept h0.h2 hk hne, Kd.R_kept h0.h3 hk hne, Kd.R_kept h0.h4 hk hne, Kd.S_kept h0.h5 hk hne, Kd.R_kept h0.h6 hk hne, Kd.R_kept h0.h7 hk hne, Kd.S_kept h0.h8 hk hne, Kd.S_kept h0.h9 hk hne⟩
end
section
variable {T : Nat → Nat} {B : Nat} {w w1 V : World} {v2 v3 v4 v5 v6 v7 v8 v9 : Value} {l2 : List Int} {l3 : List Int} {l4 : List Int} {l5 : List (List S81)} {l6 : List Int} {l7 : List Int} {l8 : List (List S81)} {l9 : List (List S81)}
theorem Marks.keptV {S : Nat → Prop} (h : Marks T B w v2 v3 v4 v5 v6 v7 v8 v9 l2 l3 l4 l5 l6 l7 l8 l9) (hk : Kept V w1 S) (hne : ∀ k, T k ≠ 0 → ¬ S k) (hV : V.heap = w.heap := by rfl) : Marks T B w1 v2 v3 v4 v5 v6 v7 v8 v9 l2 l3 l4 l5 l6 l7 l8 l9 :=
 Marks.move h (fun k h_ => by rw [← hV]; exact hk.2 k (by rw [hV]; exact h.hi k h_) (hne k h_)) (by rw [← hV]; exact hk.1)
theorem Marks.rnet (h : Marks T B w v2 v3 v4 v5 v6 v7 v8 v9 l2 l3 l4 l5 l6 l7 l8 l9) : RNet (fun k => T k ≠ 0) B w v2 v3 v4 v5 v6 v7 v8 v9 l2 l3 l4 l5 l6 l7 l8 l9 := ⟨Kd.R_mono h.h2 (fun k e => by (show T k ≠ 0; rw [show T k = 2 from e]; decide)), Kd.R_mono h.h3 (fun k e => by (show T k ≠ 0; rw [show T k = 3 from e]; decide)), Kd.R_mono h.h4 (fun k e => by (show T k ≠ 0; rw [show T k = 4 from e]; decide)), Kd.S_mono h.h5 (fun k e => by (show T k ≠ 0; rw [show T k = 5 from e]; decide)), Kd.R_mono h.h6 (fun k e => by (show T k ≠ 0; rw [show T k = 6 from e]; decide)), Kd.R_mono h.h7 (fun k e => by (show T k ≠ 0; rw [show T k = 7 from e]; decide)), Kd.S_mono h.h8 (fun k e => by (show T k ≠ 0; rw [show T k = 8 from e]; decide)), Kd.S_mono h.h9 (fun k e => by (show T k ≠ 0; rw [show T k = 9 from e]; decide))⟩
end
theorem laws_FnExactNetNew.held_ (k : Nat) (a0 a1 : Int) {xA2 : Option Addr} {xn2 xc2 : Nat} (xl2 : List Int) {xA3 : Option Addr} {xn3 xc3 : Nat} (xl3 : List Int) {xA4 : Option Addr} {xn4 xc4 : Nat} (xl4 : List Int) {xA5 : Option Addr} {xn5 xc5 : Nat} (xl5 : List (List S81)) {xA6 : Option Addr} {xn6 xc6 : Nat} (xl6 : List Int) {xA7 : Option Addr} {xn7 xc7 : Nat} (xl7 : List Int) {xA8 : Option Addr} {xn8 xc8 : Nat} (xl8 : List (List S81)) {xA9 : Option Addr} {xn9 xc9 : Nat} (xl9 : List (List S81)) (t a r : Int) {ok : Nat → Prop} {B : Nat} (w : World) (hM : RNet ok B w (.slice xA2 xn2 xc2) (.slice xA3 xn3 xc3) (.slice xA4 xn4 xc4) (.slice xA5 xn5 xc5) (.slice xA6 xn6 xc6) (.slice xA7 xn7 xc7) (.slice xA8 xn8 xc8) (.slice xA9 xn9 xc9) xl2 xl3 xl4 xl5 xl6 xl7 xl8 xl9) (h : laws_heldNet.f k a0 a1 xl2 xl3 xl4 xl5 xl6 xl7 xl8 xl9 t a = some r) : Calls Try.prog 16 #[.agg #[.int .i64 a0, .int .i64 a1, .slice xA2 xn2 xc2, .slice xA3 xn3 xc3, .slice xA4 xn4 xc4, .slice xA5 xn5 xc5, .slice xA6 xn6 xc6, .slice xA7 xn7 xc7, .slice xA8 xn8 xc8, .slice xA9 xn9 xc9, .int .i64 t], .int .i64 a] w fun e w' => e = .returned (.int .i64 r) ∧ Below w.heap.size w w' := by
 obtain ⟨rfl, xk2, xd2⟩ := Kd.R_reads' hM.h2
 obtain ⟨rfl, xk3, xd3⟩ := Kd.R_reads' hM.h3
 obtain ⟨rfl, xk4, xd4⟩ := Kd.R_reads' hM.h4
 obtain ⟨rfl, xk5, xd5⟩ := Kd.S_reads' hM.h5
 obtain ⟨rfl, xk6, xd6⟩ := Kd.R_reads' hM.h6
 obtain ⟨rfl, xk7, xd7⟩ := Kd.R_reads' hM.h7
 obtain ⟨rfl, xk8, xd8⟩ := Kd.S_reads' hM.h8
 obtain ⟨rfl, xk9, xd9⟩ := Kd.S_reads' hM.h9
 exact laws_heldNet.calls k a0 a1 _ _ xl2 _ _ xl3 _ _ xl4 _ _ xl5 _ _ xl6 _ _ xl7 _ _ xl8 _ _ xl9 t a r w xd2 xk2 xd3 xk3 xd4 xk4 xd5 xk5 xd6 xk6 xd7 xk7 xd8 xk8 xd9 xk9 h
theorem laws_FnExactNetNew.eq_ (k : Nat) (a0 a1 : Int) {xA2 : Option Addr} {xn2 xc2 : Nat} (xl2 : List Int) {xA3 : Option Addr} {xn3 xc3 : Nat} (xl3 : List Int) {xA4 : Option Addr} {xn4 xc4 : Nat} (xl4 : List Int) {xA5 : Option Addr} {xn5 xc5 : Nat} (xl5 : List (List S81)) {xA6 : Option Addr} {xn6 xc6 : Nat} (xl6 : List Int) {xA7 : Option Addr} {xn7 xc7 : Nat} (xl7 : List Int) {xA8 : Option Addr} {xn8 xc8 : Nat} (xl8 : List (List S81)) {xA9 : Option Addr} {xn9 xc9 : Nat} (xl9 : List (List S81)) (t : Int) (b0 b1 : Int) {yA2 : Option Addr} {yn2 yc2 : Nat} (yl2 : List Int) {yA3 : Option Addr} {yn3 yc3 : Nat} (yl3 : List Int) {yA4 : Option Addr} {yn4 yc4 : Nat} (yl4 : List Int) {yA5 : Option Addr} {yn5 yc5 : Nat} (yl5 : List (List S81)) {yA6 : Option Addr} {yn6 yc6 : Nat} (yl6 : List Int) {yA7 : Option Addr} {yn7 yc7 : Nat} (yl7 : List Int) {yA8 : Option Addr} {yn8 yc8 : Nat} (yl8 : List (List S81)) {yA9 : Option Addr} {yn9 yc9 : Nat} (yl9 : List (List S81)) (t' : Int) (r : Bool) {ok ok' : Nat → Prop} {B B' : Nat} (w : World) (hM : RNet ok B w (.slice xA2 xn2 xc2) (.slice xA3 xn3 xc3) (.slice xA4 xn4 xc4) (.slice xA5 xn5 xc5) (.slice xA6 xn6 xc6) (.slice xA7 xn7 xc7) (.slice xA8 xn8 xc8) (.slice xA9 xn9 xc9) xl2 xl3 xl4 xl5 xl6 xl7 xl8 xl9) (hN : RNet ok' B' w (.slice yA2 yn2 yc2) (.slice yA3 yn3 yc3) (.slice yA4 yn4 yc4) (.slice yA5 yn5 yc5) (.slice yA6 yn6 yc6) (.slice yA7 yn7 yc7) (.slice yA8 yn8 yc8) (.slice yA9 yn9 yc9) yl2 yl3 yl4 yl5 yl6 yl7 yl8 yl9) (h : laws_eqNet.f k a0 a1 xl2 xl3 xl4 xl5 xl6 xl7 xl8 xl9 t b0 b1 yl2 yl3 yl4 yl5 yl6 yl7 yl8 yl9 t' = some r) : Calls Try.prog 10 #[.agg #[.int .i64 a0, .int .i64 a1, .slice xA2 xn2 xc2, .slice xA3 xn3 xc3, .slice xA4 xn4 xc4, .slice xA5 xn5 xc5, .slice xA6 xn6 xc6, .slice xA7 xn7 xc7, .slice xA8 xn8 xc8, .slice xA9 xn9 xc9, .int .i64 t], .agg #[.int .i64 b0, .int .i64 b1, .slice yA2 yn2 yc2, .slice yA3 yn3 yc3, .slice yA4 yn4 yc4, .slice yA5 yn5 yc5, .slice yA6 yn6 yc6, .slice yA7 yn7 yc7, .slice yA8 yn8 yc8, .slice yA9 yn9 yc9, .int .i64 t']] w fun e w' => e = .returned (.bool r) ∧ Below w.heap.size w w' := by
 obtain ⟨rfl, xk2, xd2⟩ := Kd.R_reads' hM.h2
 obtain ⟨rfl, xk3, xd3⟩ := Kd.R_reads' hM.h3
 obtain ⟨rfl, xk4, xd4⟩ := Kd.R_reads' hM.h4
 obtain ⟨rfl, xk5, xd5⟩ := Kd.S_reads' hM.h5
 obtain ⟨rfl, xk6, xd6⟩ := Kd.R_reads' hM.h6
 obtain ⟨rfl, xk7, xd7⟩ := Kd.R_reads' hM.h7
 obtain ⟨rfl, xk8, xd8⟩ := Kd.S_reads' hM.h8
 obtain ⟨rfl, xk9, xd9⟩ := Kd.S_reads' hM.h9
 obtain ⟨rfl, yk2, yd2⟩ := Kd.R_reads' hN.h2
 obtain ⟨rfl, yk3, yd3⟩ := Kd.R_reads' hN.h3
 obtain ⟨rfl, yk4, yd4⟩ := Kd.R_reads' hN.h4
 obtain ⟨rfl, yk5, yd5⟩ := Kd.S_reads' hN.h5
 obtain ⟨rfl, yk6, yd6⟩ := Kd.R_reads' hN.h6
 obtain ⟨rfl, yk7, yd7⟩ := Kd.R_reads' hN.h7
 obtain ⟨rfl, yk8, yd8⟩ := Kd.S_reads' hN.h8
 obtain ⟨rfl, yk9, yd9⟩ := Kd.S_reads' hN.h9
 exact laws_eqNet.calls k a0 a1 _ _ xl2 _ _ xl3 _ _ xl4 _ _ xl5 _ _ xl6 _ _ xl7 _ _ xl8 _ _ xl9 t b0 b1 _ _ yl2 _ _ yl3 _ _ yl4 _ _ yl5 _ _ yl6 _ _ yl7 _ _ yl8 _ _ yl9 t' r w xd2 xk2 xd3 xk3 xd4 xk4 xd5 xk5 xd6 xk6 xd7 xk7 xd8 xk8 xd9 xk9 yd2 yk2 yd3 yk3 yd4 yk4 yd5 yk5 yd6 yk6 yd7 yk7 yd8 yk8 yd9 yk9 h
def st3_ (w : World) (g : Nat) (u0 u1 u2 : Value) : World := ((w.setCell ⟨g, 0, none⟩ u0).setCell ⟨g, 1, none⟩ u1).setCell ⟨g, 2, none⟩ u2
section
variable {w w0 : World} {g : Nat} {t : TypeId} {c0 c1 c2 u0 u1 u2 : Value}
theorem st3_blk (h : w.heap[g]? = some (.cells #[c0, c1, c2] t (0, 0))) : (st3_ w g u0 u1 u2).heap[g]? = some (.cells #[u0, u1, u2] t (0, 0)) := by
 refine blk_put (cs := #[u0, u1, c2]) ?_ 2 _ rfl
 refine blk_put (cs := #[u0, c1, c2]) ?_ 1 _ rfl
 refine blk_put (cs := #[c0, c1, c2]) ?_ 0 _ rfl
 exact h
theorem st3_far {k : Nat} (h : k ≠ g) : (st3_ w g u0 u1 u2).heap[k]? = w.heap[k]? := by
 unfold st3_
 repeat rw [Below.heap_setCell _ _ _ _ h]
theorem st3_size : (st3_ w g u0 u1 u2).heap.size = w.heap.size := by
 simp only [st3_, World.setCell, Array.size_modify]
theorem st3_below (h : Below w0.heap.size w0 w) (hg : w0.heap.size ≤ g) : Below w0.heap.size w0 (st3_ w g u0 u1 u2) := by
 unfold st3_
 repeat refine below_set ?_ hg
 exact h
end
def st2_ (w : World) (g : Nat) (u0 u1 : Value) : World := (w.setCell ⟨g, 0, none⟩ u0).setCell ⟨g, 1, none⟩ u1
section
variable {w w0 : World} {g : Nat} {t : TypeId} {c0 c1 u0 u1 : Value}
theorem st2_blk (h : w.heap[g]? = some (.cells #[c0, c1] t (0, 0))) : (st2_ w g u0 u1).heap[g]? = some (.cells #[u0, u1] t (0, 0)) := by
 refine blk_put (cs := #[u0, c1]) ?_ 1 _ rfl
 refine blk_put (cs := #[c0, c1]) ?_ 0 _ rfl
 exact h
theorem st2_far {k : Nat} (h : k ≠ g) : (st2_ w g u0 u1).heap[k]? = w.heap[k]? := by
 unfold st2_
 repeat rw [Below.heap_setCell _ _ _ _ h]
theorem st2_size : (st2_ w g u0 u1).heap.size = w.heap.size := by
 simp only [st2_, World.setCell, Array.size_modify]
theorem st2_below (h : Below w0.heap.size w0 w) (hg : w0.heap.size ≤ g) : Below w0.heap.size w0 (st2_ w g u0 u1) := by
 unfold st2_
 repeat refine below_set ?_ hg
 exact h
end
@[reducible] def laws_FnExactNetNew.J (l : Array Bool) (v : Nat → Value) : Prop := (l.getD 5 true = true → v 5 = v 4) ∧ (l.getD 6 true = true → ∀ N b, v 4 = .tuple #[N, b] → v 6 = N) ∧ (l.getD 7 true = true → ∀ N b, v 4 = .tuple #[N, b] → v 7 = b) ∧ (l.getD 9 true = true → ∀ xs b, v 4 = .tuple #[.agg xs, b] → ∃ g, v 8 = .pointer (some ⟨g, 0, none⟩) ∧ v 9 = .agg #[.pointer (some ⟨g, 0, none⟩), .agg xs])
theorem laws_FnExactNetNew.J0 (l : Array Bool) (v : Nat → Value) (h5 : l.getD 5 true = false) (h6 : l.getD 6 true = false) (h7 : l.getD 7 true = false) (h9 : l.getD 9 true = false) : laws_FnExactNetNew.J l v :=
 ⟨fun h => by (rw [h5] at h; cases h), fun h => by (rw [h6] at h; cases h), fun h => by (rw [h7] at h; cases h), fun h => by (rw [h9] at h; cases h)⟩
theorem laws_FnExactNetNew.J.set {l : Array Bool} {v : Nat → Value} {x : Value} {i : Nat} (h : laws_FnExactNetNew.J l v) (h4 : i = 4 → l.getD 5 true = false ∧ l.getD 6 true = false ∧ l.getD 7 true = false ∧ l.getD 9 true = false) (h8 : i = 8 → l.getD 9 true = false) (h5 : i = 5 → x = v 4) (h6 : i = 6 → ∀ N b, v 4 = .tuple #[N, b] → x = N) (h7 : i = 7 → ∀ N b, v 4 = .tuple #[N, b] → x = b) (h9 : i = 9 → ∀ xs b, v 4 = .tuple #[.agg xs, b] → ∃ g, v 8 = .pointer (some ⟨g, 0, none⟩) ∧ x = .agg #[.pointer (some ⟨g, 0, none⟩), .agg xs]) : laws_FnExactNetNew.J (l.setIfInBounds i true) (fun j => if j = i then x else v j) := by
 by_cases i4 : i = 4
 ·subst i4
  obtain ⟨g5, g6, g7, g9⟩ := h4 rfl
  exact laws_FnExactNetNew.J0 _ _ (by rw [getD_set_ne _ (by decide)]; exact g5) (by rw [getD_set_ne _ (by decide)]; exact g6) (by rw [getD_set_ne _ (by decide)]; exact g7) (by rw [getD_set_ne _ (by decide)]; exact g9)
 have e4 : (if (4 : Nat) = i then x else v 4) = v 4 := if_neg (fun e => i4 e.symm)
 refine ⟨fun hl => ?_, fun hl => ?_, fun hl => ?_, fun hl => ?_⟩
 ·show (if (5 : Nat) = i then x else v 5) = (if (4 : Nat) = i then x else v 4)
  rw [e4]
  by_cases c : (5 : Nat) = i
  ·rw [if_pos c]; exact h5 c.symm
  ·rw [if_neg c]; rw [getD_set_ne _ (fun e => c e.symm)] at hl; exact h.1 hl
 ·show ∀ N b, (if (4 : Nat) = i then x else v 4) = .tuple #[N, b] → (if (6 : Nat) = i then x else v 6) = N
  rw [e4]
  by_cases c : (6 : Nat) = i
  ·rw [if_pos c]; exact h6 c.symm
  ·rw [if_neg c]; rw [getD_set_ne _ (fun e => c e.symm)] at hl; exact h.2.1 hl
 ·show ∀ N b, (if (4 : Nat) = i then x else v 4) = .tuple #[N, b] → (if (7 : Nat) = i then x else v 7) = b
  rw [e4]
  by_cases c : (7 : Nat) = i
  ·rw [if_pos c]; exact h7 c.symm
  ·rw [if_neg c]; rw [getD_set_ne _ (fun e => c e.symm)] at hl; exact h.2.2.1 hl
 ·show ∀ xs b, (if (4 : Nat) = i then x else v 4) = .tuple #[.agg xs, b] → ∃ g, (if (8 : Nat) = i then x else v 8) = .pointer (some ⟨g, 0, none⟩) ∧ (if (9 : Nat) = i then x else v 9) = .agg #[.pointer (some ⟨g, 0, none⟩), .agg xs]
  rw [e4]
  by_cases c8 : (8 : Nat) = i
  ·rw [← c8, getD_set_ne _ (by decide), h8 c8.symm] at hl; cases hl
  rw [if_neg c8]
  by_cases c : (9 : Nat) = i
  ·rw [if_pos c]; exact h9 c.symm
  ·rw [if_neg c]; rw [getD_set_ne _ (fun e => c e.symm)] at hl; exact h.2.2.2 hl
section
variable {P : Program} {ops : Array Oper} {Q : Exit → Act → World → Prop} {md : Region.Mode} {S : World → Prop} {ds : List Nat} {oi : Oper} {v : Value} {fuel : Nat} {l : Array Bool} {a a' : Act} {w : World}
theorem laws_FnExactNetNew.pk_ (i N : Nat) (l' : Array Bool) (h : wpAnyLast P md ops Q S ds fuel l' a' w)
 (hi : ops[i]? = some oi := by rfl) (hN : oi.dst = some N := by rfl) (hc : anyB md ops l l' i = true := by kernel_rfl) (hQ : ∀ c a w, Q (.panic c) (a.put oi.dst v) w → Q (.panic c) a w := by (exact fun _ _ _ h => h)) (hw : Region.wanted oi (yielded ops a.tmps) = true := by rfl) (hy : ∀ w, (execOp a.eval oi).run P w = .ok (.value v) w := by (intro w'; go_simp; with_reducible rfl)) (ha : a.put (some N) v = a' := by (simp only [Act.put, List.setIfInBounds_toArray, List.set_cons_zero, List.set_cons_succ, i64_w, i32_w]; rfl)) : wpAnyLast P md ops Q S ds (fuel + 1) l a w := pure_ l' hi hN hc hQ (Or.inl ⟨hw, hy⟩) ha h
theorem laws_FnExactNetNew.tk_ (i N : Nat) (l' : Array Bool) (hS : S w) (h : wpAnyLast P md ops Q S ds fuel l' a' w)
 (hi : ops[i]? = some oi := by rfl) (hN : oi.dst = some N := by rfl) (hc : takeB md ops ds l l' i = true := by kernel_rfl) (hQ : ∀ c a w, Q (.panic c) (a.put oi.dst v) w → Q (.panic c) a w := by (exact fun _ _ _ h => h)) (hw : Region.wanted oi (yielded ops a.tmps) = true := by rfl) (ha : a.put (some N) v = a' := by (simp only [Act.put, List.setIfInBounds_toArray, List.set_cons_zero, List.set_cons_succ, i64_w, i32_w]; rfl)) (hy : ∀ w, S w → (execOp a.eval oi).run P w = .ok (.value v) w) : wpAnyLast P md ops Q S ds (fuel + 1) l a w := take_ l' hi hN hc hQ (Or.inl ⟨hw, hy⟩) hS ha h
end
set_option maxHeartbeats 8000000 in
set_option maxRecDepth 100000 in
theorem laws_FnExactNetNew.calls (k : Nat) (a0_0 : Int) (a0_1 : Int) (A0_2 : Option Addr) (c0_2 : Nat) (l0_2 : List Int) (A1_0 : Option Addr) (c1_0 : Nat) (l1_0 : List Int) (A1_1 : Option Addr) (c1_1 : Nat) (l1_1 : List Int) (r : Bool) (w : World) (hr0_2 : Kd.C (Kd.int .i64) w A0_2 l0_2.length l0_2) (hc0_2 : l0_2.length ≤ c0_2) (hr1_0 : Kd.C (Kd.int .i64) w A1_0 l1_0.length l1_0) (hc1_0 : l1_0.length ≤ c1_0) (hr1_1 : Kd.C (Kd.int .i64) w A1_1 l1_1.length l1_1) (hc1_1 : l1_1.length ≤ c1_1) (h : laws_FnExactNetNew.f k a0_0 a0_1 l0_2 l1_0 l1_1 = some r) :
  Calls Try.prog 3 #[.agg #[.int .i64 a0_0, .int .i64 a0_1, .slice A0_2 l0_2.length c0_2], .agg #[.slice A1_0 l1_0.length c1_0, .slice A1_1 l1_1.length c1_1]] w fun e w' => e = .returned (.bool r) ∧ Below w.heap.size w w' := by
 have HR0_2 := Aside0.mk hr0_2
 have HC0_2 := Aside0.mk hc0_2
 have HR1_0 := Aside0.mk hr1_0
 have HC1_0 := Aside0.mk hc1_0
 have HR1_1 := Aside0.mk hr1_1
 have HC1_1 := Aside0.mk hc1_1
 have HB := Aside0.mk (Below.refl w.heap.size w)
 unfold laws_FnExactNetNew.f at h
 obtain ⟨s, e1, h1⟩ := Option.bind_eq_some_iff.1 h
 have E1 := Aside0.mk e1
 have H' := Aside0.mk h1
 clear h h1 e1 hr0_2 hc0_2 hr1_0 hc1_0 hr1_1 hc1_1
 have hu0_ := Try.underlying26
 have hu1_ := Try.underlying30
 have hu2_ := Try.underlying35
 have hu3_ := Try.underlying38
 have hu4_ := Try.underlying41
 go_enter Try.func3, Try.ntmps3
 go_upto_region 2 with (first | ((with_reducible refine gate_dst (N := 2) rfl ?_); refine box_event ?hg (N := 2) ?hd (cs := #[.int .i64 a0_0, .int .i64 a0_1, .slice A0_2 l0_2.length c0_2]) (t := 26) ?hr ?_; (case hd => rfl); (case hg => rfl); (case hr => first | (go_simp; done) | (go_simp; rfl)); intro gm hg w1 hbox hb; have BM := Aside0.mk hbox; replace HB := Aside0.mk (bs_ HB.out hb); clear hb hbox hg) | ((with_reducible refine gate_dst (N := 3) rfl ?_); refine box_event ?hg (N := 3) ?hd (cs := #[.slice A1_0 l1_0.length c1_0, .slice A1_1 l1_1.length c1_1]) (t := 30) ?hr ?_; (case hd => rfl); (case hg => rfl); (case hr => first | (go_simp; done) | (go_simp; rfl)); intro gt hg w1 hbox hb; have BT := Aside0.mk hbox; replace BM := Aside0.mk (bk_ BM.out hb); replace HB := Aside0.mk (bs_ HB.out hb); clear hb hbox hg))
 have y0 : w1.cell? ⟨gm, 0, none⟩ = some (.int .i64 a0_0) := (blk_cell BM.out 0).trans rfl
 have y1 : w1.cell? ⟨gm, 1, none⟩ = some (.int .i64 a0_1) := (blk_cell BM.out 1).trans rfl
 have y2 : w1.cell? ⟨gm, 2, none⟩ = some (.slice A0_2 l0_2.length c0_2) := (blk_cell BM.out 2).trans rfl
 have y3 : w1.cell? ⟨gt, 0, none⟩ = some (.slice A1_0 l1_0.length c1_0) := (blk_cell BT.out 0).trans rfl
 have y4 : w1.cell? ⟨gt, 1, none⟩ = some (.slice A1_1 l1_1.length c1_1) := (blk_cell BT.out 1).trans rfl
 go_upto_region 3 with (first | (go_at_call 4; (with_reducible refine (laws_szMesh.calls a0_0 a0_1 _ _ l0_2 1048576 s _ ?s1 HC0_2.out E1.out).mono ?_); (case s1 => exact cb_ HR0_2.out HB.out); rintro e w2 ⟨rfl, hb⟩; replace BM := Aside0.mk (bk_ BM.out hb); replace BT := Aside0.mk (bk_ BT.out hb); replace HB := Aside0.mk (bs_ HB.out hb); clear hb y0 y1 y2 y3 y4))
 by_cases cs : s < 0
 ·have H := H'.out
  rw [if_pos cs] at H
  obtain rfl := Option.some.inj H
  have cd : decide (s < 0) = true := decide_eq_true cs
  go_wp2
  go_ret
  exact ⟨rfl, bb_ HB.out⟩
 have H := H'.out
 rw [if_neg cs] at H
 have cd : decide (s < 0) = false := decide_eq_false cs
 obtain ⟨s2, e2, h2⟩ := Option.bind_eq_some_iff.1 H
 have E2 := Aside0.mk e2
 replace H' := Aside0.mk h2
 clear H e2 h2 cs
 have y0 : w2.cell? ⟨gm, 0, none⟩ = some (.int .i64 a0_0) := (blk_cell BM.out 0).trans rfl
 have y1 : w2.cell? ⟨gm, 1, none⟩ = some (.int .i64 a0_1) := (blk_cell BM.out 1).trans rfl
 have y2 : w2.cell? ⟨gm, 2, none⟩ = some (.slice A0_2 l0_2.length c0_2) := (blk_cell BM.out 2).trans rfl
 have y3 : w2.cell? ⟨gt, 0, none⟩ = some (.slice A1_0 l1_0.length c1_0) := (blk_cell BT.out 0).trans rfl
 have y4 : w2.cell? ⟨gt, 1, none⟩ = some (.slice A1_1 l1_1.length c1_1) := (blk_cell BT.out 1).trans rfl
 go_upto_region 6 with (first | (go_at_call 5; (with_reducible refine (laws_szClasses.calls _ _ l1_0 _ _ l1_1 s s2 _ ?s0 HC1_0.out ?s1 HC1_1.out E2.out).mono ?_); (case s0 => exact cb_ HR1_0.out HB.out); (case s1 => exact cb_ HR1_1.out HB.out); rintro e w3 ⟨rfl, hb⟩; replace BM := Aside0.mk (bk_ BM.out hb); replace BT := Aside0.mk (bk_ BT.out hb); replace HB := Aside0.mk (bs_ HB.out hb); clear hb y0 y1 y2 y3 y4))
 by_cases cs2 : s2 < 0
 ·have H := H'.out
  rw [if_pos cs2] at H
  obtain rfl := Option.some.inj H
  have cd2 : decide (s2 < 0) = true := decide_eq_true cs2
  go_wp2
  go_ret
  exact ⟨rfl, bb_ HB.out⟩
 have H := H'.out
 rw [if_neg cs2] at H
 have cd2 : decide (s2 < 0) = false := decide_eq_false cs2
 replace H' := Aside0.mk H
 clear H cs2
 have H := H'.out
 obtain ⟨⟨m0, m1, m2⟩, e3, G_⟩ := Option.bind_eq_some_iff.1 H
 clear H; have H := G_; clear G_
 obtain ⟨⟨t0, t1⟩, e4, G_⟩ := Option.bind_eq_some_iff.1 H
 clear H; have H := G_; clear G_
 obtain ⟨⟨q1, q2, q3, q4, q5, q6, q7, q8, q9, q10, q11, q12⟩, e5, G_⟩ := Option.bind_eq_some_iff.1 H
 clear H; have H := G_; clear G_
 obtain ⟨⟨p1, p2, p3, p4, p5, p6, p7, p8, p9, p10, p11, p12⟩, e6, G_⟩ := Option.bind_eq_some_iff.1 H
 clear H; have H := G_; clear G_
 obtain ⟨b7, e7, G_⟩ := Option.bind_eq_some_iff.1 H
 clear H; have H := G_; clear G_
 dsimp only at e4 e5 e6 e7 H
 cases b7 with
 | false => rw [if_neg (by decide)] at H; cases H
 | true =>
 rw [if_pos rfl] at H
 by_cases cf : p12 = q12
 rotate_left
 ·rw [if_neg cf] at H; cases H
 rw [if_pos cf] at H
 subst cf
 obtain ⟨b8, e8, G_⟩ := Option.bind_eq_some_iff.1 H
 clear H; have H := G_; clear G_
 cases b8 with
 | false => rw [if_neg (by decide)] at H; cases H
 | true =>
 rw [if_pos rfl] at H
 obtain ⟨b9, e9, G_⟩ := Option.bind_eq_some_iff.1 H
 clear H; have H := G_; clear G_
 cases b9 with
 | false => rw [if_neg (by decide)] at H; cases H
 | true =>
 rw [if_pos rfl] at H
 obtain ⟨⟨n1, a0⟩, ea, G_⟩ := Option.bind_eq_some_iff.1 H
 clear H; have H := G_; clear G_
 obtain ⟨⟨n2, a1, a2⟩, eb, G_⟩ := Option.bind_eq_some_iff.1 H
 clear H; have H := G_; clear G_
 dsimp only at eb H
 by_cases cn : n2 < 0
 ·rw [if_pos cn] at H; cases H
 rw [if_neg cn] at H
 obtain ⟨⟨d1, d3, d4, d5, d6, d7, d8, d9, d10⟩, ec, G_⟩ := Option.bind_eq_some_iff.1 H
 clear H; have H := G_; clear G_
 obtain ⟨z, ed, G_⟩ := Option.bind_eq_some_iff.1 H
 clear H; have H := G_; clear G_
 dsimp only at ed H
 by_cases cz : z < 0
 ·rw [if_pos cz] at H; cases H
 rw [if_neg cz] at H
 by_cases cq : z = d1
 rotate_left
 ·rw [if_neg cq] at H; cases H
 rw [if_pos cq] at H
 obtain rfl := Option.some.inj H
 subst cq
 have cnd : decide (n2 < 0) = false := decide_eq_false cn
 have czd : decide (z < 0) = false := decide_eq_false cz
 have czn : (z != z) = false := by simp
 have cfn : (p12 != p12) = false := by simp
 have E3 := Aside0.mk e3
 have E4 := Aside0.mk e4
 have E5 := Aside0.mk e5
 have E6 := Aside0.mk e6
 have E7 := Aside0.mk e7
 have E8 := Aside0.mk e8
 have E9 := Aside0.mk e9
 have Xa := Aside0.mk ea
 have Xb := Aside0.mk eb
 have Xc := Aside0.mk ec
 have Xd := Aside0.mk ed
 clear e3 e4 e5 e6 e7 e8 e9 ea eb ec ed H cn cz H'
 go_upto_region 8 with (fail)
 have y0 : w3.cell? ⟨gm, 0, none⟩ = some (.int .i64 a0_0) := (blk_cell BM.out 0).trans rfl
 have y1 : w3.cell? ⟨gm, 1, none⟩ = some (.int .i64 a0_1) := (blk_cell BM.out 1).trans rfl
 have y2 : w3.cell? ⟨gm, 2, none⟩ = some (.slice A0_2 l0_2.length c0_2) := (blk_cell BM.out 2).trans rfl
 have y3 : w3.cell? ⟨gt, 0, none⟩ = some (.slice A1_0 l1_0.length c1_0) := (blk_cell BT.out 0).trans rfl
 have y4 : w3.cell? ⟨gt, 1, none⟩ = some (.slice A1_1 l1_1.length c1_1) := (blk_cell BT.out 1).trans rfl
 refine start_ (n := 11) (S := fun w' => w'.cell? ⟨gm, 0, none⟩ = some (.int .i64 a0_0) ∧ w'.cell? ⟨gm, 1, none⟩ = some (.int .i64 a0_1) ∧ w'.cell? ⟨gm, 2, none⟩ = some (.slice A0_2 l0_2.length c0_2) ∧ w'.cell? ⟨gt, 0, none⟩ = some (.slice A1_0 l1_0.length c1_0) ∧ w'.cell? ⟨gt, 1, none⟩ = some (.slice A1_1 l1_1.length c1_1)) (ds := []) #[false, false, false, false, false, false, false, false, false, false, false] (by kernel_rfl) rfl rfl ⟨y0, y1, y2, y3, y4⟩ (fun hHeld => ?_)
 clear y0 y1 y2 y3 y4
 replace BM := Aside0.mk (bq_ BM.out : w3.drew.heap[_]? = some _)
 replace BT := Aside0.mk (bq_ BT.out : w3.drew.heap[_]? = some _)
 replace HB := Aside0.mk (bb_ HB.out : Below w.heap.size w w3.drew)
 generalize w3.drew = w4 at *
 refine laws_FnExactNetNew.tk_ (v := .agg #[.int .i64 a0_0, .int .i64 a0_1, .slice A0_2 l0_2.length c0_2]) 0 28 (bt_ 11 1) hHeld ?_ (hy := by rintro w' ⟨s0, s1, s2, s3, s4⟩; go_simp)
 refine laws_FnExactNetNew.tk_ (v := .agg #[.slice A1_0 l1_0.length c1_0, .slice A1_1 l1_1.length c1_1]) 2 30 (bt_ 11 5) hHeld ?_ (hy := by rintro w' ⟨s0, s1, s2, s3, s4⟩; go_simp)
 have hSS : ∀ w1, Below w4.heap.size w4 w1 → (w1.cell? ⟨gm, 0, none⟩ = some (.int .i64 a0_0) ∧ w1.cell? ⟨gm, 1, none⟩ = some (.int .i64 a0_1) ∧ w1.cell? ⟨gm, 2, none⟩ = some (.slice A0_2 l0_2.length c0_2) ∧ w1.cell? ⟨gt, 0, none⟩ = some (.slice A1_0 l1_0.length c1_0) ∧ w1.cell? ⟨gt, 1, none⟩ = some (.slice A1_1 l1_1.length c1_1)) := fun w1 hb => ⟨(blk_cell (bk_ BM.out hb) 0).trans rfl, (blk_cell (bk_ BM.out hb) 1).trans rfl, (blk_cell (bk_ BM.out hb) 2).trans rfl, (blk_cell (bk_ BT.out hb) 0).trans rfl, (blk_cell (bk_ BT.out hb) 1).trans rfl⟩
 refine evsJA_ [1, 3, 4, 5, 6, 8, 7, 9] (fun i => match i with | 1 => 20 | 3 => 21 | 4 => 22 | 5 => 23 | 6 => 24 | 7 => 25 | 8 => 30 | 9 => 30 | _ => 40) (fun i => match i with | 8 => 9 | _ => 100) (fun v => [(29, v 1), (31, v 3), (32, v 4), (27, v 5), (33, v 6), (34, v 7), (6, v 8)]) (fun i => match i with | 1 => Ev.A1 3 w4.heap.size (.int .i64 m0) (.int .i64 m1) m2 | 3 => Ev.A2 3 w4.heap.size t0 t1 | 4 => Ev.N w4.heap.size q1 q2 q3 q4 q5 q6 q7 q8 q9 q10 q11 p12 | 8 => Ev.B 41 #[.int .i64 0, .int .i64 0, .slice none 0 0, .slice none 0 0, .slice none 0 0, .slice none 0 0, .slice none 0 0, .slice none 0 0, .slice none 0 0, .slice none 0 0, .int .i64 0] | 9 => Ev.C 41 | _ => Ev.any) (fun l v W => (W.cell? ⟨gm, 0, none⟩ = some (.int .i64 a0_0) ∧ W.cell? ⟨gm, 1, none⟩ = some (.int .i64 a0_1) ∧ W.cell? ⟨gm, 2, none⟩ = some (.slice A0_2 l0_2.length c0_2) ∧ W.cell? ⟨gt, 0, none⟩ = some (.slice A1_0 l1_0.length c1_0) ∧ W.cell? ⟨gt, 1, none⟩ = some (.slice A1_1 l1_1.length c1_1)) ∧ laws_FnExactNetNew.J l v) w4 w4.heap.size (bt_ 11 1023) 1 rfl (by kernel_rfl) (by simp only [putAll, Act.put, List.setIfInBounds_toArray, List.set_cons_zero, List.set_cons_succ]; first | done | rfl) ?hpos (fun _ _ _ h_ => h_.1) ⟨hSS _ (Below.refl _ _), laws_FnExactNetNew.J0 _ _ (by decide) (by decide) (by decide) (by decide)⟩ (Below.refl _ _) (Nat.le_refl _) ?hev ?hcont
 case hpos => decide
 case hev =>
  intro i hi
  simp only [List.mem_cons, List.not_mem_nil, or_false] at hi
  rcases hi with rfl | rfl | rfl | rfl | rfl | rfl | rfl | rfl
  ·refine ⟨_, rfl, fun v x => (by simp only [putAll, Act.put, List.setIfInBounds_toArray, List.set_cons_zero, List.set_cons_succ, Nat.reduceEqDiff, ↓reduceIte]; first | done | rfl), fun T v W l hJ hs hl hpre hpost hW hBW hT hF K a1 ha hK => ?_⟩
   simp only [putAll, Act.put, List.setIfInBounds_toArray, List.set_cons_zero, List.set_cons_succ] at ha
   subst ha
   have HBW := Aside0.mk (bs_ HB.out hW)
   obtain ⟨-, j5, j6, j7, j9⟩ := hJ
   refine goes_ Try.func7 (by kernel_rfl) rfl #[.agg #[.int .i64 a0_0, .int .i64 a0_1, .slice A0_2 l0_2.length c0_2]] (by rfl) rfl rfl (by (try simp only [List.map_toArray, List.map_cons, List.map_nil]); first | done | rfl) ?_
   with_reducible refine (laws_toMesh.calls k a0_0 a0_1 _ _ l0_2 m0 m1 m2 _ ?s0 HC0_2.out E3.out).mono ?_
   (case s0 => exact cb_ HR0_2.out HBW.out)
   rintro e w1 ⟨u_, rfl, h_, hb⟩
   exact ⟨_, rfl, hK _ w1 ⟨hSS _ (bs_ hW hb), (laws_FnExactNetNew.J.set (i := 1) ⟨j5, j6, j7, j9⟩ (fun h_ => absurd h_ (by decide)) (fun h_ => absurd h_ (by decide)) (fun h_ => absurd h_ (by decide)) (fun h_ => absurd h_ (by decide)) (fun h_ => absurd h_ (by decide)) (fun h_ => absurd h_ (by decide)))⟩ (bs_ hW hb) hb.size (fun k_ hl_ _ _ => hb.block k_ hl_) ⟨u_, rfl, rq_ h_ hBW (fun k_ h1_ h_ => Or.inr h_)⟩⟩
  ·refine ⟨_, rfl, fun v x => (by simp only [putAll, Act.put, List.setIfInBounds_toArray, List.set_cons_zero, List.set_cons_succ, Nat.reduceEqDiff, ↓reduceIte]; first | done | rfl), fun T v W l hJ hs hl hpre hpost hW hBW hT hF K a1 ha hK => ?_⟩
   simp only [putAll, Act.put, List.setIfInBounds_toArray, List.set_cons_zero, List.set_cons_succ] at ha
   subst ha
   have HBW := Aside0.mk (bs_ HB.out hW)
   obtain ⟨-, j5, j6, j7, j9⟩ := hJ
   refine goes_ Try.func8 (by kernel_rfl) rfl #[.agg #[.slice A1_0 l1_0.length c1_0, .slice A1_1 l1_1.length c1_1]] (by rfl) rfl rfl (by (try simp only [List.map_toArray, List.map_cons, List.map_nil]); first | done | rfl) ?_
   with_reducible refine (laws_toClasses.calls k _ _ l1_0 _ _ l1_1 t0 t1 _ ?s0 HC1_0.out ?s1 HC1_1.out E4.out).mono ?_
   (case s0 => exact cb_ HR1_0.out HBW.out)
   (case s1 => exact cb_ HR1_1.out HBW.out)
   rintro e w1 ⟨u_, u1_, rfl, h_, h1_, hb⟩
   exact ⟨_, rfl, hK _ w1 ⟨hSS _ (bs_ hW hb), (laws_FnExactNetNew.J.set (i := 3) ⟨j5, j6, j7, j9⟩ (fun h_ => absurd h_ (by decide)) (fun h_ => absurd h_ (by decide)) (fun h_ => absurd h_ (by decide)) (fun h_ => absurd h_ (by decide)) (fun h_ => absurd h_ (by decide)) (fun h_ => absurd h_ (by decide)))⟩ (bs_ hW hb) hb.size (fun k_ hl_ _ _ => hb.block k_ hl_) ⟨u_, u1_, rfl, rq_ h_ hBW (fun k_ g_ q_ => ⟨Or.inr q_, g_⟩), rq_ h1_ hBW (fun k_ g_ q_ => ⟨Or.inr q_, g_⟩)⟩⟩
  ·refine ⟨_, rfl, fun v x => (by simp only [putAll, Act.put, List.setIfInBounds_toArray, List.set_cons_zero, List.set_cons_succ, Nat.reduceEqDiff, ↓reduceIte]; first | done | rfl), fun T v W l hJ hs hl hpre hpost hW hBW hT hF K a1 ha hK => ?_⟩
   simp only [putAll, Act.put, List.setIfInBounds_toArray, List.set_cons_zero, List.set_cons_succ] at ha
   subst ha
   have HBW := Aside0.mk (bs_ HB.out hW)
   obtain ⟨-, j5, j6, j7, j9⟩ := hJ
   obtain ⟨u1, e1, h1⟩ := hF 1 (by decide) (hpre 1 (by kernel_rfl)) (fun h_ => absurd h_ (by decide))
   obtain ⟨u3, u4, e3, h3, h4⟩ := hF 3 (by decide) (hpre 3 (by kernel_rfl)) (fun h_ => absurd h_ (by decide))
   obtain ⟨X1, c1, r1⟩ := Kd.R_slice h1
   obtain ⟨X3, c3, r3⟩ := Kd.R_slice h3
   obtain ⟨X4, c4, r4⟩ := Kd.R_slice h4
   subst r1
   subst r3
   subst r4
   rw [e1, e3]
   refine goes_ Try.func6 (by kernel_rfl) rfl #[.agg #[.int .i64 m0, .int .i64 m1, .slice X1 m2.length c1], .agg #[.slice X3 t0.length c3, .slice X4 t1.length c4]] (by rfl) rfl rfl (by (try simp only [List.map_toArray, List.map_cons, List.map_nil]); first | done | rfl) ?_
   with_reducible refine (spec_NetNew.calls k m0 m1 _ _ m2 _ _ t0 _ _ t1 q1 q2 q3 q4 q5 q6 q7 q8 q9 q10 q11 p12 _ (Kd.R_reads' h1).2.2 (Kd.R_reads' h1).2.1 (Kd.R_reads' h3).2.2 (Kd.R_reads' h3).2.1 (Kd.R_reads' h4).2.2 (Kd.R_reads' h4).2.1 E5.out).mono ?_
   rintro e w1 ⟨T_, v2, v3, v4, v5, v6, v7, v8, v9, rfl, hM, hb⟩
   refine ⟨_, rfl, ?_⟩
   rw [← e1, ← e3]
   exact hK _ w1 ⟨hSS _ (bs_ hW hb), (laws_FnExactNetNew.J.set (i := 4) ⟨j5, j6, j7, j9⟩ (fun _ => ⟨hpost 5 (by decide) (by kernel_rfl), hpost 6 (by decide) (by kernel_rfl), hpost 7 (by decide) (by kernel_rfl), hpost 9 (by decide) (by kernel_rfl)⟩) (fun h_ => absurd h_ (by decide)) (fun h_ => absurd h_ (by decide)) (fun h_ => absurd h_ (by decide)) (fun h_ => absurd h_ (by decide)) (fun h_ => absurd h_ (by decide)))⟩ (bs_ hW hb) hb.size (fun k_ hl_ _ _ => hb.block k_ hl_) ⟨v2, v3, v4, v5, v6, v7, v8, v9, rfl, rq_ hM.h2 hBW (fun k_ _ q_ => Or.inr q_), rq_ hM.h3 hBW (fun k_ _ q_ => Or.inr q_), rq_ hM.h4 hBW (fun k_ _ q_ => Or.inr q_), sqq_ hM.h5 hBW (fun k_ _ q_ => Or.inr q_), rq_ hM.h6 hBW (fun k_ _ q_ => Or.inr q_), rq_ hM.h7 hBW (fun k_ _ q_ => Or.inr q_), sqq_ hM.h8 hBW (fun k_ _ q_ => Or.inr q_), sqq_ hM.h9 hBW (fun k_ _ q_ => Or.inr q_)⟩
  ·refine ⟨_, rfl, fun v x => (by simp only [putAll, Act.put, List.setIfInBounds_toArray, List.set_cons_zero, List.set_cons_succ, Nat.reduceEqDiff, ↓reduceIte]; first | done | rfl), fun T v W l hJ hs hl hpre hpost hW hBW hT hF K a1 ha hK => ?_⟩
   simp only [putAll, Act.put, List.setIfInBounds_toArray, List.set_cons_zero, List.set_cons_succ] at ha
   subst ha
   have HBW := Aside0.mk (bs_ HB.out hW)
   obtain ⟨-, j5, j6, j7, j9⟩ := hJ
   refine value_ (w1 := W) (v := v 4) (by rfl) rfl (by go_simp) ?_
   exact hK _ W ⟨hSS _ hW, (laws_FnExactNetNew.J.set (i := 5) ⟨j5, j6, j7, j9⟩ (fun h_ => absurd h_ (by decide)) (fun h_ => absurd h_ (by decide)) (fun _ => rfl) (fun h_ => absurd h_ (by decide)) (fun h_ => absurd h_ (by decide)) (fun h_ => absurd h_ (by decide)))⟩ hW (Nat.le_refl _) (fun _ _ _ _ => rfl) trivial
  ·refine ⟨_, rfl, fun v x => (by simp only [putAll, Act.put, List.setIfInBounds_toArray, List.set_cons_zero, List.set_cons_succ, Nat.reduceEqDiff, ↓reduceIte]; first | done | rfl), fun T v W l hJ hs hl hpre hpost hW hBW hT hF K a1 ha hK => ?_⟩
   simp only [putAll, Act.put, List.setIfInBounds_toArray, List.set_cons_zero, List.set_cons_succ] at ha
   subst ha
   have HBW := Aside0.mk (bs_ HB.out hW)
   obtain ⟨-, j5, j6, j7, j9⟩ := hJ
   obtain ⟨v2, v3, v4, v5, v6, v7, v8, v9, e4, -⟩ := hF 4 (by decide) (hpre 4 (by kernel_rfl)) (fun h_ => absurd h_ (by decide))
   have e5 := j5 (hpre 5 (by kernel_rfl))
   rw [e4] at e5
   rw [e5]
   refine value_ (w1 := W) (v := .agg #[.int .i64 q1, .int .i64 q2, v2, v3, v4, v5, v6, v7, v8, v9, .int .i64 q11]) (by rfl) rfl (by go_simp) ?_
   rw [← e5]
   refine hK _ W ⟨hSS _ hW, (laws_FnExactNetNew.J.set (i := 6) ⟨j5, j6, j7, j9⟩ (fun h_ => absurd h_ (by decide)) (fun h_ => absurd h_ (by decide)) (fun h_ => absurd h_ (by decide)) ?_ (fun h_ => absurd h_ (by decide)) (fun h_ => absurd h_ (by decide)))⟩ hW (Nat.le_refl _) (fun _ _ _ _ => rfl) trivial
   intro _ N_ b_ h_
   rw [e4] at h_
   simp only [Value.tuple.injEq, Array.mk.injEq, List.cons.injEq, and_true] at h_
   exact h_.1
  ·refine ⟨_, rfl, fun v x => (by simp only [putAll, Act.put, List.setIfInBounds_toArray, List.set_cons_zero, List.set_cons_succ, Nat.reduceEqDiff, ↓reduceIte]; first | done | rfl), fun T v W l hJ hs hl hpre hpost hW hBW hT hF K a1 ha hK => ?_⟩
   simp only [putAll, Act.put, List.setIfInBounds_toArray, List.set_cons_zero, List.set_cons_succ] at ha
   subst ha
   have HBW := Aside0.mk (bs_ HB.out hW)
   obtain ⟨-, j5, j6, j7, j9⟩ := hJ
   refine value_ (w1 := W.alloc (.cells #[.int .i64 0, .int .i64 0, .slice none 0 0, .slice none 0 0, .slice none 0 0, .slice none 0 0, .slice none 0 0, .slice none 0 0, .slice none 0 0, .slice none 0 0, .int .i64 0] 41 (0, 0))) (v := .pointer (some ⟨W.heap.size, 0, none⟩)) (by rfl) rfl (by go_simp; first | done | rfl) ?_
   have hb := below_alloc (Below.refl W.heap.size W) (.cells #[.int .i64 0, .int .i64 0, .slice none 0 0, .slice none 0 0, .slice none 0 0, .slice none 0 0, .slice none 0 0, .slice none 0 0, .slice none 0 0, .slice none 0 0, .int .i64 0] 41 (0, 0))
   exact hK _ _ ⟨hSS _ (bs_ hW hb), (laws_FnExactNetNew.J.set (i := 8) ⟨j5, j6, j7, j9⟩ (fun h_ => absurd h_ (by decide)) (fun _ => hpost 9 (by decide) (by kernel_rfl)) (fun h_ => absurd h_ (by decide)) (fun h_ => absurd h_ (by decide)) (fun h_ => absurd h_ (by decide)) (fun h_ => absurd h_ (by decide)))⟩ (bs_ hW hb) hb.size (fun k_ hl_ _ _ => hb.block k_ hl_) ⟨_, rfl, Or.inr ⟨Nat.le_refl _, blk_lt (blk_new W _)⟩, blk_new W _⟩
  ·refine ⟨_, rfl, fun v x => (by simp only [putAll, Act.put, List.setIfInBounds_toArray, List.set_cons_zero, List.set_cons_succ, Nat.reduceEqDiff, ↓reduceIte]; first | done | rfl), fun T v W l hJ hs hl hpre hpost hW hBW hT hF K a1 ha hK => ?_⟩
   simp only [putAll, Act.put, List.setIfInBounds_toArray, List.set_cons_zero, List.set_cons_succ] at ha
   subst ha
   have HBW := Aside0.mk (bs_ HB.out hW)
   obtain ⟨-, j5, j6, j7, j9⟩ := hJ
   obtain ⟨v2, v3, v4, v5, v6, v7, v8, v9, e4, -⟩ := hF 4 (by decide) (hpre 4 (by kernel_rfl)) (fun h_ => absurd h_ (by decide))
   have e5 := j5 (hpre 5 (by kernel_rfl))
   rw [e4] at e5
   rw [e5]
   refine value_ (w1 := W) (v := .bool p12) (by rfl) rfl (by go_simp) ?_
   rw [← e5]
   refine hK _ W ⟨hSS _ hW, (laws_FnExactNetNew.J.set (i := 7) ⟨j5, j6, j7, j9⟩ (fun h_ => absurd h_ (by decide)) (fun h_ => absurd h_ (by decide)) (fun h_ => absurd h_ (by decide)) (fun h_ => absurd h_ (by decide)) ?_ (fun h_ => absurd h_ (by decide)))⟩ hW (Nat.le_refl _) (fun _ _ _ _ => rfl) trivial
   intro _ N_ b_ h_
   rw [e4] at h_
   simp only [Value.tuple.injEq, Array.mk.injEq, List.cons.injEq, and_true] at h_
   exact h_.2
  ·refine ⟨_, rfl, fun v x => (by simp only [putAll, Act.put, List.setIfInBounds_toArray, List.set_cons_zero, List.set_cons_succ, Nat.reduceEqDiff, ↓reduceIte]; first | done | rfl), fun T v W l hJ hs hl hpre hpost hW hBW hT hF K a1 ha hK => ?_⟩
   simp only [putAll, Act.put, List.setIfInBounds_toArray, List.set_cons_zero, List.set_cons_succ] at ha
   subst ha
   have HBW := Aside0.mk (bs_ HB.out hW)
   obtain ⟨-, j5, j6, j7, j9⟩ := hJ
   obtain ⟨v2, v3, v4, v5, v6, v7, v8, v9, e4, h2, h3, h4, h5, h6, h7, h8, h9⟩ := hF 4 (by decide) (hpre 4 (by kernel_rfl)) (fun h_ => absurd h_ (by decide))
   obtain ⟨Y2, y2, e_⟩ := Kd.R_slice h2
   subst e_
   obtain ⟨Y3, y3, e_⟩ := Kd.R_slice h3
   subst e_
   obtain ⟨Y4, y4, e_⟩ := Kd.R_slice h4
   subst e_
   obtain ⟨Y5, y5, e_⟩ := Kd.S_slice h5
   subst e_
   obtain ⟨Y6, y6, e_⟩ := Kd.R_slice h6
   subst e_
   obtain ⟨Y7, y7, e_⟩ := Kd.R_slice h7
   subst e_
   obtain ⟨Y8, y8, e_⟩ := Kd.S_slice h8
   subst e_
   obtain ⟨Y9, y9, e_⟩ := Kd.S_slice h9
   subst e_
   clear h2 h3 h4 h5 h6 h7 h8 h9
   have e6 := j6 (hpre 6 (by kernel_rfl)) _ _ e4
   obtain ⟨g, e8, og, hg⟩ := hF 8 (by decide) (hpre 8 (by kernel_rfl)) (fun _ => hl)
   have hgl : w4.heap.size ≤ g := (hT g (by rw [show T g = 30 from og]; decide)).1
   obtain ⟨z0, z1, z2, z3, z4, z5, z6, z7, z8, z9, z10, f0, f1, f2, f3, f4, f5, f6, f7, f8, f9, f10⟩ := cz11_ hg
   rw [e6, e8]
   refine skip_ (w1 := ?_) (by rfl) rfl ?_ ?_
   rotate_left
   ·go_simp
    rfl
   clear z0 z1 z2 z3 z4 z5 z6 z7 z8 z9 z10 f0 f1 f2 f3 f4 f5 f6 f7 f8 f9 f10
   rw [← e6, ← e8]
   refine hK (.agg #[.pointer (some ⟨g, 0, none⟩), .agg #[.int .i64 q1, .int .i64 q2, .slice Y2 q3.length y2, .slice Y3 q4.length y3, .slice Y4 q5.length y4, .slice Y5 q6.length y5, .slice Y6 q7.length y6, .slice Y7 q8.length y7, .slice Y8 q9.length y8, .slice Y9 q10.length y9, .int .i64 q11]]) (st11_ W g (.int .i64 q1) (.int .i64 q2) (.slice Y2 q3.length y2) (.slice Y3 q4.length y3) (.slice Y4 q5.length y4) (.slice Y5 q6.length y5) (.slice Y6 q7.length y6) (.slice Y7 q8.length y7) (.slice Y8 q9.length y8) (.slice Y9 q10.length y9) (.int .i64 q11)) ⟨hSS _ (st11_below hW hgl), (laws_FnExactNetNew.J.set (i := 9) ⟨j5, j6, j7, j9⟩ (fun h_ => absurd h_ (by decide)) (fun h_ => absurd h_ (by decide)) (fun h_ => absurd h_ (by decide)) (fun h_ => absurd h_ (by decide)) (fun h_ => absurd h_ (by decide)) ?_)⟩ (st11_below hW hgl) (Nat.le_of_eq st11_size.symm) (fun k_ _ _ h_ => st11_far (fun e_ => h_ (by rw [e_]; exact og))) ⟨_, _, rfl, Or.inl og, st11_blk hg⟩
   intro _ xs_ b_ h_
   rw [e4] at h_
   simp only [Value.tuple.injEq, Array.mk.injEq, List.cons.injEq, and_true, Value.agg.injEq] at h_
   exact ⟨g, e8, by rw [h_.1]⟩
 case hcont =>
 intro T v W hJ hW hT hF
 obtain ⟨-, j5, j6, j7, j9⟩ := hJ
 obtain ⟨v2, v3, v4, v5, v6, v7, v8, v9, e4, h2, h3, h4, h5, h6, h7, h8, h9⟩ := hF 4 (by decide) (by decide)
 obtain ⟨g_, cs_, e9, og, hg⟩ := hF 9 (by decide) (by decide)
 have e5 := j5 (by kernel_rfl)
 rw [e4] at e5
 have e6 := j6 (by kernel_rfl) _ _ e4
 have e7 := j7 (by kernel_rfl) _ _ e4
 obtain ⟨g6, e8, e9'⟩ := j9 (by kernel_rfl) _ _ e4
 rw [e9'] at e9
 simp only [Value.agg.injEq, Array.mk.injEq, List.cons.injEq, and_true, Value.pointer.injEq, Option.some.injEq, Addr.mk.injEq] at e9
 obtain ⟨e9a, e9b⟩ := e9
 subst e9a
 subst e9b
 have hok : ∀ k_, T k_ = 22 → k_ < W.heap.size := fun k_ h_ => (hT k_ (by rw [h_]; decide)).2
 have RN := Aside0.mk (show RNet (fun k_ => k_ < W.heap.size) w4.heap.size W v2 v3 v4 v5 v6 v7 v8 v9 q3 q4 q5 q6 q7 q8 q9 q10 from ⟨Kd.R_mono h2 hok, Kd.R_mono h3 hok, Kd.R_mono h4 hok, Kd.S_mono h5 hok, Kd.R_mono h6 hok, Kd.R_mono h7 hok, Kd.S_mono h8 hok, Kd.S_mono h9 hok⟩)
 have B6 := Aside0.mk hg
 have G6 := Aside0.mk (show g6 < W.heap.size from (hT g6 (by rw [show T g6 = 30 from og]; decide)).2)
 replace BM := Aside0.mk (bk_ BM.out hW)
 replace BT := Aside0.mk (bk_ BT.out hW)
 replace HB := Aside0.mk (bs_ HB.out hW)
 refine norm_ (a' := ?_) ?_ ?_
 rotate_left
 ·simp only [putAll, Act.put, List.setIfInBounds_toArray, List.set_cons_zero, List.set_cons_succ, e4, e5, e6, e7, e8]
  rfl
 clear j5 j6 j7 j9 e4 e5 e6 e7 e8 e9' h2 h3 h4 h5 h6 h7 h8 h9 hok og hg hF hT hW hSS
 refine laws_FnExactNetNew.pk_ 10 7 (bt_ 11 2047) ?_
 refine done_ (by kernel_rfl) ?_
 clear hHeld
 obtain ⟨q6A2, q6c2, e_⟩ := Kd.R_slice RN.out.h2
 subst e_
 obtain ⟨q6A3, q6c3, e_⟩ := Kd.R_slice RN.out.h3
 subst e_
 obtain ⟨q6A4, q6c4, e_⟩ := Kd.R_slice RN.out.h4
 subst e_
 obtain ⟨q6A5, q6c5, e_⟩ := Kd.S_slice RN.out.h5
 subst e_
 obtain ⟨q6A6, q6c6, e_⟩ := Kd.R_slice RN.out.h6
 subst e_
 obtain ⟨q6A7, q6c7, e_⟩ := Kd.R_slice RN.out.h7
 subst e_
 obtain ⟨q6A8, q6c8, e_⟩ := Kd.S_slice RN.out.h8
 subst e_
 obtain ⟨q6A9, q6c9, e_⟩ := Kd.S_slice RN.out.h9
 subst e_
 obtain ⟨s8, hs8⟩ : ∃ s_, s_ = W.heap.size := ⟨_, rfl⟩
 rw [← hs8] at RN G6
 have Ls8 := Aside0.mk (Nat.le_of_eq hs8)
 have LM := Aside0.mk (show gm < s8 by rw [hs8]; exact blk_lt BM.out)
 have LT := Aside0.mk (show gt < s8 by rw [hs8]; exact blk_lt BT.out)
 clear hs8
 have y0 : W.cell? ⟨gm, 0, none⟩ = some (.int .i64 a0_0) := (blk_cell BM.out 0).trans rfl
 have y1 : W.cell? ⟨gm, 1, none⟩ = some (.int .i64 a0_1) := (blk_cell BM.out 1).trans rfl
 have y2 : W.cell? ⟨gm, 2, none⟩ = some (.slice A0_2 l0_2.length c0_2) := (blk_cell BM.out 2).trans rfl
 have y3 : W.cell? ⟨gt, 0, none⟩ = some (.slice A1_0 l1_0.length c1_0) := (blk_cell BT.out 0).trans rfl
 have y4 : W.cell? ⟨gt, 1, none⟩ = some (.slice A1_1 l1_1.length c1_1) := (blk_cell BT.out 1).trans rfl
 go_upto_region 10 with (first | (go_at_call 7; (with_reducible refine (laws_toMesh.calls k a0_0 a0_1 _ _ l0_2 m0 m1 m2 _ ?s0 HC0_2.out E3.out).mono ?_); (case s0 => exact cb_ HR0_2.out HB.out); rintro e w5 ⟨u_, rfl, ho, hb⟩; obtain ⟨xA0, xc0, e_⟩ := Kd.R_slice ho; subst e_; have HX0 := Aside0.mk (rq_ ho (bz_ HB.out) (fun k_ _ h_ => (show s8 ≤ k_ ∧ k_ < w5.heap.size from ⟨Nat.le_trans Ls8.out h_.1, h_.2⟩))); have L8 := Aside0.mk (show s8 ≤ w5.heap.size from Nat.le_trans Ls8.out hb.size); replace RN := Aside0.mk (RN.out.belowV hb); replace BM := Aside0.mk (bk_ BM.out hb); replace BT := Aside0.mk (bk_ BT.out hb); replace B6 := Aside0.mk (bk_ B6.out hb); replace HB := Aside0.mk (bs_ HB.out hb); clear ho hb y0 y1 y2 y3 y4))
 have hb_ := below_alloc (Below.refl w5.heap.size w5) (Obj.cells #[.int .i64 m0, .int .i64 m1, .slice xA0 m2.length xc0] 35 (0, 0))
 have B8 := Aside0.mk (blk_new w5 (Obj.cells #[.int .i64 m0, .int .i64 m1, .slice xA0 m2.length xc0] 35 (0, 0)))
 replace RN := Aside0.mk (RN.out.belowV hb_)
 replace BM := Aside0.mk (bk_ BM.out hb_)
 replace BT := Aside0.mk (bk_ BT.out hb_)
 replace B6 := Aside0.mk (bk_ B6.out hb_)
 replace HB := Aside0.mk (bs_ HB.out hb_)
 replace HX0 := Aside0.mk (Kd.R_below (ra_ HX0.out) hb_)
 obtain ⟨g8, hg_⟩ : ∃ g_, g_ = w5.heap.size := ⟨_, rfl⟩
 rw [← hg_] at B8 HX0 L8 ⊢
 clear hb_ hg_
 generalize w5.alloc (Obj.cells #[.int .i64 m0, .int .i64 m1, .slice xA0 m2.length xc0] 35 (0, 0)) = w6 at *
 have y0 : w6.cell? ⟨gt, 0, none⟩ = some (.slice A1_0 l1_0.length c1_0) := (blk_cell BT.out 0).trans rfl; have y1 : w6.cell? ⟨gt, 1, none⟩ = some (.slice A1_1 l1_1.length c1_1) := (blk_cell BT.out 1).trans rfl
 go_upto_region 11 with (first | (go_at_call 8; (with_reducible refine (laws_toClasses.calls k _ _ l1_0 _ _ l1_1 t0 t1 _ ?s0 HC1_0.out ?s1 HC1_1.out E4.out).mono ?_); (case s0 => exact cb_ HR1_0.out HB.out); (case s1 => exact cb_ HR1_1.out HB.out); rintro e w7 ⟨u_, u1_, rfl, ho, ho1, hb⟩; have HX1 := Aside0.mk (rq_ ho (bz_ HB.out) (fun k_ n_ h_ => (show (g8 < k_ ∧ k_ < w7.heap.size) ∧ some k_ ≠ u1_.ownBlock from ⟨⟨Nat.lt_of_lt_of_le (blk_lt B8.out) h_.1, h_.2⟩, n_⟩))); have HX2 := Aside0.mk (rq_ ho1 (bz_ HB.out) (fun k_ n_ h_ => (show (g8 < k_ ∧ k_ < w7.heap.size) ∧ some k_ ≠ u_.ownBlock from ⟨⟨Nat.lt_of_lt_of_le (blk_lt B8.out) h_.1, h_.2⟩, n_⟩))); obtain ⟨xA1, xc1, e_⟩ := Kd.R_slice ho; subst e_; obtain ⟨xA2, xc2, e_⟩ := Kd.R_slice ho1; subst e_; have L9 := Aside0.mk (show g8 < w7.heap.size from Nat.lt_of_lt_of_le (blk_lt B8.out) hb.size); replace RN := Aside0.mk (RN.out.belowV hb); replace HX0 := Aside0.mk (Kd.R_below (ra_ HX0.out) hb); replace BM := Aside0.mk (bk_ BM.out hb); replace BT := Aside0.mk (bk_ BT.out hb); replace B6 := Aside0.mk (bk_ B6.out hb); replace B8 := Aside0.mk (bk_ B8.out hb); replace HB := Aside0.mk (bs_ HB.out hb); clear ho ho1 hb y0 y1))
 have hb_ := below_alloc (Below.refl w7.heap.size w7) (Obj.cells #[.slice xA1 t0.length xc1, .slice xA2 t1.length xc2] 38 (0, 0))
 have B9 := Aside0.mk (blk_new w7 (Obj.cells #[.slice xA1 t0.length xc1, .slice xA2 t1.length xc2] 38 (0, 0)))
 replace RN := Aside0.mk (RN.out.belowV hb_)
 replace BM := Aside0.mk (bk_ BM.out hb_)
 replace BT := Aside0.mk (bk_ BT.out hb_)
 replace B6 := Aside0.mk (bk_ B6.out hb_)
 replace B8 := Aside0.mk (bk_ B8.out hb_)
 replace HB := Aside0.mk (bs_ HB.out hb_)
 replace HX0 := Aside0.mk (Kd.R_below (ra_ HX0.out) hb_)
 replace HX1 := Aside0.mk (Kd.R_below (ra_ HX1.out) hb_)
 replace HX2 := Aside0.mk (Kd.R_below (ra_ HX2.out) hb_)
 obtain ⟨g9, hg_⟩ : ∃ g_, g_ = w7.heap.size := ⟨_, rfl⟩
 rw [← hg_] at B9 HX1 HX2 L9 ⊢
 clear hb_ hg_
 generalize w7.alloc (Obj.cells #[.slice xA1 t0.length xc1, .slice xA2 t1.length xc2] 38 (0, 0)) = w8 at *
 have y0 : w8.cell? ⟨g8, 0, none⟩ = some (.int .i64 m0) := (blk_cell B8.out 0).trans rfl; have y1 : w8.cell? ⟨g8, 1, none⟩ = some (.int .i64 m1) := (blk_cell B8.out 1).trans rfl; have y2 : w8.cell? ⟨g8, 2, none⟩ = some (.slice xA0 m2.length xc0) := (blk_cell B8.out 2).trans rfl
 have x0 : w8.cell? ⟨g9, 0, none⟩ = some (.slice xA1 t0.length xc1) := (blk_cell B9.out 0).trans rfl; have x1 : w8.cell? ⟨g9, 1, none⟩ = some (.slice xA2 t1.length xc2) := (blk_cell B9.out 1).trans rfl
 go_upto_region 12 with (first | (go_at_call 9; (with_reducible refine (impl_NetNew.calls k m0 m1 _ _ m2 _ _ t0 _ _ t1 p1 p2 p3 p4 p5 p6 p7 p8 p9 p10 p11 p12 _ ?s0 (Kd.R_reads' HX0.out).2.1 ?s1 (Kd.R_reads' HX1.out).2.1 ?s2 (Kd.R_reads' HX2.out).2.1 E6.out).mono ?_); (case s0 => exact (Kd.R_reads' (ra_ HX0.out)).2.2); (case s1 => exact (Kd.R_reads' (ra_ HX1.out)).2.2); (case s2 => exact (Kd.R_reads' (ra_ HX2.out)).2.2); rintro e w9 ⟨T1, v2, v3, v4, v5, v6, v7, v8, v9, rfl, hM, hb⟩; obtain ⟨gA2, gc2, e_⟩ := Kd.R_slice hM.h2; subst e_; obtain ⟨gA3, gc3, e_⟩ := Kd.R_slice hM.h3; subst e_; obtain ⟨gA4, gc4, e_⟩ := Kd.R_slice hM.h4; subst e_; obtain ⟨gA5, gc5, e_⟩ := Kd.S_slice hM.h5; subst e_; obtain ⟨gA6, gc6, e_⟩ := Kd.R_slice hM.h6; subst e_; obtain ⟨gA7, gc7, e_⟩ := Kd.R_slice hM.h7; subst e_; obtain ⟨gA8, gc8, e_⟩ := Kd.S_slice hM.h8; subst e_; obtain ⟨gA9, gc9, e_⟩ := Kd.S_slice hM.h9; subst e_; have N1 := Aside0.mk (show ∀ k_, T1 k_ ≠ 0 → g9 < k_ from fun k_ h_ => Nat.lt_of_lt_of_le (blk_lt B9.out) (hM.lo k_ h_)); have T10 := Aside0.mk (show T1 w9.heap.size = 0 from hM.zhi (Nat.le_refl _)); have L10 := Aside0.mk (show g9 < w9.heap.size from Nat.lt_of_lt_of_le (blk_lt B9.out) hb.size); have M1 := Aside0.mk (hM.lower (bz_ HB.out)); replace RN := Aside0.mk (RN.out.belowV hb); replace HX0 := Aside0.mk (Kd.R_below (ra_ HX0.out) hb); replace HX1 := Aside0.mk (Kd.R_below (ra_ HX1.out) hb); replace HX2 := Aside0.mk (Kd.R_below (ra_ HX2.out) hb); replace BM := Aside0.mk (bk_ BM.out hb); replace BT := Aside0.mk (bk_ BT.out hb); replace B6 := Aside0.mk (bk_ B6.out hb); replace B8 := Aside0.mk (bk_ B8.out hb); replace B9 := Aside0.mk (bk_ B9.out hb); replace HB := Aside0.mk (bs_ HB.out hb); clear hM hb y0 y1 y2 x0 x1))
 have hb_ := below_alloc (Below.refl w9.heap.size w9) (Obj.cells #[.int .i64 p1, .int .i64 p2, .slice gA2 p3.length gc2, .slice gA3 p4.length gc3, .slice gA4 p5.length gc4, .slice gA5 p6.length gc5, .slice gA6 p7.length gc6, .slice gA7 p8.length gc7, .slice gA8 p9.length gc8, .slice gA9 p10.length gc9, .int .i64 p11] 41 (0, 0))
 have B10 := Aside0.mk (blk_new w9 (Obj.cells #[.int .i64 p1, .int .i64 p2, .slice gA2 p3.length gc2, .slice gA3 p4.length gc3, .slice gA4 p5.length gc4, .slice gA5 p6.length gc5, .slice gA6 p7.length gc6, .slice gA7 p8.length gc7, .slice gA8 p9.length gc8, .slice gA9 p10.length gc9, .int .i64 p11] 41 (0, 0)))
 replace RN := Aside0.mk (RN.out.belowV hb_)
 replace M1 := Aside0.mk (M1.out.belowV hb_)
 replace BM := Aside0.mk (bk_ BM.out hb_)
 replace BT := Aside0.mk (bk_ BT.out hb_)
 replace B6 := Aside0.mk (bk_ B6.out hb_)
 replace B8 := Aside0.mk (bk_ B8.out hb_)
 replace B9 := Aside0.mk (bk_ B9.out hb_)
 replace HB := Aside0.mk (bs_ HB.out hb_)
 replace HX0 := Aside0.mk (Kd.R_below (ra_ HX0.out) hb_)
 replace HX1 := Aside0.mk (Kd.R_below (ra_ HX1.out) hb_)
 replace HX2 := Aside0.mk (Kd.R_below (ra_ HX2.out) hb_)
 obtain ⟨g10, hg_⟩ : ∃ g_, g_ = w9.heap.size := ⟨_, rfl⟩
 rw [← hg_] at B10 T10 L10 ⊢
 clear hb_ hg_
 generalize w9.alloc (Obj.cells #[.int .i64 p1, .int .i64 p2, .slice gA2 p3.length gc2, .slice gA3 p4.length gc3, .slice gA4 p5.length gc4, .slice gA5 p6.length gc5, .slice gA6 p7.length gc6, .slice gA7 p8.length gc7, .slice gA8 p9.length gc8, .slice gA9 p10.length gc9, .int .i64 p11] 41 (0, 0)) = wa at *
 obtain ⟨y0, y1, y2, y3, y4, y5, y6, y7, y8, y9, y10, -⟩ := cz11_ B10.out; obtain ⟨z0, z1, z2, z3, z4, z5, z6, z7, z8, z9, z10, -⟩ := cz11_ B6.out
 have E7b := Aside0.mk E7.out
 have E7c := Aside0.mk E7.out
 go_upto_region 14 with (first | (go_at_call 10; (with_reducible refine (laws_FnExactNetNew.eq_ k p1 p2 p3 p4 p5 p6 p7 p8 p9 p10 p11 q1 q2 q3 q4 q5 q6 q7 q8 q9 q10 q11 true _ M1.out.rnet RN.out E7.out).mono ?_); rintro e wb ⟨rfl, hb⟩; (try clear y0 z0 y1 z1 y2 z2 y3 z3 y4 z4 y5 z5 y6 z6 y7 z7 y8 z8 y9 z9 y10 z10); replace RN := Aside0.mk (RN.out.belowV hb); replace M1 := Aside0.mk (M1.out.belowV hb); replace HX0 := Aside0.mk (Kd.R_below (ra_ HX0.out) hb); replace HX1 := Aside0.mk (Kd.R_below (ra_ HX1.out) hb); replace HX2 := Aside0.mk (Kd.R_below (ra_ HX2.out) hb); replace BM := Aside0.mk (bk_ BM.out hb); replace BT := Aside0.mk (bk_ BT.out hb); replace B6 := Aside0.mk (bk_ B6.out hb); replace B8 := Aside0.mk (bk_ B8.out hb); replace B9 := Aside0.mk (bk_ B9.out hb); replace B10 := Aside0.mk (bk_ B10.out hb); replace HB := Aside0.mk (bs_ HB.out hb); clear hb; clear E7))
 have x0 : wb.cell? ⟨g8, 0, none⟩ = some (.int .i64 m0) := (blk_cell B8.out 0).trans rfl; have x1 : wb.cell? ⟨g8, 1, none⟩ = some (.int .i64 m1) := (blk_cell B8.out 1).trans rfl; have x2 : wb.cell? ⟨g8, 2, none⟩ = some (.slice xA0 m2.length xc0) := (blk_cell B8.out 2).trans rfl
 have y0 : wb.cell? ⟨gm, 0, none⟩ = some (.int .i64 a0_0) := (blk_cell BM.out 0).trans rfl; have y1 : wb.cell? ⟨gm, 1, none⟩ = some (.int .i64 a0_1) := (blk_cell BM.out 1).trans rfl; have y2 : wb.cell? ⟨gm, 2, none⟩ = some (.slice A0_2 l0_2.length c0_2) := (blk_cell BM.out 2).trans rfl
 go_region_held3 (fun w' => w'.cell? ⟨g8, 0, none⟩ = some (.int .i64 m0) ∧ w'.cell? ⟨g8, 1, none⟩ = some (.int .i64 m1) ∧ w'.cell? ⟨g8, 2, none⟩ = some (.slice xA0 m2.length xc0) ∧ w'.cell? ⟨gm, 0, none⟩ = some (.int .i64 a0_0) ∧ w'.cell? ⟨gm, 1, none⟩ = some (.int .i64 a0_1) ∧ w'.cell? ⟨gm, 2, none⟩ = some (.slice A0_2 l0_2.length c0_2))
  (exact ⟨x0, x1, x2, y0, y1, y2⟩)
  (first | (go_at_call 7; (with_reducible refine (laws_toMesh.calls k a0_0 a0_1 _ _ l0_2 m0 m1 m2 _ ?s0 HC0_2.out E3.out).mono ?_); (case s0 => exact cb_ HR0_2.out HB.out); rintro e wc ⟨u_, rfl, ho, hb⟩; have HP0 := Aside0.mk ho; obtain ⟨pA0, pc0, rfl⟩ := Kd.R_slice HP0.out; replace RN := Aside0.mk (RN.out.belowV hb); replace M1 := Aside0.mk (M1.out.belowV hb); replace HX0 := Aside0.mk (Kd.R_below (ra_ HX0.out) hb); replace HX1 := Aside0.mk (Kd.R_below (ra_ HX1.out) hb); replace HX2 := Aside0.mk (Kd.R_below (ra_ HX2.out) hb); replace BM := Aside0.mk (bk_ BM.out hb); replace BT := Aside0.mk (bk_ BT.out hb); replace B6 := Aside0.mk (bk_ B6.out hb); replace B8 := Aside0.mk (bk_ B8.out hb); replace B9 := Aside0.mk (bk_ B9.out hb); replace B10 := Aside0.mk (bk_ B10.out hb); replace HB := Aside0.mk (bs_ HB.out hb); clear ho hb x0 x1 x2 y0 y1 y2; have x0 : wc.cell? ⟨g8, 0, none⟩ = some (.int .i64 m0) := (blk_cell B8.out 0).trans rfl; have x1 : wc.cell? ⟨g8, 1, none⟩ = some (.int .i64 m1) := (blk_cell B8.out 1).trans rfl; have x2 : wc.cell? ⟨g8, 2, none⟩ = some (.slice xA0 m2.length xc0) := (blk_cell B8.out 2).trans rfl; have y0 : wc.cell? ⟨gm, 0, none⟩ = some (.int .i64 a0_0) := (blk_cell BM.out 0).trans rfl; have y1 : wc.cell? ⟨gm, 1, none⟩ = some (.int .i64 a0_1) := (blk_cell BM.out 1).trans rfl; have y2 : wc.cell? ⟨gm, 2, none⟩ = some (.slice A0_2 l0_2.length c0_2) := (blk_cell BM.out 2).trans rfl) | (go_at_call 11; (with_reducible refine (laws_eqMesh.calls k m0 m1 _ _ m2 m0 m1 _ _ m2 true _ ?s1 (Kd.R_reads' HX0.out).2.1 ?s2 (Kd.R_reads' HP0.out).2.1 E8.out).mono ?_); (case s1 => exact (Kd.R_reads' (ra_ HX0.out)).2.2); (case s2 => exact (Kd.R_reads' (ra_ HP0.out)).2.2); rintro e wd ⟨rfl, hb⟩; replace RN := Aside0.mk (RN.out.belowV hb); replace M1 := Aside0.mk (M1.out.belowV hb); replace HX0 := Aside0.mk (Kd.R_below (ra_ HX0.out) hb); replace HX1 := Aside0.mk (Kd.R_below (ra_ HX1.out) hb); replace HX2 := Aside0.mk (Kd.R_below (ra_ HX2.out) hb); replace BM := Aside0.mk (bk_ BM.out hb); replace BT := Aside0.mk (bk_ BT.out hb); replace B6 := Aside0.mk (bk_ B6.out hb); replace B8 := Aside0.mk (bk_ B8.out hb); replace B9 := Aside0.mk (bk_ B9.out hb); replace B10 := Aside0.mk (bk_ B10.out hb); replace HB := Aside0.mk (bs_ HB.out hb); clear hb HP0 E8 x0 x1 x2 y0 y1 y2; have x0 : wd.cell? ⟨g8, 0, none⟩ = some (.int .i64 m0) := (blk_cell B8.out 0).trans rfl; have x1 : wd.cell? ⟨g8, 1, none⟩ = some (.int .i64 m1) := (blk_cell B8.out 1).trans rfl; have x2 : wd.cell? ⟨g8, 2, none⟩ = some (.slice xA0 m2.length xc0) := (blk_cell B8.out 2).trans rfl; have y0 : wd.cell? ⟨gm, 0, none⟩ = some (.int .i64 a0_0) := (blk_cell BM.out 0).trans rfl; have y1 : wd.cell? ⟨gm, 1, none⟩ = some (.int .i64 a0_1) := (blk_cell BM.out 1).trans rfl; have y2 : wd.cell? ⟨gm, 2, none⟩ = some (.slice A0_2 l0_2.length c0_2) := (blk_cell BM.out 2).trans rfl))
 clear x0 x1 x2 y0 y1 y2
 go_upto_region 16 with (fail)
 have x0 : wd.cell? ⟨g9, 0, none⟩ = some (.slice xA1 t0.length xc1) := (blk_cell B9.out 0).trans rfl; have x1 : wd.cell? ⟨g9, 1, none⟩ = some (.slice xA2 t1.length xc2) := (blk_cell B9.out 1).trans rfl
 have y0 : wd.cell? ⟨gt, 0, none⟩ = some (.slice A1_0 l1_0.length c1_0) := (blk_cell BT.out 0).trans rfl; have y1 : wd.cell? ⟨gt, 1, none⟩ = some (.slice A1_1 l1_1.length c1_1) := (blk_cell BT.out 1).trans rfl
 go_region_held3 (fun w' => w'.cell? ⟨g9, 0, none⟩ = some (.slice xA1 t0.length xc1) ∧ w'.cell? ⟨g9, 1, none⟩ = some (.slice xA2 t1.length xc2) ∧ w'.cell? ⟨gt, 0, none⟩ = some (.slice A1_0 l1_0.length c1_0) ∧ w'.cell? ⟨gt, 1, none⟩ = some (.slice A1_1 l1_1.length c1_1))
  (exact ⟨x0, x1, y0, y1⟩)
  (first | (go_at_call 8; (with_reducible refine (laws_toClasses.calls k _ _ l1_0 _ _ l1_1 t0 t1 _ ?s0 HC1_0.out ?s1 HC1_1.out E4.out).mono ?_); (case s0 => exact cb_ HR1_0.out HB.out); (case s1 => exact cb_ HR1_1.out HB.out); rintro e we ⟨u_, u1_, rfl, ho, ho1, hb⟩; have HP1 := Aside0.mk ho; have HP2 := Aside0.mk ho1; obtain ⟨pA1, pc1, rfl⟩ := Kd.R_slice HP1.out; obtain ⟨pA2, pc2, rfl⟩ := Kd.R_slice HP2.out; replace RN := Aside0.mk (RN.out.belowV hb); replace M1 := Aside0.mk (M1.out.belowV hb); replace HX0 := Aside0.mk (Kd.R_below (ra_ HX0.out) hb); replace HX1 := Aside0.mk (Kd.R_below (ra_ HX1.out) hb); replace HX2 := Aside0.mk (Kd.R_below (ra_ HX2.out) hb); replace BM := Aside0.mk (bk_ BM.out hb); replace BT := Aside0.mk (bk_ BT.out hb); replace B6 := Aside0.mk (bk_ B6.out hb); replace B8 := Aside0.mk (bk_ B8.out hb); replace B9 := Aside0.mk (bk_ B9.out hb); replace B10 := Aside0.mk (bk_ B10.out hb); replace HB := Aside0.mk (bs_ HB.out hb); clear ho ho1 hb x0 x1 y0 y1; have x0 : we.cell? ⟨g9, 0, none⟩ = some (.slice xA1 t0.length xc1) := (blk_cell B9.out 0).trans rfl; have x1 : we.cell? ⟨g9, 1, none⟩ = some (.slice xA2 t1.length xc2) := (blk_cell B9.out 1).trans rfl; have y0 : we.cell? ⟨gt, 0, none⟩ = some (.slice A1_0 l1_0.length c1_0) := (blk_cell BT.out 0).trans rfl; have y1 : we.cell? ⟨gt, 1, none⟩ = some (.slice A1_1 l1_1.length c1_1) := (blk_cell BT.out 1).trans rfl) | (go_at_call 12; (with_reducible refine (laws_eqClasses.calls k _ _ t0 _ _ t1 _ _ t0 _ _ t1 true _ ?s0 (Kd.R_reads' HX1.out).2.1 ?s1 (Kd.R_reads' HX2.out).2.1 ?s2 (Kd.R_reads' HP1.out).2.1 ?s3 (Kd.R_reads' HP2.out).2.1 E9.out).mono ?_); (case s0 => exact (Kd.R_reads' (ra_ HX1.out)).2.2); (case s1 => exact (Kd.R_reads' (ra_ HX2.out)).2.2); (case s2 => exact (Kd.R_reads' (ra_ HP1.out)).2.2); (case s3 => exact (Kd.R_reads' (ra_ HP2.out)).2.2); rintro e wf ⟨rfl, hb⟩; replace RN := Aside0.mk (RN.out.belowV hb); replace M1 := Aside0.mk (M1.out.belowV hb); replace HX0 := Aside0.mk (Kd.R_below (ra_ HX0.out) hb); replace HX1 := Aside0.mk (Kd.R_below (ra_ HX1.out) hb); replace HX2 := Aside0.mk (Kd.R_below (ra_ HX2.out) hb); replace BM := Aside0.mk (bk_ BM.out hb); replace BT := Aside0.mk (bk_ BT.out hb); replace B6 := Aside0.mk (bk_ B6.out hb); replace B8 := Aside0.mk (bk_ B8.out hb); replace B9 := Aside0.mk (bk_ B9.out hb); replace B10 := Aside0.mk (bk_ B10.out hb); replace HB := Aside0.mk (bs_ HB.out hb); clear hb HP1 HP2 E9 x0 x1 y0 y1; have x0 : wf.cell? ⟨g9, 0, none⟩ = some (.slice xA1 t0.length xc1) := (blk_cell B9.out 0).trans rfl; have x1 : wf.cell? ⟨g9, 1, none⟩ = some (.slice xA2 t1.length xc2) := (blk_cell B9.out 1).trans rfl; have y0 : wf.cell? ⟨gt, 0, none⟩ = some (.slice A1_0 l1_0.length c1_0) := (blk_cell BT.out 0).trans rfl; have y1 : wf.cell? ⟨gt, 1, none⟩ = some (.slice A1_1 l1_1.length c1_1) := (blk_cell BT.out 1).trans rfl))
 clear x0 x1 y0 y1
 go_upto_region 19 with (fail)
 have x0 : wf.cell? ⟨g8, 0, none⟩ = some (.int .i64 m0) := (blk_cell B8.out 0).trans rfl; have x1 : wf.cell? ⟨g8, 1, none⟩ = some (.int .i64 m1) := (blk_cell B8.out 1).trans rfl; have x2 : wf.cell? ⟨g8, 2, none⟩ = some (.slice xA0 m2.length xc0) := (blk_cell B8.out 2).trans rfl
 go_upto_region 21 with (first | (go_at_call 13; (with_reducible refine (laws_markMesh.calls k m0 m1 (fun k_ => s8 ≤ k_ ∧ k_ < g8) _ m2 1 n1 a0 w _ ?s1 ?s2 Xa.out).mono ?_); (case s1 => exact bb_ HB.out); (case s2 => exact ra_ HX0.out); rintro e wg ⟨rfl, hq, hb, hk⟩; clear hq HX0 Xa x0 x1 x2; replace RN := Aside0.mk (RN.out.kept hk (fun k_ a_ b_ => by have a1_ : k_ < s8 := a_; have b1_ : s8 ≤ k_ ∧ k_ < g8 := b_; have := L8.out; have := L9.out; have := L10.out; have := G6.out; have := LM.out; have := LT.out; omega)); replace M1 := Aside0.mk (M1.out.keptV hk (fun k_ a_ b_ => by have a1_ := N1.out k_ a_; have b1_ : s8 ≤ k_ ∧ k_ < g8 := b_; have := L8.out; have := L9.out; have := L10.out; have := G6.out; have := LM.out; have := LT.out; omega)); replace HX1 := Aside0.mk (Kd.R_kept (ra_ HX1.out) hk (fun k_ a_ b_ => by have a1_ := a_.1.1; have b1_ : s8 ≤ k_ ∧ k_ < g8 := b_; have := L8.out; have := L9.out; have := L10.out; have := G6.out; have := LM.out; have := LT.out; omega)); replace HX2 := Aside0.mk (Kd.R_kept (ra_ HX2.out) hk (fun k_ a_ b_ => by have a1_ := a_.1.1; have b1_ : s8 ≤ k_ ∧ k_ < g8 := b_; have := L8.out; have := L9.out; have := L10.out; have := G6.out; have := LM.out; have := LT.out; omega)); replace BM := Aside0.mk (blk_kept (bq_ BM.out) hk (fun b_ => by have b1_ : s8 ≤ gm ∧ gm < g8 := b_; have := L8.out; have := L9.out; have := L10.out; have := G6.out; have := LM.out; have := LT.out; omega)); replace BT := Aside0.mk (blk_kept (bq_ BT.out) hk (fun b_ => by have b1_ : s8 ≤ gt ∧ gt < g8 := b_; have := L8.out; have := L9.out; have := L10.out; have := G6.out; have := LM.out; have := LT.out; omega)); replace B6 := Aside0.mk (blk_kept (bq_ B6.out) hk (fun b_ => by have b1_ : s8 ≤ g6 ∧ g6 < g8 := b_; have := L8.out; have := L9.out; have := L10.out; have := G6.out; have := LM.out; have := LT.out; omega)); replace B9 := Aside0.mk (blk_kept (bq_ B9.out) hk (fun b_ => by have b1_ : s8 ≤ g9 ∧ g9 < g8 := b_; have := L8.out; have := L9.out; have := L10.out; have := G6.out; have := LM.out; have := LT.out; omega)); replace B10 := Aside0.mk (blk_kept (bq_ B10.out) hk (fun b_ => by have b1_ : s8 ≤ g10 ∧ g10 < g8 := b_; have := L8.out; have := L9.out; have := L10.out; have := G6.out; have := LM.out; have := LT.out; omega)); replace HB := Aside0.mk hb; clear hb hk; have x0 : wg.cell? ⟨g9, 0, none⟩ = some (.slice xA1 t0.length xc1) := (blk_cell B9.out 0).trans rfl; have x1 : wg.cell? ⟨g9, 1, none⟩ = some (.slice xA2 t1.length xc2) := (blk_cell B9.out 1).trans rfl) | (go_at_call 14; (with_reducible refine (laws_markClasses.calls k (fun k_ => some k_ = (Value.slice xA1 t0.length xc1).ownBlock) _ t0 (fun k_ => some k_ = (Value.slice xA2 t1.length xc2).ownBlock) _ t1 n1 n2 a1 a2 w _ ?s1 ?s2 ?s3 ?s4 ?s5 Xb.out).mono ?_); (case s1 => exact bb_ HB.out); (case s2 => exact Kd.R_tight rfl (ra_ HX1.out)); (case s3 => exact fun k_ a_ b_ => (HX1.out.1 k_ a_.symm).2 b_); (case s4 => exact Kd.R_tight rfl (ra_ HX2.out)); (case s5 => exact fun k_ a_ b_ => (HX2.out.1 k_ a_.symm).2 b_); rintro e wh ⟨rfl, hq, hq2, hb, hk⟩; have kc_ : ∀ k_, (some k_ = (Value.slice xA1 t0.length xc1).ownBlock ∨ some k_ = (Value.slice xA2 t1.length xc2).ownBlock) → g8 < k_ ∧ k_ < g9 := fun k_ b_ => b_.elim (fun b_ => (HX1.out.1 k_ b_.symm).1) (fun b_ => (HX2.out.1 k_ b_.symm).1); clear hq hq2 HX1 HX2 Xb x0 x1; replace RN := Aside0.mk (RN.out.kept hk (fun k_ a_ b_ => by have a1_ : k_ < s8 := a_; have b1_ := kc_ _ b_; have := L8.out; have := L9.out; have := L10.out; have := G6.out; have := LM.out; have := LT.out; omega)); replace M1 := Aside0.mk (M1.out.keptV hk (fun k_ a_ b_ => by have a1_ := N1.out k_ a_; have b1_ := kc_ _ b_; have := L8.out; have := L9.out; have := L10.out; have := G6.out; have := LM.out; have := LT.out; omega)); replace BM := Aside0.mk (blk_kept (bq_ BM.out) hk (fun b_ => by have b1_ := kc_ _ b_; have := L8.out; have := L9.out; have := L10.out; have := G6.out; have := LM.out; have := LT.out; omega)); replace BT := Aside0.mk (blk_kept (bq_ BT.out) hk (fun b_ => by have b1_ := kc_ _ b_; have := L8.out; have := L9.out; have := L10.out; have := G6.out; have := LM.out; have := LT.out; omega)); replace B6 := Aside0.mk (blk_kept (bq_ B6.out) hk (fun b_ => by have b1_ := kc_ _ b_; have := L8.out; have := L9.out; have := L10.out; have := G6.out; have := LM.out; have := LT.out; omega)); replace B10 := Aside0.mk (blk_kept (bq_ B10.out) hk (fun b_ => by have b1_ := kc_ _ b_; have := L8.out; have := L9.out; have := L10.out; have := G6.out; have := LM.out; have := LT.out; omega)); replace HB := Aside0.mk hb; clear hb hk kc_; obtain ⟨y0, y1, y2, y3, y4, y5, y6, y7, y8, y9, y10, -⟩ := cz11_ B10.out; obtain ⟨z0, z1, z2, z3, z4, z5, z6, z7, z8, z9, z10, -⟩ := cz11_ B6.out))
 have Xdb := Aside0.mk Xd.out
 go_upto_region 31 with (first | (go_at_call 10; (with_reducible refine (laws_FnExactNetNew.eq_ k p1 p2 p3 p4 p5 p6 p7 p8 p9 p10 p11 q1 q2 q3 q4 q5 q6 q7 q8 q9 q10 q11 true _ M1.out.rnet RN.out E7b.out).mono ?_); rintro e wi ⟨rfl, hb⟩; (try clear y0 z0 y1 z1 y2 z2 y3 z3 y4 z4 y5 z5 y6 z6 y7 z7 y8 z8 y9 z9 y10 z10); replace RN := Aside0.mk (RN.out.belowV hb); replace M1 := Aside0.mk (M1.out.belowV hb); replace BM := Aside0.mk (bk_ BM.out hb); replace BT := Aside0.mk (bk_ BT.out hb); replace B6 := Aside0.mk (bk_ B6.out hb); replace B10 := Aside0.mk (bk_ B10.out hb); replace HB := Aside0.mk (bs_ HB.out hb); clear hb; clear E7b; obtain ⟨y0, y1, y2, y3, y4, y5, y6, y7, y8, y9, y10, -⟩ := cz11_ B10.out) | (go_at_call 15; (with_reducible refine (laws_markNet.calls k T1 _ _ _ _ _ _ _ _ p1 p2 p3 p4 p5 p6 p7 p8 p9 p10 p11 1 z d3 d4 d5 d6 d7 d8 d9 d10 w _ ?s1 M1.out Xc.out).mono ?_); (case s1 => exact bb_ HB.out); rintro e wj ⟨rfl, hM, hb, hk⟩; clear Xc y0 y1 y2 y3 y4 y5 y6 y7 y8 y9 y10; replace M1 := Aside0.mk hM; replace RN := Aside0.mk (RN.out.kept hk (fun k_ a_ b_ => by have a1_ : k_ < s8 := a_; have b1_ := N1.out k_ b_; have := L8.out; have := L9.out; have := L10.out; have := G6.out; have := LM.out; have := LT.out; omega)); replace BM := Aside0.mk (blk_kept (bq_ BM.out) hk (fun b_ => by have b1_ := N1.out gm b_; have := L8.out; have := L9.out; have := L10.out; have := G6.out; have := LM.out; have := LT.out; omega)); replace BT := Aside0.mk (blk_kept (bq_ BT.out) hk (fun b_ => by have b1_ := N1.out gt b_; have := L8.out; have := L9.out; have := L10.out; have := G6.out; have := LM.out; have := LT.out; omega)); replace B6 := Aside0.mk (blk_kept (bq_ B6.out) hk (fun b_ => by have b1_ := N1.out g6 b_; have := L8.out; have := L9.out; have := L10.out; have := G6.out; have := LM.out; have := LT.out; omega)); replace B10 := Aside0.mk (blk_kept (bq_ B10.out) hk (fun b_ => b_ T10.out)); replace HB := Aside0.mk hb; clear hM hb hk; obtain ⟨y0, y1, y2, y3, y4, y5, y6, y7, y8, y9, y10, -⟩ := cz11_ B10.out) | (go_at_call 16; (with_reducible refine (laws_FnExactNetNew.held_ k p1 p2 d3 d4 d5 d6 d7 d8 d9 d10 p11 1 z _ M1.out.rnet Xd.out).mono ?_); rintro e wk ⟨rfl, hb⟩; (try clear y0 y1 y2 y3 y4 y5 y6 y7 y8 y9 y10); replace RN := Aside0.mk (RN.out.belowV hb); replace M1 := Aside0.mk (M1.out.belowV hb); replace BM := Aside0.mk (bk_ BM.out hb); replace BT := Aside0.mk (bk_ BT.out hb); replace B6 := Aside0.mk (bk_ B6.out hb); replace B10 := Aside0.mk (bk_ B10.out hb); replace HB := Aside0.mk (bs_ HB.out hb); clear hb; clear Xd))
 have y0 : wk.cell? ⟨gm, 0, none⟩ = some (.int .i64 a0_0) := (blk_cell BM.out 0).trans rfl
 have y1 : wk.cell? ⟨gm, 1, none⟩ = some (.int .i64 a0_1) := (blk_cell BM.out 1).trans rfl
 have y2 : wk.cell? ⟨gm, 2, none⟩ = some (.slice A0_2 l0_2.length c0_2) := (blk_cell BM.out 2).trans rfl
 have y3 : wk.cell? ⟨gt, 0, none⟩ = some (.slice A1_0 l1_0.length c1_0) := (blk_cell BT.out 0).trans rfl
 have y4 : wk.cell? ⟨gt, 1, none⟩ = some (.slice A1_1 l1_1.length c1_1) := (blk_cell BT.out 1).trans rfl
 refine start_ (n := 11) (S := fun w' => w'.cell? ⟨gm, 0, none⟩ = some (.int .i64 a0_0) ∧ w'.cell? ⟨gm, 1, none⟩ = some (.int .i64 a0_1) ∧ w'.cell? ⟨gm, 2, none⟩ = some (.slice A0_2 l0_2.length c0_2) ∧ w'.cell? ⟨gt, 0, none⟩ = some (.slice A1_0 l1_0.length c1_0) ∧ w'.cell? ⟨gt, 1, none⟩ = some (.slice A1_1 l1_1.length c1_1)) (ds := []) #[false, false, false, false, false, false, false, false, false, false, false] (by kernel_rfl) rfl rfl ⟨y0, y1, y2, y3, y4⟩ (fun hHeld => ?_)
 clear y0 y1 y2 y3 y4
 replace BM := Aside0.mk (bq_ BM.out : wk.drew.heap[_]? = some _)
 replace BT := Aside0.mk (bq_ BT.out : wk.drew.heap[_]? = some _)
 replace B6 := Aside0.mk (bq_ B6.out : wk.drew.heap[_]? = some _)
 replace B10 := Aside0.mk (bq_ B10.out : wk.drew.heap[_]? = some _)
 replace RN := Aside0.mk (RN.out.move (w1 := wk.drew) (fun _ _ => rfl))
 replace M1 := Aside0.mk (M1.out.move (w1 := wk.drew) (fun _ _ => rfl) (Nat.le_refl _))
 replace HB := Aside0.mk (bb_ HB.out : Below w.heap.size w wk.drew)
 generalize wk.drew = w4 at *
 refine laws_FnExactNetNew.tk_ (v := .agg #[.int .i64 a0_0, .int .i64 a0_1, .slice A0_2 l0_2.length c0_2]) 0 95 (bt_ 11 1) hHeld ?_ (hy := by rintro w' ⟨s0, s1, s2, s3, s4⟩; go_simp)
 refine laws_FnExactNetNew.tk_ (v := .agg #[.slice A1_0 l1_0.length c1_0, .slice A1_1 l1_1.length c1_1]) 2 97 (bt_ 11 5) hHeld ?_ (hy := by rintro w' ⟨s0, s1, s2, s3, s4⟩; go_simp)
 have hSS : ∀ w1, Below w4.heap.size w4 w1 → (w1.cell? ⟨gm, 0, none⟩ = some (.int .i64 a0_0) ∧ w1.cell? ⟨gm, 1, none⟩ = some (.int .i64 a0_1) ∧ w1.cell? ⟨gm, 2, none⟩ = some (.slice A0_2 l0_2.length c0_2) ∧ w1.cell? ⟨gt, 0, none⟩ = some (.slice A1_0 l1_0.length c1_0) ∧ w1.cell? ⟨gt, 1, none⟩ = some (.slice A1_1 l1_1.length c1_1)) := fun w1 hb => ⟨(blk_cell (bk_ BM.out hb) 0).trans rfl, (blk_cell (bk_ BM.out hb) 1).trans rfl, (blk_cell (bk_ BM.out hb) 2).trans rfl, (blk_cell (bk_ BT.out hb) 0).trans rfl, (blk_cell (bk_ BT.out hb) 1).trans rfl⟩
 refine evsJA_ [1, 3, 4, 5, 6, 8, 7, 9] (fun i => match i with | 1 => 20 | 3 => 21 | 4 => 22 | 5 => 23 | 6 => 24 | 7 => 25 | 8 => 30 | 9 => 30 | _ => 40) (fun i => match i with | 8 => 9 | _ => 100) (fun v => [(96, v 1), (98, v 3), (99, v 4), (94, v 5), (100, v 6), (101, v 7), (15, v 8)]) (fun i => match i with | 1 => Ev.A1 3 w4.heap.size (.int .i64 m0) (.int .i64 m1) m2 | 3 => Ev.A2 3 w4.heap.size t0 t1 | 4 => Ev.N w4.heap.size p1 p2 p3 p4 p5 p6 p7 p8 p9 p10 p11 p12 | 8 => Ev.B 41 #[.int .i64 0, .int .i64 0, .slice none 0 0, .slice none 0 0, .slice none 0 0, .slice none 0 0, .slice none 0 0, .slice none 0 0, .slice none 0 0, .slice none 0 0, .int .i64 0] | 9 => Ev.C 41 | _ => Ev.any) (fun l v W => (W.cell? ⟨gm, 0, none⟩ = some (.int .i64 a0_0) ∧ W.cell? ⟨gm, 1, none⟩ = some (.int .i64 a0_1) ∧ W.cell? ⟨gm, 2, none⟩ = some (.slice A0_2 l0_2.length c0_2) ∧ W.cell? ⟨gt, 0, none⟩ = some (.slice A1_0 l1_0.length c1_0) ∧ W.cell? ⟨gt, 1, none⟩ = some (.slice A1_1 l1_1.length c1_1)) ∧ laws_FnExactNetNew.J l v) w4 w4.heap.size (bt_ 11 1023) 1 rfl (by kernel_rfl) (by simp only [putAll, Act.put, List.setIfInBounds_toArray, List.set_cons_zero, List.set_cons_succ]; first | done | rfl) ?hpos (fun _ _ _ h_ => h_.1) ⟨hSS _ (Below.refl _ _), laws_FnExactNetNew.J0 _ _ (by decide) (by decide) (by decide) (by decide)⟩ (Below.refl _ _) (Nat.le_refl _) ?hev ?hcont
 case hpos => decide
 case hev =>
  intro i hi
  simp only [List.mem_cons, List.not_mem_nil, or_false] at hi
  rcases hi with rfl | rfl | rfl | rfl | rfl | rfl | rfl | rfl
  ·refine ⟨_, rfl, fun v x => (by simp only [putAll, Act.put, List.setIfInBounds_toArray, List.set_cons_zero, List.set_cons_succ, Nat.reduceEqDiff, ↓reduceIte]; first | done | rfl), fun T v W l hJ hs hl hpre hpost hW hBW hT hF K a1 ha hK => ?_⟩
   simp only [putAll, Act.put, List.setIfInBounds_toArray, List.set_cons_zero, List.set_cons_succ] at ha
   subst ha
   have HBW := Aside0.mk (bs_ HB.out hW)
   obtain ⟨-, j5, j6, j7, j9⟩ := hJ
   refine goes_ Try.func7 (by kernel_rfl) rfl #[.agg #[.int .i64 a0_0, .int .i64 a0_1, .slice A0_2 l0_2.length c0_2]] (by rfl) rfl rfl (by (try simp only [List.map_toArray, List.map_cons, List.map_nil]); first | done | rfl) ?_
   with_reducible refine (laws_toMesh.calls k a0_0 a0_1 _ _ l0_2 m0 m1 m2 _ ?s0 HC0_2.out E3.out).mono ?_
   (case s0 => exact cb_ HR0_2.out HBW.out)
   rintro e w1 ⟨u_, rfl, h_, hb⟩
   exact ⟨_, rfl, hK _ w1 ⟨hSS _ (bs_ hW hb), (laws_FnExactNetNew.J.set (i := 1) ⟨j5, j6, j7, j9⟩ (fun h_ => absurd h_ (by decide)) (fun h_ => absurd h_ (by decide)) (fun h_ => absurd h_ (by decide)) (fun h_ => absurd h_ (by decide)) (fun h_ => absurd h_ (by decide)) (fun h_ => absurd h_ (by decide)))⟩ (bs_ hW hb) hb.size (fun k_ hl_ _ _ => hb.block k_ hl_) ⟨u_, rfl, rq_ h_ hBW (fun k_ h1_ h_ => Or.inr h_)⟩⟩
  ·refine ⟨_, rfl, fun v x => (by simp only [putAll, Act.put, List.setIfInBounds_toArray, List.set_cons_zero, List.set_cons_succ, Nat.reduceEqDiff, ↓reduceIte]; first | done | rfl), fun T v W l hJ hs hl hpre hpost hW hBW hT hF K a1 ha hK => ?_⟩
   simp only [putAll, Act.put, List.setIfInBounds_toArray, List.set_cons_zero, List.set_cons_succ] at ha
   subst ha
   have HBW := Aside0.mk (bs_ HB.out hW)
   obtain ⟨-, j5, j6, j7, j9⟩ := hJ
   refine goes_ Try.func8 (by kernel_rfl) rfl #[.agg #[.slice A1_0 l1_0.length c1_0, .slice A1_1 l1_1.length c1_1]] (by rfl) rfl rfl (by (try simp only [List.map_toArray, List.map_cons, List.map_nil]); first | done | rfl) ?_
   with_reducible refine (laws_toClasses.calls k _ _ l1_0 _ _ l1_1 t0 t1 _ ?s0 HC1_0.out ?s1 HC1_1.out E4.out).mono ?_
   (case s0 => exact cb_ HR1_0.out HBW.out)
   (case s1 => exact cb_ HR1_1.out HBW.out)
   rintro e w1 ⟨u_, u1_, rfl, h_, h1_, hb⟩
   exact ⟨_, rfl, hK _ w1 ⟨hSS _ (bs_ hW hb), (laws_FnExactNetNew.J.set (i := 3) ⟨j5, j6, j7, j9⟩ (fun h_ => absurd h_ (by decide)) (fun h_ => absurd h_ (by decide)) (fun h_ => absurd h_ (by decide)) (fun h_ => absurd h_ (by decide)) (fun h_ => absurd h_ (by decide)) (fun h_ => absurd h_ (by decide)))⟩ (bs_ hW hb) hb.size (fun k_ hl_ _ _ => hb.block k_ hl_) ⟨u_, u1_, rfl, rq_ h_ hBW (fun k_ g_ q_ => ⟨Or.inr q_, g_⟩), rq_ h1_ hBW (fun k_ g_ q_ => ⟨Or.inr q_, g_⟩)⟩⟩
  ·refine ⟨_, rfl, fun v x => (by simp only [putAll, Act.put, List.setIfInBounds_toArray, List.set_cons_zero, List.set_cons_succ, Nat.reduceEqDiff, ↓reduceIte]; first | done | rfl), fun T v W l hJ hs hl hpre hpost hW hBW hT hF K a1 ha hK => ?_⟩
   simp only [putAll, Act.put, List.setIfInBounds_toArray, List.set_cons_zero, List.set_cons_succ] at ha
   subst ha
   have HBW := Aside0.mk (bs_ HB.out hW)
   obtain ⟨-, j5, j6, j7, j9⟩ := hJ
   obtain ⟨u1, e1, h1⟩ := hF 1 (by decide) (hpre 1 (by kernel_rfl)) (fun h_ => absurd h_ (by decide))
   obtain ⟨u3, u4, e3, h3, h4⟩ := hF 3 (by decide) (hpre 3 (by kernel_rfl)) (fun h_ => absurd h_ (by decide))
   obtain ⟨X1, c1, r1⟩ := Kd.R_slice h1
   obtain ⟨X3, c3, r3⟩ := Kd.R_slice h3
   obtain ⟨X4, c4, r4⟩ := Kd.R_slice h4
   subst r1
   subst r3
   subst r4
   rw [e1, e3]
   refine goes_ Try.func9 (by kernel_rfl) rfl #[.agg #[.int .i64 m0, .int .i64 m1, .slice X1 m2.length c1], .agg #[.slice X3 t0.length c3, .slice X4 t1.length c4]] (by rfl) rfl rfl (by (try simp only [List.map_toArray, List.map_cons, List.map_nil]); first | done | rfl) ?_
   with_reducible refine (impl_NetNew.calls k m0 m1 _ _ m2 _ _ t0 _ _ t1 p1 p2 p3 p4 p5 p6 p7 p8 p9 p10 p11 p12 _ (Kd.R_reads' h1).2.2 (Kd.R_reads' h1).2.1 (Kd.R_reads' h3).2.2 (Kd.R_reads' h3).2.1 (Kd.R_reads' h4).2.2 (Kd.R_reads' h4).2.1 E6.out).mono ?_
   rintro e w1 ⟨T_, v2, v3, v4, v5, v6, v7, v8, v9, rfl, hM, hb⟩
   refine ⟨_, rfl, ?_⟩
   rw [← e1, ← e3]
   exact hK _ w1 ⟨hSS _ (bs_ hW hb), (laws_FnExactNetNew.J.set (i := 4) ⟨j5, j6, j7, j9⟩ (fun _ => ⟨hpost 5 (by decide) (by kernel_rfl), hpost 6 (by decide) (by kernel_rfl), hpost 7 (by decide) (by kernel_rfl), hpost 9 (by decide) (by kernel_rfl)⟩) (fun h_ => absurd h_ (by decide)) (fun h_ => absurd h_ (by decide)) (fun h_ => absurd h_ (by decide)) (fun h_ => absurd h_ (by decide)) (fun h_ => absurd h_ (by decide)))⟩ (bs_ hW hb) hb.size (fun k_ hl_ _ _ => hb.block k_ hl_) ⟨v2, v3, v4, v5, v6, v7, v8, v9, rfl, rq_ hM.h2 hBW (fun k_ _ q_ => Or.inr q_), rq_ hM.h3 hBW (fun k_ _ q_ => Or.inr q_), rq_ hM.h4 hBW (fun k_ _ q_ => Or.inr q_), sqq_ hM.h5 hBW (fun k_ _ q_ => Or.inr q_), rq_ hM.h6 hBW (fun k_ _ q_ => Or.inr q_), rq_ hM.h7 hBW (fun k_ _ q_ => Or.inr q_), sqq_ hM.h8 hBW (fun k_ _ q_ => Or.inr q_), sqq_ hM.h9 hBW (fun k_ _ q_ => Or.inr q_)⟩
  ·refine ⟨_, rfl, fun v x => (by simp only [putAll, Act.put, List.setIfInBounds_toArray, List.set_cons_zero, List.set_cons_succ, Nat.reduceEqDiff, ↓reduceIte]; first | done | rfl), fun T v W l hJ hs hl hpre hpost hW hBW hT hF K a1 ha hK => ?_⟩
   simp only [putAll, Act.put, List.setIfInBounds_toArray, List.set_cons_zero, List.set_cons_succ] at ha
   subst ha
   have HBW := Aside0.mk (bs_ HB.out hW)
   obtain ⟨-, j5, j6, j7, j9⟩ := hJ
   refine value_ (w1 := W) (v := v 4) (by rfl) rfl (by go_simp) ?_
   exact hK _ W ⟨hSS _ hW, (laws_FnExactNetNew.J.set (i := 5) ⟨j5, j6, j7, j9⟩ (fun h_ => absurd h_ (by decide)) (fun h_ => absurd h_ (by decide)) (fun _ => rfl) (fun h_ => absurd h_ (by decide)) (fun h_ => absurd h_ (by decide)) (fun h_ => absurd h_ (by decide)))⟩ hW (Nat.le_refl _) (fun _ _ _ _ => rfl) trivial
  ·refine ⟨_, rfl, fun v x => (by simp only [putAll, Act.put, List.setIfInBounds_toArray, List.set_cons_zero, List.set_cons_succ, Nat.reduceEqDiff, ↓reduceIte]; first | done | rfl), fun T v W l hJ hs hl hpre hpost hW hBW hT hF K a1 ha hK => ?_⟩
   simp only [putAll, Act.put, List.setIfInBounds_toArray, List.set_cons_zero, List.set_cons_succ] at ha
   subst ha
   have HBW := Aside0.mk (bs_ HB.out hW)
   obtain ⟨-, j5, j6, j7, j9⟩ := hJ
   obtain ⟨v2, v3, v4, v5, v6, v7, v8, v9, e4, -⟩ := hF 4 (by decide) (hpre 4 (by kernel_rfl)) (fun h_ => absurd h_ (by decide))
   have e5 := j5 (hpre 5 (by kernel_rfl))
   rw [e4] at e5
   rw [e5]
   refine value_ (w1 := W) (v := .agg #[.int .i64 p1, .int .i64 p2, v2, v3, v4, v5, v6, v7, v8, v9, .int .i64 p11]) (by rfl) rfl (by go_simp) ?_
   rw [← e5]
   refine hK _ W ⟨hSS _ hW, (laws_FnExactNetNew.J.set (i := 6) ⟨j5, j6, j7, j9⟩ (fun h_ => absurd h_ (by decide)) (fun h_ => absurd h_ (by decide)) (fun h_ => absurd h_ (by decide)) ?_ (fun h_ => absurd h_ (by decide)) (fun h_ => absurd h_ (by decide)))⟩ hW (Nat.le_refl _) (fun _ _ _ _ => rfl) trivial
   intro _ N_ b_ h_
   rw [e4] at h_
   simp only [Value.tuple.injEq, Array.mk.injEq, List.cons.injEq, and_true] at h_
   exact h_.1
  ·refine ⟨_, rfl, fun v x => (by simp only [putAll, Act.put, List.setIfInBounds_toArray, List.set_cons_zero, List.set_cons_succ, Nat.reduceEqDiff, ↓reduceIte]; first | done | rfl), fun T v W l hJ hs hl hpre hpost hW hBW hT hF K a1 ha hK => ?_⟩
   simp only [putAll, Act.put, List.setIfInBounds_toArray, List.set_cons_zero, List.set_cons_succ] at ha
   subst ha
   have HBW := Aside0.mk (bs_ HB.out hW)
   obtain ⟨-, j5, j6, j7, j9⟩ := hJ
   refine value_ (w1 := W.alloc (.cells #[.int .i64 0, .int .i64 0, .slice none 0 0, .slice none 0 0, .slice none 0 0, .slice none 0 0, .slice none 0 0, .slice none 0 0, .slice none 0 0, .slice none 0 0, .int .i64 0] 41 (0, 0))) (v := .pointer (some ⟨W.heap.size, 0, none⟩)) (by rfl) rfl (by go_simp; first | done | rfl) ?_
   have hb := below_alloc (Below.refl W.heap.size W) (.cells #[.int .i64 0, .int .i64 0, .slice none 0 0, .slice none 0 0, .slice none 0 0, .slice none 0 0, .slice none 0 0, .slice none 0 0, .slice none 0 0, .slice none 0 0, .int .i64 0] 41 (0, 0))
   exact hK _ _ ⟨hSS _ (bs_ hW hb), (laws_FnExactNetNew.J.set (i := 8) ⟨j5, j6, j7, j9⟩ (fun h_ => absurd h_ (by decide)) (fun _ => hpost 9 (by decide) (by kernel_rfl)) (fun h_ => absurd h_ (by decide)) (fun h_ => absurd h_ (by decide)) (fun h_ => absurd h_ (by decide)) (fun h_ => absurd h_ (by decide)))⟩ (bs_ hW hb) hb.size (fun k_ hl_ _ _ => hb.block k_ hl_) ⟨_, rfl, Or.inr ⟨Nat.le_refl _, blk_lt (blk_new W _)⟩, blk_new W _⟩
  ·refine ⟨_, rfl, fun v x => (by simp only [putAll, Act.put, List.setIfInBounds_toArray, List.set_cons_zero, List.set_cons_succ, Nat.reduceEqDiff, ↓reduceIte]; first | done | rfl), fun T v W l hJ hs hl hpre hpost hW hBW hT hF K a1 ha hK => ?_⟩
   simp only [putAll, Act.put, List.setIfInBounds_toArray, List.set_cons_zero, List.set_cons_succ] at ha
   subst ha
   have HBW := Aside0.mk (bs_ HB.out hW)
   obtain ⟨-, j5, j6, j7, j9⟩ := hJ
   obtain ⟨v2, v3, v4, v5, v6, v7, v8, v9, e4, -⟩ := hF 4 (by decide) (hpre 4 (by kernel_rfl)) (fun h_ => absurd h_ (by decide))
   have e5 := j5 (hpre 5 (by kernel_rfl))
   rw [e4] at e5
   rw [e5]
   refine value_ (w1 := W) (v := .bool p12) (by rfl) rfl (by go_simp) ?_
   rw [← e5]
   refine hK _ W ⟨hSS _ hW, (laws_FnExactNetNew.J.set (i := 7) ⟨j5, j6, j7, j9⟩ (fun h_ => absurd h_ (by decide)) (fun h_ => absurd h_ (by decide)) (fun h_ => absurd h_ (by decide)) (fun h_ => absurd h_ (by decide)) ?_ (fun h_ => absurd h_ (by decide)))⟩ hW (Nat.le_refl _) (fun _ _ _ _ => rfl) trivial
   intro _ N_ b_ h_
   rw [e4] at h_
   simp only [Value.tuple.injEq, Array.mk.injEq, List.cons.injEq, and_true] at h_
   exact h_.2
  ·refine ⟨_, rfl, fun v x => (by simp only [putAll, Act.put, List.setIfInBounds_toArray, List.set_cons_zero, List.set_cons_succ, Nat.reduceEqDiff, ↓reduceIte]; first | done | rfl), fun T v W l hJ hs hl hpre hpost hW hBW hT hF K a1 ha hK => ?_⟩
   simp only [putAll, Act.put, List.setIfInBounds_toArray, List.set_cons_zero, List.set_cons_succ] at ha
   subst ha
   have HBW := Aside0.mk (bs_ HB.out hW)
   obtain ⟨-, j5, j6, j7, j9⟩ := hJ
   obtain ⟨v2, v3, v4, v5, v6, v7, v8, v9, e4, h2, h3, h4, h5, h6, h7, h8, h9⟩ := hF 4 (by decide) (hpre 4 (by kernel_rfl)) (fun h_ => absurd h_ (by decide))
   obtain ⟨Y2, y2, e_⟩ := Kd.R_slice h2
   subst e_
   obtain ⟨Y3, y3, e_⟩ := Kd.R_slice h3
   subst e_
   obtain ⟨Y4, y4, e_⟩ := Kd.R_slice h4
   subst e_
   obtain ⟨Y5, y5, e_⟩ := Kd.S_slice h5
   subst e_
   obtain ⟨Y6, y6, e_⟩ := Kd.R_slice h6
   subst e_
   obtain ⟨Y7, y7, e_⟩ := Kd.R_slice h7
   subst e_
   obtain ⟨Y8, y8, e_⟩ := Kd.S_slice h8
   subst e_
   obtain ⟨Y9, y9, e_⟩ := Kd.S_slice h9
   subst e_
   clear h2 h3 h4 h5 h6 h7 h8 h9
   have e6 := j6 (hpre 6 (by kernel_rfl)) _ _ e4
   obtain ⟨g, e8, og, hg⟩ := hF 8 (by decide) (hpre 8 (by kernel_rfl)) (fun _ => hl)
   have hgl : w4.heap.size ≤ g := (hT g (by rw [show T g = 30 from og]; decide)).1
   obtain ⟨z0, z1, z2, z3, z4, z5, z6, z7, z8, z9, z10, f0, f1, f2, f3, f4, f5, f6, f7, f8, f9, f10⟩ := cz11_ hg
   rw [e6, e8]
   refine skip_ (w1 := ?_) (by rfl) rfl ?_ ?_
   rotate_left
   ·go_simp
    rfl
   clear z0 z1 z2 z3 z4 z5 z6 z7 z8 z9 z10 f0 f1 f2 f3 f4 f5 f6 f7 f8 f9 f10
   rw [← e6, ← e8]
   refine hK (.agg #[.pointer (some ⟨g, 0, none⟩), .agg #[.int .i64 p1, .int .i64 p2, .slice Y2 p3.length y2, .slice Y3 p4.length y3, .slice Y4 p5.length y4, .slice Y5 p6.length y5, .slice Y6 p7.length y6, .slice Y7 p8.length y7, .slice Y8 p9.length y8, .slice Y9 p10.length y9, .int .i64 p11]]) (st11_ W g (.int .i64 p1) (.int .i64 p2) (.slice Y2 p3.length y2) (.slice Y3 p4.length y3) (.slice Y4 p5.length y4) (.slice Y5 p6.length y5) (.slice Y6 p7.length y6) (.slice Y7 p8.length y7) (.slice Y8 p9.length y8) (.slice Y9 p10.length y9) (.int .i64 p11)) ⟨hSS _ (st11_below hW hgl), (laws_FnExactNetNew.J.set (i := 9) ⟨j5, j6, j7, j9⟩ (fun h_ => absurd h_ (by decide)) (fun h_ => absurd h_ (by decide)) (fun h_ => absurd h_ (by decide)) (fun h_ => absurd h_ (by decide)) (fun h_ => absurd h_ (by decide)) ?_)⟩ (st11_below hW hgl) (Nat.le_of_eq st11_size.symm) (fun k_ _ _ h_ => st11_far (fun e_ => h_ (by rw [e_]; exact og))) ⟨_, _, rfl, Or.inl og, st11_blk hg⟩
   intro _ xs_ b_ h_
   rw [e4] at h_
   simp only [Value.tuple.injEq, Array.mk.injEq, List.cons.injEq, and_true, Value.agg.injEq] at h_
   exact ⟨g, e8, by rw [h_.1]⟩
 case hcont =>
 intro T v W hJ hW hT hF
 obtain ⟨-, j5, j6, j7, j9⟩ := hJ
 obtain ⟨v2, v3, v4, v5, v6, v7, v8, v9, e4, h2, h3, h4, h5, h6, h7, h8, h9⟩ := hF 4 (by decide) (by decide)
 obtain ⟨g_, cs_, e9, og, hg⟩ := hF 9 (by decide) (by decide)
 have e5 := j5 (by kernel_rfl)
 rw [e4] at e5
 have e6 := j6 (by kernel_rfl) _ _ e4
 have e7 := j7 (by kernel_rfl) _ _ e4
 obtain ⟨g15, e8, e9'⟩ := j9 (by kernel_rfl) _ _ e4
 rw [e9'] at e9
 simp only [Value.agg.injEq, Array.mk.injEq, List.cons.injEq, and_true, Value.pointer.injEq, Option.some.injEq, Addr.mk.injEq] at e9
 obtain ⟨e9a, e9b⟩ := e9
 subst e9a
 subst e9b
 have hok : ∀ k_, T k_ = 22 → k_ < W.heap.size := fun k_ h_ => (hT k_ (by rw [h_]; decide)).2
 have RH := Aside0.mk (show RNet (fun k_ => k_ < W.heap.size) w4.heap.size W v2 v3 v4 v5 v6 v7 v8 v9 p3 p4 p5 p6 p7 p8 p9 p10 from ⟨Kd.R_mono h2 hok, Kd.R_mono h3 hok, Kd.R_mono h4 hok, Kd.S_mono h5 hok, Kd.R_mono h6 hok, Kd.R_mono h7 hok, Kd.S_mono h8 hok, Kd.S_mono h9 hok⟩)
 have B15 := Aside0.mk hg
 have G15 := Aside0.mk (show g15 < W.heap.size from (hT g15 (by rw [show T g15 = 30 from og]; decide)).2)
 replace BM := Aside0.mk (bk_ BM.out hW)
 replace BT := Aside0.mk (bk_ BT.out hW)
 replace B6 := Aside0.mk (bk_ B6.out hW)
 replace B10 := Aside0.mk (bk_ B10.out hW)
 replace RN := Aside0.mk (RN.out.below hW)
 replace M1 := Aside0.mk (M1.out.below hW)
 replace HB := Aside0.mk (bs_ HB.out hW)
 refine norm_ (a' := ?_) ?_ ?_
 rotate_left
 ·simp only [putAll, Act.put, List.setIfInBounds_toArray, List.set_cons_zero, List.set_cons_succ, e4, e5, e6, e7, e8]
  rfl
 clear j5 j6 j7 j9 e4 e5 e6 e7 e8 e9' h2 h3 h4 h5 h6 h7 h8 h9 hok og hg hF hT hW hSS
 refine laws_FnExactNetNew.pk_ 10 16 (bt_ 11 2047) ?_
 refine done_ (by kernel_rfl) ?_
 clear hHeld
 obtain ⟨p15A2, p15c2, e_⟩ := Kd.R_slice RH.out.h2
 subst e_
 obtain ⟨p15A3, p15c3, e_⟩ := Kd.R_slice RH.out.h3
 subst e_
 obtain ⟨p15A4, p15c4, e_⟩ := Kd.R_slice RH.out.h4
 subst e_
 obtain ⟨p15A5, p15c5, e_⟩ := Kd.S_slice RH.out.h5
 subst e_
 obtain ⟨p15A6, p15c6, e_⟩ := Kd.R_slice RH.out.h6
 subst e_
 obtain ⟨p15A7, p15c7, e_⟩ := Kd.R_slice RH.out.h7
 subst e_
 obtain ⟨p15A8, p15c8, e_⟩ := Kd.S_slice RH.out.h8
 subst e_
 obtain ⟨p15A9, p15c9, e_⟩ := Kd.S_slice RH.out.h9
 subst e_
 obtain ⟨s15, hs15⟩ : ∃ s_, s_ = W.heap.size := ⟨_, rfl⟩
 rw [← hs15] at RH G15
 have Ls15 := Aside0.mk (Nat.le_of_eq hs15)
 have LM := Aside0.mk (show gm < s15 by rw [hs15]; exact blk_lt BM.out)
 have LT := Aside0.mk (show gt < s15 by rw [hs15]; exact blk_lt BT.out)
 clear hs15
 obtain ⟨y0, y1, y2, y3, y4, y5, y6, y7, y8, y9, y10, -⟩ := cz11_ B15.out; obtain ⟨z0, z1, z2, z3, z4, z5, z6, z7, z8, z9, z10, -⟩ := cz11_ B6.out
 go_wp2_with (first | (go_at_call 10; (with_reducible refine (laws_FnExactNetNew.eq_ k p1 p2 p3 p4 p5 p6 p7 p8 p9 p10 p11 q1 q2 q3 q4 q5 q6 q7 q8 q9 q10 q11 true _ RH.out RN.out E7c.out).mono ?_); rintro e wl ⟨rfl, hb⟩; (try clear y0 z0 y1 z1 y2 z2 y3 z3 y4 z4 y5 z5 y6 z6 y7 z7 y8 z8 y9 z9 y10 z10); replace RN := Aside0.mk (RN.out.belowV hb); replace RH := Aside0.mk (RH.out.belowV hb); replace M1 := Aside0.mk (M1.out.belowV hb); replace BM := Aside0.mk (bk_ BM.out hb); replace BT := Aside0.mk (bk_ BT.out hb); replace B6 := Aside0.mk (bk_ B6.out hb); replace B10 := Aside0.mk (bk_ B10.out hb); replace HB := Aside0.mk (bs_ HB.out hb); clear hb; clear E7c; obtain ⟨y0, y1, y2, y3, y4, y5, y6, y7, y8, y9, y10, -⟩ := cz11_ B10.out) | (go_at_call 16; (with_reducible refine (laws_FnExactNetNew.held_ k p1 p2 d3 d4 d5 d6 d7 d8 d9 d10 p11 1 z _ M1.out.rnet Xdb.out).mono ?_); rintro e wm ⟨rfl, hb⟩; (try clear y0 y1 y2 y3 y4 y5 y6 y7 y8 y9 y10); replace M1 := Aside0.mk (M1.out.belowV hb); replace HB := Aside0.mk (bs_ HB.out hb); clear hb; clear Xdb))
 go_ret
 exact ⟨rfl, bb_ HB.out⟩

end Go.Proofs.Ytmdfcdhblflaaaa.PFnExactNetNew
-- thin
