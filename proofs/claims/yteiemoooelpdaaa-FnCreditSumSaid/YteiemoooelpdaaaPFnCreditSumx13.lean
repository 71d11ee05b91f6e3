
import Derived.Test.YteiemoooelpdaaaPFnCreditSumx0
import Derived.Test.YteiemoooelpdaaaPFnCreditSumx1
import Derived.Test.YteiemoooelpdaaaPFnCreditSumx5
import Derived.Test.YteiemoooelpdaaaPFnCreditSumx6
namespace Go.Proofs.Yteiemoooelpdaaa.PFnCreditSum
open Go.RowKit Go.Proofs.YteiemoooelpdaaaW.PrintWords Go.Proofs.YteiemoooelpdaaaW.PrintLast Go.Proofs.YteiemoooelpdaaaW.PrintMore
attribute [local go_sem] max2_int min2_int max_two min_two max_three min_three max_four min_four
set_option linter.unusedVariables false
set_option maxHeartbeats 8000000
set_option maxRecDepth 100000
set_option linter.unusedSimpArgs false
def spec_Opposite.f (a0 : Int) : Option (Int) := if a0 = 4 then (some 4) else ((spec_l01In.f a0 0 3).bind fun t393 => (if t393 = true then (some (Int.tmod (wrap64 (a0 + 2)) 4)) else (some (-1))))
theorem spec_Opposite.e0 {P : Prop} (h : P := by
 go_enter Try.func71, Try.ntmps71
 go_wp2_with (first | ((with_reducible refine gate_callee (f := 40) rfl ?_); refine gm_ (some 6) Try.func40 #[.int .i64 a0, .int .i64 0, .int .i64 3] rfl ?_; (with_reducible refine (spec_l01In.calls a0 0 3 _ _ A3.out).mono ?_); rintro e w' ⟨rfl, ⟨nd, rfl⟩⟩; refine ⟨_, rfl, ?_⟩))
 go_ret
 exact ⟨by first | rfl | (simp; done) | (simp [*]; done), by repeat (first | exact Drawn0.refl _ | apply Drawn0.step)⟩) : P := h
theorem spec_Opposite.calls (a0 : Int) (r : Int) (w : World) (h : spec_Opposite.f a0 = some r) :
  Calls Try.prog 71 #[.int .i64 a0] w fun e w' => e = .returned (.int .i64 r) ∧ Drawn0 w w' := by
 have H : (if a0 = 4 then (some 4) else ((spec_l01In.f a0 0 3).bind fun t393 => (if t393 = true then (some (Int.tmod (wrap64 (a0 + 2)) 4)) else (some (-1))))) = some r := h
 clear h
 by_cases c2 : a0 = 4
 ·rw [if_pos c2] at H
  have c2b0 : (a0 == 4) = true := beq_iff_eq.mpr c2
  have c2b1 : (a0 != 4) = false := bne_eq_false_iff_eq.mpr c2
  clear c2
  obtain rfl := Option.some.inj H
  exact spec_Opposite.e0
 ·rw [if_neg c2] at H
  have c2b0 : (a0 == 4) = false := beq_eq_false_iff_ne.mpr c2
  have c2b1 : (a0 != 4) = true := bne_iff_ne.mpr c2
  obtain ⟨t393, A3, H⟩ := bi_ H
  by_cases c4 : t393 = true
  ·subst c4
   rw [if_pos rfl] at H
   obtain rfl := Option.some.inj H
   exact spec_Opposite.e0
  ·replace c4 := Bool.eq_false_iff.mpr c4
   subst c4
   rw [if_neg (show ¬ (false = true) by decide)] at H
   obtain rfl := Option.some.inj H
   exact spec_Opposite.e0
theorem headF {w : World} {A : Option Addr} {n : Nat} {xs : List S72} (h : Kd.C k72 w A n xs) (h1 : (0 : Int) < (n : Int)) : ∃ ad, A = some ad ∧ w.cell? ad = some (.int .i64 (rd_T72 xs 0).f0) ∧ w.cell? ⟨ad.block, ad.off + 1, none⟩ = some (.int .i64 (rd_T72 xs 0).f1) ∧ w.cell? ⟨ad.block, ad.off + 2, none⟩ = some (.int .i64 (rd_T72 xs 0).f2) ∧ w.cell? ⟨ad.block, ad.off + 3, none⟩ = some (.bool (rd_T72 xs 0).f3) ∧ w.cell? ⟨ad.block, ad.off + 4, none⟩ = some (.bool (rd_T72 xs 0).f4) := by
 obtain ⟨ad, e, c0, c1, c2, c3, c4⟩ := at_T72 h 0 (by omega) h1
 rw [show (0 : Int).toNat = 0 from rfl, show 0 * 5 = 0 from rfl, Addr.add_zero'] at c0 c1 c2 c3 c4
 exact ⟨ad, e, c0, c1, c2, c3, c4⟩
def spec_l17Wanted.l0 : Nat → List Int → Int → Int → Int → Option Int
 | 0, _, _, _, _ => none
 | k + 1, o, a1, a2, x => if x ≤ 4 then (if 0 ≤ wrap64 (wrap64 (wrap64 (10 * a1) + wrap64 (2 * x)) + Int.tmod a2 2) ∧ wrap64 (wrap64 (wrap64 (10 * a1) + wrap64 (2 * x)) + Int.tmod a2 2) < (o.length : Int) then (if rd o (wrap64 (wrap64 (wrap64 (10 * a1) + wrap64 (2 * x)) + Int.tmod a2 2)) = wrap64 (Int.tdiv a2 2) then some x else spec_l17Wanted.l0 k o a1 a2 (wrap64 (x + 1))) else none) else some (-1)
def spec_l17Wanted.f (k : Nat) (a0_0 : Int) (a0_1 : Int) (l0_2 : List Int) (l0_3 : List Int) (l0_4 : List Int) (l0_5 : List (List S72)) (l0_6 : List Int) (l0_7 : List Int) (l0_8 : List (List S72)) (l0_9 : List (List S72)) (a0_10 : Int) (a1 a2 : Int) : Option Int := if 0 ≤ wrap64 (wrap64 (10 * a1) + a2) ∧ wrap64 (wrap64 (10 * a1) + a2) < (l0_5.length : Int) then (if ((rd_L4 l0_5 (wrap64 (wrap64 (10 * a1) + a2))).length : Int) = 0 then some (-1) else if (rd_T72 (rd_L4 l0_5 (wrap64 (wrap64 (10 * a1) + a2))) 0).f3 = true then (spec_NodeCount.f a0_0 a0_1).bind fun t => (if Int.tmod a2 2 = 1 then (if 0 ≤ wrap64 (wrap64 (a1 * t) + (rd_T72 (rd_L4 l0_5 (wrap64 (wrap64 (10 * a1) + a2))) 0).f1) ∧ wrap64 (wrap64 (a1 * t) + (rd_T72 (rd_L4 l0_5 (wrap64 (wrap64 (10 * a1) + a2))) 0).f1) < (l0_4.length : Int) then some (rd l0_4 (wrap64 (wrap64 (a1 * t) + (rd_T72 (rd_L4 l0_5 (wrap64 (wrap64 (10 * a1) + a2))) 0).f1))) else none) else (if 0 ≤ wrap64 (wrap64 (a1 * t) + (rd_T72 (rd_L4 l0_5 (wrap64 (wrap64 (10 * a1) + a2))) 0).f1) ∧ wrap64 (wrap64 (a1 * t) + (rd_T72 (rd_L4 l0_5 (wrap64 (wrap64 (10 * a1) + a2))) 0).f1) < (l0_3.length : Int) then some (rd l0_3 (wrap64 (wrap64 (a1 * t) + (rd_T72 (rd_L4 l0_5 (wrap64 (wrap64 (10 * a1) + a2))) 0).f1))) else none)) else spec_l17Wanted.l0 k l0_6 a1 a2 0) else none
set_option maxHeartbeats 4000000 in
theorem spec_l17Wanted.calls (k : Nat) (a0_0 : Int) (a0_1 : Int) (A0_2 : Option Addr) (c0_2 : Nat) (l0_2 : List Int) (A0_3 : Option Addr) (c0_3 : Nat) (l0_3 : List Int) (A0_4 : Option Addr) (c0_4 : Nat) (l0_4 : List Int) (A0_5 : Option Addr) (c0_5 : Nat) (l0_5 : List (List S72)) (A0_6 : Option Addr) (c0_6 : Nat) (l0_6 : List Int) (A0_7 : Option Addr) (c0_7 : Nat) (l0_7 : List Int) (A0_8 : Option Addr) (c0_8 : Nat) (l0_8 : List (List S72)) (A0_9 : Option Addr) (c0_9 : Nat) (l0_9 : List (List S72)) (a0_10 : Int) (a1 : Int) (a2 : Int) (r : Int) (w : World) (hr0_2 : Kd.C (Kd.int .i64) w A0_2 l0_2.length l0_2) (hc0_2 : l0_2.length ≤ c0_2) (hr0_3 : Kd.C (Kd.int .i64) w A0_3 l0_3.length l0_3) (hc0_3 : l0_3.length ≤ c0_3) (hr0_4 : Kd.C (Kd.int .i64) w A0_4 l0_4.length l0_4) (hc0_4 : l0_4.length ≤ c0_4) (hr0_5 : Kd.C (Kd.slice 72 k72) w A0_5 l0_5.length l0_5) (hc0_5 : l0_5.length ≤ c0_5) (hr0_6 : Kd.C (Kd.int .i64) w A0_6 l0_6.length l0_6) (hc0_6 : l0_6.length ≤ c0_6) (hr0_7 : Kd.C (Kd.int .i64) w A0_7 l0_7.length l0_7) (hc0_7 : l0_7.length ≤ c0_7) (hr0_8 : Kd.C (Kd.slice 72 k72) w A0_8 l0_8.length l0_8) (hc0_8 : l0_8.length ≤ c0_8) (hr0_9 : Kd.C (Kd.slice 72 k72) w A0_9 l0_9.length l0_9) (hc0_9 : l0_9.length ≤ c0_9) (h : spec_l17Wanted.f k a0_0 a0_1 l0_2 l0_3 l0_4 l0_5 l0_6 l0_7 l0_8 l0_9 a0_10 a1 a2 = some r) :
  Calls Try.prog 41 #[.agg #[.int .i64 a0_0, .int .i64 a0_1, .slice A0_2 l0_2.length c0_2, .slice A0_3 l0_3.length c0_3, .slice A0_4 l0_4.length c0_4, .slice A0_5 l0_5.length c0_5, .slice A0_6 l0_6.length c0_6, .slice A0_7 l0_7.length c0_7, .slice A0_8 l0_8.length c0_8, .slice A0_9 l0_9.length c0_9, .int .i64 a0_10], .int .i64 a1, .int .i64 a2] w fun e w' => e = .returned (.int .i64 r) ∧ Below w.heap.size w w' := by
 have HR3 := am hr0_3; have HC3 := am hc0_3
 have HR4 := am hr0_4; have HC4 := am hc0_4
 have HR5 := am hr0_5; have HC5 := am hc0_5
 have HR6 := am hr0_6; have HC6 := am hc0_6
 have HB := am (Below.refl w.heap.size w); clear hr0_2 hc0_2 hr0_3 hc0_3 hr0_4 hc0_4 hr0_5 hc0_5 hr0_6 hc0_6 hr0_7 hc0_7 hr0_8 hc0_8 hr0_9 hc0_9
 unfold spec_l17Wanted.f at h; obtain ⟨ix, hix⟩ : ∃ y_, y_ = wrap64 (wrap64 (10 * a1) + a2) := ⟨_, rfl⟩; rw [← hix] at h; by_cases c1 : 0 ≤ ix ∧ ix < (l0_5.length : Int)
 rotate_left
 ·rw [if_neg c1] at h; cases h
 rw [if_pos c1] at h; obtain ⟨ad, Ai, ci, ea, xi, hli, hi⟩ := at_L4 HR5.out ix c1.1 c1.2; obtain ⟨m, hm⟩ : ∃ y_, y_ = rd_L4 l0_5 ix := ⟨_, rfl⟩; rw [← hm] at h xi hli hi; subst ea
 have XX : Aside0 (∀ W, Below w.heap.size w W → W.cell? (ad.add ix.toNat) = some (.slice Ai m.length ci)) := ⟨fun W hW => (hW.cell (World.block_lt_of_cell? w _ xi)).trans xi⟩; clear xi hm
 have p1 := eq_true c1.1; have p2 := eq_true c1.2; clear c1; have hu35 := Try.underlying35; have hu28 := Try.underlying28; have hu32 := Try.underlying32; have hu25 := Try.underlying25; have hu72 := Try.underlying72; have hu30 := Try.underlying30
 have hixw : IntKind.i64.wrap (wrap64 (10 * a1) + a2) = ix := (i64_w _).trans hix.symm; replace hix := hix.symm
 by_cases c2 : (m.length : Int) = 0
 ·rw [if_pos c2] at h; obtain rfl := Option.some.inj h; have c2d : ((m.length : Int) == 0) = true := beq_iff_eq.mpr c2; clear c2 h; go_enter Try.func41, Try.ntmps41; go_wp2_with (first | ((with_reducible refine gate_dst (N := 3) rfl ?_); refine bx_ 3 #[.int .i64 a0_0, .int .i64 a0_1, .slice A0_2 l0_2.length c0_2, .slice A0_3 l0_3.length c0_3, .slice A0_4 l0_4.length c0_4, .slice (some ad) l0_5.length c0_5, .slice A0_6 l0_6.length c0_6, .slice A0_7 l0_7.length c0_7, .slice A0_8 l0_8.length c0_8, .slice A0_9 l0_9.length c0_9, .int .i64 a0_10] 35 ?_; intro g3 hg w1 hbox hb; have B3 := am hbox; replace HB := h9_ HB hb; clear hb hbox hg; obtain ⟨z0, z1, z2, z3, z4, z5, z6, z7, z8, z9, z10, zf0, zf1, zf2, zf3, zf4, zf5, zf6, zf7, zf8, zf9, zf10⟩ := cz11_ B3.out; have xi := XX.out _ HB.out)); go_ret; exact ⟨rfl, bb_ HB.out⟩
 rw [if_neg c2] at h; have c2d : ((m.length : Int) == 0) = false := beq_eq_false_iff_ne.mpr c2; obtain ⟨ah, eh, y0, y1, y2, y3, y4⟩ := headF hi (by omega); obtain ⟨f, hf⟩ : ∃ y_, y_ = rd_T72 m 0 := ⟨_, rfl⟩; rw [← hf] at h y0 y1 y2 y3 y4; subst eh; have p3 : (0 < m.length) = True := eq_true (by omega); clear hf c2 y0 y2 y4 hi
 have Y1 : Aside0 (∀ W, Below w.heap.size w W → W.cell? ⟨ah.block, ah.off + 1, none⟩ = some (.int .i64 f.f1)) := ⟨fun W hW => (hW.cell (World.block_lt_of_cell? w _ y1)).trans y1⟩; have Y3 : Aside0 (∀ W, Below w.heap.size w W → W.cell? ⟨ah.block, ah.off + 3, none⟩ = some (.bool f.f3)) := ⟨fun W hW => (hW.cell (World.block_lt_of_cell? w _ y3)).trans y3⟩; clear y1 y3
 by_cases c3 : f.f3 = true
 ·rw [if_pos c3] at h; obtain ⟨t, e1, h⟩ := Option.bind_eq_some_iff.1 h; have E1 := am e1; clear e1; have c3e : f.f3 = true := c3; clear c3; rw [c3e] at Y3; clear c3e
  by_cases c4 : Int.tmod a2 2 = 1
  ·rw [if_pos c4] at h
   have c4d : (Int.tmod a2 2 == 1) = true := beq_iff_eq.mpr c4; clear c4; obtain ⟨jx, hjx⟩ : ∃ y_, y_ = wrap64 (wrap64 (a1 * t) + f.f1) := ⟨_, rfl⟩; rw [← hjx] at h; by_cases c5 : 0 ≤ jx ∧ jx < (l0_4.length : Int)
   rotate_left
   ·rw [if_neg c5] at h; cases h
   rw [if_pos c5] at h; obtain rfl := Option.some.inj h; clear h; obtain ⟨at_, et, xt⟩ := Kd.at_int HR4.out jx c5.1 c5.2; subst et; have XT : Aside0 (∀ W, Below w.heap.size w W → W.cell? (at_.add jx.toNat) = some (.int .i64 (rd l0_4 jx))) := ⟨fun W hW => (hW.cell (World.block_lt_of_cell? w _ xt)).trans xt⟩; clear xt; have p4 := eq_true c5.1; have p5 := eq_true c5.2; clear c5
   go_enter Try.func41, Try.ntmps41; go_upto_region 8 with (first | ((with_reducible refine gate_dst (N := 3) rfl ?_); refine bx_ 3 #[.int .i64 a0_0, .int .i64 a0_1, .slice A0_2 l0_2.length c0_2, .slice A0_3 l0_3.length c0_3, .slice (some at_) l0_4.length c0_4, .slice (some ad) l0_5.length c0_5, .slice A0_6 l0_6.length c0_6, .slice A0_7 l0_7.length c0_7, .slice A0_8 l0_8.length c0_8, .slice A0_9 l0_9.length c0_9, .int .i64 a0_10] 35 ?_; intro g3 hg w1 hbox hb; have B3 := am hbox; replace HB := h9_ HB hb; clear hb hbox hg; obtain ⟨z0, z1, z2, z3, z4, z5, z6, z7, z8, z9, z10, zf0, zf1, zf2, zf3, zf4, zf5, zf6, zf7, zf8, zf9, zf10⟩ := cz11_ B3.out; have xi := XX.out _ HB.out; have y3 := Y3.out _ HB.out) | (go_at_call 57; (with_reducible refine (spec_NodeCount.calls a0_0 a0_1 t _ E1.out).mono ?_); rintro e w2 ⟨rfl, hb⟩; replace B3 := kb_ B3 hb; replace HB := h9_ HB hb; clear hb z0 z1 z2 z3 z4 z5 z6 z7 z8 z9 z10 zf0 zf1 zf2 zf3 zf4 zf5 zf6 zf7 zf8 zf9 zf10 xi y3; obtain ⟨z0, z1, z2, z3, z4, z5, z6, z7, z8, z9, z10, zf0, zf1, zf2, zf3, zf4, zf5, zf6, zf7, zf8, zf9, zf10⟩ := cz11_ B3.out)); have y1 := Y1.out _ (bb_ HB.out); have xt := XT.out _ (bb_ HB.out); have hjw : IntKind.i64.wrap (wrap64 (a1 * t) + f.f1) = jx := (i64_w _).trans hjx.symm; have hjv : IntKind.i64.wrap (IntKind.i64.wrap (a1 * t) + f.f1) = jx := (by rw [i64_w, i64_w]; exact hjx.symm); clear hjx
   go_region_held3 (fun w' => w'.cell? ⟨g3, 4, none⟩ = some (.slice (some at_) l0_4.length c0_4) ∧ w'.cell? ⟨ah.block, ah.off + 1, none⟩ = some (.int .i64 f.f1) ∧ w'.cell? (at_.add jx.toNat) = some (.int .i64 (rd l0_4 jx))) (exact ⟨z4, y1, xt⟩) (fail)
   go_wp2; go_ret; exact ⟨rfl, bb_ HB.out⟩
  rw [if_neg c4] at h
  have c4d : (Int.tmod a2 2 == 1) = false := beq_eq_false_iff_ne.mpr c4; clear c4; obtain ⟨jx, hjx⟩ : ∃ y_, y_ = wrap64 (wrap64 (a1 * t) + f.f1) := ⟨_, rfl⟩; rw [← hjx] at h; by_cases c5 : 0 ≤ jx ∧ jx < (l0_3.length : Int)
  rotate_left
  ·rw [if_neg c5] at h; cases h
  rw [if_pos c5] at h; obtain rfl := Option.some.inj h; clear h; obtain ⟨at_, et, xt⟩ := Kd.at_int HR3.out jx c5.1 c5.2; subst et; have XT : Aside0 (∀ W, Below w.heap.size w W → W.cell? (at_.add jx.toNat) = some (.int .i64 (rd l0_3 jx))) := ⟨fun W hW => (hW.cell (World.block_lt_of_cell? w _ xt)).trans xt⟩; clear xt; have p4 := eq_true c5.1; have p5 := eq_true c5.2; clear c5
  go_enter Try.func41, Try.ntmps41; go_upto_region 9 with (first | ((with_reducible refine gate_dst (N := 3) rfl ?_); refine bx_ 3 #[.int .i64 a0_0, .int .i64 a0_1, .slice A0_2 l0_2.length c0_2, .slice (some at_) l0_3.length c0_3, .slice A0_4 l0_4.length c0_4, .slice (some ad) l0_5.length c0_5, .slice A0_6 l0_6.length c0_6, .slice A0_7 l0_7.length c0_7, .slice A0_8 l0_8.length c0_8, .slice A0_9 l0_9.length c0_9, .int .i64 a0_10] 35 ?_; intro g3 hg w1 hbox hb; have B3 := am hbox; replace HB := h9_ HB hb; clear hb hbox hg; obtain ⟨z0, z1, z2, z3, z4, z5, z6, z7, z8, z9, z10, zf0, zf1, zf2, zf3, zf4, zf5, zf6, zf7, zf8, zf9, zf10⟩ := cz11_ B3.out; have xi := XX.out _ HB.out; have y3 := Y3.out _ HB.out) | (go_at_call 57; (with_reducible refine (spec_NodeCount.calls a0_0 a0_1 t _ E1.out).mono ?_); rintro e w2 ⟨rfl, hb⟩; replace B3 := kb_ B3 hb; replace HB := h9_ HB hb; clear hb z0 z1 z2 z3 z4 z5 z6 z7 z8 z9 z10 zf0 zf1 zf2 zf3 zf4 zf5 zf6 zf7 zf8 zf9 zf10 xi y3; obtain ⟨z0, z1, z2, z3, z4, z5, z6, z7, z8, z9, z10, zf0, zf1, zf2, zf3, zf4, zf5, zf6, zf7, zf8, zf9, zf10⟩ := cz11_ B3.out)); have y1 := Y1.out _ (bb_ HB.out); have xt := XT.out _ (bb_ HB.out); have hjw : IntKind.i64.wrap (wrap64 (a1 * t) + f.f1) = jx := (i64_w _).trans hjx.symm; have hjv : IntKind.i64.wrap (IntKind.i64.wrap (a1 * t) + f.f1) = jx := (by rw [i64_w, i64_w]; exact hjx.symm); clear hjx
  go_region_held3 (fun w' => w'.cell? ⟨g3, 3, none⟩ = some (.slice (some at_) l0_3.length c0_3) ∧ w'.cell? ⟨ah.block, ah.off + 1, none⟩ = some (.int .i64 f.f1) ∧ w'.cell? (at_.add jx.toNat) = some (.int .i64 (rd l0_3 jx))) (exact ⟨z3, y1, xt⟩) (fail)
  go_wp2; go_ret; exact ⟨rfl, bb_ HB.out⟩
 rw [if_neg c3] at h; rw [Bool.eq_false_iff.2 c3] at Y3; clear c3; have H0 := am h; clear h
 go_enter Try.func41, Try.ntmps41; go_wp2_with (first | ((with_reducible refine gate_dst (N := 3) rfl ?_); refine bx_ 3 #[.int .i64 a0_0, .int .i64 a0_1, .slice A0_2 l0_2.length c0_2, .slice A0_3 l0_3.length c0_3, .slice A0_4 l0_4.length c0_4, .slice (some ad) l0_5.length c0_5, .slice A0_6 l0_6.length c0_6, .slice A0_7 l0_7.length c0_7, .slice A0_8 l0_8.length c0_8, .slice A0_9 l0_9.length c0_9, .int .i64 a0_10] 35 ?_; intro g3 hg w1 hbox hb; have B3 := am hbox; replace HB := h9_ HB hb; clear hb hbox hg; obtain ⟨z0, z1, z2, z3, z4, z5, z6, z7, z8, z9, z10, zf0, zf1, zf2, zf3, zf4, zf5, zf6, zf7, zf8, zf9, zf10⟩ := cz11_ B3.out; have xi := XX.out _ HB.out; have y3 := Y3.out _ HB.out))
 clear xi y3 z0 z1 z2 z3 z4 z5 z6 z7 z8 z9 z10 zf0 zf1 zf2 zf3 zf4 zf5 zf6 zf7 zf8 zf9 zf10
 go_loopg [10] k (fun kq v10 w' => ∃ x : Int, v10 = .int .i64 x ∧ Aside0 (spec_l17Wanted.l0 kq l0_6 a1 a2 x = some r) ∧ Aside0 (kq ≤ k) ∧ Aside0 (w'.heap[g3]? = some (.cells #[.int .i64 a0_0, .int .i64 a0_1, .slice A0_2 l0_2.length c0_2, .slice A0_3 l0_3.length c0_3, .slice A0_4 l0_4.length c0_4, .slice (some ad) l0_5.length c0_5, .slice A0_6 l0_6.length c0_6, .slice A0_7 l0_7.length c0_7, .slice A0_8 l0_8.length c0_8, .slice A0_9 l0_9.length c0_9, .int .i64 a0_10] 35 (0, 0))) ∧ Aside0 (Below w.heap.size w w'))
 case atStart => exact ⟨0, rfl, H0, ⟨Nat.le_refl _⟩, ⟨bq_ B3.out⟩, ⟨bb_ HB.out⟩⟩
 clear H0 B3 HB; obtain ⟨x, rfl, HA, HK1, B3, HB⟩ := hrel; cases gk with
 | zero => exact absurd HA.out (by simp [spec_l17Wanted.l0])
 | succ k1 =>
  have h := HA.out; clear HA; simp only [spec_l17Wanted.l0] at h; by_cases c4 : x ≤ 4
  rotate_left
  ·rw [if_neg c4] at h; obtain rfl := Option.some.inj h; have c4d : decide (x ≤ 4) = false := decide_eq_false c4; clear c4 h; go_wp2; go_ret; exact ⟨rfl, bb_ HB.out⟩
  rw [if_pos c4] at h; have c4d : decide (x ≤ 4) = true := decide_eq_true c4; clear c4; obtain ⟨jx, hjx⟩ : ∃ y_, y_ = wrap64 (wrap64 (wrap64 (10 * a1) + wrap64 (2 * x)) + Int.tmod a2 2) := ⟨_, rfl⟩; rw [← hjx] at h; by_cases c5 : 0 ≤ jx ∧ jx < (l0_6.length : Int)
  rotate_left
  ·rw [if_neg c5] at h; cases h
  rw [if_pos c5] at h; obtain ⟨ao, eo, xo⟩ := Kd.at_int (Kd.C_below HR6.out HB.out) jx c5.1 c5.2; subst eo; have p4 := eq_true c5.1; have p5 := eq_true c5.2; clear c5; replace hjx := hjx.symm; obtain ⟨z0, z1, z2, z3, z4, z5, z6, z7, z8, z9, z10, zf0, zf1, zf2, zf3, zf4, zf5, zf6, zf7, zf8, zf9, zf10⟩ := cz11_ B3.out; by_cases c6 : rd l0_6 jx = wrap64 (Int.tdiv a2 2)
  ·rw [if_pos c6] at h; obtain rfl := Option.some.inj h; have c6d : (rd l0_6 jx == wrap64 (Int.tdiv a2 2)) = true := beq_iff_eq.mpr c6; clear c6 h; go_wp2; go_ret; exact ⟨rfl, bb_ HB.out⟩
  ·rw [if_neg c6] at h; have H0 := am h; have c6d : (rd l0_6 jx == wrap64 (Int.tdiv a2 2)) = false := beq_eq_false_iff_ne.mpr c6; clear c6 h; go_wp2; go_roundg k1
   case measure => have := HK1.out; omega
   case rel => exact ⟨_, rfl, H0, ⟨by have := HK1.out; omega⟩, ⟨bq_ B3.out⟩, ⟨bb_ HB.out⟩⟩
def spec_l17Room.f (k : Nat) (a0_0 : Int) (a0_1 : Int) (l0_2 : List Int) (l0_3 : List Int) (l0_4 : List Int) (l0_5 : List (List (S72))) (l0_6 : List Int) (l0_7 : List Int) (l0_8 : List (List (S72))) (l0_9 : List (List (S72))) (a0_10 : Int) (a1 : Int) (a2 : Int) (a3 : Int) : Option (Bool) := if a2 = 4 then (some true) else ((spec_l03Has.f k a0_0 a0_1 l0_2 (wrap64 ((wrap64 (4 * a1)) + a2))).bind fun t395 => (if t395 = true then ((spec_NextNode.f a0_0 a0_1 a1 a2).bind fun t396 => ((spec_Opposite.f a2).bind fun t397 => (if 0 ≤ (wrap64 ((wrap64 ((wrap64 (10 * t396)) + (wrap64 (2 * t397)))) + a3)) then (if (wrap64 ((wrap64 ((wrap64 (10 * t396)) + (wrap64 (2 * t397)))) + a3)) < (l0_5.length : Int) then (some (decide (((rd_L4 l0_5 (wrap64 ((wrap64 ((wrap64 (10 * t396)) + (wrap64 (2 * t397)))) + a3))).length : Int) < 3))) else (none)) else (none)))) else (some false)))
theorem spec_l17Room.calls (k : Nat) (a0_0 : Int) (a0_1 : Int) (A0_2 : Option Addr) (c0_2 : Nat) (l0_2 : List Int) (A0_3 : Option Addr) (c0_3 : Nat) (l0_3 : List Int) (A0_4 : Option Addr) (c0_4 : Nat) (l0_4 : List Int) (A0_5 : Option Addr) (c0_5 : Nat) (l0_5 : List (List (S72))) (A0_6 : Option Addr) (c0_6 : Nat) (l0_6 : List Int) (A0_7 : Option Addr) (c0_7 : Nat) (l0_7 : List Int) (A0_8 : Option Addr) (c0_8 : Nat) (l0_8 : List (List (S72))) (A0_9 : Option Addr) (c0_9 : Nat) (l0_9 : List (List (S72))) (a0_10 : Int) (a1 : Int) (a2 : Int) (a3 : Int) (r : Bool) (w : World) (hr0_2 : Kd.C (Kd.int .i64) w A0_2 l0_2.length l0_2) (hc0_2 : l0_2.length ≤ c0_2) (hr0_3 : Kd.C (Kd.int .i64) w A0_3 l0_3.length l0_3) (hc0_3 : l0_3.length ≤ c0_3) (hr0_4 : Kd.C (Kd.int .i64) w A0_4 l0_4.length l0_4) (hc0_4 : l0_4.length ≤ c0_4) (hr0_5 : Kd.C (Kd.slice 72 k72) w A0_5 l0_5.length l0_5) (hc0_5 : l0_5.length ≤ c0_5) (hr0_6 : Kd.C (Kd.int .i64) w A0_6 l0_6.length l0_6) (hc0_6 : l0_6.length ≤ c0_6) (hr0_7 : Kd.C (Kd.int .i64) w A0_7 l0_7.length l0_7) (hc0_7 : l0_7.length ≤ c0_7) (hr0_8 : Kd.C (Kd.slice 72 k72) w A0_8 l0_8.length l0_8) (hc0_8 : l0_8.length ≤ c0_8) (hr0_9 : Kd.C (Kd.slice 72 k72) w A0_9 l0_9.length l0_9) (hc0_9 : l0_9.length ≤ c0_9) (h : spec_l17Room.f k a0_0 a0_1 l0_2 l0_3 l0_4 l0_5 l0_6 l0_7 l0_8 l0_9 a0_10 a1 a2 a3 = some r) :
  Calls Try.prog 42 #[.agg #[.int .i64 a0_0, .int .i64 a0_1, .slice A0_2 l0_2.length c0_2, .slice A0_3 l0_3.length c0_3, .slice A0_4 l0_4.length c0_4, .slice A0_5 l0_5.length c0_5, .slice A0_6 l0_6.length c0_6, .slice A0_7 l0_7.length c0_7, .slice A0_8 l0_8.length c0_8, .slice A0_9 l0_9.length c0_9, .int .i64 a0_10], .int .i64 a1, .int .i64 a2, .int .i64 a3] w fun e w' => e = .returned (.bool r) ∧ Below w.heap.size w w' := by
 have hu35 := Try.underlying35
 have hu28 := Try.underlying28
 have hu25 := Try.underlying25
 obtain ⟨HR0_2, HC0_2, HR0_3, HC0_3, HR0_4, HC0_4, HR0_5, HC0_5, HR0_6, HC0_6, HR0_7, HC0_7, HR0_8, HC0_8, HR0_9, HC0_9⟩ := a16_ hr0_2 hc0_2 hr0_3 hc0_3 hr0_4 hc0_4 hr0_5 hc0_5 hr0_6 hc0_6 hr0_7 hc0_7 hr0_8 hc0_8 hr0_9 hc0_9; clear hr0_2 hc0_2 hr0_3 hc0_3 hr0_4 hc0_4 hr0_5 hc0_5 hr0_6 hc0_6 hr0_7 hc0_7 hr0_8 hc0_8 hr0_9 hc0_9
 have HB := am (Below.refl w.heap.size w)
 have H : (if a2 = 4 then (some true) else ((spec_l03Has.f k a0_0 a0_1 l0_2 (wrap64 ((wrap64 (4 * a1)) + a2))).bind fun t395 => (if t395 = true then ((spec_NextNode.f a0_0 a0_1 a1 a2).bind fun t396 => ((spec_Opposite.f a2).bind fun t397 => (if 0 ≤ (wrap64 ((wrap64 ((wrap64 (10 * t396)) + (wrap64 (2 * t397)))) + a3)) then (if (wrap64 ((wrap64 ((wrap64 (10 * t396)) + (wrap64 (2 * t397)))) + a3)) < (l0_5.length : Int) then (some (decide (((rd_L4 l0_5 (wrap64 ((wrap64 ((wrap64 (10 * t396)) + (wrap64 (2 * t397)))) + a3))).length : Int) < 3))) else (none)) else (none)))) else (some false)))) = some r := h
 clear h
 by_cases c5 : a2 = 4
 ·rw [if_pos c5] at H
  have c5b0 : (a2 == 4) = true := beq_iff_eq.mpr c5
  have c5b1 : (a2 != 4) = false := bne_eq_false_iff_eq.mpr c5
  clear c5
  obtain rfl := Option.some.inj H
  go_enter Try.func42, Try.ntmps42
  go_wp2_with (first | ((with_reducible refine gate_dst (N := 4) rfl ?_); refine bx_ 4 #[.int .i64 a0_0, .int .i64 a0_1, .slice A0_2 l0_2.length c0_2, .slice A0_3 l0_3.length c0_3, .slice A0_4 l0_4.length c0_4, .slice A0_5 l0_5.length c0_5, .slice A0_6 l0_6.length c0_6, .slice A0_7 l0_7.length c0_7, .slice A0_8 l0_8.length c0_8, .slice A0_9 l0_9.length c0_9, .int .i64 a0_10] 35 ?_; intro gb394 hg w6 hbox hb; have BK394 := am (hbox); have GW394 := gw_ hg HB; replace HB := h9_ HB hb; clear hb hbox hg))
  repeat (go_quiet (first | ((with_reducible refine gate_dst (N := 4) rfl ?_); refine bx_ 4 #[.int .i64 a0_0, .int .i64 a0_1, .slice A0_2 l0_2.length c0_2, .slice A0_3 l0_3.length c0_3, .slice A0_4 l0_4.length c0_4, .slice A0_5 l0_5.length c0_5, .slice A0_6 l0_6.length c0_6, .slice A0_7 l0_7.length c0_7, .slice A0_8 l0_8.length c0_8, .slice A0_9 l0_9.length c0_9, .int .i64 a0_10] 35 ?_; intro gb394 hg w6 hbox hb; have BK394 := am (hbox); have GW394 := gw_ hg HB; replace HB := h9_ HB hb; clear hb hbox hg)); try go_wp2_with (first | ((with_reducible refine gate_dst (N := 4) rfl ?_); refine bx_ 4 #[.int .i64 a0_0, .int .i64 a0_1, .slice A0_2 l0_2.length c0_2, .slice A0_3 l0_3.length c0_3, .slice A0_4 l0_4.length c0_4, .slice A0_5 l0_5.length c0_5, .slice A0_6 l0_6.length c0_6, .slice A0_7 l0_7.length c0_7, .slice A0_8 l0_8.length c0_8, .slice A0_9 l0_9.length c0_9, .int .i64 a0_10] 35 ?_; intro gb394 hg w6 hbox hb; have BK394 := am (hbox); have GW394 := gw_ hg HB; replace HB := h9_ HB hb; clear hb hbox hg)))
  go_ret
  exact ⟨fin_, bb_ HB.out⟩
 ·rw [if_neg c5] at H
  have c5b0 : (a2 == 4) = false := beq_eq_false_iff_ne.mpr c5
  have c5b1 : (a2 != 4) = true := bne_iff_ne.mpr c5
  obtain ⟨t395, A7, H⟩ := bi_ H
  by_cases c8 : t395 = true
  ·subst c8
   rw [if_pos rfl] at H
   obtain ⟨t396, A9, H⟩ := bi_ H
   obtain ⟨t397, A10, H⟩ := bi_ H
   obtain ⟨ji11, hji11⟩ : ∃ j_ : Int, (wrap64 ((wrap64 ((wrap64 (10 * t396)) + (wrap64 (2 * t397)))) + a3)) = j_ := ⟨_, rfl⟩
   replace H : (if 0 ≤ (ji11) then (if (ji11) < (l0_5.length : Int) then (some (decide (((rd_L4 l0_5 (ji11)).length : Int) < 3))) else (none)) else (none)) = some r := by first | (rw [hji11] at H; exact H) | (simp only [hji11] at H ⊢; exact H)
   (try rw [hji11] at A7)
   (try rw [hji11] at A9)
   (try rw [hji11] at A10)
   have hji11w : (IntKind.i64.wrap ((wrap64 ((wrap64 (10 * t396)) + (wrap64 (2 * t397)))) + a3)) = ji11 := (i64_w _).trans hji11
   by_cases c12 : 0 ≤ (ji11)
   rotate_left
   ·rw [if_neg c12] at H
    exact absurd H (by simp)
   rw [if_pos c12] at H
   have c12b0 : decide (0 ≤ (ji11)) = true := decide_eq_true c12
   clear c12
   by_cases c13 : (ji11) < (l0_5.length : Int)
   rotate_left
   ·rw [if_neg c13] at H
    exact absurd H (by simp)
   rw [if_pos c13] at H
   have c13b0 : decide ((ji11) < (l0_5.length : Int)) = true := decide_eq_true c13
   clear c13
   obtain rfl := Option.some.inj H
   go_enter Try.func42, Try.ntmps42
   go_wp2_with (first | ((with_reducible refine gate_dst (N := 4) rfl ?_); refine bx_ 4 #[.int .i64 a0_0, .int .i64 a0_1, .slice A0_2 l0_2.length c0_2, .slice A0_3 l0_3.length c0_3, .slice A0_4 l0_4.length c0_4, .slice A0_5 l0_5.length c0_5, .slice A0_6 l0_6.length c0_6, .slice A0_7 l0_7.length c0_7, .slice A0_8 l0_8.length c0_8, .slice A0_9 l0_9.length c0_9, .int .i64 a0_10] 35 ?_; intro gb394 hg w14 hbox hb; have BK394 := am (hbox); have GW394 := gw_ hg HB; replace HB := h9_ HB hb; clear hb hbox hg; obtain ⟨hcz15_0, hcz15_1, hcz15_2, hcz15_3, hcz15_4, hcz15_5, hcz15_6, hcz15_7, hcz15_8, hcz15_9, hcz15_10, hfz15_0, hfz15_1, hfz15_2, hfz15_3, hfz15_4, hfz15_5, hfz15_6, hfz15_7, hfz15_8, hfz15_9, hfz15_10⟩ := cz11_ BK394.out) | (go_at_call 69; (with_reducible refine (spec_l03Has.calls k a0_0 a0_1 _ _ l0_2 (wrap64 ((wrap64 (4 * a1)) + a2)) true _ ?side1 HC0_2.out A7.out).mono ?_); (case side1 => exact cb_ HR0_2.out HB.out); rintro e w16 ⟨rfl, hb⟩; replace BK394 := kb_ BK394 hb; replace HB := h9_ HB hb; (try clear hb); obtain ⟨hcz17_0, hcz17_1, hcz17_2, hcz17_3, hcz17_4, hcz17_5, hcz17_6, hcz17_7, hcz17_8, hcz17_9, hcz17_10, hfz17_0, hfz17_1, hfz17_2, hfz17_3, hfz17_4, hfz17_5, hfz17_6, hfz17_7, hfz17_8, hfz17_9, hfz17_10⟩ := cz11_ BK394.out) | (go_at_call 70; (with_reducible refine (spec_NextNode.calls a0_0 a0_1 a1 a2 t396 _ A9.out).mono ?_); rintro e w18 ⟨rfl, hb⟩; replace BK394 := kb_ BK394 hb; replace HB := h9_ HB hb; (try clear hb); obtain ⟨hcz19_0, hcz19_1, hcz19_2, hcz19_3, hcz19_4, hcz19_5, hcz19_6, hcz19_7, hcz19_8, hcz19_9, hcz19_10, hfz19_0, hfz19_1, hfz19_2, hfz19_3, hfz19_4, hfz19_5, hfz19_6, hfz19_7, hfz19_8, hfz19_9, hfz19_10⟩ := cz11_ BK394.out; have p398 : 0 ≤ ((ji11) : Int) := of_decide_eq_true dg_; have q398 : (ji11) < (l0_5.length : Int) := of_decide_eq_true dg_; obtain ⟨ad398, A398_0, c398_0, e398, hx398_0, hl398_0, hi398_0⟩ := at_L4 HR0_5.out (ji11) p398 q398; cases e398; replace hx398_0 := hc_ HB hx398_0; have HR398_0 := am hi398_0; have HC398_0 := am hl398_0; clear hi398_0 hl398_0; replace p398 := eq_true p398; replace q398 := eq_true q398) | (go_at_call 71; (with_reducible refine (spec_Opposite.calls a2 t397 _ A10.out).mono ?_); rintro e w' ⟨rfl, ⟨nd, rfl⟩⟩; (try first | exact ⟨rfl, _, World.drewN_drewN _ _ _⟩ | exact ⟨rfl, _, Eq.trans (World.drewN_drewN _ _ _) (congrArg (World.drewN _) (Nat.add_assoc _ _ _))⟩)))
   repeat (go_quiet (first | ((with_reducible refine gate_dst (N := 4) rfl ?_); refine bx_ 4 #[.int .i64 a0_0, .int .i64 a0_1, .slice A0_2 l0_2.length c0_2, .slice A0_3 l0_3.length c0_3, .slice A0_4 l0_4.length c0_4, .slice A0_5 l0_5.length c0_5, .slice A0_6 l0_6.length c0_6, .slice A0_7 l0_7.length c0_7, .slice A0_8 l0_8.length c0_8, .slice A0_9 l0_9.length c0_9, .int .i64 a0_10] 35 ?_; intro gb394 hg w14 hbox hb; have BK394 := am (hbox); have GW394 := gw_ hg HB; replace HB := h9_ HB hb; clear hb hbox hg; obtain ⟨hcz15_0, hcz15_1, hcz15_2, hcz15_3, hcz15_4, hcz15_5, hcz15_6, hcz15_7, hcz15_8, hcz15_9, hcz15_10, hfz15_0, hfz15_1, hfz15_2, hfz15_3, hfz15_4, hfz15_5, hfz15_6, hfz15_7, hfz15_8, hfz15_9, hfz15_10⟩ := cz11_ BK394.out) | (go_at_call 69; (with_reducible refine (spec_l03Has.calls k a0_0 a0_1 _ _ l0_2 (wrap64 ((wrap64 (4 * a1)) + a2)) true _ ?side1 HC0_2.out A7.out).mono ?_); (case side1 => exact cb_ HR0_2.out HB.out); rintro e w16 ⟨rfl, hb⟩; replace BK394 := kb_ BK394 hb; replace HB := h9_ HB hb; (try clear hb); obtain ⟨hcz17_0, hcz17_1, hcz17_2, hcz17_3, hcz17_4, hcz17_5, hcz17_6, hcz17_7, hcz17_8, hcz17_9, hcz17_10, hfz17_0, hfz17_1, hfz17_2, hfz17_3, hfz17_4, hfz17_5, hfz17_6, hfz17_7, hfz17_8, hfz17_9, hfz17_10⟩ := cz11_ BK394.out) | (go_at_call 70; (with_reducible refine (spec_NextNode.calls a0_0 a0_1 a1 a2 t396 _ A9.out).mono ?_); rintro e w18 ⟨rfl, hb⟩; replace BK394 := kb_ BK394 hb; replace HB := h9_ HB hb; (try clear hb); obtain ⟨hcz19_0, hcz19_1, hcz19_2, hcz19_3, hcz19_4, hcz19_5, hcz19_6, hcz19_7, hcz19_8, hcz19_9, hcz19_10, hfz19_0, hfz19_1, hfz19_2, hfz19_3, hfz19_4, hfz19_5, hfz19_6, hfz19_7, hfz19_8, hfz19_9, hfz19_10⟩ := cz11_ BK394.out; have p398 : 0 ≤ ((ji11) : Int) := of_decide_eq_true dg_; have q398 : (ji11) < (l0_5.length : Int) := of_decide_eq_true dg_; obtain ⟨ad398, A398_0, c398_0, e398, hx398_0, hl398_0, hi398_0⟩ := at_L4 HR0_5.out (ji11) p398 q398; cases e398; replace hx398_0 := hc_ HB hx398_0; have HR398_0 := am hi398_0; have HC398_0 := am hl398_0; clear hi398_0 hl398_0; replace p398 := eq_true p398; replace q398 := eq_true q398) | (go_at_call 71; (with_reducible refine (spec_Opposite.calls a2 t397 _ A10.out).mono ?_); rintro e w' ⟨rfl, ⟨nd, rfl⟩⟩; (try first | exact ⟨rfl, _, World.drewN_drewN _ _ _⟩ | exact ⟨rfl, _, Eq.trans (World.drewN_drewN _ _ _) (congrArg (World.drewN _) (Nat.add_assoc _ _ _))⟩))); try go_wp2_with (first | ((with_reducible refine gate_dst (N := 4) rfl ?_); refine bx_ 4 #[.int .i64 a0_0, .int .i64 a0_1, .slice A0_2 l0_2.length c0_2, .slice A0_3 l0_3.length c0_3, .slice A0_4 l0_4.length c0_4, .slice A0_5 l0_5.length c0_5, .slice A0_6 l0_6.length c0_6, .slice A0_7 l0_7.length c0_7, .slice A0_8 l0_8.length c0_8, .slice A0_9 l0_9.length c0_9, .int .i64 a0_10] 35 ?_; intro gb394 hg w14 hbox hb; have BK394 := am (hbox); have GW394 := gw_ hg HB; replace HB := h9_ HB hb; clear hb hbox hg; obtain ⟨hcz15_0, hcz15_1, hcz15_2, hcz15_3, hcz15_4, hcz15_5, hcz15_6, hcz15_7, hcz15_8, hcz15_9, hcz15_10, hfz15_0, hfz15_1, hfz15_2, hfz15_3, hfz15_4, hfz15_5, hfz15_6, hfz15_7, hfz15_8, hfz15_9, hfz15_10⟩ := cz11_ BK394.out) | (go_at_call 69; (with_reducible refine (spec_l03Has.calls k a0_0 a0_1 _ _ l0_2 (wrap64 ((wrap64 (4 * a1)) + a2)) true _ ?side1 HC0_2.out A7.out).mono ?_); (case side1 => exact cb_ HR0_2.out HB.out); rintro e w16 ⟨rfl, hb⟩; replace BK394 := kb_ BK394 hb; replace HB := h9_ HB hb; (try clear hb); obtain ⟨hcz17_0, hcz17_1, hcz17_2, hcz17_3, hcz17_4, hcz17_5, hcz17_6, hcz17_7, hcz17_8, hcz17_9, hcz17_10, hfz17_0, hfz17_1, hfz17_2, hfz17_3, hfz17_4, hfz17_5, hfz17_6, hfz17_7, hfz17_8, hfz17_9, hfz17_10⟩ := cz11_ BK394.out) | (go_at_call 70; (with_reducible refine (spec_NextNode.calls a0_0 a0_1 a1 a2 t396 _ A9.out).mono ?_); rintro e w18 ⟨rfl, hb⟩; replace BK394 := kb_ BK394 hb; replace HB := h9_ HB hb; (try clear hb); obtain ⟨hcz19_0, hcz19_1, hcz19_2, hcz19_3, hcz19_4, hcz19_5, hcz19_6, hcz19_7, hcz19_8, hcz19_9, hcz19_10, hfz19_0, hfz19_1, hfz19_2, hfz19_3, hfz19_4, hfz19_5, hfz19_6, hfz19_7, hfz19_8, hfz19_9, hfz19_10⟩ := cz11_ BK394.out; have p398 : 0 ≤ ((ji11) : Int) := of_decide_eq_true dg_; have q398 : (ji11) < (l0_5.length : Int) := of_decide_eq_true dg_; obtain ⟨ad398, A398_0, c398_0, e398, hx398_0, hl398_0, hi398_0⟩ := at_L4 HR0_5.out (ji11) p398 q398; cases e398; replace hx398_0 := hc_ HB hx398_0; have HR398_0 := am hi398_0; have HC398_0 := am hl398_0; clear hi398_0 hl398_0; replace p398 := eq_true p398; replace q398 := eq_true q398) | (go_at_call 71; (with_reducible refine (spec_Opposite.calls a2 t397 _ A10.out).mono ?_); rintro e w' ⟨rfl, ⟨nd, rfl⟩⟩; (try first | exact ⟨rfl, _, World.drewN_drewN _ _ _⟩ | exact ⟨rfl, _, Eq.trans (World.drewN_drewN _ _ _) (congrArg (World.drewN _) (Nat.add_assoc _ _ _))⟩))))
   go_ret
   exact ⟨by first | rfl | (simp [errW_none, errW_some] <;> rfl) | (simp only [← hji11]; first | rfl | (simp [errW_none, errW_some] <;> rfl)) | (simp [*, errW_none, errW_some] <;> rfl), bb_ HB.out⟩
  ·replace c8 := Bool.eq_false_iff.mpr c8
   subst c8
   rw [if_neg (show ¬ (false = true) by decide)] at H
   obtain rfl := Option.some.inj H
   go_enter Try.func42, Try.ntmps42
   go_wp2_with (first | ((with_reducible refine gate_dst (N := 4) rfl ?_); refine bx_ 4 #[.int .i64 a0_0, .int .i64 a0_1, .slice A0_2 l0_2.length c0_2, .slice A0_3 l0_3.length c0_3, .slice A0_4 l0_4.length c0_4, .slice A0_5 l0_5.length c0_5, .slice A0_6 l0_6.length c0_6, .slice A0_7 l0_7.length c0_7, .slice A0_8 l0_8.length c0_8, .slice A0_9 l0_9.length c0_9, .int .i64 a0_10] 35 ?_; intro gb394 hg w20 hbox hb; have BK394 := am (hbox); have GW394 := gw_ hg HB; replace HB := h9_ HB hb; clear hb hbox hg; obtain ⟨hcz21_0, hcz21_1, hcz21_2, hcz21_3, hcz21_4, hcz21_5, hcz21_6, hcz21_7, hcz21_8, hcz21_9, hcz21_10, hfz21_0, hfz21_1, hfz21_2, hfz21_3, hfz21_4, hfz21_5, hfz21_6, hfz21_7, hfz21_8, hfz21_9, hfz21_10⟩ := cz11_ BK394.out) | (go_at_call 69; (with_reducible refine (spec_l03Has.calls k a0_0 a0_1 _ _ l0_2 (wrap64 ((wrap64 (4 * a1)) + a2)) false _ ?side1 HC0_2.out A7.out).mono ?_); (case side1 => exact cb_ HR0_2.out HB.out); rintro e w22 ⟨rfl, hb⟩; replace BK394 := kb_ BK394 hb; replace HB := h9_ HB hb; (try clear hb)))
   repeat (go_quiet (first | ((with_reducible refine gate_dst (N := 4) rfl ?_); refine bx_ 4 #[.int .i64 a0_0, .int .i64 a0_1, .slice A0_2 l0_2.length c0_2, .slice A0_3 l0_3.length c0_3, .slice A0_4 l0_4.length c0_4, .slice A0_5 l0_5.length c0_5, .slice A0_6 l0_6.length c0_6, .slice A0_7 l0_7.length c0_7, .slice A0_8 l0_8.length c0_8, .slice A0_9 l0_9.length c0_9, .int .i64 a0_10] 35 ?_; intro gb394 hg w20 hbox hb; have BK394 := am (hbox); have GW394 := gw_ hg HB; replace HB := h9_ HB hb; clear hb hbox hg; obtain ⟨hcz21_0, hcz21_1, hcz21_2, hcz21_3, hcz21_4, hcz21_5, hcz21_6, hcz21_7, hcz21_8, hcz21_9, hcz21_10, hfz21_0, hfz21_1, hfz21_2, hfz21_3, hfz21_4, hfz21_5, hfz21_6, hfz21_7, hfz21_8, hfz21_9, hfz21_10⟩ := cz11_ BK394.out) | (go_at_call 69; (with_reducible refine (spec_l03Has.calls k a0_0 a0_1 _ _ l0_2 (wrap64 ((wrap64 (4 * a1)) + a2)) false _ ?side1 HC0_2.out A7.out).mono ?_); (case side1 => exact cb_ HR0_2.out HB.out); rintro e w22 ⟨rfl, hb⟩; replace BK394 := kb_ BK394 hb; replace HB := h9_ HB hb; (try clear hb))); try go_wp2_with (first | ((with_reducible refine gate_dst (N := 4) rfl ?_); refine bx_ 4 #[.int .i64 a0_0, .int .i64 a0_1, .slice A0_2 l0_2.length c0_2, .slice A0_3 l0_3.length c0_3, .slice A0_4 l0_4.length c0_4, .slice A0_5 l0_5.length c0_5, .slice A0_6 l0_6.length c0_6, .slice A0_7 l0_7.length c0_7, .slice A0_8 l0_8.length c0_8, .slice A0_9 l0_9.length c0_9, .int .i64 a0_10] 35 ?_; intro gb394 hg w20 hbox hb; have BK394 := am (hbox); have GW394 := gw_ hg HB; replace HB := h9_ HB hb; clear hb hbox hg; obtain ⟨hcz21_0, hcz21_1, hcz21_2, hcz21_3, hcz21_4, hcz21_5, hcz21_6, hcz21_7, hcz21_8, hcz21_9, hcz21_10, hfz21_0, hfz21_1, hfz21_2, hfz21_3, hfz21_4, hfz21_5, hfz21_6, hfz21_7, hfz21_8, hfz21_9, hfz21_10⟩ := cz11_ BK394.out) | (go_at_call 69; (with_reducible refine (spec_l03Has.calls k a0_0 a0_1 _ _ l0_2 (wrap64 ((wrap64 (4 * a1)) + a2)) false _ ?side1 HC0_2.out A7.out).mono ?_); (case side1 => exact cb_ HR0_2.out HB.out); rintro e w22 ⟨rfl, hb⟩; replace BK394 := kb_ BK394 hb; replace HB := h9_ HB hb; (try clear hb))))
   go_ret
   exact ⟨fin_, bb_ HB.out⟩
def spec_l17Request.j0 : Nat → Int → Int → Int → Int → Bool → Int → Int → List Int → List Int → List Int → List (List (S72)) → List Int → List Int → List (List (S72)) → List (List (S72)) → Int → Option (Bool)
 | 0, _, _, _, _, _, _, _, _, _, _, _, _, _, _, _, _ => none
 | k + 1, x1, x2, x3, x9, x26, x400000, x400001, x400002, x400003, x400004, x400005, x400006, x400007, x400008, x400009, x400010 => if x26 = true then (some false) else (if 0 ≤ (wrap64 ((wrap64 ((wrap64 (10 * x1)) + (wrap64 (2 * x3)))) + x9)) then (if (wrap64 ((wrap64 ((wrap64 (10 * x1)) + (wrap64 (2 * x3)))) + x9)) < (x400006.length : Int) then (if 0 ≤ (wrap64 ((wrap64 (10 * x1)) + x2)) then (if (wrap64 ((wrap64 (10 * x1)) + x2)) < (x400005.length : Int) then (if 0 < ((rd_L4 x400005 (wrap64 ((wrap64 (10 * x1)) + x2))).length : Int) then (if (rd_T72 (rd_L4 x400005 (wrap64 ((wrap64 (10 * x1)) + x2))) 0).f3 = true then (some ((rd x400006 (wrap64 ((wrap64 ((wrap64 (10 * x1)) + (wrap64 (2 * x3)))) + x9))) == (-1))) else (some ((rd x400006 (wrap64 ((wrap64 ((wrap64 (10 * x1)) + (wrap64 (2 * x3)))) + x9))) == (wrap64 (Int.tdiv x2 2))))) else (none)) else (none)) else (none)) else (none)) else (none))
def spec_l17Request.f (k : Nat) (a0_0 : Int) (a0_1 : Int) (l0_2 : List Int) (l0_3 : List Int) (l0_4 : List Int) (l0_5 : List (List (S72))) (l0_6 : List Int) (l0_7 : List Int) (l0_8 : List (List (S72))) (l0_9 : List (List (S72))) (a0_10 : Int) (a1 : Int) (a2 : Int) (a3 : Int) : Option (Bool) := (spec_l17Wanted.f k a0_0 a0_1 l0_2 l0_3 l0_4 l0_5 l0_6 l0_7 l0_8 l0_9 a0_10 a1 a2).bind fun t400 => (if t400 = a3 then ((spec_l17Room.f k a0_0 a0_1 l0_2 l0_3 l0_4 l0_5 l0_6 l0_7 l0_8 l0_9 a0_10 a1 a3 (Int.tmod a2 2)).bind fun t401 => (spec_l17Request.j0 k a1 a2 a3 (Int.tmod a2 2) (!t401) a0_0 a0_1 l0_2 l0_3 l0_4 l0_5 l0_6 l0_7 l0_8 l0_9 a0_10)) else (spec_l17Request.j0 k a1 a2 a3 (Int.tmod a2 2) true a0_0 a0_1 l0_2 l0_3 l0_4 l0_5 l0_6 l0_7 l0_8 l0_9 a0_10))
theorem spec_l17Request.e0 {P : Prop} (h : P := by
 obtain ⟨hcz_0, hcz_1, hcz_2, hcz_3, hcz_4, hcz_5, hcz_6, hcz_7, hcz_8, hcz_9, hcz_10, hfz_0, hfz_1, hfz_2, hfz_3, hfz_4, hfz_5, hfz_6, hfz_7, hfz_8, hfz_9, hfz_10⟩ := cz11_ BK399.out
 have p402 : 0 ≤ ((ji17) : Int) := of_decide_eq_true dg_
 have q402 : (ji17) < (l0_6.length : Int) := of_decide_eq_true dg_
 obtain ⟨ad402, e402, hx402_0⟩ := Kd.at_int HR0_6.out (ji17) p402 q402
 cases e402
 replace hx402_0 := hc_ HB hx402_0
 replace p402 := eq_true p402
 replace q402 := eq_true q402
 have p403 : 0 ≤ ((ji20) : Int) := of_decide_eq_true dg_
 have q403 : (ji20) < (l0_5.length : Int) := of_decide_eq_true dg_
 obtain ⟨ad403, A403_0, c403_0, e403, hx403_0, hl403_0, hi403_0⟩ := at_L4 HR0_5.out (ji20) p403 q403
 cases e403
 replace hx403_0 := hc_ HB hx403_0
 have HR403_0 := am hi403_0
 have HC403_0 := am hl403_0
 clear hi403_0 hl403_0
 replace p403 := eq_true p403
 replace q403 := eq_true q403
 have p404 : 0 ≤ (0 : Int) := (by omega)
 have q404 : 0 < ((rd_L4 l0_5 (ji20)).length : Int) := of_decide_eq_true dg_
 obtain ⟨ad404, e404, hx404_0, hx404_1, hx404_2, hx404_3, hx404_4⟩ := at_T72 HR403_0.out 0 p404 q404
 (try rw [← Nbq24.out] at hx404_3)
 (try rw [← Nbq24.out] at hx404_4)
 cases e404
 have qi404 : (0 < (rd_L4 l0_5 (ji20)).length) = True := eq_true (by omega)
 (try rw [show ((0 : Int)).toNat = 0 from rfl] at hx404_0)
 (try rw [show 0 * 5 = 0 from rfl] at hx404_0)
 (try rw [Addr.add_zero'] at hx404_0)
 (try rw [show ((0 : Int)).toNat = 0 from rfl] at hx404_1)
 (try rw [show 0 * 5 = 0 from rfl] at hx404_1)
 (try rw [Addr.add_zero'] at hx404_1)
 (try rw [show ((0 : Int)).toNat = 0 from rfl] at hx404_2)
 (try rw [show 0 * 5 = 0 from rfl] at hx404_2)
 (try rw [Addr.add_zero'] at hx404_2)
 (try rw [show ((0 : Int)).toNat = 0 from rfl] at hx404_3)
 (try rw [show 0 * 5 = 0 from rfl] at hx404_3)
 (try rw [Addr.add_zero'] at hx404_3)
 (try rw [show ((0 : Int)).toNat = 0 from rfl] at hx404_4)
 (try rw [show 0 * 5 = 0 from rfl] at hx404_4)
 (try rw [Addr.add_zero'] at hx404_4)
 replace hx404_0 := hc_ HB hx404_0
 replace hx404_1 := hc_ HB hx404_1
 replace hx404_2 := hc_ HB hx404_2
 replace hx404_3 := hc_ HB hx404_3
 replace hx404_4 := hc_ HB hx404_4
 replace p404 := eq_true p404
 replace q404 := eq_true q404
 go_wp2
 go_ret
 exact ⟨by first | rfl | (simp [errW_none, errW_some] <;> rfl) | (simp only [← hji17, ← hji20]; first | rfl | (simp [errW_none, errW_some] <;> rfl)) | (simp [*, errW_none, errW_some] <;> rfl), bb_ HB.out⟩) : P := h
theorem spec_l17Request.calls (k : Nat) (a0_0 : Int) (a0_1 : Int) (A0_2 : Option Addr) (c0_2 : Nat) (l0_2 : List Int) (A0_3 : Option Addr) (c0_3 : Nat) (l0_3 : List Int) (A0_4 : Option Addr) (c0_4 : Nat) (l0_4 : List Int) (A0_5 : Option Addr) (c0_5 : Nat) (l0_5 : List (List (S72))) (A0_6 : Option Addr) (c0_6 : Nat) (l0_6 : List Int) (A0_7 : Option Addr) (c0_7 : Nat) (l0_7 : List Int) (A0_8 : Option Addr) (c0_8 : Nat) (l0_8 : List (List (S72))) (A0_9 : Option Addr) (c0_9 : Nat) (l0_9 : List (List (S72))) (a0_10 : Int) (a1 : Int) (a2 : Int) (a3 : Int) (r : Bool) (w : World) (hr0_2 : Kd.C (Kd.int .i64) w A0_2 l0_2.length l0_2) (hc0_2 : l0_2.length ≤ c0_2) (hr0_3 : Kd.C (Kd.int .i64) w A0_3 l0_3.length l0_3) (hc0_3 : l0_3.length ≤ c0_3) (hr0_4 : Kd.C (Kd.int .i64) w A0_4 l0_4.length l0_4) (hc0_4 : l0_4.length ≤ c0_4) (hr0_5 : Kd.C (Kd.slice 72 k72) w A0_5 l0_5.length l0_5) (hc0_5 : l0_5.length ≤ c0_5) (hr0_6 : Kd.C (Kd.int .i64) w A0_6 l0_6.length l0_6) (hc0_6 : l0_6.length ≤ c0_6) (hr0_7 : Kd.C (Kd.int .i64) w A0_7 l0_7.length l0_7) (hc0_7 : l0_7.length ≤ c0_7) (hr0_8 : Kd.C (Kd.slice 72 k72) w A0_8 l0_8.length l0_8) (hc0_8 : l0_8.length ≤ c0_8) (hr0_9 : Kd.C (Kd.slice 72 k72) w A0_9 l0_9.length l0_9) (hc0_9 : l0_9.length ≤ c0_9) (h : spec_l17Request.f k a0_0 a0_1 l0_2 l0_3 l0_4 l0_5 l0_6 l0_7 l0_8 l0_9 a0_10 a1 a2 a3 = some r) :
  Calls Try.prog 21 #[.agg #[.int .i64 a0_0, .int .i64 a0_1, .slice A0_2 l0_2.length c0_2, .slice A0_3 l0_3.length c0_3, .slice A0_4 l0_4.length c0_4, .slice A0_5 l0_5.length c0_5, .slice A0_6 l0_6.length c0_6, .slice A0_7 l0_7.length c0_7, .slice A0_8 l0_8.length c0_8, .slice A0_9 l0_9.length c0_9, .int .i64 a0_10], .int .i64 a1, .int .i64 a2, .int .i64 a3] w fun e w' => e = .returned (.bool r) ∧ Below w.heap.size w w' := by
 have hu35 := Try.underlying35
 obtain ⟨HR0_2, HC0_2, HR0_3, HC0_3, HR0_4, HC0_4, HR0_5, HC0_5, HR0_6, HC0_6, HR0_7, HC0_7, HR0_8, HC0_8, HR0_9, HC0_9⟩ := a16_ hr0_2 hc0_2 hr0_3 hc0_3 hr0_4 hc0_4 hr0_5 hc0_5 hr0_6 hc0_6 hr0_7 hc0_7 hr0_8 hc0_8 hr0_9 hc0_9; clear hr0_2 hc0_2 hr0_3 hc0_3 hr0_4 hc0_4 hr0_5 hc0_5 hr0_6 hc0_6 hr0_7 hc0_7 hr0_8 hc0_8 hr0_9 hc0_9
 have HB := am (Below.refl w.heap.size w)
 have H : ((spec_l17Wanted.f k a0_0 a0_1 l0_2 l0_3 l0_4 l0_5 l0_6 l0_7 l0_8 l0_9 a0_10 a1 a2).bind fun t400 => (if t400 = a3 then ((spec_l17Room.f k a0_0 a0_1 l0_2 l0_3 l0_4 l0_5 l0_6 l0_7 l0_8 l0_9 a0_10 a1 a3 (Int.tmod a2 2)).bind fun t401 => (spec_l17Request.j0 k a1 a2 a3 (Int.tmod a2 2) (!t401) a0_0 a0_1 l0_2 l0_3 l0_4 l0_5 l0_6 l0_7 l0_8 l0_9 a0_10)) else (spec_l17Request.j0 k a1 a2 a3 (Int.tmod a2 2) true a0_0 a0_1 l0_2 l0_3 l0_4 l0_5 l0_6 l0_7 l0_8 l0_9 a0_10))) = some r := h
 clear h
 have HC5 := am H
 clear H
 go_enter Try.func21, Try.ntmps21
 go_upto_region 2 with (first | ((with_reducible refine gate_dst (N := 4) rfl ?_); refine bx_ 4 #[.int .i64 a0_0, .int .i64 a0_1, .slice A0_2 l0_2.length c0_2, .slice A0_3 l0_3.length c0_3, .slice A0_4 l0_4.length c0_4, .slice A0_5 l0_5.length c0_5, .slice A0_6 l0_6.length c0_6, .slice A0_7 l0_7.length c0_7, .slice A0_8 l0_8.length c0_8, .slice A0_9 l0_9.length c0_9, .int .i64 a0_10] 35 ?_; intro gb399 hg w6 hbox hb; have BK399 := am (hbox); have GW399 := gw_ hg HB; replace HB := h9_ HB hb; clear hb hbox hg))
 (try simp only [Act.put, List.setIfInBounds_toArray, List.set_cons_zero, List.set_cons_succ])
 go_cut [26] (fun v26 wc => ∃ (kq : Nat) (x26_4 : Bool), v26 = .bool x26_4 ∧ Aside0 (spec_l17Request.j0 kq a1 a2 a3 (Int.tmod a2 2) x26_4 a0_0 a0_1 l0_2 l0_3 l0_4 l0_5 l0_6 l0_7 l0_8 l0_9 a0_10 = some r) ∧ Aside0 (kq ≤ k) ∧ Aside0 (wc.heap[gb399]? = some (.cells #[.int .i64 a0_0, .int .i64 a0_1, (.slice A0_2 l0_2.length c0_2), (.slice A0_3 l0_3.length c0_3), (.slice A0_4 l0_4.length c0_4), (.slice A0_5 l0_5.length c0_5), (.slice A0_6 l0_6.length c0_6), (.slice A0_7 l0_7.length c0_7), (.slice A0_8 l0_8.length c0_8), (.slice A0_9 l0_9.length c0_9), .int .i64 a0_10] 35 (0, 0))) ∧ Aside0 (Below w.heap.size w wc))
 case first =>
  have H := HC5.out
  clear HC5
  obtain ⟨t400, A7, H⟩ := bi_ H
  by_cases c8 : t400 = a3
  rotate_left
  ·rw [if_neg c8] at H
   have c8b0 : (t400 == a3) = false := beq_eq_false_iff_ne.mpr c8
   have c8b1 : (t400 != a3) = true := bne_iff_ne.mpr c8
   (first | rw [c8b0] | (simp only [i64_w, i32_w]; rw [c8b0]) | skip)
   have H' := am H
   clear H
   obtain ⟨hcz14_0, hcz14_1, hcz14_2, hcz14_3, hcz14_4, hcz14_5, hcz14_6, hcz14_7, hcz14_8, hcz14_9, hcz14_10, hfz14_0, hfz14_1, hfz14_2, hfz14_3, hfz14_4, hfz14_5, hfz14_6, hfz14_7, hfz14_8, hfz14_9, hfz14_10⟩ := cz11_ BK399.out
   go_wp2_with (first | ((with_reducible refine gate_callee (f := 41) rfl ?_); refine gm_ (some 16) Try.func41 #[.agg #[.int .i64 a0_0, .int .i64 a0_1, .slice A0_2 l0_2.length c0_2, .slice A0_3 l0_3.length c0_3, .slice A0_4 l0_4.length c0_4, .slice A0_5 l0_5.length c0_5, .slice A0_6 l0_6.length c0_6, .slice A0_7 l0_7.length c0_7, .slice A0_8 l0_8.length c0_8, .slice A0_9 l0_9.length c0_9, .int .i64 a0_10], .int .i64 a1, .int .i64 a2] rfl ?_; (with_reducible refine (spec_l17Wanted.calls k a0_0 a0_1 _ _ l0_2 _ _ l0_3 _ _ l0_4 _ _ l0_5 _ _ l0_6 _ _ l0_7 _ _ l0_8 _ _ l0_9 a0_10 a1 a2 t400 _ ?side1 HC0_2.out ?side3 HC0_3.out ?side5 HC0_4.out ?side7 HC0_5.out ?side9 HC0_6.out ?side11 HC0_7.out ?side13 HC0_8.out ?side15 HC0_9.out A7.out).mono ?_); (case side1 => exact cb_ HR0_2.out HB.out); (case side3 => exact cb_ HR0_3.out HB.out); (case side5 => exact cb_ HR0_4.out HB.out); (case side7 => exact cb_ HR0_5.out HB.out); (case side9 => exact cb_ HR0_6.out HB.out); (case side11 => exact cb_ HR0_7.out HB.out); (case side13 => exact cb_ HR0_8.out HB.out); (case side15 => exact cb_ HR0_9.out HB.out); rintro e w15 ⟨rfl, hb⟩; refine ⟨_, rfl, ?_⟩; replace BK399 := kb_ BK399 hb; replace HB := h9_ HB hb; (try clear hb)))
   go_meet
   case rel => exact ⟨_, (true), ef_, H', ⟨kq_⟩, ⟨bq_ BK399.out⟩, ⟨bb_ HB.out⟩⟩
  rw [if_pos c8] at H
  have c8b0 : (t400 == a3) = true := beq_iff_eq.mpr c8
  have c8b1 : (t400 != a3) = false := bne_eq_false_iff_eq.mpr c8
  clear c8
  (first | rw [c8b0] | (simp only [i64_w, i32_w]; rw [c8b0]) | skip)
  obtain ⟨t401, A9, H⟩ := bi_ H
  have H' := am H
  clear H
  obtain ⟨hcz10_0, hcz10_1, hcz10_2, hcz10_3, hcz10_4, hcz10_5, hcz10_6, hcz10_7, hcz10_8, hcz10_9, hcz10_10, hfz10_0, hfz10_1, hfz10_2, hfz10_3, hfz10_4, hfz10_5, hfz10_6, hfz10_7, hfz10_8, hfz10_9, hfz10_10⟩ := cz11_ BK399.out
  go_wp2_with (first | ((with_reducible refine gate_callee (f := 41) rfl ?_); refine gm_ (some 16) Try.func41 #[.agg #[.int .i64 a0_0, .int .i64 a0_1, .slice A0_2 l0_2.length c0_2, .slice A0_3 l0_3.length c0_3, .slice A0_4 l0_4.length c0_4, .slice A0_5 l0_5.length c0_5, .slice A0_6 l0_6.length c0_6, .slice A0_7 l0_7.length c0_7, .slice A0_8 l0_8.length c0_8, .slice A0_9 l0_9.length c0_9, .int .i64 a0_10], .int .i64 a1, .int .i64 a2] rfl ?_; (with_reducible refine (spec_l17Wanted.calls k a0_0 a0_1 _ _ l0_2 _ _ l0_3 _ _ l0_4 _ _ l0_5 _ _ l0_6 _ _ l0_7 _ _ l0_8 _ _ l0_9 a0_10 a1 a2 t400 _ ?side1 HC0_2.out ?side3 HC0_3.out ?side5 HC0_4.out ?side7 HC0_5.out ?side9 HC0_6.out ?side11 HC0_7.out ?side13 HC0_8.out ?side15 HC0_9.out A7.out).mono ?_); (case side1 => exact cb_ HR0_2.out HB.out); (case side3 => exact cb_ HR0_3.out HB.out); (case side5 => exact cb_ HR0_4.out HB.out); (case side7 => exact cb_ HR0_5.out HB.out); (case side9 => exact cb_ HR0_6.out HB.out); (case side11 => exact cb_ HR0_7.out HB.out); (case side13 => exact cb_ HR0_8.out HB.out); (case side15 => exact cb_ HR0_9.out HB.out); rintro e w11 ⟨rfl, hb⟩; refine ⟨_, rfl, ?_⟩; replace BK399 := kb_ BK399 hb; replace HB := h9_ HB hb; (try clear hb); obtain ⟨hcz12_0, hcz12_1, hcz12_2, hcz12_3, hcz12_4, hcz12_5, hcz12_6, hcz12_7, hcz12_8, hcz12_9, hcz12_10, hfz12_0, hfz12_1, hfz12_2, hfz12_3, hfz12_4, hfz12_5, hfz12_6, hfz12_7, hfz12_8, hfz12_9, hfz12_10⟩ := cz11_ BK399.out) | (go_at_call 42; (with_reducible refine (spec_l17Room.calls k a0_0 a0_1 _ _ l0_2 _ _ l0_3 _ _ l0_4 _ _ l0_5 _ _ l0_6 _ _ l0_7 _ _ l0_8 _ _ l0_9 a0_10 a1 a3 (Int.tmod a2 2) t401 _ ?side1 HC0_2.out ?side3 HC0_3.out ?side5 HC0_4.out ?side7 HC0_5.out ?side9 HC0_6.out ?side11 HC0_7.out ?side13 HC0_8.out ?side15 HC0_9.out A9.out).mono ?_); (case side1 => exact cb_ HR0_2.out HB.out); (case side3 => exact cb_ HR0_3.out HB.out); (case side5 => exact cb_ HR0_4.out HB.out); (case side7 => exact cb_ HR0_5.out HB.out); (case side9 => exact cb_ HR0_6.out HB.out); (case side11 => exact cb_ HR0_7.out HB.out); (case side13 => exact cb_ HR0_8.out HB.out); (case side15 => exact cb_ HR0_9.out HB.out); rintro e w13 ⟨rfl, hb⟩; replace BK399 := kb_ BK399 hb; replace HB := h9_ HB hb; (try clear hb)))
  go_meet
  case rel => exact ⟨_, (!t401), ef_, H', ⟨kq_⟩, ⟨bq_ BK399.out⟩, ⟨bb_ HB.out⟩⟩
 case rest =>
  clear HC5
  obtain ⟨kq, x26_4, rfl, HA, HJ4, BK399, HB⟩ := hcut
  cases kq with
  | zero => exact absurd HA.out (by simp [spec_l17Request.j0])
  | succ kj4 =>
   have H := HA.out
   clear HA
   simp only [spec_l17Request.j0] at H
   by_cases c16 : x26_4 = true
   ·subst c16
    rw [if_pos rfl] at H
    obtain rfl := Option.some.inj H
    go_wp2
    go_ret
    exact ⟨fin_, bb_ HB.out⟩
   ·replace c16 := Bool.eq_false_iff.mpr c16
    subst c16
    rw [if_neg (show ¬ (false = true) by decide)] at H
    obtain ⟨ji17, hji17⟩ : ∃ j_ : Int, (wrap64 ((wrap64 ((wrap64 (10 * a1)) + (wrap64 (2 * a3)))) + (Int.tmod a2 2))) = j_ := ⟨_, rfl⟩
    replace H : (if 0 ≤ (ji17) then (if (ji17) < (l0_6.length : Int) then (if 0 ≤ (wrap64 ((wrap64 (10 * a1)) + a2)) then (if (wrap64 ((wrap64 (10 * a1)) + a2)) < (l0_5.length : Int) then (if 0 < ((rd_L4 l0_5 (wrap64 ((wrap64 (10 * a1)) + a2))).length : Int) then (if (rd_T72 (rd_L4 l0_5 (wrap64 ((wrap64 (10 * a1)) + a2))) 0).f3 = true then (some ((rd l0_6 (ji17)) == (-1))) else (some ((rd l0_6 (ji17)) == (wrap64 (Int.tdiv a2 2))))) else (none)) else (none)) else (none)) else (none)) else (none)) = some r := by first | (rw [hji17] at H; exact H) | (simp only [hji17] at H ⊢; exact H)
    have hji17w : (IntKind.i64.wrap ((wrap64 ((wrap64 (10 * a1)) + (wrap64 (2 * a3)))) + (Int.tmod a2 2))) = ji17 := (i64_w _).trans hji17
    by_cases c18 : 0 ≤ (ji17)
    ·rw [if_pos c18] at H
     have c18b0 : decide (0 ≤ (ji17)) = true := decide_eq_true c18
     clear c18
     by_cases c19 : (ji17) < (l0_6.length : Int)
     rotate_left
     ·rw [if_neg c19] at H
      exact absurd H (by simp)
     rw [if_pos c19] at H
     have c19b0 : decide ((ji17) < (l0_6.length : Int)) = true := decide_eq_true c19
     clear c19
     obtain ⟨ji20, hji20⟩ : ∃ j_ : Int, (wrap64 ((wrap64 (10 * a1)) + a2)) = j_ := ⟨_, rfl⟩
     replace H : (if 0 ≤ (ji20) then (if (ji20) < (l0_5.length : Int) then (if 0 < ((rd_L4 l0_5 (ji20)).length : Int) then (if (rd_T72 (rd_L4 l0_5 (ji20)) 0).f3 = true then (some ((rd l0_6 (ji17)) == (-1))) else (some ((rd l0_6 (ji17)) == (wrap64 (Int.tdiv a2 2))))) else (none)) else (none)) else (none)) = some r := by first | (rw [hji20] at H; exact H) | (simp only [hji20] at H ⊢; exact H)
     have hji20w : (IntKind.i64.wrap ((wrap64 (10 * a1)) + a2)) = ji20 := (i64_w _).trans hji20
     by_cases c21 : 0 ≤ (ji20)
     rotate_left
     ·rw [if_neg c21] at H
      exact absurd H (by simp)
     rw [if_pos c21] at H
     have c21b0 : decide (0 ≤ (ji20)) = true := decide_eq_true c21
     clear c21
     by_cases c22 : (ji20) < (l0_5.length : Int)
     rotate_left
     ·rw [if_neg c22] at H
      exact absurd H (by simp)
     rw [if_pos c22] at H
     have c22b0 : decide ((ji20) < (l0_5.length : Int)) = true := decide_eq_true c22
     clear c22
     by_cases c23 : 0 < ((rd_L4 l0_5 (ji20)).length : Int)
     rotate_left
     ·rw [if_neg c23] at H
      exact absurd H (by simp)
     rw [if_pos c23] at H
     have c23b0 : decide (0 < ((rd_L4 l0_5 (ji20)).length : Int)) = true := decide_eq_true c23
     have c23b1 : decide (0 < (rd_L4 l0_5 (ji20)).length) = true := decide_eq_true (by omega)
     clear c23
     obtain ⟨bq24, hbq24⟩ : ∃ b_ : Bool, b_ = ((rd_T72 (rd_L4 l0_5 (ji20)) 0).f3) := ⟨_, rfl⟩
     replace H : (if bq24 = true then (some ((rd l0_6 (ji17)) == (-1))) else (some ((rd l0_6 (ji17)) == (wrap64 (Int.tdiv a2 2))))) = some r := by rw [← hbq24] at H; exact H
     have Nbq24 := am hbq24
     clear hbq24
     by_cases c25 : bq24 = true
     ·subst c25
      rw [if_pos rfl] at H
      obtain rfl := Option.some.inj H
      exact spec_l17Request.e0
     replace c25 := Bool.eq_false_iff.mpr c25
     subst c25
     rw [if_neg (show ¬ (false = true) by decide)] at H
     obtain rfl := Option.some.inj H
     exact spec_l17Request.e0
    ·rw [if_neg c18] at H
     exact absurd H (by simp)
end Go.Proofs.Yteiemoooelpdaaa.PFnCreditSum
-- thin
