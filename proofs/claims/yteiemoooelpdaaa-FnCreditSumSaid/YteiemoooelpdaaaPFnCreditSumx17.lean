
import Derived.Test.YteiemoooelpdaaaPFnCreditSumx0
import Derived.Test.YteiemoooelpdaaaPFnCreditSumx1
import Derived.Test.YteiemoooelpdaaaPFnCreditSumx2
import Derived.Test.YteiemoooelpdaaaPFnCreditSumx9
import Derived.Test.YteiemoooelpdaaaPFnCreditSumx11
import Derived.Test.YteiemoooelpdaaaPFnCreditSumx12
import Derived.Test.YteiemoooelpdaaaPFnCreditSumx16
namespace Go.Proofs.Yteiemoooelpdaaa.PFnCreditSum
open Go.RowKit Go.Proofs.YteiemoooelpdaaaW.PrintWords Go.Proofs.YteiemoooelpdaaaW.PrintLast Go.Proofs.YteiemoooelpdaaaW.PrintMore
attribute [local go_sem] max2_int min2_int max_two min_two max_three min_three max_four min_four
set_option linter.unusedVariables false
set_option maxHeartbeats 8000000
set_option maxRecDepth 100000
set_option linter.unusedSimpArgs false
def spec_l20Run.l0 : Nat → Int × Int × List Int × List Int × List Int × (List (List S72)) × List Int × List Int × (List (List S72)) × (List (List S72)) × Int → Int → Int → Option (Int × Int × List Int × List Int × List Int × (List (List S72)) × List Int × List Int × (List (List S72)) × (List (List S72)) × Int)
 | 0, _, _, _ => none
 | k + 1, n, s, i => if i < s then ((spec_l20Idle.f k n.1 n.2.1 n.2.2.1 n.2.2.2.1 n.2.2.2.2.1 n.2.2.2.2.2.1 n.2.2.2.2.2.2.1 n.2.2.2.2.2.2.2.1 n.2.2.2.2.2.2.2.2.1 n.2.2.2.2.2.2.2.2.2.1 n.2.2.2.2.2.2.2.2.2.2).bind fun b => if b = true then some (n.1, n.2.1, n.2.2.1, n.2.2.2.1, n.2.2.2.2.1, n.2.2.2.2.2.1, n.2.2.2.2.2.2.1, n.2.2.2.2.2.2.2.1, n.2.2.2.2.2.2.2.2.1, n.2.2.2.2.2.2.2.2.2.1, wrap64 (wrap64 (n.2.2.2.2.2.2.2.2.2.2 + s) - i)) else (spec_l19Step.f k n.1 n.2.1 n.2.2.1 n.2.2.2.1 n.2.2.2.2.1 n.2.2.2.2.2.1 n.2.2.2.2.2.2.1 n.2.2.2.2.2.2.2.1 n.2.2.2.2.2.2.2.2.1 n.2.2.2.2.2.2.2.2.2.1 n.2.2.2.2.2.2.2.2.2.2).bind fun m => spec_l20Run.l0 k m s (wrap64 (i + 1))) else some n
def spec_l20Run.f (k : Nat) (a0_0 : Int) (a0_1 : Int) (l0_2 : List Int) (l0_3 : List Int) (l0_4 : List Int) (l0_5 : List (List S72)) (l0_6 : List Int) (l0_7 : List Int) (l0_8 : List (List S72)) (l0_9 : List (List S72)) (a0_10 : Int) (s : Int) : Option (Int × Int × List Int × List Int × List Int × (List (List S72)) × List Int × List Int × (List (List S72)) × (List (List S72)) × Int) := spec_l20Run.l0 k (a0_0, a0_1, l0_2, l0_3, l0_4, l0_5, l0_6, l0_7, l0_8, l0_9, a0_10) s 0
set_option maxHeartbeats 4000000 in
theorem spec_l20Run.callsS (k : Nat) (B : Nat) (a0_0 : Int) (a0_1 : Int) (A0_2 : Option Addr) (c0_2 : Nat) (l0_2 : List Int) (A0_3 : Option Addr) (c0_3 : Nat) (l0_3 : List Int) (A0_4 : Option Addr) (c0_4 : Nat) (l0_4 : List Int) (A0_5 : Option Addr) (c0_5 : Nat) (l0_5 : List (List S72)) (A0_6 : Option Addr) (c0_6 : Nat) (l0_6 : List Int) (A0_7 : Option Addr) (c0_7 : Nat) (l0_7 : List Int) (A0_8 : Option Addr) (c0_8 : Nat) (l0_8 : List (List S72)) (A0_9 : Option Addr) (c0_9 : Nat) (l0_9 : List (List S72)) (a0_10 : Int) (s : Int) (r1 : Int) (r2 : Int) (r3 : List Int) (r4 : List Int) (r5 : List Int) (r6 : List (List S72)) (r7 : List Int) (r8 : List Int) (r9 : List (List S72)) (r10 : List (List S72)) (r11 : Int) (w : World) (hN : Std8 B w (.slice A0_2 l0_2.length c0_2) (.slice A0_3 l0_3.length c0_3) (.slice A0_4 l0_4.length c0_4) (.slice A0_5 l0_5.length c0_5) (.slice A0_6 l0_6.length c0_6) (.slice A0_7 l0_7.length c0_7) (.slice A0_8 l0_8.length c0_8) (.slice A0_9 l0_9.length c0_9) l0_2 l0_3 l0_4 l0_5 l0_6 l0_7 l0_8 l0_9) (hB : B ≤ w.heap.size) (h : spec_l20Run.f k a0_0 a0_1 l0_2 l0_3 l0_4 l0_5 l0_6 l0_7 l0_8 l0_9 a0_10 s = some (r1, r2, r3, r4, r5, r6, r7, r8, r9, r10, r11)) :
  Calls Try.prog 35 #[.agg #[.int .i64 a0_0, .int .i64 a0_1, .slice A0_2 l0_2.length c0_2, .slice A0_3 l0_3.length c0_3, .slice A0_4 l0_4.length c0_4, .slice A0_5 l0_5.length c0_5, .slice A0_6 l0_6.length c0_6, .slice A0_7 l0_7.length c0_7, .slice A0_8 l0_8.length c0_8, .slice A0_9 l0_9.length c0_9, .int .i64 a0_10], .int .i64 s] w fun e w' => ∃ v2_ v3_ v4_ v5_ v6_ v7_ v8_ v9_ : Value, e = .returned (.agg #[.int .i64 r1, .int .i64 r2, v2_, v3_, v4_, v5_, v6_, v7_, v8_, v9_, .int .i64 r11]) ∧ Std8 B w' v2_ v3_ v4_ v5_ v6_ v7_ v8_ v9_ r3 r4 r5 r6 r7 r8 r9 r10 ∧ Below w.heap.size w w' := by
 have HN := am hN; have HB := am (Below.refl w.heap.size w); have H0 := am h; have HBB := am hB; clear h hN hB
 have hu35 := Try.underlying35; go_enter Try.func35, Try.ntmps35
 go_upto_region 1 with (first | ((with_reducible refine gate_dst (N := 2) rfl ?_); refine bx_ 2 #[.int .i64 a0_0, .int .i64 a0_1, .slice A0_2 l0_2.length c0_2, .slice A0_3 l0_3.length c0_3, .slice A0_4 l0_4.length c0_4, .slice A0_5 l0_5.length c0_5, .slice A0_6 l0_6.length c0_6, .slice A0_7 l0_7.length c0_7, .slice A0_8 l0_8.length c0_8, .slice A0_9 l0_9.length c0_9, .int .i64 a0_10] 35 ?_; intro g2 hg w1 hbox hb; have B2 := am hbox; have G2 := am (show w.heap.size ≤ g2 by rw [hg]; exact (bz_ HB.out)); replace HN := am (HN.out.below hb); replace HB := h9_ HB hb; clear hb hbox hg) | ((with_reducible refine gate_dst (N := 4) rfl ?_); refine bx_ 4 #[.int .i64 0, .int .i64 0, .slice none 0 0, .slice none 0 0, .slice none 0 0, .slice none 0 0, .slice none 0 0, .slice none 0 0, .slice none 0 0, .slice none 0 0, .int .i64 0] 35 ?_; intro g4 hg w1 hbox hb; have B4 := am hbox; have G4 := am (show w.heap.size ≤ g4 by rw [hg]; exact (bz_ HB.out)); have NE := am (show g2 ≠ g4 by rw [hg]; exact Nat.ne_of_lt (bl_ B2.out)); replace HN := am (HN.out.below hb); replace B2 := kb_ B2 hb; replace HB := h9_ HB hb; clear hb hbox hg))
 go_wp2
 go_loopg [5] k (fun kq v5 w' => ∃ (i : Int) (m1 : Int) (m2 : Int) (m3 : List Int) (m4 : List Int) (m5 : List Int) (m6 : List (List S72)) (m7 : List Int) (m8 : List Int) (m9 : List (List S72)) (m10 : List (List S72)) (m11 : Int) (u2_ u3_ u4_ u5_ u6_ u7_ u8_ u9_ : Value), v5 = .int .i64 i ∧ Aside0 (spec_l20Run.l0 kq (m1, m2, m3, m4, m5, m6, m7, m8, m9, m10, m11) s i = some (r1, r2, r3, r4, r5, r6, r7, r8, r9, r10, r11)) ∧ Aside0 (kq ≤ k) ∧ Aside0 (Std8 B w' u2_ u3_ u4_ u5_ u6_ u7_ u8_ u9_ m3 m4 m5 m6 m7 m8 m9 m10) ∧ Aside0 (w'.heap[g2]? = some (.cells #[.int .i64 m1, .int .i64 m2, u2_, u3_, u4_, u5_, u6_, u7_, u8_, u9_, .int .i64 m11] 35 (0, 0))) ∧ Aside0 (w'.heap[g4]? = some (.cells #[.int .i64 0, .int .i64 0, .slice none 0 0, .slice none 0 0, .slice none 0 0, .slice none 0 0, .slice none 0 0, .slice none 0 0, .slice none 0 0, .slice none 0 0, .int .i64 0] 35 (0, 0))) ∧ Aside0 (Below w.heap.size w w'))
 case atStart => exact ⟨0, a0_0, a0_1, l0_2, l0_3, l0_4, l0_5, l0_6, l0_7, l0_8, l0_9, a0_10, _, _, _, _, _, _, _, _, rfl, H0, ⟨Nat.le_refl _⟩, ⟨HN.out⟩, ⟨bq_ B2.out⟩, ⟨bq_ B4.out⟩, ⟨bb_ HB.out⟩⟩
 clear H0 HN B2 B4 HB; obtain ⟨i, m1, m2, m3, m4, m5, m6, m7, m8, m9, m10, m11, u2_, u3_, u4_, u5_, u6_, u7_, u8_, u9_, rfl, HA, HK1, HN, B2, B4, HB⟩ := hrel
 obtain _ | k1 := gk
 ·exact absurd HA.out (by simp [spec_l20Run.l0])
 have h := HA.out; clear HA; simp only [spec_l20Run.l0] at h
 by_cases c1 : i < s
 rotate_left
 ·rw [if_neg c1] at h; simp only [Option.some.injEq, Prod.mk.injEq] at h; obtain ⟨rfl, rfl, rfl, rfl, rfl, rfl, rfl, rfl, rfl, rfl, rfl⟩ := h; have c1d : decide (i < s) = false := decide_eq_false c1; clear c1
  obtain ⟨X2_, d2_, e_⟩ := Kd.R_slice HN.out.h2; subst e_
  obtain ⟨X3_, d3_, e_⟩ := Kd.R_slice HN.out.h3; subst e_
  obtain ⟨X4_, d4_, e_⟩ := Kd.R_slice HN.out.h4; subst e_
  obtain ⟨X5_, d5_, e_⟩ := Kd.S_slice HN.out.h5; subst e_
  obtain ⟨X6_, d6_, e_⟩ := Kd.R_slice HN.out.h6; subst e_
  obtain ⟨X7_, d7_, e_⟩ := Kd.R_slice HN.out.h7; subst e_
  obtain ⟨X8_, d8_, e_⟩ := Kd.S_slice HN.out.h8; subst e_
  obtain ⟨X9_, d9_, e_⟩ := Kd.S_slice HN.out.h9; subst e_
  obtain ⟨y0, y1, y2, y3, y4, y5, y6, y7, y8, y9, y10, -⟩ := cz11_ B2.out; obtain ⟨z0, z1, z2, z3, z4, z5, z6, z7, z8, z9, z10, zf0, zf1, zf2, zf3, zf4, zf5, zf6, zf7, zf8, zf9, zf10⟩ := cz11_ B4.out; go_wp2; clear y0 y1 y2 y3 y4 y5 y6 y7 y8 y9 y10 z0 z1 z2 z3 z4 z5 z6 z7 z8 z9 z10 zf0 zf1 zf2 zf3 zf4 zf5 zf6 zf7 zf8 zf9 zf10
  change bodyPost _ _ _ _ _ (st11_ _ g4 (.int .i64 m1) (.int .i64 m2) ((.slice X2_ m3.length d2_)) ((.slice X3_ m4.length d3_)) ((.slice X4_ m5.length d4_)) ((.slice X5_ m6.length d5_)) ((.slice X6_ m7.length d6_)) ((.slice X7_ m8.length d7_)) ((.slice X8_ m9.length d8_)) ((.slice X9_ m10.length d9_)) (.int .i64 (m11)))
  replace HN := am (HN.out.far (w1 := st11_ _ g4 (.int .i64 m1) (.int .i64 m2) ((.slice X2_ m3.length d2_)) ((.slice X3_ m4.length d3_)) ((.slice X4_ m5.length d4_)) ((.slice X5_ m6.length d5_)) ((.slice X6_ m7.length d6_)) ((.slice X7_ m8.length d7_)) ((.slice X8_ m9.length d8_)) ((.slice X9_ m10.length d9_)) (.int .i64 (m11))) (bq_ B4.out) (fun _ h_ => st11_far h_)); replace B4 := am (st11_blk B4.out : (st11_ _ g4 (.int .i64 m1) (.int .i64 m2) ((.slice X2_ m3.length d2_)) ((.slice X3_ m4.length d3_)) ((.slice X4_ m5.length d4_)) ((.slice X5_ m6.length d5_)) ((.slice X6_ m7.length d6_)) ((.slice X7_ m8.length d7_)) ((.slice X8_ m9.length d8_)) ((.slice X9_ m10.length d9_)) (.int .i64 (m11))).heap[g4]? = _); replace HB := am (st11_below HB.out G4.out : Below w.heap.size w (st11_ _ g4 (.int .i64 m1) (.int .i64 m2) ((.slice X2_ m3.length d2_)) ((.slice X3_ m4.length d3_)) ((.slice X4_ m5.length d4_)) ((.slice X5_ m6.length d5_)) ((.slice X6_ m7.length d6_)) ((.slice X7_ m8.length d7_)) ((.slice X8_ m9.length d8_)) ((.slice X9_ m10.length d9_)) (.int .i64 (m11)))); generalize st11_ _ g4 (.int .i64 m1) (.int .i64 m2) ((.slice X2_ m3.length d2_)) ((.slice X3_ m4.length d3_)) ((.slice X4_ m5.length d4_)) ((.slice X5_ m6.length d5_)) ((.slice X6_ m7.length d6_)) ((.slice X7_ m8.length d7_)) ((.slice X8_ m9.length d8_)) ((.slice X9_ m10.length d9_)) (.int .i64 (m11)) = wz at *
  refine bodyPost_ret (results_cell_row rfl _ _ g4 35 _ (0, 0) _ rfl (bq_ B4.out) Try.underlying35 rfl (by kernel_rfl)) rfl ?_
  exact ⟨_, _, _, _, _, _, _, _, rfl, HN.out, bb_ HB.out⟩
 rw [if_pos c1] at h; have c1d : decide (i < s) = true := decide_eq_true c1; clear c1
 obtain ⟨b, e1, g_⟩ := Option.bind_eq_some_iff.1 h; clear h; have H1 := am g_; have E1 := am e1; clear e1 g_
 obtain ⟨X2_, d2_, e_⟩ := Kd.R_slice HN.out.h2; subst e_
 obtain ⟨X3_, d3_, e_⟩ := Kd.R_slice HN.out.h3; subst e_
 obtain ⟨X4_, d4_, e_⟩ := Kd.R_slice HN.out.h4; subst e_
 obtain ⟨X5_, d5_, e_⟩ := Kd.S_slice HN.out.h5; subst e_
 obtain ⟨X6_, d6_, e_⟩ := Kd.R_slice HN.out.h6; subst e_
 obtain ⟨X7_, d7_, e_⟩ := Kd.R_slice HN.out.h7; subst e_
 obtain ⟨X8_, d8_, e_⟩ := Kd.S_slice HN.out.h8; subst e_
 obtain ⟨X9_, d9_, e_⟩ := Kd.S_slice HN.out.h9; subst e_
 obtain ⟨y0, y1, y2, y3, y4, y5, y6, y7, y8, y9, y10, -⟩ := cz11_ B2.out
 go_upto_if 12 with (go_at_call 66; (with_reducible refine (spec_l20Idle.calls k1 m1 m2 _ _ m3 _ _ m4 _ _ m5 _ _ m6 _ _ m7 _ _ m8 _ _ m9 _ _ m10 m11 b _ (Kd.R_reads' HN.out.h2).2.2 (Kd.R_reads' HN.out.h2).2.1 (Kd.R_reads' HN.out.h3).2.2 (Kd.R_reads' HN.out.h3).2.1 (Kd.R_reads' HN.out.h4).2.2 (Kd.R_reads' HN.out.h4).2.1 (Kd.S_reads' HN.out.h5).2.2 (Kd.S_reads' HN.out.h5).2.1 (Kd.R_reads' HN.out.h6).2.2 (Kd.R_reads' HN.out.h6).2.1 (Kd.R_reads' HN.out.h7).2.2 (Kd.R_reads' HN.out.h7).2.1 (Kd.S_reads' HN.out.h8).2.2 (Kd.S_reads' HN.out.h8).2.1 (Kd.S_reads' HN.out.h9).2.2 (Kd.S_reads' HN.out.h9).2.1 E1.out).mono ?_); rintro e w5 ⟨rfl, hb⟩; replace HN := am (HN.out.below hb); replace B2 := kb_ B2 hb; replace B4 := kb_ B4 hb; replace HB := h9_ HB hb; clear hb y0 y1 y2 y3 y4 y5 y6 y7 y8 y9 y10)
 cases b with
 | true =>
  have h := H1.out; clear H1 E1; rw [if_pos rfl] at h; simp only [Option.some.injEq, Prod.mk.injEq] at h; obtain ⟨rfl, rfl, rfl, rfl, rfl, rfl, rfl, rfl, rfl, rfl, rfl⟩ := h
  have hx : w5.cell? ⟨g2, 10, none⟩ = some (.int .i64 m11) := (blk_cell B2.out 10).trans rfl; have hf := blk_frozen B2.out 10; go_upto_region 6 with fail; clear hx hf
  replace HN := am (HN.out.far (w1 := w5.setCell ⟨g2, 10, none⟩ (.int .i64 (wrap64 (wrap64 (m11 + s) - i)))) (bq_ B2.out) (fun _ h_ => Below.heap_setCell _ _ _ _ h_)); replace B4 := am (blk_far (bq_ B4.out) (p := ⟨g2, 10, none⟩) NE.out.symm (.int .i64 (wrap64 (wrap64 (m11 + s) - i))) : (w5.setCell ⟨g2, 10, none⟩ (.int .i64 (wrap64 (wrap64 (m11 + s) - i)))).heap[g4]? = _); replace B2 := am (blk_put (bq_ B2.out) 10 (.int .i64 (wrap64 (wrap64 (m11 + s) - i))) (cs' := #[.int .i64 m1, .int .i64 m2, (.slice X2_ m3.length d2_), (.slice X3_ m4.length d3_), (.slice X4_ m5.length d4_), (.slice X5_ m6.length d5_), (.slice X6_ m7.length d6_), (.slice X7_ m8.length d7_), (.slice X8_ m9.length d8_), (.slice X9_ m10.length d9_), .int .i64 (wrap64 (wrap64 (m11 + s) - i))]) rfl); replace HB := am (below_set HB.out G2.out : Below w.heap.size w (w5.setCell ⟨g2, 10, none⟩ (.int .i64 (wrap64 (wrap64 (m11 + s) - i))))); generalize w5.setCell ⟨g2, 10, none⟩ (.int .i64 (wrap64 (wrap64 (m11 + s) - i))) = wy at *
  obtain ⟨y0, y1, y2, y3, y4, y5, y6, y7, y8, y9, y10, -⟩ := cz11_ B2.out; obtain ⟨z0, z1, z2, z3, z4, z5, z6, z7, z8, z9, z10, zf0, zf1, zf2, zf3, zf4, zf5, zf6, zf7, zf8, zf9, zf10⟩ := cz11_ B4.out; go_wp2; clear y0 y1 y2 y3 y4 y5 y6 y7 y8 y9 y10 z0 z1 z2 z3 z4 z5 z6 z7 z8 z9 z10 zf0 zf1 zf2 zf3 zf4 zf5 zf6 zf7 zf8 zf9 zf10
  change bodyPost _ _ _ _ _ (st11_ _ g4 (.int .i64 m1) (.int .i64 m2) ((.slice X2_ m3.length d2_)) ((.slice X3_ m4.length d3_)) ((.slice X4_ m5.length d4_)) ((.slice X5_ m6.length d5_)) ((.slice X6_ m7.length d6_)) ((.slice X7_ m8.length d7_)) ((.slice X8_ m9.length d8_)) ((.slice X9_ m10.length d9_)) (.int .i64 (wrap64 (wrap64 (m11 + s) - i))))
  replace HN := am (HN.out.far (w1 := st11_ _ g4 (.int .i64 m1) (.int .i64 m2) ((.slice X2_ m3.length d2_)) ((.slice X3_ m4.length d3_)) ((.slice X4_ m5.length d4_)) ((.slice X5_ m6.length d5_)) ((.slice X6_ m7.length d6_)) ((.slice X7_ m8.length d7_)) ((.slice X8_ m9.length d8_)) ((.slice X9_ m10.length d9_)) (.int .i64 (wrap64 (wrap64 (m11 + s) - i)))) (bq_ B4.out) (fun _ h_ => st11_far h_)); replace B4 := am (st11_blk B4.out : (st11_ _ g4 (.int .i64 m1) (.int .i64 m2) ((.slice X2_ m3.length d2_)) ((.slice X3_ m4.length d3_)) ((.slice X4_ m5.length d4_)) ((.slice X5_ m6.length d5_)) ((.slice X6_ m7.length d6_)) ((.slice X7_ m8.length d7_)) ((.slice X8_ m9.length d8_)) ((.slice X9_ m10.length d9_)) (.int .i64 (wrap64 (wrap64 (m11 + s) - i)))).heap[g4]? = _); replace HB := am (st11_below HB.out G4.out : Below w.heap.size w (st11_ _ g4 (.int .i64 m1) (.int .i64 m2) ((.slice X2_ m3.length d2_)) ((.slice X3_ m4.length d3_)) ((.slice X4_ m5.length d4_)) ((.slice X5_ m6.length d5_)) ((.slice X6_ m7.length d6_)) ((.slice X7_ m8.length d7_)) ((.slice X8_ m9.length d8_)) ((.slice X9_ m10.length d9_)) (.int .i64 (wrap64 (wrap64 (m11 + s) - i))))); generalize st11_ _ g4 (.int .i64 m1) (.int .i64 m2) ((.slice X2_ m3.length d2_)) ((.slice X3_ m4.length d3_)) ((.slice X4_ m5.length d4_)) ((.slice X5_ m6.length d5_)) ((.slice X6_ m7.length d6_)) ((.slice X7_ m8.length d7_)) ((.slice X8_ m9.length d8_)) ((.slice X9_ m10.length d9_)) (.int .i64 (wrap64 (wrap64 (m11 + s) - i))) = wz at *
  refine bodyPost_ret (results_cell_row rfl _ _ g4 35 _ (0, 0) _ rfl (bq_ B4.out) Try.underlying35 rfl (by kernel_rfl)) rfl ?_
  exact ⟨_, _, _, _, _, _, _, _, rfl, HN.out, bb_ HB.out⟩
 | false =>
  have h := H1.out; clear H1 E1; rw [if_neg (by decide)] at h
  obtain ⟨⟨q1, q2, q3, q4, q5, q6, q7, q8, q9, q10, q11⟩, e2, g_⟩ := Option.bind_eq_some_iff.1 h; clear h; have H1 := am g_; have E2 := am e2; clear e2 g_; obtain ⟨z0, z1, z2, z3, z4, z5, z6, z7, z8, z9, z10, zf0, zf1, zf2, zf3, zf4, zf5, zf6, zf7, zf8, zf9, zf10⟩ := cz11_ B2.out
  go_upto_region 3 with (go_at_call 67; (with_reducible refine (spec_l19Step.calls k1 m1 m2 _ _ m3 _ _ m4 _ _ m5 _ _ m6 _ _ m7 _ _ m8 _ _ m9 _ _ m10 m11 q1 q2 q3 q4 q5 q6 q7 q8 q9 q10 q11 _ (Kd.R_reads' HN.out.h2).2.2 (Kd.R_reads' HN.out.h2).2.1 (Kd.R_reads' HN.out.h3).2.2 (Kd.R_reads' HN.out.h3).2.1 (Kd.R_reads' HN.out.h4).2.2 (Kd.R_reads' HN.out.h4).2.1 (Kd.S_reads' HN.out.h5).2.2 (Kd.S_reads' HN.out.h5).2.1 (Kd.R_reads' HN.out.h6).2.2 (Kd.R_reads' HN.out.h6).2.1 (Kd.R_reads' HN.out.h7).2.2 (Kd.R_reads' HN.out.h7).2.1 (Kd.S_reads' HN.out.h8).2.2 (Kd.S_reads' HN.out.h8).2.1 (Kd.S_reads' HN.out.h9).2.2 (Kd.S_reads' HN.out.h9).2.1 E2.out).mono ?_); rintro e w6 ⟨n2_, n3_, n4_, n5_, n6_, n7_, n8_, n9_, rfl, s2_, s3_, s4_, s5_, s6_, s7_, s8_, s9_, hb⟩; have hs_ := bz_ HB.out; replace HN := am (Std8.lower ⟨s2_, s3_, s4_, s5_, s6_, s7_, s8_, s9_⟩ (Nat.le_trans HBB.out hs_)); replace B2 := kb_ B2 hb; replace B4 := kb_ B4 hb; replace HB := h9_ HB hb; clear hb hs_ z0 z1 z2 z3 z4 z5 z6 z7 z8 z9 z10 zf0 zf1 zf2 zf3 zf4 zf5 zf6 zf7 zf8 zf9 zf10 s2_ s3_ s4_ s5_ s6_ s7_ s8_ s9_; obtain ⟨Y2_, e2_, e_⟩ := Kd.R_slice HN.out.h2; subst e_; obtain ⟨Y3_, e3_, e_⟩ := Kd.R_slice HN.out.h3; subst e_; obtain ⟨Y4_, e4_, e_⟩ := Kd.R_slice HN.out.h4; subst e_; obtain ⟨Y5_, e5_, e_⟩ := Kd.S_slice HN.out.h5; subst e_; obtain ⟨Y6_, e6_, e_⟩ := Kd.R_slice HN.out.h6; subst e_; obtain ⟨Y7_, e7_, e_⟩ := Kd.R_slice HN.out.h7; subst e_; obtain ⟨Y8_, e8_, e_⟩ := Kd.S_slice HN.out.h8; subst e_; obtain ⟨Y9_, e9_, e_⟩ := Kd.S_slice HN.out.h9; subst e_; obtain ⟨z0, z1, z2, z3, z4, z5, z6, z7, z8, z9, z10, zf0, zf1, zf2, zf3, zf4, zf5, zf6, zf7, zf8, zf9, zf10⟩ := cz11_ B2.out)
  clear z0 z1 z2 z3 z4 z5 z6 z7 z8 z9 z10 zf0 zf1 zf2 zf3 zf4 zf5 zf6 zf7 zf8 zf9 zf10
  change Code.wp _ _ _ _ (st11_ w6 g2 (.int .i64 q1) (.int .i64 q2) ((.slice Y2_ q3.length e2_)) ((.slice Y3_ q4.length e3_)) ((.slice Y4_ q5.length e4_)) ((.slice Y5_ q6.length e5_)) ((.slice Y6_ q7.length e6_)) ((.slice Y7_ q8.length e7_)) ((.slice Y8_ q9.length e8_)) ((.slice Y9_ q10.length e9_)) (.int .i64 (q11)))
  replace B4 := am ((st11_far NE.out.symm : (st11_ w6 g2 (.int .i64 q1) (.int .i64 q2) ((.slice Y2_ q3.length e2_)) ((.slice Y3_ q4.length e3_)) ((.slice Y4_ q5.length e4_)) ((.slice Y5_ q6.length e5_)) ((.slice Y6_ q7.length e6_)) ((.slice Y7_ q8.length e7_)) ((.slice Y8_ q9.length e8_)) ((.slice Y9_ q10.length e9_)) (.int .i64 (q11))).heap[g4]? = _).trans B4.out); replace HN := am (HN.out.far (w1 := st11_ w6 g2 (.int .i64 q1) (.int .i64 q2) ((.slice Y2_ q3.length e2_)) ((.slice Y3_ q4.length e3_)) ((.slice Y4_ q5.length e4_)) ((.slice Y5_ q6.length e5_)) ((.slice Y6_ q7.length e6_)) ((.slice Y7_ q8.length e7_)) ((.slice Y8_ q9.length e8_)) ((.slice Y9_ q10.length e9_)) (.int .i64 (q11))) (bq_ B2.out) (fun _ h_ => st11_far h_)); replace B2 := am (st11_blk B2.out : (st11_ w6 g2 (.int .i64 q1) (.int .i64 q2) ((.slice Y2_ q3.length e2_)) ((.slice Y3_ q4.length e3_)) ((.slice Y4_ q5.length e4_)) ((.slice Y5_ q6.length e5_)) ((.slice Y6_ q7.length e6_)) ((.slice Y7_ q8.length e7_)) ((.slice Y8_ q9.length e8_)) ((.slice Y9_ q10.length e9_)) (.int .i64 (q11))).heap[g2]? = _); replace HB := am (st11_below HB.out G2.out : Below w.heap.size w (st11_ w6 g2 (.int .i64 q1) (.int .i64 q2) ((.slice Y2_ q3.length e2_)) ((.slice Y3_ q4.length e3_)) ((.slice Y4_ q5.length e4_)) ((.slice Y5_ q6.length e5_)) ((.slice Y6_ q7.length e6_)) ((.slice Y7_ q8.length e7_)) ((.slice Y8_ q9.length e8_)) ((.slice Y9_ q10.length e9_)) (.int .i64 (q11)))); generalize st11_ w6 g2 (.int .i64 q1) (.int .i64 q2) ((.slice Y2_ q3.length e2_)) ((.slice Y3_ q4.length e3_)) ((.slice Y4_ q5.length e4_)) ((.slice Y5_ q6.length e5_)) ((.slice Y6_ q7.length e6_)) ((.slice Y7_ q8.length e7_)) ((.slice Y8_ q9.length e8_)) ((.slice Y9_ q10.length e9_)) (.int .i64 (q11)) = wz at *
  go_wp2
  go_roundg k1
  case measure => have := HK1.out; omega
  case rel => exact ⟨_, q1, q2, q3, q4, q5, q6, q7, q8, q9, q10, q11, (.slice Y2_ q3.length e2_), (.slice Y3_ q4.length e3_), (.slice Y4_ q5.length e4_), (.slice Y5_ q6.length e5_), (.slice Y6_ q7.length e6_), (.slice Y7_ q8.length e7_), (.slice Y8_ q9.length e8_), (.slice Y9_ q10.length e9_), rfl, H1, ⟨by have := HK1.out; omega⟩, HN, ⟨bq_ B2.out⟩, ⟨bq_ B4.out⟩, ⟨bb_ HB.out⟩⟩
structure Cu (w0 w W : World) (g : Nat) (b : List Int) (i h : Int) : Prop where
 s : IsS67 w0 W g b i h
 bl : Below w0.heap.size w0 W
 k : KeepBut w W g none
section
variable {w0 w W W' : World} {g : Nat} {b : List Int} {i h i' h' : Int}
theorem Cu.drew (c : Cu w0 w W g b i h) : Cu w0 w W.drew g b i h := ⟨c.s.drew, below_drew1 c.bl, keep_drew c.k⟩
theorem Cu.drewN (c : Cu w0 w W g b i h) (m : Nat) : Cu w0 w (W.drewN m) g b i h := ⟨c.s.drewN m, pw_below_drewN c.bl m, keep_drewN c.k m⟩
theorem Cu.alloc (c : Cu w0 w W g b i h) (o : Obj) : Cu w0 w (W.alloc o) g b i h := ⟨c.s.alloc o, below_alloc c.bl o, keep_alloc c.k o⟩
theorem Cu.below (c : Cu w0 w W g b i h) (hb : Below W.heap.size W W') : Cu w0 w W' g b i h := ⟨c.s.below hb, below_step c.bl hb, c.k.trans (KeepBut.of_below hb g none) (.inl rfl)⟩
theorem Cu.far (c : Cu w0 w W g b i h) {x j : Nat} (hp : w.heap.size ≤ x) (hg : g < w.heap.size) (u : Value) : Cu w0 w (W.setCell ⟨x, j, none⟩ u) g b i h := ⟨c.s.far (p := ⟨x, j, none⟩) (Nat.ne_of_lt (Nat.lt_of_lt_of_le hg hp)) u, below_set c.bl (Nat.le_trans c.s.ge (Nat.le_trans (Nat.le_of_lt hg) hp)), keep_far (p := ⟨x, j, none⟩) c.k hp u⟩
theorem Cu.step (c : Cu w0 w W g b i h) (hs : IsS67 w0 W' g b i' h') (hb : Below w0.heap.size w0 W') (hk : KeepBut W W' g none) : Cu w0 w W' g b i' h' := ⟨hs, hb, c.k.trans hk (.inl rfl)⟩
theorem Cu.blk {o : Obj} {x : Nat} (hg : g < w.heap.size) (hx : w.heap.size ≤ x) (hb : W.heap[x]? = some o) (hk : KeepBut W W' g none) : W'.heap[x]? = some o := hk.blk hb (by omega) (by simp)
theorem Cu.row {α : Type} {d : Kd α} {e : Nat} {ok : Nat → Prop} {v : Value} {xs : List α} (hg : g < w.heap.size) (hr : d.R e W w.heap.size ok v xs) (hk : KeepBut W W' g none) : d.R e W' w.heap.size ok v xs := Kd.R_mono (Kd.R_keep (Kd.R_bound hr) hk (fun k h_ => by have := h_.2.1; omega)) (fun _ h_ => h_.1)
theorem cu_ {V : World} (c : Cu w0 w V g b i h) (k : Cu w0 w V g b i h → Cu w0 w W g b i h := by (intro h_; repeat (first | (with_reducible first | exact h_ | apply Cu.drewN | apply Cu.drew | apply Cu.alloc) | exact h_))) : Cu w0 w W g b i h := k c
theorem Cu.new (c : Cu w0 w W g b i h) (o : Obj) : ∃ x W', W.heap.size = x ∧ W.alloc o = W' ∧ W'.heap[x]? = some o ∧ w.heap.size ≤ x ∧ Below W.heap.size W W' ∧ Cu w0 w W' g b i h := ⟨_, _, rfl, rfl, blk_new W o, c.k.1, below_alloc (Below.refl _ _) o, c.alloc o⟩
theorem st11_cu {u0 u1 u2 u3 u4 u5 u6 u7 u8 u9 u10 : Value} {x : Nat} (c : Cu w0 w W g b i h) (hx : w.heap.size ≤ x) (hg : g < w.heap.size) : Cu w0 w (st11_ W x u0 u1 u2 u3 u4 u5 u6 u7 u8 u9 u10) g b i h := by
 unfold st11_
 repeat refine Cu.far ?_ hx hg _
 exact c
end
def st2_ (w : World) (g : Nat) (u0 u1 : Value) : World := (w.setCell ⟨g, 0, none⟩ u0).setCell ⟨g, 1, none⟩ u1
section
variable {w0 w W : World} {x g : Nat} {t : TypeId} {b : List Int} {i h : Int} {c0 c1 u0 u1 : Value}
theorem st2_blk (h : W.heap[x]? = some (.cells #[c0, c1] t (0, 0))) : (st2_ W x u0 u1).heap[x]? = some (.cells #[u0, u1] t (0, 0)) := by
 refine blk_put (cs := #[u0, c1]) ?_ 1 _ rfl
 refine blk_put (cs := #[c0, c1]) ?_ 0 _ rfl
 exact h
theorem st2_far {k : Nat} (h : k ≠ x) : (st2_ W x u0 u1).heap[k]? = W.heap[k]? := by
 unfold st2_
 repeat rw [Below.heap_setCell _ _ _ _ h]
theorem st2_cu (c : Cu w0 w W g b i h) (hx : w.heap.size ≤ x) (hg : g < w.heap.size) : Cu w0 w (st2_ W x u0 u1) g b i h := by
 unfold st2_
 repeat refine Cu.far ?_ hx hg _
 exact c
theorem st2_row {α : Type} {d : Kd α} {e base : Nat} {ok : Nat → Prop} {v : Value} {xs : List α} {cs : Array Value} (hr : d.R e W base ok v xs) (hb : W.heap[x]? = some (.cells cs t (0, 0))) (ht : ∀ q, q ∈ e :: d.E → q ≠ t) : d.R e (st2_ W x u0 u1) base ok v xs := Kd.R_mono (Kd.R_move (Kd.R_types hr hb ht) (fun k h_ => st2_far h_.2)) (fun _ h_ => h_.1)
end
def spec_l20Net.f (k : Nat) (s0_0 : List Int) (s0_1 s0_2 : Int) : Option (Int × Int × List Int × List Int × List Int × (List (List S72)) × List Int × List Int × (List (List S72)) × (List (List S72)) × Int × Int × Int) := (spec_l14Grid.f s0_0 s0_1 s0_2).bind fun a => (spec_l01Below.f s0_0 a.2.2.1 a.2.2.2 4).bind fun b => (spec_l05Make.f k a.1 a.2.1 (wrap64 (1 + b.1))).bind fun t => (spec_l01Below.f s0_0 b.2.1 b.2.2 4).bind fun c => (spec_l05Make.f k a.1 a.2.1 (wrap64 (1 + c.1))).bind fun u => (spec_NetNew.f k a.1 a.2.1 [] t u).bind fun n => (spec_l16Packets.f k s0_0 c.2.1 c.2.2 a.1 a.2.1).bind fun l => (spec_SendAll.f k n.1 n.2.1 n.2.2.1 n.2.2.2.1 n.2.2.2.2.1 n.2.2.2.2.2.1 n.2.2.2.2.2.2.1 n.2.2.2.2.2.2.2.1 n.2.2.2.2.2.2.2.2.1 n.2.2.2.2.2.2.2.2.2.1 n.2.2.2.2.2.2.2.2.2.2.1 l.1).bind fun q => (spec_l01Below.f s0_0 l.2.1 l.2.2 12).bind fun d => (spec_l20Run.f k q.1 q.2.1 q.2.2.1 q.2.2.2.1 q.2.2.2.2.1 q.2.2.2.2.2.1 q.2.2.2.2.2.2.1 q.2.2.2.2.2.2.2.1 q.2.2.2.2.2.2.2.2.1 q.2.2.2.2.2.2.2.2.2.1 q.2.2.2.2.2.2.2.2.2.2.1 d.1).bind fun m => some (m.1, m.2.1, m.2.2.1, m.2.2.2.1, m.2.2.2.2.1, m.2.2.2.2.2.1, m.2.2.2.2.2.2.1, m.2.2.2.2.2.2.2.1, m.2.2.2.2.2.2.2.2.1, m.2.2.2.2.2.2.2.2.2.1, m.2.2.2.2.2.2.2.2.2.2, d.2.1, d.2.2)
set_option maxHeartbeats 4000000 in
theorem spec_l20Net.callsS (k g : Nat) (s0_0 : List Int) (s0_1 s0_2 : Int) (r1 : Int) (r2 : Int) (r3 : List Int) (r4 : List Int) (r5 : List Int) (r6 : List (List S72)) (r7 : List Int) (r8 : List Int) (r9 : List (List S72)) (r10 : List (List S72)) (r11 : Int) (r12 r13 : Int) (w0 w : World) (hI : IsS67 w0 w g s0_0 s0_1 s0_2) (hB : Below w0.heap.size w0 w) (h : spec_l20Net.f k s0_0 s0_1 s0_2 = some (r1, r2, r3, r4, r5, r6, r7, r8, r9, r10, r11, r12, r13)) :
  Calls Try.prog 15 #[.pointer (some ⟨g, 0, none⟩)] w fun e w' => ∃ v2_ v3_ v4_ v5_ v6_ v7_ v8_ v9_ : Value, e = .returned (.agg #[.int .i64 r1, .int .i64 r2, v2_, v3_, v4_, v5_, v6_, v7_, v8_, v9_, .int .i64 r11]) ∧ Std8 w.heap.size w' v2_ v3_ v4_ v5_ v6_ v7_ v8_ v9_ r3 r4 r5 r6 r7 r8 r9 r10 ∧ IsS67 w0 w' g s0_0 r12 r13 ∧ Below w0.heap.size w0 w' ∧ KeepBut w w' g none := by
 have HG := am hI.lt; have HC := am (Cu.mk hI hB (KeepBut.refl w g none)); clear hI hB
 have hu25 := Try.underlying25; have hu32 := Try.underlying32; have hu35 := Try.underlying35; have hu28 := Try.underlying28; unfold spec_l20Net.f at h
 obtain ⟨⟨g1, g2, i1, j1⟩, e_, G_⟩ := Option.bind_eq_some_iff.1 h; clear h; have h := G_; clear G_; (try dsimp only at e_); (try dsimp only at h); have E1 := am e_; clear e_
 obtain ⟨⟨t1, i2, j2⟩, e_, G_⟩ := Option.bind_eq_some_iff.1 h; clear h; have h := G_; clear G_; (try dsimp only at e_); (try dsimp only at h); have E2 := am e_; clear e_
 obtain ⟨T1, e_, G_⟩ := Option.bind_eq_some_iff.1 h; clear h; have h := G_; clear G_; (try dsimp only at e_); (try dsimp only at h); have E3 := am e_; clear e_
 obtain ⟨⟨t2, i3, j3⟩, e_, G_⟩ := Option.bind_eq_some_iff.1 h; clear h; have h := G_; clear G_; (try dsimp only at e_); (try dsimp only at h); have E4 := am e_; clear e_
 obtain ⟨T2, e_, G_⟩ := Option.bind_eq_some_iff.1 h; clear h; have h := G_; clear G_; (try dsimp only at e_); (try dsimp only at h); have E5 := am e_; clear e_
 obtain ⟨⟨n1, n2, n3, n4, n5, n6, n7, n8, n9, n10, n11, n12⟩, e_, G_⟩ := Option.bind_eq_some_iff.1 h; clear h; have h := G_; clear G_; (try dsimp only at e_); (try dsimp only at h); have E6 := am e_; clear e_
 obtain ⟨⟨P, i4, j4⟩, e_, G_⟩ := Option.bind_eq_some_iff.1 h; clear h; have h := G_; clear G_; (try dsimp only at e_); (try dsimp only at h); have E7 := am e_; clear e_
 obtain ⟨⟨q1, q2, q3, q4, q5, q6, q7, q8, q9, q10, q11, q12⟩, e_, G_⟩ := Option.bind_eq_some_iff.1 h; clear h; have h := G_; clear G_; (try dsimp only at e_); (try dsimp only at h); have E8 := am e_; clear e_
 obtain ⟨⟨t3, i5, j5⟩, e_, G_⟩ := Option.bind_eq_some_iff.1 h; clear h; have h := G_; clear G_; (try dsimp only at e_); (try dsimp only at h); have E9 := am e_; clear e_
 obtain ⟨⟨m1, m2, m3, m4, m5, m6, m7, m8, m9, m10, m11⟩, e_, G_⟩ := Option.bind_eq_some_iff.1 h; clear h; have h := G_; clear G_; (try dsimp only at e_); (try dsimp only at h); have E10 := am e_; clear e_
 simp only [Option.some.injEq, Prod.mk.injEq] at h; obtain ⟨rfl, rfl, rfl, rfl, rfl, rfl, rfl, rfl, rfl, rfl, rfl, rfl, rfl⟩ := h
 go_enter Try.func15, Try.ntmps15
 go_upto_region 2 with (first | ((with_reducible refine gate_dst (N := 2) rfl ?_); refine bx_ 2 #[.int .i64 0, .int .i64 0, .slice none 0 0, .slice none 0 0, .slice none 0 0, .slice none 0 0, .slice none 0 0, .slice none 0 0, .slice none 0 0, .slice none 0 0, .int .i64 0] 35 ?_; intro gb2 hg w1 hbox hb; have B2_ := am hbox; have G2 := am (show w.heap.size ≤ gb2 by rw [hg]; exact keep_size (cu_ HC.out).k); skip; have B2 := B2_; clear B2_; replace HC := am ((cu_ HC.out).below hb); clear hb hbox hg) | (go_at_call 30; (with_reducible refine (spec_l14Grid.calls g s0_0 s0_1 s0_2 g1 g2 i1 j1 w0 _ ?s1 ?s2 E1.out).mono ?_); (case s1 => exact (cu_ HC.out).s); (case s2 => exact (cu_ HC.out).bl); rintro e wa ⟨rfl, hs, hb, hk⟩; replace B2 := am (Cu.blk HG.out G2.out (bq_ B2.out) hk); replace HC := am ((cu_ HC.out).step hs hb hk); clear hs hb hk))
 obtain ⟨gb3, wb, hx_, hw_, B3_, G3_, hb_, HC_⟩ := HC.out.new (Obj.cells #[.int .i64 g1, .int .i64 g2] 25 (0, 0))
 have N23 := am (show gb2 ≠ gb3 by rw [← hx_]; exact Nat.ne_of_lt (blk_lt B2.out))
 replace B2 := kb_ B2 hb_
 rw [hx_, hw_]; clear hb_ hx_ hw_; have B3 := am B3_; have G3 := am G3_; replace HC := am HC_; clear B3_ G3_ HC_
 refine start_ (n := 13) (S := fun w' => w'.cell? ⟨gb3, 0, none⟩ = some (.int .i64 g1) ∧ w'.cell? ⟨gb3, 1, none⟩ = some (.int .i64 g2)) (ds := []) #[false, false, false, false, false, false, false, false, false, false, false, false, false] (by kernel_rfl) rfl rfl ⟨(blk_cell B3.out 0).trans rfl, (blk_cell B3.out 1).trans rfl⟩ (fun hHeld => ?_)
 replace B2 := am (bq_ B2.out : wb.drew.heap[gb2]? = _)
 replace B3 := am (bq_ B3.out : wb.drew.heap[gb3]? = _)
 replace HC := am (Cu.drew HC.out); generalize wb.drew = wc at *
 refine tk_ (v := .agg #[.int .i64 g1, .int .i64 g2]) 0 9 (bt_ 13 1) hHeld ?_ (hy := by rintro w' ⟨s0, s1⟩; go_simp)
 refine pk_ 1 10 (bt_ 13 3) ?_
 refine tk_ (v := .agg #[.int .i64 g1, .int .i64 g2]) 5 14 (bt_ 13 35) hHeld ?_ (hy := by rintro w' ⟨s0, s1⟩; go_simp)
 refine pk_ 6 15 (bt_ 13 99) ?_
 refine join_ (σ := Option Addr × Nat × Option Addr × Nat × Nat) 1 #[true, true, true, true, true, true, true, true, true, true, true, true, false] (fun s_ => [(11, .int .i64 t1), (12, .int .i64 (wrap64 (1 + t1))), (13, .agg #[.slice s_.1 T1.length s_.2.1]), (16, .int .i64 t2), (17, .int .i64 (wrap64 (1 + t2))), (18, .agg #[.slice s_.2.2.1 T2.length s_.2.2.2.1]), (19, .agg #[.slice s_.1 T1.length s_.2.1, .slice s_.2.2.1 T2.length s_.2.2.2.1]), (4, .pointer (some ⟨s_.2.2.2.2, 0, none⟩))]) (fun s_ w' => (w'.cell? ⟨gb3, 0, none⟩ = some (.int .i64 g1) ∧ w'.cell? ⟨gb3, 1, none⟩ = some (.int .i64 g2)) ∧ Kd.R (Kd.int .i64) 3 w' w.heap.size (fun _ => True) (.slice s_.1 T1.length s_.2.1) T1 ∧ Kd.R (Kd.int .i64) 3 w' w.heap.size (fun _ => True) (.slice s_.2.2.1 T2.length s_.2.2.2.1) T2 ∧ w'.heap[gb2]? = some (.cells #[.int .i64 0, .int .i64 0, .slice none 0 0, .slice none 0 0, .slice none 0 0, .slice none 0 0, .slice none 0 0, .slice none 0 0, .slice none 0 0, .slice none 0 0, .int .i64 0] 35 (0, 0)) ∧ w'.heap[gb3]? = some (.cells #[.int .i64 g1, .int .i64 g2] 25 (0, 0)) ∧ w'.heap[s_.2.2.2.2]? = some (.cells #[.slice none 0 0, .slice none 0 0] 32 (0, 0)) ∧ w.heap.size ≤ s_.2.2.2.2 ∧ gb2 ≠ s_.2.2.2.2 ∧ gb3 ≠ s_.2.2.2.2 ∧ Cu w0 w w' g s0_0 i3 j3) ?_ ?_
 rotate_left
 ·intro hCont
  refine two_ (i := 2) (j := 11) (Ni := some 11) (Nj := some 4) #[true, true, true, false, false, true, true, false, false, false, false, false, false] #[true, true, false, false, false, true, true, false, false, false, false, true, false] rfl rfl rfl rfl (by kernel_rfl) (by decide) (by decide) (fun K hK => ?_) (fun K hK => ?_)
  ·
   refine gs_ Try.func17 #[.pointer (some ⟨g, 0, none⟩), .int .i64 4] ?_
   with_reducible refine (spec_l01Below.calls g s0_0 i1 j1 4 t1 i2 j2 w0 _ HC.out.s HC.out.bl E2.out).mono ?_; rintro e wx1 ⟨rfl, hs, hb, hk⟩; refine ⟨_, rfl, ?_⟩; replace B2 := am (Cu.blk HG.out G2.out (bq_ B2.out) hk); replace B3 := am (Cu.blk HG.out G3.out (bq_ B3.out) hk); replace HC := am (HC.out.step hs hb hk); clear hs hb hk
   refine hK.out _ _ ⟨(blk_cell B3.out 0).trans rfl, (blk_cell B3.out 1).trans rfl⟩ (fun hHeld => ?_)
   clear hK K
   refine nm_ 11 ?_
   refine pk_ 3 12 (bt_ 13 111) ?_
   refine two_ (i := 4) (j := 11) (Ni := some 13) (Nj := some 4) #[true, true, true, true, true, true, true, false, false, false, false, false, false] #[true, true, true, true, false, true, true, false, false, false, false, true, false] rfl rfl rfl rfl (by kernel_rfl) (by decide) (by decide) (fun K hK => ?_) (fun K hK => ?_)
   ·
    refine gs_ Try.func31 #[.agg #[.int .i64 g1, .int .i64 g2], .int .i64 (wrap64 (1 + t1))] ?_
    with_reducible refine (spec_l05Make.calls k g1 g2 (wrap64 (1 + t1)) T1 _ E3.out).mono ?_; rintro e wx2 ⟨v_, rfl, ho, hb⟩; refine ⟨_, rfl, ?_⟩; have HT1 := am (Kd.R_lower ho (keep_size HC.out.k)); obtain ⟨X3, d3, e_⟩ := Kd.R_slice ho; subst e_; replace B2 := kb_ B2 hb; replace B3 := kb_ B3 hb; replace HC := am (HC.out.below hb); clear hb ho
    refine hK.out _ _ ⟨(blk_cell B3.out 0).trans rfl, (blk_cell B3.out 1).trans rfl⟩ (fun hHeld => ?_)
    clear hK K
    refine nm_ 13 ?_
    refine two_ (i := 7) (j := 11) (Ni := some 16) (Nj := some 4) #[true, true, true, true, true, true, true, true, false, false, false, false, false] #[true, true, true, true, true, true, true, false, false, false, false, true, false] rfl rfl rfl rfl (by kernel_rfl) (by decide) (by decide) (fun K hK => ?_) (fun K hK => ?_)
    ·
     refine gs_ Try.func17 #[.pointer (some ⟨g, 0, none⟩), .int .i64 4] ?_
     with_reducible refine (spec_l01Below.calls g s0_0 i2 j2 4 t2 i3 j3 w0 _ HC.out.s HC.out.bl E4.out).mono ?_; rintro e wx3 ⟨rfl, hs, hb, hk⟩; refine ⟨_, rfl, ?_⟩; replace B2 := am (Cu.blk HG.out G2.out (bq_ B2.out) hk); replace B3 := am (Cu.blk HG.out G3.out (bq_ B3.out) hk); replace HT1 := am (Cu.row HG.out (ra_ HT1.out) hk); replace HC := am (HC.out.step hs hb hk); clear hs hb hk
     refine hK.out _ _ ⟨(blk_cell B3.out 0).trans rfl, (blk_cell B3.out 1).trans rfl⟩ (fun hHeld => ?_)
     clear hK K
     refine nm_ 16 ?_
     refine pk_ 8 17 (bt_ 13 511) ?_
     refine two_ (i := 9) (j := 11) (Ni := some 18) (Nj := some 4) #[true, true, true, true, true, true, true, true, true, true, false, false, false] #[true, true, true, true, true, true, true, true, true, false, false, true, false] rfl rfl rfl rfl (by kernel_rfl) (by decide) (by decide) (fun K hK => ?_) (fun K hK => ?_)
     ·
      refine gs_ Try.func31 #[.agg #[.int .i64 g1, .int .i64 g2], .int .i64 (wrap64 (1 + t2))] ?_
      with_reducible refine (spec_l05Make.calls k g1 g2 (wrap64 (1 + t2)) T2 _ E5.out).mono ?_; rintro e wx4 ⟨v_, rfl, ho, hb⟩; refine ⟨_, rfl, ?_⟩; have HT2 := am (Kd.R_lower ho (keep_size HC.out.k)); obtain ⟨X4, d4, e_⟩ := Kd.R_slice ho; subst e_; replace B2 := kb_ B2 hb; replace B3 := kb_ B3 hb; replace HT1 := am (Kd.R_below (ra_ HT1.out) hb); replace HC := am (HC.out.below hb); clear hb ho
      refine hK.out _ _ ⟨(blk_cell B3.out 0).trans rfl, (blk_cell B3.out 1).trans rfl⟩ (fun hHeld => ?_)
      clear hK K
      refine nm_ 18 ?_
      refine pk_ 10 19 (bt_ 13 2047) ?_
      refine one_ (i := 11) (N := some 4) (bt_ 13 4095) rfl rfl (by kernel_rfl) (by decide) (fun K hK => ?_)
      refine box_step ?hg (N := 4) ?hd (cs := #[.slice none 0 0, .slice none 0 0]) (t := 32) ?hr ?_; (case hd => rfl); (case hg => rfl); (case hr => first | (go_simp; done) | (go_simp; rfl)); intro gb4 hg w1 hbox hb
      have B4_ := am hbox; have G4 := am (show w.heap.size ≤ gb4 by rw [hg]; exact (keep_size HC.out.k)); have N24 := am (show gb2 ≠ gb4 by rw [hg]; exact Nat.ne_of_lt (bl_ B2.out)); have N34 := am (show gb3 ≠ gb4 by rw [hg]; exact Nat.ne_of_lt (bl_ B3.out)); replace B2 := kb_ B2 hb; replace B3 := kb_ B3 hb; replace HT1 := am (Kd.R_below (ra_ HT1.out) hb); replace HT2 := am (Kd.R_below (ra_ HT2.out) hb); have B4 := B4_; clear B4_; replace HC := am (HC.out.below hb); clear hb hbox hg
      refine hK.out _ _ ⟨(blk_cell B3.out 0).trans rfl, (blk_cell B3.out 1).trans rfl⟩ (fun hHeld => ?_)
      clear hK K
      refine nm_ 4 ?_
      exact norm_ (by simp only [putAll, Act.put, List.setIfInBounds_toArray, List.set_cons_zero, List.set_cons_succ]) (hCont (X3, d3, X4, d4, gb4) _ ⟨hHeld, HT1.out, HT2.out, B2.out, B3.out, B4.out, G4.out, N24.out, N34.out, HC.out⟩)
     ·
      refine box_step ?hg (N := 4) ?hd (cs := #[.slice none 0 0, .slice none 0 0]) (t := 32) ?hr ?_; (case hd => rfl); (case hg => rfl); (case hr => first | (go_simp; done) | (go_simp; rfl)); intro gb4 hg w1 hbox hb
      have B4_ := am hbox; have G4 := am (show w.heap.size ≤ gb4 by rw [hg]; exact (keep_size HC.out.k)); have N24 := am (show gb2 ≠ gb4 by rw [hg]; exact Nat.ne_of_lt (bl_ B2.out)); have N34 := am (show gb3 ≠ gb4 by rw [hg]; exact Nat.ne_of_lt (bl_ B3.out)); replace B2 := kb_ B2 hb; replace B3 := kb_ B3 hb; replace HT1 := am (Kd.R_below (ra_ HT1.out) hb); have B4 := B4_; clear B4_; replace HC := am (HC.out.below hb); clear hb hbox hg
      refine hK.out _ _ ⟨(blk_cell B3.out 0).trans rfl, (blk_cell B3.out 1).trans rfl⟩ (fun hHeld => ?_)
      clear hK K
      refine nm_ 4 ?_
      refine one_ (i := 9) (N := some 18) (bt_ 13 3071) rfl rfl (by kernel_rfl) (by decide) (fun K hK => ?_)
      refine gs_ Try.func31 #[.agg #[.int .i64 g1, .int .i64 g2], .int .i64 (wrap64 (1 + t2))] ?_
      with_reducible refine (spec_l05Make.calls k g1 g2 (wrap64 (1 + t2)) T2 _ E5.out).mono ?_; rintro e wx7 ⟨v_, rfl, ho, hb⟩; refine ⟨_, rfl, ?_⟩; have HT2 := am (Kd.R_lower ho (keep_size HC.out.k)); obtain ⟨X4, d4, e_⟩ := Kd.R_slice ho; subst e_; replace B2 := kb_ B2 hb; replace B3 := kb_ B3 hb; replace B4 := kb_ B4 hb; replace HT1 := am (Kd.R_below (ra_ HT1.out) hb); replace HC := am (HC.out.below hb); clear hb ho
      refine hK.out _ _ ⟨(blk_cell B3.out 0).trans rfl, (blk_cell B3.out 1).trans rfl⟩ (fun hHeld => ?_)
      clear hK K
      refine nm_ 18 ?_
      refine pk_ 10 19 (bt_ 13 4095) ?_
      exact norm_ (by simp only [putAll, Act.put, List.setIfInBounds_toArray, List.set_cons_zero, List.set_cons_succ]) (hCont (X3, d3, X4, d4, gb4) _ ⟨hHeld, HT1.out, HT2.out, B2.out, B3.out, B4.out, G4.out, N24.out, N34.out, HC.out⟩)
    ·
     refine box_step ?hg (N := 4) ?hd (cs := #[.slice none 0 0, .slice none 0 0]) (t := 32) ?hr ?_; (case hd => rfl); (case hg => rfl); (case hr => first | (go_simp; done) | (go_simp; rfl)); intro gb4 hg w1 hbox hb
     have B4_ := am hbox; have G4 := am (show w.heap.size ≤ gb4 by rw [hg]; exact (keep_size HC.out.k)); have N24 := am (show gb2 ≠ gb4 by rw [hg]; exact Nat.ne_of_lt (bl_ B2.out)); have N34 := am (show gb3 ≠ gb4 by rw [hg]; exact Nat.ne_of_lt (bl_ B3.out)); replace B2 := kb_ B2 hb; replace B3 := kb_ B3 hb; replace HT1 := am (Kd.R_below (ra_ HT1.out) hb); have B4 := B4_; clear B4_; replace HC := am (HC.out.below hb); clear hb hbox hg
     refine hK.out _ _ ⟨(blk_cell B3.out 0).trans rfl, (blk_cell B3.out 1).trans rfl⟩ (fun hHeld => ?_)
     clear hK K
     refine nm_ 4 ?_
     refine one_ (i := 7) (N := some 16) (bt_ 13 2303) rfl rfl (by kernel_rfl) (by decide) (fun K hK => ?_)
     refine gs_ Try.func17 #[.pointer (some ⟨g, 0, none⟩), .int .i64 4] ?_
     with_reducible refine (spec_l01Below.calls g s0_0 i2 j2 4 t2 i3 j3 w0 _ HC.out.s HC.out.bl E4.out).mono ?_; rintro e wx9 ⟨rfl, hs, hb, hk⟩; refine ⟨_, rfl, ?_⟩; replace B2 := am (Cu.blk HG.out G2.out (bq_ B2.out) hk); replace B3 := am (Cu.blk HG.out G3.out (bq_ B3.out) hk); replace B4 := am (Cu.blk HG.out G4.out (bq_ B4.out) hk); replace HT1 := am (Cu.row HG.out (ra_ HT1.out) hk); replace HC := am (HC.out.step hs hb hk); clear hs hb hk
     refine hK.out _ _ ⟨(blk_cell B3.out 0).trans rfl, (blk_cell B3.out 1).trans rfl⟩ (fun hHeld => ?_)
     clear hK K
     refine nm_ 16 ?_
     refine pk_ 8 17 (bt_ 13 2559) ?_
     refine one_ (i := 9) (N := some 18) (bt_ 13 3071) rfl rfl (by kernel_rfl) (by decide) (fun K hK => ?_)
     refine gs_ Try.func31 #[.agg #[.int .i64 g1, .int .i64 g2], .int .i64 (wrap64 (1 + t2))] ?_
     with_reducible refine (spec_l05Make.calls k g1 g2 (wrap64 (1 + t2)) T2 _ E5.out).mono ?_; rintro e wx10 ⟨v_, rfl, ho, hb⟩; refine ⟨_, rfl, ?_⟩; have HT2 := am (Kd.R_lower ho (keep_size HC.out.k)); obtain ⟨X4, d4, e_⟩ := Kd.R_slice ho; subst e_; replace B2 := kb_ B2 hb; replace B3 := kb_ B3 hb; replace B4 := kb_ B4 hb; replace HT1 := am (Kd.R_below (ra_ HT1.out) hb); replace HC := am (HC.out.below hb); clear hb ho
     refine hK.out _ _ ⟨(blk_cell B3.out 0).trans rfl, (blk_cell B3.out 1).trans rfl⟩ (fun hHeld => ?_)
     clear hK K
     refine nm_ 18 ?_
     refine pk_ 10 19 (bt_ 13 4095) ?_
     exact norm_ (by simp only [putAll, Act.put, List.setIfInBounds_toArray, List.set_cons_zero, List.set_cons_succ]) (hCont (X3, d3, X4, d4, gb4) _ ⟨hHeld, HT1.out, HT2.out, B2.out, B3.out, B4.out, G4.out, N24.out, N34.out, HC.out⟩)
   ·
    refine box_step ?hg (N := 4) ?hd (cs := #[.slice none 0 0, .slice none 0 0]) (t := 32) ?hr ?_; (case hd => rfl); (case hg => rfl); (case hr => first | (go_simp; done) | (go_simp; rfl)); intro gb4 hg w1 hbox hb
    have B4_ := am hbox; have G4 := am (show w.heap.size ≤ gb4 by rw [hg]; exact (keep_size HC.out.k)); have N24 := am (show gb2 ≠ gb4 by rw [hg]; exact Nat.ne_of_lt (bl_ B2.out)); have N34 := am (show gb3 ≠ gb4 by rw [hg]; exact Nat.ne_of_lt (bl_ B3.out)); replace B2 := kb_ B2 hb; replace B3 := kb_ B3 hb; have B4 := B4_; clear B4_; replace HC := am (HC.out.below hb); clear hb hbox hg
    refine hK.out _ _ ⟨(blk_cell B3.out 0).trans rfl, (blk_cell B3.out 1).trans rfl⟩ (fun hHeld => ?_)
    clear hK K
    refine nm_ 4 ?_
    refine one_ (i := 4) (N := some 13) (bt_ 13 2175) rfl rfl (by kernel_rfl) (by decide) (fun K hK => ?_)
    refine gs_ Try.func31 #[.agg #[.int .i64 g1, .int .i64 g2], .int .i64 (wrap64 (1 + t1))] ?_
    with_reducible refine (spec_l05Make.calls k g1 g2 (wrap64 (1 + t1)) T1 _ E3.out).mono ?_; rintro e wx12 ⟨v_, rfl, ho, hb⟩; refine ⟨_, rfl, ?_⟩; have HT1 := am (Kd.R_lower ho (keep_size HC.out.k)); obtain ⟨X3, d3, e_⟩ := Kd.R_slice ho; subst e_; replace B2 := kb_ B2 hb; replace B3 := kb_ B3 hb; replace B4 := kb_ B4 hb; replace HC := am (HC.out.below hb); clear hb ho
    refine hK.out _ _ ⟨(blk_cell B3.out 0).trans rfl, (blk_cell B3.out 1).trans rfl⟩ (fun hHeld => ?_)
    clear hK K
    refine nm_ 13 ?_
    refine one_ (i := 7) (N := some 16) (bt_ 13 2303) rfl rfl (by kernel_rfl) (by decide) (fun K hK => ?_)
    refine gs_ Try.func17 #[.pointer (some ⟨g, 0, none⟩), .int .i64 4] ?_
    with_reducible refine (spec_l01Below.calls g s0_0 i2 j2 4 t2 i3 j3 w0 _ HC.out.s HC.out.bl E4.out).mono ?_; rintro e wx13 ⟨rfl, hs, hb, hk⟩; refine ⟨_, rfl, ?_⟩; replace B2 := am (Cu.blk HG.out G2.out (bq_ B2.out) hk); replace B3 := am (Cu.blk HG.out G3.out (bq_ B3.out) hk); replace B4 := am (Cu.blk HG.out G4.out (bq_ B4.out) hk); replace HT1 := am (Cu.row HG.out (ra_ HT1.out) hk); replace HC := am (HC.out.step hs hb hk); clear hs hb hk
    refine hK.out _ _ ⟨(blk_cell B3.out 0).trans rfl, (blk_cell B3.out 1).trans rfl⟩ (fun hHeld => ?_)
    clear hK K
    refine nm_ 16 ?_
    refine pk_ 8 17 (bt_ 13 2559) ?_
    refine one_ (i := 9) (N := some 18) (bt_ 13 3071) rfl rfl (by kernel_rfl) (by decide) (fun K hK => ?_)
    refine gs_ Try.func31 #[.agg #[.int .i64 g1, .int .i64 g2], .int .i64 (wrap64 (1 + t2))] ?_
    with_reducible refine (spec_l05Make.calls k g1 g2 (wrap64 (1 + t2)) T2 _ E5.out).mono ?_; rintro e wx14 ⟨v_, rfl, ho, hb⟩; refine ⟨_, rfl, ?_⟩; have HT2 := am (Kd.R_lower ho (keep_size HC.out.k)); obtain ⟨X4, d4, e_⟩ := Kd.R_slice ho; subst e_; replace B2 := kb_ B2 hb; replace B3 := kb_ B3 hb; replace B4 := kb_ B4 hb; replace HT1 := am (Kd.R_below (ra_ HT1.out) hb); replace HC := am (HC.out.below hb); clear hb ho
    refine hK.out _ _ ⟨(blk_cell B3.out 0).trans rfl, (blk_cell B3.out 1).trans rfl⟩ (fun hHeld => ?_)
    clear hK K
    refine nm_ 18 ?_
    refine pk_ 10 19 (bt_ 13 4095) ?_
    exact norm_ (by simp only [putAll, Act.put, List.setIfInBounds_toArray, List.set_cons_zero, List.set_cons_succ]) (hCont (X3, d3, X4, d4, gb4) _ ⟨hHeld, HT1.out, HT2.out, B2.out, B3.out, B4.out, G4.out, N24.out, N34.out, HC.out⟩)
  ·
   refine box_step ?hg (N := 4) ?hd (cs := #[.slice none 0 0, .slice none 0 0]) (t := 32) ?hr ?_; (case hd => rfl); (case hg => rfl); (case hr => first | (go_simp; done) | (go_simp; rfl)); intro gb4 hg w1 hbox hb
   have B4_ := am hbox; have G4 := am (show w.heap.size ≤ gb4 by rw [hg]; exact (keep_size HC.out.k)); have N24 := am (show gb2 ≠ gb4 by rw [hg]; exact Nat.ne_of_lt (bl_ B2.out)); have N34 := am (show gb3 ≠ gb4 by rw [hg]; exact Nat.ne_of_lt (bl_ B3.out)); replace B2 := kb_ B2 hb; replace B3 := kb_ B3 hb; have B4 := B4_; clear B4_; replace HC := am (HC.out.below hb); clear hb hbox hg
   refine hK.out _ _ ⟨(blk_cell B3.out 0).trans rfl, (blk_cell B3.out 1).trans rfl⟩ (fun hHeld => ?_)
   clear hK K
   refine nm_ 4 ?_
   refine one_ (i := 2) (N := some 11) (bt_ 13 2151) rfl rfl (by kernel_rfl) (by decide) (fun K hK => ?_)
   refine gs_ Try.func17 #[.pointer (some ⟨g, 0, none⟩), .int .i64 4] ?_
   with_reducible refine (spec_l01Below.calls g s0_0 i1 j1 4 t1 i2 j2 w0 _ HC.out.s HC.out.bl E2.out).mono ?_; rintro e wx16 ⟨rfl, hs, hb, hk⟩; refine ⟨_, rfl, ?_⟩; replace B2 := am (Cu.blk HG.out G2.out (bq_ B2.out) hk); replace B3 := am (Cu.blk HG.out G3.out (bq_ B3.out) hk); replace B4 := am (Cu.blk HG.out G4.out (bq_ B4.out) hk); replace HC := am (HC.out.step hs hb hk); clear hs hb hk
   refine hK.out _ _ ⟨(blk_cell B3.out 0).trans rfl, (blk_cell B3.out 1).trans rfl⟩ (fun hHeld => ?_)
   clear hK K
   refine nm_ 11 ?_
   refine pk_ 3 12 (bt_ 13 2159) ?_
   refine one_ (i := 4) (N := some 13) (bt_ 13 2175) rfl rfl (by kernel_rfl) (by decide) (fun K hK => ?_)
   refine gs_ Try.func31 #[.agg #[.int .i64 g1, .int .i64 g2], .int .i64 (wrap64 (1 + t1))] ?_
   with_reducible refine (spec_l05Make.calls k g1 g2 (wrap64 (1 + t1)) T1 _ E3.out).mono ?_; rintro e wx17 ⟨v_, rfl, ho, hb⟩; refine ⟨_, rfl, ?_⟩; have HT1 := am (Kd.R_lower ho (keep_size HC.out.k)); obtain ⟨X3, d3, e_⟩ := Kd.R_slice ho; subst e_; replace B2 := kb_ B2 hb; replace B3 := kb_ B3 hb; replace B4 := kb_ B4 hb; replace HC := am (HC.out.below hb); clear hb ho
   refine hK.out _ _ ⟨(blk_cell B3.out 0).trans rfl, (blk_cell B3.out 1).trans rfl⟩ (fun hHeld => ?_)
   clear hK K
   refine nm_ 13 ?_
   refine one_ (i := 7) (N := some 16) (bt_ 13 2303) rfl rfl (by kernel_rfl) (by decide) (fun K hK => ?_)
   refine gs_ Try.func17 #[.pointer (some ⟨g, 0, none⟩), .int .i64 4] ?_
   with_reducible refine (spec_l01Below.calls g s0_0 i2 j2 4 t2 i3 j3 w0 _ HC.out.s HC.out.bl E4.out).mono ?_; rintro e wx18 ⟨rfl, hs, hb, hk⟩; refine ⟨_, rfl, ?_⟩; replace B2 := am (Cu.blk HG.out G2.out (bq_ B2.out) hk); replace B3 := am (Cu.blk HG.out G3.out (bq_ B3.out) hk); replace B4 := am (Cu.blk HG.out G4.out (bq_ B4.out) hk); replace HT1 := am (Cu.row HG.out (ra_ HT1.out) hk); replace HC := am (HC.out.step hs hb hk); clear hs hb hk
   refine hK.out _ _ ⟨(blk_cell B3.out 0).trans rfl, (blk_cell B3.out 1).trans rfl⟩ (fun hHeld => ?_)
   clear hK K
   refine nm_ 16 ?_
   refine pk_ 8 17 (bt_ 13 2559) ?_
   refine one_ (i := 9) (N := some 18) (bt_ 13 3071) rfl rfl (by kernel_rfl) (by decide) (fun K hK => ?_)
   refine gs_ Try.func31 #[.agg #[.int .i64 g1, .int .i64 g2], .int .i64 (wrap64 (1 + t2))] ?_
   with_reducible refine (spec_l05Make.calls k g1 g2 (wrap64 (1 + t2)) T2 _ E5.out).mono ?_; rintro e wx19 ⟨v_, rfl, ho, hb⟩; refine ⟨_, rfl, ?_⟩; have HT2 := am (Kd.R_lower ho (keep_size HC.out.k)); obtain ⟨X4, d4, e_⟩ := Kd.R_slice ho; subst e_; replace B2 := kb_ B2 hb; replace B3 := kb_ B3 hb; replace B4 := kb_ B4 hb; replace HT1 := am (Kd.R_below (ra_ HT1.out) hb); replace HC := am (HC.out.below hb); clear hb ho
   refine hK.out _ _ ⟨(blk_cell B3.out 0).trans rfl, (blk_cell B3.out 1).trans rfl⟩ (fun hHeld => ?_)
   clear hK K
   refine nm_ 18 ?_
   refine pk_ 10 19 (bt_ 13 4095) ?_
   exact norm_ (by simp only [putAll, Act.put, List.setIfInBounds_toArray, List.set_cons_zero, List.set_cons_succ]) (hCont (X3, d3, X4, d4, gb4) _ ⟨hHeld, HT1.out, HT2.out, B2.out, B3.out, B4.out, G4.out, N24.out, N34.out, HC.out⟩)
 clear HC B2 B3 hHeld; rintro ⟨X3, d3, X4, d4, gb4⟩ wd ⟨hHeld, h1_, h2_, h3_, h4_, h5_, h6_, h7_, h8_, h9_⟩; have HT1 := am h1_; have HT2 := am h2_; have B2 := am h3_; have B3 := am h4_; have B4 := am h5_; have G4 := am h6_; have N24 := am h7_; have N34 := am h8_; have HC := am h9_; clear h1_ h2_ h3_ h4_ h5_ h6_ h7_ h8_ h9_ E2 E3 E4 E5
 refine norm_ (a' := ?_) ?_ ?_
 rotate_left
 ·simp only [putAll, Act.put, List.setIfInBounds_toArray, List.set_cons_zero, List.set_cons_succ]
  rfl
 refine one_ (i := 12) (N := none) (bt_ 13 8191) rfl rfl (by kernel_rfl) (by decide) (fun K hK => ?_)
 obtain ⟨z0, z1, zf0, zf1⟩ := cz2_ B4.out; refine skip_ (w1 := ?_) (by rfl) rfl ?_ ?_
 rotate_left
 ·go_simp
  rfl
 clear z0 z1 zf0 zf1; replace HT1 := am (st2_row HT1.out B4.out (by decide) : Kd.R (Kd.int .i64) 3 (st2_ wd gb4 (.slice X3 T1.length d3) (.slice X4 T2.length d4)) _ _ _ _); replace HT2 := am (st2_row HT2.out B4.out (by decide) : Kd.R (Kd.int .i64) 3 (st2_ wd gb4 (.slice X3 T1.length d3) (.slice X4 T2.length d4)) _ _ _ _); replace HC := am (st2_cu HC.out G4.out HG.out : Cu w0 w (st2_ wd gb4 (.slice X3 T1.length d3) (.slice X4 T2.length d4)) g s0_0 _ _)
 replace B2 := am ((st2_far N24.out : (st2_ wd gb4 (.slice X3 T1.length d3) (.slice X4 T2.length d4)).heap[gb2]? = _).trans B2.out)
 replace B3 := am ((st2_far N34.out : (st2_ wd gb4 (.slice X3 T1.length d3) (.slice X4 T2.length d4)).heap[gb3]? = _).trans B3.out)
 replace B4 := am (st2_blk B4.out : (st2_ wd gb4 (.slice X3 T1.length d3) (.slice X4 T2.length d4)).heap[gb4]? = _)
 refine hK.out _ (st2_ wd gb4 (.slice X3 T1.length d3) (.slice X4 T2.length d4)) ⟨(blk_cell B3.out 0).trans rfl, (blk_cell B3.out 1).trans rfl⟩ (fun hHeld => ?_); clear hK K; generalize st2_ wd gb4 (.slice X3 T1.length d3) (.slice X4 T2.length d4) = we at *; refine done_ (by kernel_rfl) ?_; clear hHeld
 obtain ⟨y0, y1, yf0, yf1⟩ := cz2_ B3.out; obtain ⟨z0, z1, zf0, zf1⟩ := cz2_ B4.out
 go_upto_region 4 with (first | (go_at_call 32; (refine (spec_NetNew.calls k g1 g2 none 0 [] _ _ T1 _ _ T2 n1 n2 n3 n4 n5 n6 n7 n8 n9 n10 n11 n12 _ (Kd.C_nil _ _) (Nat.le_refl 0) (Kd.R_reads' HT1.out).2.2 (Kd.R_reads' HT1.out).2.1 (Kd.R_reads' HT2.out).2.2 (Kd.R_reads' HT2.out).2.1 E6.out).mono ?_); rintro e wf ⟨T_, u2_, u3_, u4_, u5_, u6_, u7_, u8_, u9_, rfl, hM, hb⟩; obtain ⟨s2_, s3_, s4_, s5_, s6_, s7_, s8_, s9_⟩ := hM.std; have HN := am (Std8.lower ⟨s2_, s3_, s4_, s5_, s6_, s7_, s8_, s9_⟩ (keep_size HC.out.k)); replace B2 := kb_ B2 hb; replace B3 := kb_ B3 hb; replace B4 := kb_ B4 hb; replace HC := am (HC.out.below hb); clear hb hM s2_ s3_ s4_ s5_ s6_ s7_ s8_ s9_ HT1 HT2 y0 y1 yf0 yf1 z0 z1 zf0 zf1; obtain ⟨X2_, d2_, e_⟩ := Kd.R_slice HN.out.h2; subst e_; obtain ⟨X3_, d3_, e_⟩ := Kd.R_slice HN.out.h3; subst e_; obtain ⟨X4_, d4_, e_⟩ := Kd.R_slice HN.out.h4; subst e_; obtain ⟨X5_, d5_, e_⟩ := Kd.S_slice HN.out.h5; subst e_; obtain ⟨X6_, d6_, e_⟩ := Kd.R_slice HN.out.h6; subst e_; obtain ⟨X7_, d7_, e_⟩ := Kd.R_slice HN.out.h7; subst e_; obtain ⟨X8_, d8_, e_⟩ := Kd.S_slice HN.out.h8; subst e_; obtain ⟨X9_, d9_, e_⟩ := Kd.S_slice HN.out.h9; subst e_))
 clear B4 N24 N34 G4 E6
 obtain ⟨gb5, wg, hx_, hw_, B5_, G5_, hb_, HC_⟩ := HC.out.new (Obj.cells #[.int .i64 n1, .int .i64 n2, (.slice X2_ n3.length d2_), (.slice X3_ n4.length d3_), (.slice X4_ n5.length d4_), (.slice X5_ n6.length d5_), (.slice X6_ n7.length d6_), (.slice X7_ n8.length d7_), (.slice X8_ n9.length d8_), (.slice X9_ n10.length d9_), .int .i64 n11] 35 (0, 0))
 have N25 := am (show gb2 ≠ gb5 by rw [← hx_]; exact Nat.ne_of_lt (blk_lt B2.out))
 have N35 := am (show gb3 ≠ gb5 by rw [← hx_]; exact Nat.ne_of_lt (blk_lt B3.out))
 replace B2 := kb_ B2 hb_
 replace B3 := kb_ B3 hb_
 replace HN := am (HN.out.below hb_)
 rw [hx_, hw_]; clear hb_ hx_ hw_; have B5 := am B5_; have G5 := am G5_; replace HC := am HC_; clear B5_ G5_ HC_
 refine start_ (n := 9) (S := fun w' => w'.cell? ⟨gb5, 0, none⟩ = some (.int .i64 n1) ∧ w'.cell? ⟨gb5, 1, none⟩ = some (.int .i64 n2) ∧ w'.cell? ⟨gb5, 2, none⟩ = some ((.slice X2_ n3.length d2_)) ∧ w'.cell? ⟨gb5, 3, none⟩ = some ((.slice X3_ n4.length d3_)) ∧ w'.cell? ⟨gb5, 4, none⟩ = some ((.slice X4_ n5.length d4_)) ∧ w'.cell? ⟨gb5, 5, none⟩ = some ((.slice X5_ n6.length d5_)) ∧ w'.cell? ⟨gb5, 6, none⟩ = some ((.slice X6_ n7.length d6_)) ∧ w'.cell? ⟨gb5, 7, none⟩ = some ((.slice X7_ n8.length d7_)) ∧ w'.cell? ⟨gb5, 8, none⟩ = some ((.slice X8_ n9.length d8_)) ∧ w'.cell? ⟨gb5, 9, none⟩ = some ((.slice X9_ n10.length d9_)) ∧ w'.cell? ⟨gb5, 10, none⟩ = some (.int .i64 (n11)) ∧ w'.cell? ⟨gb3, 0, none⟩ = some (.int .i64 g1) ∧ w'.cell? ⟨gb3, 1, none⟩ = some (.int .i64 g2)) (ds := [8]) #[false, false, false, false, false, false, false, false, false] (by kernel_rfl) rfl rfl ⟨(blk_cell B5.out 0).trans rfl, (blk_cell B5.out 1).trans rfl, (blk_cell B5.out 2).trans rfl, (blk_cell B5.out 3).trans rfl, (blk_cell B5.out 4).trans rfl, (blk_cell B5.out 5).trans rfl, (blk_cell B5.out 6).trans rfl, (blk_cell B5.out 7).trans rfl, (blk_cell B5.out 8).trans rfl, (blk_cell B5.out 9).trans rfl, (blk_cell B5.out 10).trans rfl, (blk_cell B3.out 0).trans rfl, (blk_cell B3.out 1).trans rfl⟩ (fun hHeld => ?_)
 replace B2 := am (bq_ B2.out : wg.drew.heap[gb2]? = _)
 replace B3 := am (bq_ B3.out : wg.drew.heap[gb3]? = _)
 replace B5 := am (bq_ B5.out : wg.drew.heap[gb5]? = _)
 replace HN := am (HN.out.drew)
 replace HC := am (Cu.drew HC.out); generalize wg.drew = wh at *
 refine tk_ (v := .agg #[.int .i64 n1, .int .i64 n2, (.slice X2_ n3.length d2_), (.slice X3_ n4.length d3_), (.slice X4_ n5.length d4_), (.slice X5_ n6.length d5_), (.slice X6_ n7.length d6_), (.slice X7_ n8.length d7_), (.slice X8_ n9.length d8_), (.slice X9_ n10.length d9_), .int .i64 n11]) 0 28 (bt_ 9 1) hHeld ?_ (hy := by rintro w' ⟨s0, s1, s2, s3, s4, s5, s6, s7, s8, s9, s10, s11, s12⟩; go_simp)
 refine pk_ 1 29 (bt_ 9 3) ?_
 refine tk_ (v := .agg #[.int .i64 g1, .int .i64 g2]) 2 30 (bt_ 9 7) hHeld ?_ (hy := by rintro w' ⟨s0, s1, s2, s3, s4, s5, s6, s7, s8, s9, s10, s11, s12⟩; go_simp)
 refine one_ (i := 3) (N := some 31) (bt_ 9 15) rfl rfl (by kernel_rfl) (by decide) (fun K hK => ?_)
 refine gs_ Try.func34 #[.pointer (some ⟨g, 0, none⟩), .agg #[.int .i64 g1, .int .i64 g2]] ?_
 with_reducible refine (spec_l16Packets.calls k g s0_0 i3 j3 g1 g2 P i4 j4 w0 _ HC.out.s HC.out.bl E7.out).mono ?_; rintro e wi ⟨v_, rfl, ho, hs, hb, hk⟩; refine ⟨_, rfl, ?_⟩; have HP := am (Kd.R_lower ho (keep_size HC.out.k)); obtain ⟨XP, dP, e_⟩ := Kd.R_slice ho; subst e_; replace B2 := am (Cu.blk HG.out G2.out (bq_ B2.out) hk); replace B3 := am (Cu.blk HG.out G3.out (bq_ B3.out) hk); replace B5 := am (Cu.blk HG.out G5.out (bq_ B5.out) hk); replace HN := am (HN.out.keep HG.out hk); replace HC := am (HC.out.step hs hb hk); clear hs hb hk ho
 refine hK.out _ _ ⟨(blk_cell B5.out 0).trans rfl, (blk_cell B5.out 1).trans rfl, (blk_cell B5.out 2).trans rfl, (blk_cell B5.out 3).trans rfl, (blk_cell B5.out 4).trans rfl, (blk_cell B5.out 5).trans rfl, (blk_cell B5.out 6).trans rfl, (blk_cell B5.out 7).trans rfl, (blk_cell B5.out 8).trans rfl, (blk_cell B5.out 9).trans rfl, (blk_cell B5.out 10).trans rfl, (blk_cell B3.out 0).trans rfl, (blk_cell B3.out 1).trans rfl⟩ (fun hHeld => ?_)
 clear hK K
 refine nm_ 31 ?_
 refine one_ (i := 4) (N := some 32) (bt_ 9 31) rfl rfl (by kernel_rfl) (by decide) (fun K hK => ?_)
 have HO := HN
 refine gs_ Try.func33 #[.agg #[.int .i64 n1, .int .i64 n2, (.slice X2_ n3.length d2_), (.slice X3_ n4.length d3_), (.slice X4_ n5.length d4_), (.slice X5_ n6.length d5_), (.slice X6_ n7.length d6_), (.slice X7_ n8.length d7_), (.slice X8_ n9.length d8_), (.slice X9_ n10.length d9_), .int .i64 n11], .slice XP P.length dP] ?_
 with_reducible refine (spec_SendAll.callsS k n1 n2 _ _ n3 _ _ n4 _ _ n5 _ _ n6 _ _ n7 _ _ n8 _ _ n9 _ _ n10 n11 _ _ P q1 q2 q3 q4 q5 q6 q7 q8 q9 q10 q11 q12 _ (Kd.R_reads' HO.out.h2).2.2 (Kd.R_reads' HO.out.h2).2.1 (Kd.R_reads' HO.out.h3).2.2 (Kd.R_reads' HO.out.h3).2.1 (Kd.R_reads' HO.out.h4).2.2 (Kd.R_reads' HO.out.h4).2.1 (Kd.S_reads' HO.out.h5).2.2 (Kd.S_reads' HO.out.h5).2.1 (Kd.R_reads' HO.out.h6).2.2 (Kd.R_reads' HO.out.h6).2.1 (Kd.R_reads' HO.out.h7).2.2 (Kd.R_reads' HO.out.h7).2.1 (Kd.S_reads' HO.out.h8).2.2 (Kd.S_reads' HO.out.h8).2.1 (Kd.S_reads' HO.out.h9).2.2 (Kd.S_reads' HO.out.h9).2.1 (Kd.R_reads' HP.out).2.2 (Kd.R_reads' HP.out).2.1 E8.out).mono ?_; rintro e wj ⟨u2_, u3_, u4_, u5_, u6_, u7_, u8_, u9_, rfl, hS, hb⟩; refine ⟨_, rfl, ?_⟩; replace HN := am (hS.lower (keep_size HC.out.k)); replace B2 := kb_ B2 hb; replace B3 := kb_ B3 hb; replace B5 := kb_ B5 hb; replace HC := am (HC.out.below hb); clear hb hS HO HP
 refine hK.out _ _ ⟨(blk_cell B5.out 0).trans rfl, (blk_cell B5.out 1).trans rfl, (blk_cell B5.out 2).trans rfl, (blk_cell B5.out 3).trans rfl, (blk_cell B5.out 4).trans rfl, (blk_cell B5.out 5).trans rfl, (blk_cell B5.out 6).trans rfl, (blk_cell B5.out 7).trans rfl, (blk_cell B5.out 8).trans rfl, (blk_cell B5.out 9).trans rfl, (blk_cell B5.out 10).trans rfl, (blk_cell B3.out 0).trans rfl, (blk_cell B3.out 1).trans rfl⟩ (fun hHeld => ?_)
 clear hK K
 refine nm_ 32 ?_
 refine pk_ 5 27 (bt_ 9 63) ?_
 refine pk_ 6 33 (bt_ 9 127) ?_
 refine pk_ 7 34 (bt_ 9 255) ?_
 refine last_ (i := 8) (N := none) (bt_ 9 511) rfl rfl (by kernel_rfl) (by decide) (fun K hK => ?_)
 obtain ⟨Y2_, e2_, e_⟩ := Kd.R_slice HN.out.h2; subst e_; obtain ⟨Y3_, e3_, e_⟩ := Kd.R_slice HN.out.h3; subst e_; obtain ⟨Y4_, e4_, e_⟩ := Kd.R_slice HN.out.h4; subst e_; obtain ⟨Y5_, e5_, e_⟩ := Kd.S_slice HN.out.h5; subst e_; obtain ⟨Y6_, e6_, e_⟩ := Kd.R_slice HN.out.h6; subst e_; obtain ⟨Y7_, e7_, e_⟩ := Kd.R_slice HN.out.h7; subst e_; obtain ⟨Y8_, e8_, e_⟩ := Kd.S_slice HN.out.h8; subst e_; obtain ⟨Y9_, e9_, e_⟩ := Kd.S_slice HN.out.h9; subst e_; obtain ⟨z0, z1, z2, z3, z4, z5, z6, z7, z8, z9, z10, zf0, zf1, zf2, zf3, zf4, zf5, zf6, zf7, zf8, zf9, zf10⟩ := cz11_ B5.out; refine skip_ (w1 := ?_) (by rfl) rfl ?_ ?_
 rotate_left
 ·go_simp
  rfl
 clear z0 z1 z2 z3 z4 z5 z6 z7 z8 z9 z10 zf0 zf1 zf2 zf3 zf4 zf5 zf6 zf7 zf8 zf9 zf10; replace HN := am (HN.out.far (w1 := st11_ wj gb5 (.int .i64 q1) (.int .i64 q2) ((.slice Y2_ q3.length e2_)) ((.slice Y3_ q4.length e3_)) ((.slice Y4_ q5.length e4_)) ((.slice Y5_ q6.length e5_)) ((.slice Y6_ q7.length e6_)) ((.slice Y7_ q8.length e7_)) ((.slice Y8_ q9.length e8_)) ((.slice Y9_ q10.length e9_)) (.int .i64 (q11))) (bq_ B5.out) (fun _ h_ => st11_far h_))
 replace B2 := am ((st11_far N25.out : (st11_ wj gb5 (.int .i64 q1) (.int .i64 q2) ((.slice Y2_ q3.length e2_)) ((.slice Y3_ q4.length e3_)) ((.slice Y4_ q5.length e4_)) ((.slice Y5_ q6.length e5_)) ((.slice Y6_ q7.length e6_)) ((.slice Y7_ q8.length e7_)) ((.slice Y8_ q9.length e8_)) ((.slice Y9_ q10.length e9_)) (.int .i64 (q11))).heap[gb2]? = _).trans B2.out)
 replace B3 := am ((st11_far N35.out : (st11_ wj gb5 (.int .i64 q1) (.int .i64 q2) ((.slice Y2_ q3.length e2_)) ((.slice Y3_ q4.length e3_)) ((.slice Y4_ q5.length e4_)) ((.slice Y5_ q6.length e5_)) ((.slice Y6_ q7.length e6_)) ((.slice Y7_ q8.length e7_)) ((.slice Y8_ q9.length e8_)) ((.slice Y9_ q10.length e9_)) (.int .i64 (q11))).heap[gb3]? = _).trans B3.out)
 replace HC := am (st11_cu HC.out G5.out HG.out : Cu w0 w (st11_ wj gb5 (.int .i64 q1) (.int .i64 q2) ((.slice Y2_ q3.length e2_)) ((.slice Y3_ q4.length e3_)) ((.slice Y4_ q5.length e4_)) ((.slice Y5_ q6.length e5_)) ((.slice Y6_ q7.length e6_)) ((.slice Y7_ q8.length e7_)) ((.slice Y8_ q9.length e8_)) ((.slice Y9_ q10.length e9_)) (.int .i64 (q11))) g s0_0 _ _); replace B5 := am (st11_blk B5.out : (st11_ wj gb5 (.int .i64 q1) (.int .i64 q2) ((.slice Y2_ q3.length e2_)) ((.slice Y3_ q4.length e3_)) ((.slice Y4_ q5.length e4_)) ((.slice Y5_ q6.length e5_)) ((.slice Y6_ q7.length e6_)) ((.slice Y7_ q8.length e7_)) ((.slice Y8_ q9.length e8_)) ((.slice Y9_ q10.length e9_)) (.int .i64 (q11))).heap[gb5]? = _)
 refine hK.out _ (st11_ wj gb5 (.int .i64 q1) (.int .i64 q2) ((.slice Y2_ q3.length e2_)) ((.slice Y3_ q4.length e3_)) ((.slice Y4_ q5.length e4_)) ((.slice Y5_ q6.length e5_)) ((.slice Y6_ q7.length e6_)) ((.slice Y7_ q8.length e7_)) ((.slice Y8_ q9.length e8_)) ((.slice Y9_ q10.length e9_)) (.int .i64 (q11))) ?_; clear hK K hHeld; generalize st11_ wj gb5 (.int .i64 q1) (.int .i64 q2) ((.slice Y2_ q3.length e2_)) ((.slice Y3_ q4.length e3_)) ((.slice Y4_ q5.length e4_)) ((.slice Y5_ q6.length e5_)) ((.slice Y6_ q7.length e6_)) ((.slice Y7_ q8.length e7_)) ((.slice Y8_ q9.length e8_)) ((.slice Y9_ q10.length e9_)) (.int .i64 (q11)) = wk at *; refine done_ (by kernel_rfl) ?_
 clear E7 E8; go_upto_region 5 with fail
 refine start_ (n := 5) (S := fun w' => w'.cell? ⟨gb5, 0, none⟩ = some (.int .i64 q1) ∧ w'.cell? ⟨gb5, 1, none⟩ = some (.int .i64 q2) ∧ w'.cell? ⟨gb5, 2, none⟩ = some ((.slice Y2_ q3.length e2_)) ∧ w'.cell? ⟨gb5, 3, none⟩ = some ((.slice Y3_ q4.length e3_)) ∧ w'.cell? ⟨gb5, 4, none⟩ = some ((.slice Y4_ q5.length e4_)) ∧ w'.cell? ⟨gb5, 5, none⟩ = some ((.slice Y5_ q6.length e5_)) ∧ w'.cell? ⟨gb5, 6, none⟩ = some ((.slice Y6_ q7.length e6_)) ∧ w'.cell? ⟨gb5, 7, none⟩ = some ((.slice Y7_ q8.length e7_)) ∧ w'.cell? ⟨gb5, 8, none⟩ = some ((.slice Y8_ q9.length e8_)) ∧ w'.cell? ⟨gb5, 9, none⟩ = some ((.slice Y9_ q10.length e9_)) ∧ w'.cell? ⟨gb5, 10, none⟩ = some (.int .i64 (q11))) (ds := [4]) #[false, false, false, false, false] (by kernel_rfl) rfl rfl ⟨(blk_cell B5.out 0).trans rfl, (blk_cell B5.out 1).trans rfl, (blk_cell B5.out 2).trans rfl, (blk_cell B5.out 3).trans rfl, (blk_cell B5.out 4).trans rfl, (blk_cell B5.out 5).trans rfl, (blk_cell B5.out 6).trans rfl, (blk_cell B5.out 7).trans rfl, (blk_cell B5.out 8).trans rfl, (blk_cell B5.out 9).trans rfl, (blk_cell B5.out 10).trans rfl⟩ (fun hHeld => ?_)
 replace B2 := am (bq_ B2.out : wk.drew.heap[gb2]? = _)
 replace B3 := am (bq_ B3.out : wk.drew.heap[gb3]? = _)
 replace B5 := am (bq_ B5.out : wk.drew.heap[gb5]? = _)
 replace HN := am (HN.out.drew)
 replace HC := am (Cu.drew HC.out); generalize wk.drew = wl at *
 refine tk_ (v := .agg #[.int .i64 q1, .int .i64 q2, (.slice Y2_ q3.length e2_), (.slice Y3_ q4.length e3_), (.slice Y4_ q5.length e4_), (.slice Y5_ q6.length e5_), (.slice Y6_ q7.length e6_), (.slice Y7_ q8.length e7_), (.slice Y8_ q9.length e8_), (.slice Y9_ q10.length e9_), .int .i64 q11]) 0 35 (bt_ 5 1) hHeld ?_ (hy := by rintro w' ⟨s0, s1, s2, s3, s4, s5, s6, s7, s8, s9, s10⟩; go_simp)
 refine pk_ 1 36 (bt_ 5 3) ?_
 refine one_ (i := 2) (N := some 37) (bt_ 5 7) rfl rfl (by kernel_rfl) (by decide) (fun K hK => ?_)
 refine gs_ Try.func17 #[.pointer (some ⟨g, 0, none⟩), .int .i64 12] ?_
 with_reducible refine (spec_l01Below.calls g s0_0 i4 j4 12 t3 i5 j5 w0 _ HC.out.s HC.out.bl E9.out).mono ?_; rintro e wm ⟨rfl, hs, hb, hk⟩; refine ⟨_, rfl, ?_⟩; replace B2 := am (Cu.blk HG.out G2.out (bq_ B2.out) hk); replace B3 := am (Cu.blk HG.out G3.out (bq_ B3.out) hk); replace B5 := am (Cu.blk HG.out G5.out (bq_ B5.out) hk); replace HN := am (HN.out.keep HG.out hk); replace HC := am (HC.out.step hs hb hk); clear hs hb hk
 refine hK.out _ _ ⟨(blk_cell B5.out 0).trans rfl, (blk_cell B5.out 1).trans rfl, (blk_cell B5.out 2).trans rfl, (blk_cell B5.out 3).trans rfl, (blk_cell B5.out 4).trans rfl, (blk_cell B5.out 5).trans rfl, (blk_cell B5.out 6).trans rfl, (blk_cell B5.out 7).trans rfl, (blk_cell B5.out 8).trans rfl, (blk_cell B5.out 9).trans rfl, (blk_cell B5.out 10).trans rfl⟩ (fun hHeld => ?_)
 clear hK K
 refine nm_ 37 ?_
 refine one_ (i := 3) (N := some 38) (bt_ 5 15) rfl rfl (by kernel_rfl) (by decide) (fun K hK => ?_)
 refine gs_ Try.func35 #[.agg #[.int .i64 q1, .int .i64 q2, (.slice Y2_ q3.length e2_), (.slice Y3_ q4.length e3_), (.slice Y4_ q5.length e4_), (.slice Y5_ q6.length e5_), (.slice Y6_ q7.length e6_), (.slice Y7_ q8.length e7_), (.slice Y8_ q9.length e8_), (.slice Y9_ q10.length e9_), .int .i64 q11], .int .i64 t3] ?_
 with_reducible refine (spec_l20Run.callsS k w.heap.size q1 q2 _ _ q3 _ _ q4 _ _ q5 _ _ q6 _ _ q7 _ _ q8 _ _ q9 _ _ q10 q11 t3 m1 m2 m3 m4 m5 m6 m7 m8 m9 m10 m11 _ HN.out (keep_size HC.out.k) E10.out).mono ?_; rintro e wn ⟨u2_, u3_, u4_, u5_, u6_, u7_, u8_, u9_, rfl, hS, hb⟩; refine ⟨_, rfl, ?_⟩; replace HN := am hS; replace B2 := kb_ B2 hb; replace B3 := kb_ B3 hb; replace B5 := kb_ B5 hb; replace HC := am (HC.out.below hb); clear hb hS
 refine hK.out _ _ ⟨(blk_cell B5.out 0).trans rfl, (blk_cell B5.out 1).trans rfl, (blk_cell B5.out 2).trans rfl, (blk_cell B5.out 3).trans rfl, (blk_cell B5.out 4).trans rfl, (blk_cell B5.out 5).trans rfl, (blk_cell B5.out 6).trans rfl, (blk_cell B5.out 7).trans rfl, (blk_cell B5.out 8).trans rfl, (blk_cell B5.out 9).trans rfl, (blk_cell B5.out 10).trans rfl⟩ (fun hHeld => ?_)
 clear hK K
 refine nm_ 38 ?_
 refine last_ (i := 4) (N := none) (bt_ 5 31) rfl rfl (by kernel_rfl) (by decide) (fun K hK => ?_)
 clear hHeld; obtain ⟨Z2_, f2_, e_⟩ := Kd.R_slice HN.out.h2; subst e_; obtain ⟨Z3_, f3_, e_⟩ := Kd.R_slice HN.out.h3; subst e_; obtain ⟨Z4_, f4_, e_⟩ := Kd.R_slice HN.out.h4; subst e_; obtain ⟨Z5_, f5_, e_⟩ := Kd.S_slice HN.out.h5; subst e_; obtain ⟨Z6_, f6_, e_⟩ := Kd.R_slice HN.out.h6; subst e_; obtain ⟨Z7_, f7_, e_⟩ := Kd.R_slice HN.out.h7; subst e_; obtain ⟨Z8_, f8_, e_⟩ := Kd.S_slice HN.out.h8; subst e_; obtain ⟨Z9_, f9_, e_⟩ := Kd.S_slice HN.out.h9; subst e_; obtain ⟨z0, z1, z2, z3, z4, z5, z6, z7, z8, z9, z10, zf0, zf1, zf2, zf3, zf4, zf5, zf6, zf7, zf8, zf9, zf10⟩ := cz11_ B2.out; refine skip_ (w1 := ?_) (by rfl) rfl ?_ ?_
 rotate_left
 ·go_simp
  rfl
 clear z0 z1 z2 z3 z4 z5 z6 z7 z8 z9 z10 zf0 zf1 zf2 zf3 zf4 zf5 zf6 zf7 zf8 zf9 zf10; replace HN := am (HN.out.far (w1 := st11_ wn gb2 (.int .i64 m1) (.int .i64 m2) ((.slice Z2_ m3.length f2_)) ((.slice Z3_ m4.length f3_)) ((.slice Z4_ m5.length f4_)) ((.slice Z5_ m6.length f5_)) ((.slice Z6_ m7.length f6_)) ((.slice Z7_ m8.length f7_)) ((.slice Z8_ m9.length f8_)) ((.slice Z9_ m10.length f9_)) (.int .i64 (m11))) (bq_ B2.out) (fun _ h_ => st11_far h_))
 replace B3 := am ((st11_far N23.out.symm : (st11_ wn gb2 (.int .i64 m1) (.int .i64 m2) ((.slice Z2_ m3.length f2_)) ((.slice Z3_ m4.length f3_)) ((.slice Z4_ m5.length f4_)) ((.slice Z5_ m6.length f5_)) ((.slice Z6_ m7.length f6_)) ((.slice Z7_ m8.length f7_)) ((.slice Z8_ m9.length f8_)) ((.slice Z9_ m10.length f9_)) (.int .i64 (m11))).heap[gb3]? = _).trans B3.out)
 replace B5 := am ((st11_far N25.out.symm : (st11_ wn gb2 (.int .i64 m1) (.int .i64 m2) ((.slice Z2_ m3.length f2_)) ((.slice Z3_ m4.length f3_)) ((.slice Z4_ m5.length f4_)) ((.slice Z5_ m6.length f5_)) ((.slice Z6_ m7.length f6_)) ((.slice Z7_ m8.length f7_)) ((.slice Z8_ m9.length f8_)) ((.slice Z9_ m10.length f9_)) (.int .i64 (m11))).heap[gb5]? = _).trans B5.out)
 replace HC := am (st11_cu HC.out G2.out HG.out : Cu w0 w (st11_ wn gb2 (.int .i64 m1) (.int .i64 m2) ((.slice Z2_ m3.length f2_)) ((.slice Z3_ m4.length f3_)) ((.slice Z4_ m5.length f4_)) ((.slice Z5_ m6.length f5_)) ((.slice Z6_ m7.length f6_)) ((.slice Z7_ m8.length f7_)) ((.slice Z8_ m9.length f8_)) ((.slice Z9_ m10.length f9_)) (.int .i64 (m11))) g s0_0 _ _); replace B2 := am (st11_blk B2.out : (st11_ wn gb2 (.int .i64 m1) (.int .i64 m2) ((.slice Z2_ m3.length f2_)) ((.slice Z3_ m4.length f3_)) ((.slice Z4_ m5.length f4_)) ((.slice Z5_ m6.length f5_)) ((.slice Z6_ m7.length f6_)) ((.slice Z7_ m8.length f7_)) ((.slice Z8_ m9.length f8_)) ((.slice Z9_ m10.length f9_)) (.int .i64 (m11))).heap[gb2]? = _)
 refine hK.out _ (st11_ wn gb2 (.int .i64 m1) (.int .i64 m2) ((.slice Z2_ m3.length f2_)) ((.slice Z3_ m4.length f3_)) ((.slice Z4_ m5.length f4_)) ((.slice Z5_ m6.length f5_)) ((.slice Z6_ m7.length f6_)) ((.slice Z7_ m8.length f7_)) ((.slice Z8_ m9.length f8_)) ((.slice Z9_ m10.length f9_)) (.int .i64 (m11))) ?_; clear hK K; generalize st11_ wn gb2 (.int .i64 m1) (.int .i64 m2) ((.slice Z2_ m3.length f2_)) ((.slice Z3_ m4.length f3_)) ((.slice Z4_ m5.length f4_)) ((.slice Z5_ m6.length f5_)) ((.slice Z6_ m7.length f6_)) ((.slice Z7_ m8.length f7_)) ((.slice Z8_ m9.length f8_)) ((.slice Z9_ m10.length f9_)) (.int .i64 (m11)) = wo at *; refine done_ (by kernel_rfl) ?_
 go_wp2
 refine bodyPost_ret (results_cell_row rfl _ _ gb2 35 _ (0, 0) _ rfl (bq_ B2.out) Try.underlying35 rfl (by kernel_rfl)) rfl ?_
 exact ⟨_, _, _, _, _, _, _, _, rfl, HN.out, (cu_ HC.out).s, (cu_ HC.out).bl, (cu_ HC.out).k⟩
def spec_l01New.l0 : Nat → List Int → Int → Int → Option (List Int × Int × Int)
 | 0, _, _, _ => none
 | k + 1, x0, x3, x4 => if x4 < (x0.length : Int) then (if x4 < 4000 then (if 0 ≤ x4 then (spec_l01New.l0 k x0 (Go.bits .and .i64 (wrap64 ((wrap64 ((wrap64 (x3 * 131)) + (wrap64 (rd x0 x4)))) + 7)) 1073741823) (wrap64 (x4 + 1))) else (none)) else (some (x0, 0, x3))) else (some (x0, 0, x3))
def spec_l01New.f (k : Nat) (l0 : List Int) : Option (List Int × Int × Int) := spec_l01New.l0 k l0 (wrap64 (98459 + (l0.length : Int))) 0
theorem spec_l01New.calls (k : Nat) (A0 : Option Addr) (c0 : Nat) (l0 : List Int) (r1 : List Int) (r2 : Int) (r3 : Int) (w0 w : World) (hB : Below w0.heap.size w0 w) (hr0 : Kd.C (Kd.int .u8) w0 A0 l0.length l0) (hc0 : l0.length ≤ c0) (h : spec_l01New.f k l0 = some (r1, r2, r3)) :
  Calls Try.prog 16 #[.slice A0 l0.length c0] w fun e w' => ∃ g_ : Nat, e = .returned (.pointer (some ⟨g_, 0, none⟩)) ∧ IsS67 w0 w' g_ r1 r2 r3 ∧ Below w0.heap.size w0 w' ∧ Below w.heap.size w w' := by
 have hu67 := Try.underlying67
 have HR0 := am hr0
 have HC0 := am hc0
 clear hr0 hc0
 have HBW := am (Below.refl w.heap.size w)
 have HW0 := am hB.size
 have HB := am hB
 clear hB
 have H : (spec_l01New.l0 k l0 (wrap64 (98459 + (l0.length : Int))) 0) = some (r1, r2, r3) := h
 clear h
 have H' := am H
 clear H
 go_enter Try.func16, Try.ntmps16
 go_wp2
 go_loopg [3, 4] k (fun kq v3 v4 w' => ∃ (x3_1 : Int) (x4_1 : Int), v3 = .int .i64 x3_1 ∧ v4 = .int .i64 x4_1 ∧ Aside0 (spec_l01New.l0 kq l0 x3_1 x4_1 = some (r1, r2, r3)) ∧ Aside0 (kq ≤ k) ∧ Aside0 (Below w0.heap.size w0 w') ∧ Aside0 (Below w.heap.size w w'))
 case atStart => exact ⟨(wrap64 (98459 + (l0.length : Int))), (0), ef_, ef_, H', ⟨Nat.le_refl _⟩, ⟨bb_ HB.out⟩, ⟨bb_ HBW.out⟩⟩
 clear H'
 obtain ⟨x3_1, x4_1, rfl, rfl, HA, HK1, HB, HBW⟩ := hrel
 obtain _ | k1 := gk
 ·exact absurd HA.out (by simp [spec_l01New.l0])
 have H := HA.out
 clear HA
 simp only [spec_l01New.l0] at H
 by_cases c2 : x4_1 < (l0.length : Int)
 rotate_left
 ·rw [if_neg c2] at H
  have c2b0 : decide (x4_1 < (l0.length : Int)) = false := decide_eq_false c2
  clear c2
  simp only [Option.some.injEq, Prod.mk.injEq] at H
  obtain ⟨rfl, rfl, rfl⟩ := H
  go_wp2_with (first | ((with_reducible refine gate_dst (N := 31) rfl ?_); refine bx_ 31 #[.slice A0 l0.length c0, .int .i64 0, .int .i64 x3_1] 67 ?_; intro gb445 hg w6 hbox hb; replace HB := h9_ HB hb; have BK445 := am (hbox); have GW445 := am ((by rw [hg]; exact (below_size (hb_ HBW.out)) : w.heap.size ≤ gb445)); have GE445 := am ((Nat.le_trans HW0.out (by rw [hg]; exact (below_size (hb_ HBW.out)) : w.heap.size ≤ gb445) : w0.heap.size ≤ gb445)); replace HBW := am (below_step HBW.out hb); clear hb hbox hg))
  go_ret
  exact ⟨_, rfl, (show IsS67 w0 _ gb445 l0 0 x3_1 from ⟨_, _, bq_ BK445.out, GE445.out, HR0.out⟩), bb_ HB.out, hb_ HBW.out⟩
 rw [if_pos c2] at H
 have c2b0 : decide (x4_1 < (l0.length : Int)) = true := decide_eq_true c2
 clear c2
 by_cases c3 : x4_1 < 4000
 ·rw [if_pos c3] at H
  have c3b0 : decide (x4_1 < 4000) = true := decide_eq_true c3
  clear c3
  by_cases c4 : 0 ≤ x4_1
  rotate_left
  ·rw [if_neg c4] at H
   exact absurd H (by simp)
  rw [if_pos c4] at H
  have c4b0 : decide (0 ≤ x4_1) = true := decide_eq_true c4
  clear c4
  have H' := am H
  clear H
  have p443 : 0 ≤ (x4_1 : Int) := of_decide_eq_true dg_
  have q443 : x4_1 < (l0.length : Int) := of_decide_eq_true dg_
  obtain ⟨ad443, e443, hx443_0⟩ := Kd.at_int HR0.out x4_1 p443 q443
  cases e443
  replace hx443_0 := pw_cell_below HB.out hx443_0
  replace p443 := eq_true p443
  replace q443 := eq_true q443
  go_wp2
  go_roundg k1
  case measure => have := HK1.out; omega
  case rel => exact ⟨(Go.bits .and .i64 (wrap64 ((wrap64 ((wrap64 (x3_1 * 131)) + (wrap64 (rd l0 x4_1)))) + 7)) 1073741823), (wrap64 (x4_1 + 1)), ef_, ef_, H', ⟨by have := HK1.out; omega⟩, ⟨bb_ HB.out⟩, ⟨bb_ HBW.out⟩⟩
 rw [if_neg c3] at H
 have c3b0 : decide (x4_1 < 4000) = false := decide_eq_false c3
 clear c3
 simp only [Option.some.injEq, Prod.mk.injEq] at H
 obtain ⟨rfl, rfl, rfl⟩ := H
 go_wp2_with (first | ((with_reducible refine gate_dst (N := 31) rfl ?_); refine bx_ 31 #[.slice A0 l0.length c0, .int .i64 0, .int .i64 x3_1] 67 ?_; intro gb444 hg w5 hbox hb; replace HB := h9_ HB hb; have BK444 := am (hbox); have GW444 := am ((by rw [hg]; exact (below_size (hb_ HBW.out)) : w.heap.size ≤ gb444)); have GE444 := am ((Nat.le_trans HW0.out (by rw [hg]; exact (below_size (hb_ HBW.out)) : w.heap.size ≤ gb444) : w0.heap.size ≤ gb444)); replace HBW := am (below_step HBW.out hb); clear hb hbox hg))
 go_ret
 exact ⟨_, rfl, (show IsS67 w0 _ gb444 l0 0 x3_1 from ⟨_, _, bq_ BK444.out, GE444.out, HR0.out⟩), bb_ HB.out, hb_ HBW.out⟩
def spec_DrawNet.f (k : Nat) (l0 : List Int) : Option (Int × Int × List Int × List Int × List Int × (List (List S72)) × List Int × List Int × (List (List S72)) × (List (List S72)) × Int) := (spec_l01New.f k l0).bind fun c => (spec_l20Net.f k c.1 c.2.1 c.2.2).bind fun n => some (n.1, n.2.1, n.2.2.1, n.2.2.2.1, n.2.2.2.2.1, n.2.2.2.2.2.1, n.2.2.2.2.2.2.1, n.2.2.2.2.2.2.2.1, n.2.2.2.2.2.2.2.2.1, n.2.2.2.2.2.2.2.2.2.1, n.2.2.2.2.2.2.2.2.2.2.1)
set_option maxHeartbeats 4000000 in
theorem spec_DrawNet.callsS (k : Nat) (A0 : Option Addr) (c0 : Nat) (l0 : List Int) (r1 : Int) (r2 : Int) (r3 : List Int) (r4 : List Int) (r5 : List Int) (r6 : List (List S72)) (r7 : List Int) (r8 : List Int) (r9 : List (List S72)) (r10 : List (List S72)) (r11 : Int) (w : World) (hr0 : Kd.C (Kd.int .u8) w A0 l0.length l0) (hc0 : l0.length ≤ c0) (h : spec_DrawNet.f k l0 = some (r1, r2, r3, r4, r5, r6, r7, r8, r9, r10, r11)) :
  Calls Try.prog 6 #[.slice A0 l0.length c0] w fun e w' => ∃ v2_ v3_ v4_ v5_ v6_ v7_ v8_ v9_ : Value, e = .returned (.agg #[.int .i64 r1, .int .i64 r2, v2_, v3_, v4_, v5_, v6_, v7_, v8_, v9_, .int .i64 r11]) ∧ Std8 w.heap.size w' v2_ v3_ v4_ v5_ v6_ v7_ v8_ v9_ r3 r4 r5 r6 r7 r8 r9 r10 ∧ Below w.heap.size w w' := by
 have HR := am hr0; have HRC := am hc0; have HB := am (Below.refl w.heap.size w); clear hr0 hc0; unfold spec_DrawNet.f at h
 obtain ⟨⟨b, i1, j1⟩, e1, G_⟩ := Option.bind_eq_some_iff.1 h; clear h; obtain ⟨⟨n1, n2, n3, n4, n5, n6, n7, n8, n9, n10, n11, n12, n13⟩, e2, h⟩ := Option.bind_eq_some_iff.1 G_; clear G_; dsimp only at e2 h; have E1 := am e1; have E2 := am e2; clear e1 e2; simp only [Option.some.injEq, Prod.mk.injEq] at h; obtain ⟨rfl, rfl, rfl, rfl, rfl, rfl, rfl, rfl, rfl, rfl, rfl⟩ := h
 have hu35 := Try.underlying35; go_enter Try.func6, Try.ntmps6
 go_upto_region 1 with (first | ((with_reducible refine gate_dst (N := 2) rfl ?_); refine bx_ 2 #[.int .i64 0, .int .i64 0, .slice none 0 0, .slice none 0 0, .slice none 0 0, .slice none 0 0, .slice none 0 0, .slice none 0 0, .slice none 0 0, .slice none 0 0, .int .i64 0] 35 ?_; intro gb2 hg w1 hbox hb; have B2 := am hbox; have G2 := am (show w.heap.size ≤ gb2 by rw [hg]; exact (bz_ HB.out)); replace HB := h9_ HB hb; clear hb hbox hg))
 go_wp2_with (first | (go_at_call 16; (with_reducible refine (spec_l01New.calls k _ _ l0 b i1 j1 w _ ?s1 ?s2 HRC.out E1.out).mono ?_); (case s1 => exact bb_ HB.out); (case s2 => exact HR.out); rintro e wa ⟨g, rfl, hi, hb, hb2⟩; have HI := am hi; have NG := am (IsS67.ne_blk hi (bk_ B2.out hb2) (by decide)).symm; replace B2 := am (bk_ B2.out hb2); replace HB := am hb; clear hb hb2 hi) | (go_at_call 15; (with_reducible refine (spec_l20Net.callsS k g b i1 j1 n1 n2 n3 n4 n5 n6 n7 n8 n9 n10 n11 n12 n13 w _ ?s1 ?s2 E2.out).mono ?_); (case s1 => exact HI.out); (case s2 => exact bb_ HB.out); rintro e wb ⟨u2_, u3_, u4_, u5_, u6_, u7_, u8_, u9_, rfl, hS, hs, hb, hk⟩; have hs_ := bz_ HB.out; replace B2 := am (hk.blk (bq_ B2.out) NG.out (by simp)); have HN := am (hS.lower hs_); replace HB := am hb; clear hb hk hS hs hs_ HI; obtain ⟨Z2_, f2_, e_⟩ := Kd.R_slice HN.out.h2; subst e_; obtain ⟨Z3_, f3_, e_⟩ := Kd.R_slice HN.out.h3; subst e_; obtain ⟨Z4_, f4_, e_⟩ := Kd.R_slice HN.out.h4; subst e_; obtain ⟨Z5_, f5_, e_⟩ := Kd.S_slice HN.out.h5; subst e_; obtain ⟨Z6_, f6_, e_⟩ := Kd.R_slice HN.out.h6; subst e_; obtain ⟨Z7_, f7_, e_⟩ := Kd.R_slice HN.out.h7; subst e_; obtain ⟨Z8_, f8_, e_⟩ := Kd.S_slice HN.out.h8; subst e_; obtain ⟨Z9_, f9_, e_⟩ := Kd.S_slice HN.out.h9; subst e_; obtain ⟨z0, z1, z2, z3, z4, z5, z6, z7, z8, z9, z10, zf0, zf1, zf2, zf3, zf4, zf5, zf6, zf7, zf8, zf9, zf10⟩ := cz11_ B2.out))
 clear z0 z1 z2 z3 z4 z5 z6 z7 z8 z9 z10 zf0 zf1 zf2 zf3 zf4 zf5 zf6 zf7 zf8 zf9 zf10
 change bodyPost _ _ _ _ _ (st11_ _ gb2 (.int .i64 n1) (.int .i64 n2) ((.slice Z2_ n3.length f2_)) ((.slice Z3_ n4.length f3_)) ((.slice Z4_ n5.length f4_)) ((.slice Z5_ n6.length f5_)) ((.slice Z6_ n7.length f6_)) ((.slice Z7_ n8.length f7_)) ((.slice Z8_ n9.length f8_)) ((.slice Z9_ n10.length f9_)) (.int .i64 (n11)))
 replace HN := am (HN.out.far (w1 := st11_ _ gb2 (.int .i64 n1) (.int .i64 n2) ((.slice Z2_ n3.length f2_)) ((.slice Z3_ n4.length f3_)) ((.slice Z4_ n5.length f4_)) ((.slice Z5_ n6.length f5_)) ((.slice Z6_ n7.length f6_)) ((.slice Z7_ n8.length f7_)) ((.slice Z8_ n9.length f8_)) ((.slice Z9_ n10.length f9_)) (.int .i64 (n11))) (bq_ B2.out) (fun _ h_ => st11_far h_)); replace B2 := am (st11_blk B2.out : (st11_ _ gb2 (.int .i64 n1) (.int .i64 n2) ((.slice Z2_ n3.length f2_)) ((.slice Z3_ n4.length f3_)) ((.slice Z4_ n5.length f4_)) ((.slice Z5_ n6.length f5_)) ((.slice Z6_ n7.length f6_)) ((.slice Z7_ n8.length f7_)) ((.slice Z8_ n9.length f8_)) ((.slice Z9_ n10.length f9_)) (.int .i64 (n11))).heap[gb2]? = _); replace HB := am (st11_below HB.out G2.out : Below w.heap.size w (st11_ _ gb2 (.int .i64 n1) (.int .i64 n2) ((.slice Z2_ n3.length f2_)) ((.slice Z3_ n4.length f3_)) ((.slice Z4_ n5.length f4_)) ((.slice Z5_ n6.length f5_)) ((.slice Z6_ n7.length f6_)) ((.slice Z7_ n8.length f7_)) ((.slice Z8_ n9.length f8_)) ((.slice Z9_ n10.length f9_)) (.int .i64 (n11)))); generalize st11_ _ gb2 (.int .i64 n1) (.int .i64 n2) ((.slice Z2_ n3.length f2_)) ((.slice Z3_ n4.length f3_)) ((.slice Z4_ n5.length f4_)) ((.slice Z5_ n6.length f5_)) ((.slice Z6_ n7.length f6_)) ((.slice Z7_ n8.length f7_)) ((.slice Z8_ n9.length f8_)) ((.slice Z9_ n10.length f9_)) (.int .i64 (n11)) = wz at *
 refine bodyPost_ret (results_cell_row rfl _ _ gb2 35 _ (0, 0) _ rfl (bq_ B2.out) Try.underlying35 rfl (by kernel_rfl)) rfl ?_
 exact ⟨_, _, _, _, _, _, _, _, rfl, HN.out, bb_ HB.out⟩
theorem spec_DrawNet.calls (k : Nat) (A0 : Option Addr) (c0 : Nat) (l0 : List Int) (r1 : Int) (r2 : Int) (r3 : List Int) (r4 : List Int) (r5 : List Int) (r6 : List (List S72)) (r7 : List Int) (r8 : List Int) (r9 : List (List S72)) (r10 : List (List S72)) (r11 : Int) (w : World) (hr0 : Kd.C (Kd.int .u8) w A0 l0.length l0) (hc0 : l0.length ≤ c0) (h : spec_DrawNet.f k l0 = some (r1, r2, r3, r4, r5, r6, r7, r8, r9, r10, r11)) :
  Calls Try.prog 6 #[.slice A0 l0.length c0] w fun e w' => ∃ v2_ v3_ v4_ v5_ v6_ v7_ v8_ v9_ : Value, e = .returned (.agg #[.int .i64 r1, .int .i64 r2, v2_, v3_, v4_, v5_, v6_, v7_, v8_, v9_, .int .i64 r11]) ∧ Kd.R (Kd.int .i64) 3 w' w.heap.size (fun k_ => some k_ ≠ (v3_ : Value).ownBlock ∧ some k_ ≠ (v4_ : Value).ownBlock ∧ some k_ ≠ (v6_ : Value).ownBlock ∧ some k_ ≠ (v7_ : Value).ownBlock) v2_ r3 ∧ Kd.R (Kd.int .i64) 3 w' w.heap.size (fun k_ => some k_ ≠ (v2_ : Value).ownBlock ∧ some k_ ≠ (v4_ : Value).ownBlock ∧ some k_ ≠ (v6_ : Value).ownBlock ∧ some k_ ≠ (v7_ : Value).ownBlock) v3_ r4 ∧ Kd.R (Kd.int .i64) 3 w' w.heap.size (fun k_ => some k_ ≠ (v2_ : Value).ownBlock ∧ some k_ ≠ (v3_ : Value).ownBlock ∧ some k_ ≠ (v6_ : Value).ownBlock ∧ some k_ ≠ (v7_ : Value).ownBlock) v4_ r5 ∧ Kd.S (Kd.slice 72 k72) 42 w' w.heap.size (fun k_ => some k_ ≠ (v8_ : Value).ownBlock ∧ some k_ ≠ (v9_ : Value).ownBlock) v5_ r6 ∧ Kd.R (Kd.int .i64) 3 w' w.heap.size (fun k_ => some k_ ≠ (v2_ : Value).ownBlock ∧ some k_ ≠ (v3_ : Value).ownBlock ∧ some k_ ≠ (v4_ : Value).ownBlock ∧ some k_ ≠ (v7_ : Value).ownBlock) v6_ r7 ∧ Kd.R (Kd.int .i64) 3 w' w.heap.size (fun k_ => some k_ ≠ (v2_ : Value).ownBlock ∧ some k_ ≠ (v3_ : Value).ownBlock ∧ some k_ ≠ (v4_ : Value).ownBlock ∧ some k_ ≠ (v6_ : Value).ownBlock) v7_ r8 ∧ Kd.S (Kd.slice 72 k72) 42 w' w.heap.size (fun k_ => some k_ ≠ (v5_ : Value).ownBlock ∧ some k_ ≠ (v9_ : Value).ownBlock) v8_ r9 ∧ Kd.S (Kd.slice 72 k72) 42 w' w.heap.size (fun k_ => some k_ ≠ (v5_ : Value).ownBlock ∧ some k_ ≠ (v8_ : Value).ownBlock) v9_ r10 ∧ Below w.heap.size w w' := (spec_DrawNet.callsS k A0 c0 l0 r1 r2 r3 r4 r5 r6 r7 r8 r9 r10 r11 w hr0 hc0 h).mono (fun e w' ⟨v2, v3, v4, v5, v6, v7, v8, v9, he, hS, hb⟩ => ⟨v2, v3, v4, v5, v6, v7, v8, v9, he, hS.h2, hS.h3, hS.h4, hS.h5, hS.h6, hS.h7, hS.h8, hS.h9, hb⟩)
def impl_ClassOnly.l0 : Nat → Int → List (S72) → List (S72) → Int → Int → Option ((List (S72)))
 | 0, _, _, _, _, _ => none
 | k + 1, x1, x5, x9, x10, x11 => if x11 < x10 then (if 0 ≤ x11 then (if x11 < (x9.length : Int) then (if ((rd_T72 x9 x11).f2) = x1 then (if x5.length < 4398046511104 then (impl_ClassOnly.l0 k x1 (x5 ++ [(⟨(rd_T72 x9 x11).f0, (rd_T72 x9 x11).f1, (rd_T72 x9 x11).f2, (rd_T72 x9 x11).f3, (rd_T72 x9 x11).f4⟩ : S72)]) x9 x10 (wrap64 (x11 + 1))) else (none)) else (impl_ClassOnly.l0 k x1 x5 x9 x10 (wrap64 (x11 + 1)))) else (none)) else (none)) else (some x5)
def impl_ClassOnly.f (k : Nat) (l0 : List (S72)) (a1 : Int) : Option ((List (S72))) := impl_ClassOnly.l0 k a1 (([] : List (S72))) l0 (l0.length : Int) 0
theorem impl_ClassOnly.calls (k : Nat) (A0 : Option Addr) (c0 : Nat) (l0 : List (S72)) (a1 : Int) (r : List (S72)) (w : World) (hr0 : Kd.C k72 w A0 l0.length l0) (hc0 : l0.length ≤ c0) (h : impl_ClassOnly.f k l0 a1 = some r) :
  Calls Try.prog 48 #[.slice A0 l0.length c0, .int .i64 a1] w fun e w' => ∃ v0_ : Value, e = .returned (v0_) ∧ Kd.R k72 72 w' w.heap.size (fun _ => True) v0_ r ∧ Below w.heap.size w w' := by
 have hu72 := Try.underlying72
 have HR0 := am hr0
 have HC0 := am hc0
 clear hr0 hc0
 have HB := am (Below.refl w.heap.size w)
 have H : (impl_ClassOnly.l0 k a1 (([] : List (S72))) l0 (l0.length : Int) 0) = some r := h
 clear h
 obtain ⟨y446, hy446⟩ : ∃ y_ : List (S72), y_ = (([] : List (S72))) := ⟨_, rfl⟩
 replace H : (impl_ClassOnly.l0 k a1 y446 l0 (l0.length : Int) 0) = some r := ry_ hy446 H
 have Ny446 := am hy446
 clear hy446
 have H' := am H
 clear H
 go_enter Try.func48, Try.ntmps48
 go_wp2_with (first | ((with_reducible refine gate_dst (N := 8) rfl ?_); refine Kd.R_lit k72 _ 72 ?hg (N := 8) ?hd (xs := ([] : List (S72))) (inner := []) (ok := fun _ => True) (okp := fun _ => True) ?hr ?hp (fun _ hk => hk) trivial (Below.refl _ _) (Nat.le_refl _) (by simp) ?_; (case hd => rfl); (case hg => rfl); (case hr => first | (go_simp; done) | (go_simp; rfl)); (case hp => exact (Reps.none _ _)); intro v447 w3 ho4 hb hg_ hnew_; clear hg_ hnew_; (first | rw [← Ny446.out] at ho4 | (simp only [Int.reduceToNat] at ho4; rw [← Ny446.out] at ho4)); have HO448 := am (Kd.R_lower ho4 (bz_ HB.out)); replace HB := h9_ HB hb; clear hb ho4))
 go_loopg [5, 11] k (fun kq v5 v11 w' => ∃ (x5_1 : List (S72)) (x11_1 : Int), v11 = .int .i64 x11_1 ∧ Aside0 (impl_ClassOnly.l0 kq a1 x5_1 l0 (l0.length : Int) x11_1 = some r) ∧ Aside0 (kq ≤ k) ∧ Aside0 (Kd.R k72 72 w' w.heap.size (fun _ => True) v5 x5_1) ∧ Aside0 (Below w.heap.size w w'))
 case atStart => exact ⟨(y446), (0), ef_, H', ⟨Nat.le_refl _⟩, ⟨ra_ HO448.out⟩, ⟨bb_ HB.out⟩⟩
 clear H'
 obtain ⟨x5_1, x11_1, rfl, HA, HK1, HO_5, HB⟩ := hrel
 obtain _ | k1 := gk
 ·exact absurd HA.out (by simp [impl_ClassOnly.l0])
 have H := HA.out
 clear HA
 simp only [impl_ClassOnly.l0] at H
 by_cases c5 : x11_1 < (l0.length : Int)
 rotate_left
 ·rw [if_neg c5] at H
  have c5b0 : decide (x11_1 < (l0.length : Int)) = false := decide_eq_false c5
  clear c5
  obtain rfl := Option.some.inj H
  go_wp2
  go_ret
  exact ⟨_, fin_, ra_ HO_5.out, bb_ HB.out⟩
 rw [if_pos c5] at H
 have c5b0 : decide (x11_1 < (l0.length : Int)) = true := decide_eq_true c5
 clear c5
 by_cases c6 : 0 ≤ x11_1
 rotate_left
 ·rw [if_neg c6] at H
  exact absurd H (by simp)
 rw [if_pos c6] at H
 have c6b0 : decide (0 ≤ x11_1) = true := decide_eq_true c6
 clear c6
 by_cases c7 : x11_1 < (l0.length : Int)
 rotate_left
 ·rw [if_neg c7] at H
  exact absurd H (by simp)
 rw [if_pos c7] at H
 have c7b0 : decide (x11_1 < (l0.length : Int)) = true := decide_eq_true c7
 clear c7
 by_cases c8 : ((rd_T72 l0 x11_1).f2) = a1
 rotate_left
 ·rw [if_neg c8] at H
  have c8b0 : (((rd_T72 l0 x11_1).f2) == a1) = false := beq_eq_false_iff_ne.mpr c8
  have c8b1 : (((rd_T72 l0 x11_1).f2) != a1) = true := bne_iff_ne.mpr c8
  have H' := am H
  clear H
  have p449 : 0 ≤ (x11_1 : Int) := of_decide_eq_true dg_
  have q449 : x11_1 < (l0.length : Int) := of_decide_eq_true dg_
  obtain ⟨ad449, e449, hx449_0, hx449_1, hx449_2, hx449_3, hx449_4⟩ := at_T72 HR0.out x11_1 p449 q449
  cases e449
  replace hx449_0 := hc_ HB hx449_0
  replace hx449_1 := hc_ HB hx449_1
  replace hx449_2 := hc_ HB hx449_2
  replace hx449_3 := hc_ HB hx449_3
  replace hx449_4 := hc_ HB hx449_4
  replace p449 := eq_true p449
  replace q449 := eq_true q449
  go_wp2_with (first | ((with_reducible refine gate_dst (N := 7) rfl ?_); refine bx_ 7 #[.int .i64 0, .int .i64 0, .int .i64 0, .bool false, .bool false] 72 ?_; intro gb450 hg w13 hbox hb; replace HO_5 := am (Kd.R_below (Kd.R_elderB (ra_ HO_5.out) gb450 (Nat.le_of_eq hg.symm)) hb); have BK450 := am (hbox); have GW450 := gw_ hg HB; replace HB := h9_ HB hb; clear hb hbox hg; obtain ⟨hcz14_0, hcz14_1, hcz14_2, hcz14_3, hcz14_4, hfz14_0, hfz14_1, hfz14_2, hfz14_3, hfz14_4⟩ := cz5_ BK450.out))
  go_roundg k1
  case measure => have := HK1.out; omega
  case rel => exact ⟨(x5_1), (wrap64 (x11_1 + 1)), ef_, H', ⟨by have := HK1.out; omega⟩, ⟨rm_ (Kd.R_mono HO_5.out (fun k_ hk => (⟨hk, hk.2⟩ : _ ∧ k_ ≠ gb450))) (fun _ hk => trivial)⟩, ⟨bb_ HB.out⟩⟩
 rw [if_pos c8] at H
 have c8b0 : (((rd_T72 l0 x11_1).f2) == a1) = true := beq_iff_eq.mpr c8
 have c8b1 : (((rd_T72 l0 x11_1).f2) != a1) = false := bne_eq_false_iff_eq.mpr c8
 clear c8
 by_cases c9 : x5_1.length < 4398046511104
 rotate_left
 ·rw [if_neg c9] at H
  exact absurd H (by simp)
 rw [if_pos c9] at H
 have LMc9 := am c9
 clear c9
 obtain ⟨y451, hy451⟩ : ∃ y_ : List (S72), y_ = (x5_1 ++ [(⟨(rd_T72 l0 x11_1).f0, (rd_T72 l0 x11_1).f1, (rd_T72 l0 x11_1).f2, (rd_T72 l0 x11_1).f3, (rd_T72 l0 x11_1).f4⟩ : S72)]) := ⟨_, rfl⟩
 replace H : (impl_ClassOnly.l0 k1 a1 y451 l0 (l0.length : Int) (wrap64 (x11_1 + 1))) = some r := ry_ hy451 H
 have Ny451 := am hy451
 clear hy451
 have H' := am H
 clear H
 have p449 : 0 ≤ (x11_1 : Int) := of_decide_eq_true dg_
 have q449 : x11_1 < (l0.length : Int) := of_decide_eq_true dg_
 obtain ⟨ad449, e449, hx449_0, hx449_1, hx449_2, hx449_3, hx449_4⟩ := at_T72 HR0.out x11_1 p449 q449
 cases e449
 replace hx449_0 := hc_ HB hx449_0
 replace hx449_1 := hc_ HB hx449_1
 replace hx449_2 := hc_ HB hx449_2
 replace hx449_3 := hc_ HB hx449_3
 replace hx449_4 := hc_ HB hx449_4
 replace p449 := eq_true p449
 replace q449 := eq_true q449
 go_wp2_with (first | ((with_reducible refine gate_dst (N := 7) rfl ?_); refine bx_ 7 #[.int .i64 0, .int .i64 0, .int .i64 0, .bool false, .bool false] 72 ?_; intro gb450 hg w10 hbox hb; replace HO_5 := am (Kd.R_below (Kd.R_elderB (ra_ HO_5.out) gb450 (Nat.le_of_eq hg.symm)) hb); have BK450 := am (hbox); have GW450 := gw_ hg HB; replace HB := h9_ HB hb; clear hb hbox hg; obtain ⟨hcz11_0, hcz11_1, hcz11_2, hcz11_3, hcz11_4, hfz11_0, hfz11_1, hfz11_2, hfz11_3, hfz11_4⟩ := cz5_ BK450.out) | ((with_reducible refine gate_builtin (b := .append) (xs := #[.tmp 19, .tmp 21]) rfl ?_); at_builtin; refine Kd.R_append k72 (w0 := w) w.heap.size rfl (.tmp 19) (.tmp 21) 42 72 (.agg #[(.int .i64 0), (.int .i64 0), (.int .i64 0), (.bool false), (.bool false)]) 32 rfl Try.underlying42 info72 rfl (by decide) (by omega) u5 x5_1 (⟨(rd_T72 l0 x11_1).f0, (rd_T72 l0 x11_1).f1, (rd_T72 l0 x11_1).f2, (rd_T72 l0 x11_1).f3, (rd_T72 l0 x11_1).f4⟩ : S72) [.int .i64 ((rd_T72 l0 x11_1).f0), .int .i64 ((rd_T72 l0 x11_1).f1), .int .i64 ((rd_T72 l0 x11_1).f2), .bool ((rd_T72 l0 x11_1).f3), .bool ((rd_T72 l0 x11_1).f4)] (fun k_ => k_ ≠ gb450) (fun _ => False) rfl (by first | (go_simp; done) | (go_simp; rfl)) ?aP (fun _ hk => hk.elim) ?aF ?aO ?aB ?aS ?aL ?_; (case aP => exact k72_mkM _ _ _ (⟨(rd_T72 l0 x11_1).f0, (rd_T72 l0 x11_1).f1, (rd_T72 l0 x11_1).f2, (rd_T72 l0 x11_1).f3, (rd_T72 l0 x11_1).f4⟩ : S72)); (case aB => exact (hb_ HB.out)); (case aF => exact (fun k_ hk => Kd.freshB (g := gb450) (o := .cells #[.int .i64 ((rd_T72 l0 x11_1).f0), .int .i64 ((rd_T72 l0 x11_1).f1), .int .i64 ((rd_T72 l0 x11_1).f2), .bool ((rd_T72 l0 x11_1).f3), .bool ((rd_T72 l0 x11_1).f4)] 72 (0, 0)) (by (with_reducible repeat (first | refine blk_drewN ?_ _ | refine blk_drew ?_ | refine blk_alloc ?_ _)); refine blk_put (cs := #[.int .i64 ((rd_T72 l0 x11_1).f0), .int .i64 ((rd_T72 l0 x11_1).f1), .int .i64 ((rd_T72 l0 x11_1).f2), .bool ((rd_T72 l0 x11_1).f3), .bool false]) ?_ 4 _ rfl; (with_reducible repeat (first | refine blk_drewN ?_ _ | refine blk_drew ?_ | refine blk_alloc ?_ _)); refine blk_put (cs := #[.int .i64 ((rd_T72 l0 x11_1).f0), .int .i64 ((rd_T72 l0 x11_1).f1), .int .i64 ((rd_T72 l0 x11_1).f2), .bool false, .bool false]) ?_ 3 _ rfl; (with_reducible repeat (first | refine blk_drewN ?_ _ | refine blk_drew ?_ | refine blk_alloc ?_ _)); refine blk_put (cs := #[.int .i64 ((rd_T72 l0 x11_1).f0), .int .i64 ((rd_T72 l0 x11_1).f1), .int .i64 0, .bool false, .bool false]) ?_ 2 _ rfl; (with_reducible repeat (first | refine blk_drewN ?_ _ | refine blk_drew ?_ | refine blk_alloc ?_ _)); refine blk_put (cs := #[.int .i64 ((rd_T72 l0 x11_1).f0), .int .i64 0, .int .i64 0, .bool false, .bool false]) ?_ 1 _ rfl; (with_reducible repeat (first | refine blk_drewN ?_ _ | refine blk_drew ?_ | refine blk_alloc ?_ _)); refine blk_put (cs := #[.int .i64 0, .int .i64 0, .int .i64 0, .bool false, .bool false]) ?_ 0 _ rfl; (with_reducible repeat (first | refine blk_drewN ?_ _ | refine blk_drew ?_ | refine blk_alloc ?_ _)); exact BK450.out) k_ hk)); (case aO => exact (rm_ (Kd.R_mono HO_5.out (fun k_ hk => (⟨hk, hk.2⟩ : _ ∧ k_ ≠ gb450))) (fun _ hk => hk.1.2))); (case aS => exact (bz_ HB.out)); (case aL => have := LMc9.out; omega); intro v452 w12 ho hb hg hat; rw [← Ny451.out] at ho; have n0_ := am (blk_grown (g := gb450) (o := .cells #[.int .i64 ((rd_T72 l0 x11_1).f0), .int .i64 ((rd_T72 l0 x11_1).f1), .int .i64 ((rd_T72 l0 x11_1).f2), .bool ((rd_T72 l0 x11_1).f3), .bool ((rd_T72 l0 x11_1).f4)] 72 (0, 0)) (by (with_reducible repeat (first | refine blk_drewN ?_ _ | refine blk_drew ?_ | refine blk_alloc ?_ _)); refine blk_put (cs := #[.int .i64 ((rd_T72 l0 x11_1).f0), .int .i64 ((rd_T72 l0 x11_1).f1), .int .i64 ((rd_T72 l0 x11_1).f2), .bool ((rd_T72 l0 x11_1).f3), .bool false]) ?_ 4 _ rfl; (with_reducible repeat (first | refine blk_drewN ?_ _ | refine blk_drew ?_ | refine blk_alloc ?_ _)); refine blk_put (cs := #[.int .i64 ((rd_T72 l0 x11_1).f0), .int .i64 ((rd_T72 l0 x11_1).f1), .int .i64 ((rd_T72 l0 x11_1).f2), .bool false, .bool false]) ?_ 3 _ rfl; (with_reducible repeat (first | refine blk_drewN ?_ _ | refine blk_drew ?_ | refine blk_alloc ?_ _)); refine blk_put (cs := #[.int .i64 ((rd_T72 l0 x11_1).f0), .int .i64 ((rd_T72 l0 x11_1).f1), .int .i64 0, .bool false, .bool false]) ?_ 2 _ rfl; (with_reducible repeat (first | refine blk_drewN ?_ _ | refine blk_drew ?_ | refine blk_alloc ?_ _)); refine blk_put (cs := #[.int .i64 ((rd_T72 l0 x11_1).f0), .int .i64 0, .int .i64 0, .bool false, .bool false]) ?_ 1 _ rfl; (with_reducible repeat (first | refine blk_drewN ?_ _ | refine blk_drew ?_ | refine blk_alloc ?_ _)); refine blk_put (cs := #[.int .i64 0, .int .i64 0, .int .i64 0, .bool false, .bool false]) ?_ 0 _ rfl; (with_reducible repeat (first | refine blk_drewN ?_ _ | refine blk_drew ?_ | refine blk_alloc ?_ _)); exact BK450.out) hg (Kd.R_away HO_5.out (fun _ hk => hk.2))); have n1_ := am (hb); have n2_ := am (ho); clear BK450; clear HB; clear HO_5; have BK450 := n0_; have HB := n1_; have HO453 := n2_; clear n0_ n1_ n2_; clear ho hb hg hat))
 go_roundg k1
 case measure => have := HK1.out; omega
 case rel => exact ⟨(y451), (wrap64 (x11_1 + 1)), ef_, H', ⟨by have := HK1.out; omega⟩, ⟨by (with_reducible repeat (first | apply Kd.R_alloc | apply Kd.R_drewN | apply Kd.R_drew)); exact Kd.R_mono HO453.out (fun _ hk => trivial)⟩, ⟨bb_ HB.out⟩⟩
def impl_areFlits.l0 : Nat → List (S72) → Int → Int → Int → Int → Option (Bool)
 | 0, _, _, _, _, _ => none
 | k + 1, x7, x8, x9, x455000, x455001 => if x9 < x8 then (if 0 ≤ x9 then (if x9 < (x7.length : Int) then ((impl_isNode.f x455000 x455001 ((rd_T72 x7 x9).f1)).bind fun t457 => (if t457 = true then ((impl_inside.f ((rd_T72 x7 x9).f2) 0 1).bind fun t458 => (if t458 = true then (impl_areFlits.l0 k x7 x8 (wrap64 (x9 + 1)) x455000 x455001) else (none))) else (none))) else (none)) else (none)) else (some true)
def impl_areFlits.f (k : Nat) (a0_0 : Int) (a0_1 : Int) (l1 : List (S72)) : Option (Bool) := impl_areFlits.l0 k l1 (l1.length : Int) 0 a0_0 a0_1
theorem impl_areFlits.calls (k : Nat) (a0_0 : Int) (a0_1 : Int) (A1 : Option Addr) (c1 : Nat) (l1 : List (S72)) (r : Bool) (w : World) (hr1 : Kd.C k72 w A1 l1.length l1) (hc1 : l1.length ≤ c1) (h : impl_areFlits.f k a0_0 a0_1 l1 = some r) :
  Calls Try.prog 49 #[.agg #[.int .i64 a0_0, .int .i64 a0_1], .slice A1 l1.length c1] w fun e w' => e = .returned (.bool r) ∧ Below w.heap.size w w' := by
 have hu25 := Try.underlying25
 have hu72 := Try.underlying72
 have HR1 := am hr1
 have HC1 := am hc1
 clear hr1 hc1
 have HB := am (Below.refl w.heap.size w)
 have H : (impl_areFlits.l0 k l1 (l1.length : Int) 0 a0_0 a0_1) = some r := h
 clear h
 have H' := am H
 clear H
 go_enter Try.func49, Try.ntmps49
 go_wp2_with (first | ((with_reducible refine gate_dst (N := 2) rfl ?_); refine bx_ 2 #[.int .i64 a0_0, .int .i64 a0_1] 25 ?_; intro gb454 hg w3 hbox hb; have BK454 := am (hbox); have GW454 := gw_ hg HB; replace HB := h9_ HB hb; clear hb hbox hg))
 go_loopg [9] k (fun kq v9 w' => ∃ (x9_1 : Int), v9 = .int .i64 x9_1 ∧ Aside0 (impl_areFlits.l0 kq l1 (l1.length : Int) x9_1 a0_0 a0_1 = some r) ∧ Aside0 (kq ≤ k) ∧ Aside0 (w'.heap[gb454]? = some (.cells #[.int .i64 a0_0, .int .i64 a0_1] 25 (0, 0))) ∧ Aside0 (Below w.heap.size w w'))
 case atStart => exact ⟨(0), ef_, H', ⟨Nat.le_refl _⟩, ⟨bq_ BK454.out⟩, ⟨bb_ HB.out⟩⟩
 clear H'
 obtain ⟨x9_1, rfl, HA, HK1, BK454, HB⟩ := hrel
 obtain _ | k1 := gk
 ·exact absurd HA.out (by simp [impl_areFlits.l0])
 have H := HA.out
 clear HA
 simp only [impl_areFlits.l0] at H
 by_cases c4 : x9_1 < (l1.length : Int)
 rotate_left
 ·rw [if_neg c4] at H
  have c4b0 : decide (x9_1 < (l1.length : Int)) = false := decide_eq_false c4
  clear c4
  obtain rfl := Option.some.inj H
  go_wp2
  go_ret
  exact ⟨fin_, bb_ HB.out⟩
 rw [if_pos c4] at H
 have c4b0 : decide (x9_1 < (l1.length : Int)) = true := decide_eq_true c4
 clear c4
 by_cases c5 : 0 ≤ x9_1
 rotate_left
 ·rw [if_neg c5] at H
  exact absurd H (by simp)
 rw [if_pos c5] at H
 have c5b0 : decide (0 ≤ x9_1) = true := decide_eq_true c5
 clear c5
 by_cases c6 : x9_1 < (l1.length : Int)
 rotate_left
 ·rw [if_neg c6] at H
  exact absurd H (by simp)
 rw [if_pos c6] at H
 have c6b0 : decide (x9_1 < (l1.length : Int)) = true := decide_eq_true c6
 clear c6
 obtain ⟨t457, A7, H⟩ := bi_ H
 by_cases c8 : t457 = true
 rotate_left
 ·replace c8 := Bool.eq_false_iff.mpr c8
  subst c8
  rw [if_neg (show ¬ (false = true) by decide)] at H
  exact absurd H (by simp)
 subst c8
 rw [if_pos rfl] at H
 obtain ⟨t458, A9, H⟩ := bi_ H
 by_cases c10 : t458 = true
 rotate_left
 ·replace c10 := Bool.eq_false_iff.mpr c10
  subst c10
  rw [if_neg (show ¬ (false = true) by decide)] at H
  exact absurd H (by simp)
 subst c10
 rw [if_pos rfl] at H
 have H' := am H
 clear H
 have p455 : 0 ≤ (x9_1 : Int) := of_decide_eq_true dg_
 have q455 : x9_1 < (l1.length : Int) := of_decide_eq_true dg_
 obtain ⟨ad455, e455, hx455_0, hx455_1, hx455_2, hx455_3, hx455_4⟩ := at_T72 HR1.out x9_1 p455 q455
 cases e455
 replace hx455_0 := hc_ HB hx455_0
 replace hx455_1 := hc_ HB hx455_1
 replace hx455_2 := hc_ HB hx455_2
 replace hx455_3 := hc_ HB hx455_3
 replace hx455_4 := hc_ HB hx455_4
 replace p455 := eq_true p455
 replace q455 := eq_true q455
 go_wp2_with (first | ((with_reducible refine gate_dst (N := 6) rfl ?_); refine bx_ 6 #[.int .i64 0, .int .i64 0, .int .i64 0, .bool false, .bool false] 72 ?_; intro gb456 hg w11 hbox hb; have BK456 := am (hbox); have GW456 := gw_ hg HB; replace HB := h9_ HB hb; have NB454_456 := nl_ hg BK454; have NB456_454 := ng_ hg BK454; replace BK454 := kb_ BK454 hb; clear hb hbox hg; have hnb12 := NB456_454.out; have hnc12 := NB454_456.out; obtain ⟨hcz13_0, hcz13_1, hcz13_2, hcz13_3, hcz13_4, hfz13_0, hfz13_1, hfz13_2, hfz13_3, hfz13_4⟩ := cz5_ BK456.out; obtain ⟨hcz14_0, hcz14_1, hfz14_0, hfz14_1⟩ := cz2_ BK454.out) | ((with_reducible refine gate_callee (f := 37) rfl ?_); refine gm_ (some 16) Try.func37 #[.agg #[.int .i64 a0_0, .int .i64 a0_1], .int .i64 ((rd_T72 l1 x9_1).f1)] rfl ?_; (with_reducible refine (impl_isNode.calls a0_0 a0_1 ((rd_T72 l1 x9_1).f1) true _ A7.out).mono ?_); rintro e w15 ⟨rfl, hb⟩; refine ⟨_, rfl, ?_⟩; replace BK454 := am (blk_below (bf_ BK454.out) hb); replace BK456 := am (blk_below (g := gb456) (o := .cells #[.int .i64 ((rd_T72 l1 x9_1).f0), .int .i64 ((rd_T72 l1 x9_1).f1), .int .i64 ((rd_T72 l1 x9_1).f2), .bool ((rd_T72 l1 x9_1).f3), .bool ((rd_T72 l1 x9_1).f4)] 72 (0, 0)) (by (with_reducible repeat (first | refine blk_drewN ?_ _ | refine blk_drew ?_ | refine blk_alloc ?_ _)); refine blk_put (cs := #[.int .i64 ((rd_T72 l1 x9_1).f0), .int .i64 ((rd_T72 l1 x9_1).f1), .int .i64 ((rd_T72 l1 x9_1).f2), .bool ((rd_T72 l1 x9_1).f3), .bool false]) ?_ 4 _ rfl; (with_reducible repeat (first | refine blk_drewN ?_ _ | refine blk_drew ?_ | refine blk_alloc ?_ _)); refine blk_put (cs := #[.int .i64 ((rd_T72 l1 x9_1).f0), .int .i64 ((rd_T72 l1 x9_1).f1), .int .i64 ((rd_T72 l1 x9_1).f2), .bool false, .bool false]) ?_ 3 _ rfl; (with_reducible repeat (first | refine blk_drewN ?_ _ | refine blk_drew ?_ | refine blk_alloc ?_ _)); refine blk_put (cs := #[.int .i64 ((rd_T72 l1 x9_1).f0), .int .i64 ((rd_T72 l1 x9_1).f1), .int .i64 0, .bool false, .bool false]) ?_ 2 _ rfl; (with_reducible repeat (first | refine blk_drewN ?_ _ | refine blk_drew ?_ | refine blk_alloc ?_ _)); refine blk_put (cs := #[.int .i64 ((rd_T72 l1 x9_1).f0), .int .i64 0, .int .i64 0, .bool false, .bool false]) ?_ 1 _ rfl; (with_reducible repeat (first | refine blk_drewN ?_ _ | refine blk_drew ?_ | refine blk_alloc ?_ _)); refine blk_put (cs := #[.int .i64 0, .int .i64 0, .int .i64 0, .bool false, .bool false]) ?_ 0 _ rfl; (with_reducible repeat (first | refine blk_drewN ?_ _ | refine blk_drew ?_ | refine blk_alloc ?_ _)); exact BK456.out) hb); replace HB := h9_ HB hb; (try clear hb); obtain ⟨hcz16_0, hcz16_1, hcz16_2, hcz16_3, hcz16_4, hfz16_0, hfz16_1, hfz16_2, hfz16_3, hfz16_4⟩ := cz5_ BK456.out) | (go_at_call 22; (with_reducible refine (impl_inside.calls ((rd_T72 l1 x9_1).f2) 0 1 true _ A9.out).mono ?_); rintro e w' ⟨rfl, ⟨nd, rfl⟩⟩))
 go_roundg k1
 case measure => have := HK1.out; omega
 case rel => exact ⟨(wrap64 (x9_1 + 1)), ef_, H', ⟨by have := HK1.out; omega⟩, ⟨bq_ BK454.out⟩, ⟨bb_ HB.out⟩⟩
end Go.Proofs.Yteiemoooelpdaaa.PFnCreditSum
-- thin
