
import Derived.Test.YteiemoooelpdaaaPFnCreditSumx0
import Derived.Test.YteiemoooelpdaaaPFnCreditSumx5
import Derived.Test.YteiemoooelpdaaaPFnCreditSumx9
import Derived.Test.YteiemoooelpdaaaPFnCreditSumx11
import Derived.Test.YteiemoooelpdaaaPFnCreditSumx12
import Derived.Test.YteiemoooelpdaaaPFnCreditSumx13
import Derived.Test.YteiemoooelpdaaaPFnCreditSumx15
namespace Go.Proofs.Yteiemoooelpdaaa.PFnCreditSum
open Go.RowKit Go.Proofs.YteiemoooelpdaaaW.PrintWords Go.Proofs.YteiemoooelpdaaaW.PrintLast Go.Proofs.YteiemoooelpdaaaW.PrintMore
attribute [local go_sem] max2_int min2_int max_two min_two max_three min_three max_four min_four
set_option linter.unusedVariables false
set_option maxHeartbeats 8000000
set_option maxRecDepth 100000
set_option linter.unusedSimpArgs false
theorem spec_l19Step.ob_ {T : Nat → Nat} {W : World} {B N g e e' : Nat} {oki : Nat → Prop} {v : Value} {xs : List S72} {cs : Array Value} {t : TypeId} {gs : Nat} (HI : ∀ k, oki k → (T k = N ∨ W.heap.size ≤ k) ∧ k ≠ gs) (hR : Kd.R k72 e W B oki v xs) (hT : T g = 0) (hb : W.heap[g]? = some (.cells cs t (0, 0))) (hN : N ≠ 0) : some g ≠ v.ownBlock := fun h_ => by
 have h1 := blk_lt hb
 rcases (HI g (hR.1 g h_.symm)).1 with h2 | h2 <;> omega
def spec_l19Step.hd (src : List (List S72)) (i : Int) : Option S72 := if 0 ≤ i ∧ i < (src.length : Int) ∧ 0 < (rd_L4 src i).length then some (rd_T72 (rd_L4 src i) 0) else none
def spec_l19Step.tl (dst : List (List S72)) (i : Int) : Option (List (List S72)) := if 0 ≤ i ∧ i < (dst.length : Int) ∧ 1 ≤ ((dst.getD i.toNat []).length : Int) ∧ (dst.getD i.toNat []).length < 4294967296 then some (dst.set i.toNat ((dst.getD i.toNat []).drop 1)) else none
def spec_l19Step.push (dst : List (List S72)) (i : Int) (f : S72) : Option (List (List S72)) := if 0 ≤ i ∧ i < (dst.length : Int) ∧ (dst.getD i.toNat []).length < 4294967296 then some (dst.set i.toNat (dst.getD i.toNat [] ++ [f])) else none
theorem spec_l19Step.hd_some {src : List (List S72)} {i : Int} {f : S72} (h : spec_l19Step.hd src i = some f) : (0 ≤ i ∧ i < (src.length : Int) ∧ 0 < (rd_L4 src i).length) ∧ f = rd_T72 (rd_L4 src i) 0 := by
 unfold spec_l19Step.hd at h
 split at h
 ·rename_i c; exact ⟨c, (Option.some.inj h).symm⟩
 ·cases h
theorem spec_l19Step.tl_some {dst r : List (List S72)} {i : Int} (h : spec_l19Step.tl dst i = some r) : (0 ≤ i ∧ i < (dst.length : Int) ∧ 1 ≤ ((dst.getD i.toNat []).length : Int) ∧ (dst.getD i.toNat []).length < 4294967296) ∧ r = dst.set i.toNat ((dst.getD i.toNat []).drop 1) := by
 unfold spec_l19Step.tl at h
 split at h
 ·rename_i c; exact ⟨c, (Option.some.inj h).symm⟩
 ·cases h
theorem spec_l19Step.push_some {dst r : List (List S72)} {i : Int} {f : S72} (h : spec_l19Step.push dst i f = some r) : (0 ≤ i ∧ i < (dst.length : Int) ∧ (dst.getD i.toNat []).length < 4294967296) ∧ r = dst.set i.toNat (dst.getD i.toNat [] ++ [f]) := by
 unfold spec_l19Step.push at h
 split at h
 ·rename_i c; exact ⟨c, (Option.some.inj h).symm⟩
 ·cases h
@[reducible] def spec_l19Step.fr (x : S107) : Int := wrap64 (wrap64 (10 * x.f0) + x.f2)
def spec_l19Step.go (a0 a1 : Int) (x : S107) (f : S72) (b a9 : List (List S72)) : Option (List (List S72) × List (List S72)) := if x.f1 = 4 then (spec_l19Step.push a9 x.f0 f).bind fun a => some (b, a) else (spec_NextNode.f a0 a1 x.f0 x.f1).bind fun nn => (spec_Opposite.f x.f1).bind fun op => (spec_l19Step.push b (wrap64 (wrap64 (wrap64 (10 * nn) + wrap64 (2 * op)) + Int.tmod x.f2 2)) f).bind fun b => some (b, a9)
def spec_l19Step.own (x : S107) (f : S72) (o6 : List Int) : Option (List Int) := if 0 ≤ wrap64 (wrap64 (wrap64 (10 * x.f0) + wrap64 (2 * x.f1)) + Int.tmod x.f2 2) ∧ wrap64 (wrap64 (wrap64 (10 * x.f0) + wrap64 (2 * x.f1)) + Int.tmod x.f2 2) < (o6.length : Int) then some (o6.set (wrap64 (wrap64 (wrap64 (10 * x.f0) + wrap64 (2 * x.f1)) + Int.tmod x.f2 2)).toNat (if f.f4 = true then -1 else wrap64 (Int.tdiv x.f2 2))) else none
def spec_l19Step.trn (x : S107) (t7 : List Int) : Option (List Int) := if 0 ≤ wrap64 (wrap64 (5 * x.f0) + x.f1) ∧ wrap64 (wrap64 (5 * x.f0) + x.f1) < (t7.length : Int) then some (t7.set (wrap64 (wrap64 (5 * x.f0) + x.f1)).toNat (Int.tmod (wrap64 (x.f2 + 1)) 10)) else none
theorem spec_l19Step.own_some {x : S107} {f : S72} {o r : List Int} (h : spec_l19Step.own x f o = some r) : (0 ≤ (wrap64 (wrap64 (wrap64 (10 * x.f0) + wrap64 (2 * x.f1)) + Int.tmod x.f2 2)) ∧ (wrap64 (wrap64 (wrap64 (10 * x.f0) + wrap64 (2 * x.f1)) + Int.tmod x.f2 2)) < (o.length : Int)) ∧ r = o.set (wrap64 (wrap64 (wrap64 (10 * x.f0) + wrap64 (2 * x.f1)) + Int.tmod x.f2 2)).toNat (if f.f4 = true then -1 else wrap64 (Int.tdiv x.f2 2)) := by
 unfold spec_l19Step.own at h
 split at h
 ·rename_i c; exact ⟨c, (Option.some.inj h).symm⟩
 ·cases h
theorem spec_l19Step.trn_some {x : S107} {o r : List Int} (h : spec_l19Step.trn x o = some r) : (0 ≤ (wrap64 (wrap64 (5 * x.f0) + x.f1)) ∧ (wrap64 (wrap64 (5 * x.f0) + x.f1)) < (o.length : Int)) ∧ r = o.set (wrap64 (wrap64 (5 * x.f0) + x.f1)).toNat (Int.tmod (wrap64 (x.f2 + 1)) 10) := by
 unfold spec_l19Step.trn at h
 split at h
 ·rename_i c; exact ⟨c, (Option.some.inj h).symm⟩
 ·cases h
def spec_l19Step.l0 : Nat → Int → Int → List (List S72) → List S107 → Int → List (List S72) → List Int → List Int → List (List S72) → Option (List (List S72) × List Int × List Int × List (List S72))
 | 0, _, _, _, _, _, _, _, _, _ => none
 | k + 1, a0, a1, n5, q, i, b5, o6, t7, a9 => if i < (q.length : Int) then (if 0 ≤ i then (spec_l19Step.hd n5 (spec_l19Step.fr (rd_T107 q i))).bind fun f => (spec_l19Step.tl b5 (spec_l19Step.fr (rd_T107 q i))).bind fun b => (spec_l19Step.go a0 a1 (rd_T107 q i) f b a9).bind fun c => (spec_l19Step.own (rd_T107 q i) f o6).bind fun o => (spec_l19Step.trn (rd_T107 q i) t7).bind fun t => spec_l19Step.l0 k a0 a1 n5 q (wrap64 (i + 1)) c.1 o t c.2 else none) else some (b5, o6, t7, a9)
def spec_l19Step.l1 : Nat → List (List S72) → List Int → Int → List (List S72) → List (List S72) → Option (List (List S72) × List (List S72))
 | 0, _, _, _, _, _ => none
 | k + 1, n8, q, i, b5, s8 => if i < (q.length : Int) then (if 0 ≤ i then (spec_l19Step.hd n8 (rd q i)).bind fun f => (spec_l19Step.push b5 (wrap64 (wrap64 (wrap64 (10 * rd q i) + 8) + f.f2)) f).bind fun b => (spec_l19Step.tl s8 (rd q i)).bind fun s => spec_l19Step.l1 k n8 q (wrap64 (i + 1)) b s else none) else some (b5, s8)
def spec_l19Step.f (k : Nat) (a0_0 : Int) (a0_1 : Int) (l0_2 : List Int) (l0_3 : List Int) (l0_4 : List Int) (l0_5 : List (List S72)) (l0_6 : List Int) (l0_7 : List Int) (l0_8 : List (List S72)) (l0_9 : List (List S72)) (a0_10 : Int) : Option (Int × Int × List Int × List Int × List Int × (List (List S72)) × List Int × List Int × (List (List S72)) × (List (List S72)) × Int) := (spec_l15Copy.f k a0_0 a0_1 l0_2 l0_3 l0_4 l0_5 l0_6 l0_7 l0_8 l0_9 a0_10).bind fun n => (spec_l18All.f k a0_0 a0_1 l0_2 l0_3 l0_4 l0_5 l0_6 l0_7 l0_8 l0_9 a0_10).bind fun q => (spec_l19Step.l0 k a0_0 a0_1 l0_5 q 0 n.2.2.2.2.2.1 n.2.2.2.2.2.2.1 n.2.2.2.2.2.2.2.1 n.2.2.2.2.2.2.2.2.2.1).bind fun c => (spec_l19Entering.f k a0_0 a0_1 l0_2 l0_3 l0_4 l0_5 l0_6 l0_7 l0_8 l0_9 a0_10).bind fun e => (spec_l19Step.l1 k l0_8 e 0 c.1 n.2.2.2.2.2.2.2.2.1).bind fun d => some (n.1, n.2.1, n.2.2.1, n.2.2.2.1, n.2.2.2.2.1, d.1, c.2.1, c.2.2.1, d.2, c.2.2.2, wrap64 (a0_10 + 1))
theorem spec_l19Step.callsM (k : Nat) (a0_0 : Int) (a0_1 : Int) (A0_2 : Option Addr) (c0_2 : Nat) (l0_2 : List Int) (A0_3 : Option Addr) (c0_3 : Nat) (l0_3 : List Int) (A0_4 : Option Addr) (c0_4 : Nat) (l0_4 : List Int) (A0_5 : Option Addr) (c0_5 : Nat) (l0_5 : List (List S72)) (A0_6 : Option Addr) (c0_6 : Nat) (l0_6 : List Int) (A0_7 : Option Addr) (c0_7 : Nat) (l0_7 : List Int) (A0_8 : Option Addr) (c0_8 : Nat) (l0_8 : List (List S72)) (A0_9 : Option Addr) (c0_9 : Nat) (l0_9 : List (List S72)) (a0_10 : Int) (r1 : Int) (r2 : Int) (r3 : List Int) (r4 : List Int) (r5 : List Int) (r6 : List (List S72)) (r7 : List Int) (r8 : List Int) (r9 : List (List S72)) (r10 : List (List S72)) (r11 : Int) (w : World) (hr0_2 : Kd.C (Kd.int .i64) w A0_2 l0_2.length l0_2) (hc0_2 : l0_2.length ≤ c0_2) (hr0_3 : Kd.C (Kd.int .i64) w A0_3 l0_3.length l0_3) (hc0_3 : l0_3.length ≤ c0_3) (hr0_4 : Kd.C (Kd.int .i64) w A0_4 l0_4.length l0_4) (hc0_4 : l0_4.length ≤ c0_4) (hr0_5 : Kd.C (Kd.slice 72 k72) w A0_5 l0_5.length l0_5) (hc0_5 : l0_5.length ≤ c0_5) (hr0_6 : Kd.C (Kd.int .i64) w A0_6 l0_6.length l0_6) (hc0_6 : l0_6.length ≤ c0_6) (hr0_7 : Kd.C (Kd.int .i64) w A0_7 l0_7.length l0_7) (hc0_7 : l0_7.length ≤ c0_7) (hr0_8 : Kd.C (Kd.slice 72 k72) w A0_8 l0_8.length l0_8) (hc0_8 : l0_8.length ≤ c0_8) (hr0_9 : Kd.C (Kd.slice 72 k72) w A0_9 l0_9.length l0_9) (hc0_9 : l0_9.length ≤ c0_9) (h : spec_l19Step.f k a0_0 a0_1 l0_2 l0_3 l0_4 l0_5 l0_6 l0_7 l0_8 l0_9 a0_10 = some (r1, r2, r3, r4, r5, r6, r7, r8, r9, r10, r11)) :
  Calls Try.prog 67 #[.agg #[.int .i64 a0_0, .int .i64 a0_1, .slice A0_2 l0_2.length c0_2, .slice A0_3 l0_3.length c0_3, .slice A0_4 l0_4.length c0_4, .slice A0_5 l0_5.length c0_5, .slice A0_6 l0_6.length c0_6, .slice A0_7 l0_7.length c0_7, .slice A0_8 l0_8.length c0_8, .slice A0_9 l0_9.length c0_9, .int .i64 a0_10]] w fun e w' => ∃ (T_ : Nat → Nat) (v2_ v3_ v4_ v5_ v6_ v7_ v8_ v9_ : Value), e = .returned (.agg #[.int .i64 r1, .int .i64 r2, v2_, v3_, v4_, v5_, v6_, v7_, v8_, v9_, .int .i64 r11]) ∧ Marks T_ w.heap.size w' v2_ v3_ v4_ v5_ v6_ v7_ v8_ v9_ r3 r4 r5 r6 r7 r8 r9 r10 ∧ Below w.heap.size w w' := by
 have HR2 := am hr0_2; have HC2 := am hc0_2
 have HR3 := am hr0_3; have HC3 := am hc0_3
 have HR4 := am hr0_4; have HC4 := am hc0_4
 have HR5 := am hr0_5; have HC5 := am hc0_5
 have HR6 := am hr0_6; have HC6 := am hc0_6
 have HR7 := am hr0_7; have HC7 := am hc0_7
 have HR8 := am hr0_8; have HC8 := am hc0_8
 have HR9 := am hr0_9; have HC9 := am hc0_9
 have HB := am (Below.refl w.heap.size w)
 unfold spec_l19Step.f at h
 obtain ⟨⟨n1, n2, n3, n4, n5, n6, n7, n8, n9, n10, n11⟩, e1, g_⟩ := Option.bind_eq_some_iff.1 h; clear h; have h := g_; clear g_; try dsimp only at h
 obtain ⟨q, e2, g_⟩ := Option.bind_eq_some_iff.1 h; clear h; have h := g_; clear g_; try dsimp only at h
 obtain ⟨⟨b5, o6, t7, a9⟩, e3, g_⟩ := Option.bind_eq_some_iff.1 h; clear h; have h := g_; clear g_; try dsimp only at h
 obtain ⟨ee, e4, g_⟩ := Option.bind_eq_some_iff.1 h; clear h; have h := g_; clear g_; try dsimp only at h
 obtain ⟨⟨d5, d8⟩, e5, g_⟩ := Option.bind_eq_some_iff.1 h; clear h; have h := g_; clear g_; try dsimp only at h
 simp only [Option.some.injEq, Prod.mk.injEq] at h
 obtain ⟨rfl, rfl, rfl, rfl, rfl, rfl, rfl, rfl, rfl, rfl, rfl⟩ := h
 have E1 := am e1
 have E2 := am e2
 have E3 := am e3
 have E4 := am e4
 have E5 := am e5
 clear e1 e2 e3 e4 e5 hr0_2 hc0_2 hr0_3 hc0_3 hr0_4 hc0_4 hr0_5 hc0_5 hr0_6 hc0_6 hr0_7 hc0_7 hr0_8 hc0_8 hr0_9 hc0_9
 have hu35 := Try.underlying35; have hu72 := Try.underlying72; have hu107 := Try.underlying107
 go_enter Try.func67, Try.ntmps67
 go_upto_region 2 with (first | ((with_reducible refine gate_dst (N := 1) rfl ?_); refine bx_ 1 #[.int .i64 a0_0, .int .i64 a0_1, .slice A0_2 l0_2.length c0_2, .slice A0_3 l0_3.length c0_3, .slice A0_4 l0_4.length c0_4, .slice A0_5 l0_5.length c0_5, .slice A0_6 l0_6.length c0_6, .slice A0_7 l0_7.length c0_7, .slice A0_8 l0_8.length c0_8, .slice A0_9 l0_9.length c0_9, .int .i64 a0_10] 35 ?_; intro gN hg w1 hbox hb; have BN := am hbox; replace HB := h9_ HB hb; clear hb hbox hg) | ((with_reducible refine gate_dst (N := 2) rfl ?_); refine bx_ 2 #[.int .i64 0, .int .i64 0, .slice none 0 0, .slice none 0 0, .slice none 0 0, .slice none 0 0, .slice none 0 0, .slice none 0 0, .slice none 0 0, .slice none 0 0, .int .i64 0] 35 ?_; intro g2 hg w1 hbox hb; have B2 := am hbox; have G2 := am (show w.heap.size ≤ g2 by rw [hg]; exact (bz_ HB.out)); replace BN := kb_ BN hb; replace HB := h9_ HB hb; clear hb hbox hg; obtain ⟨y0, y1, y2, y3, y4, y5, y6, y7, y8, y9, y10, -⟩ := cz11_ BN.out) | (go_at_call 62; (with_reducible refine (spec_l15Copy.callsM k a0_0 a0_1 _ _ l0_2 _ _ l0_3 _ _ l0_4 _ _ l0_5 _ _ l0_6 _ _ l0_7 _ _ l0_8 _ _ l0_9 a0_10 n1 n2 n3 n4 n5 n6 n7 n8 n9 n10 n11 _ ?s2 HC2.out ?s3 HC3.out ?s4 HC4.out ?s5 HC5.out ?s6 HC6.out ?s7 HC7.out ?s8 HC8.out ?s9 HC9.out E1.out).mono ?_); (case s2 => exact cb_ HR2.out HB.out); (case s3 => exact cb_ HR3.out HB.out); (case s4 => exact cb_ HR4.out HB.out); (case s5 => exact cb_ HR5.out HB.out); (case s6 => exact cb_ HR6.out HB.out); (case s7 => exact cb_ HR7.out HB.out); (case s8 => exact cb_ HR8.out HB.out); (case s9 => exact cb_ HR9.out HB.out); rintro e w2 ⟨T, v2, v3, v4, v5, v6, v7, v8, v9, rfl, hM, hb⟩; obtain ⟨X2, d2_, e_⟩ := Kd.R_slice hM.h2; subst e_; obtain ⟨X3, d3_, e_⟩ := Kd.R_slice hM.h3; subst e_; obtain ⟨X4, d4_, e_⟩ := Kd.R_slice hM.h4; subst e_; obtain ⟨X5, d5_, e_⟩ := Kd.S_slice hM.h5; subst e_; obtain ⟨X6, d6_, e_⟩ := Kd.R_slice hM.h6; subst e_; obtain ⟨X7, d7_, e_⟩ := Kd.R_slice hM.h7; subst e_; obtain ⟨X8, d8_, e_⟩ := Kd.S_slice hM.h8; subst e_; obtain ⟨X9, d9_, e_⟩ := Kd.S_slice hM.h9; subst e_; have TN := am (show T gN = 0 from hM.zlo (blk_lt (bq_ BN.out))); have T2 := am (show T g2 = 0 from hM.zlo (blk_lt (bq_ B2.out))); have M := am (hM.lower (bz_ HB.out)); replace BN := kb_ BN hb; replace B2 := kb_ B2 hb; replace HB := h9_ HB hb; clear hb hM y0 y1 y2 y3 y4 y5 y6 y7 y8 y9 y10))
 have NE := am (show g2 ≠ w2.heap.size from Nat.ne_of_lt (blk_lt (bq_ B2.out)))
 have hb_ := below_alloc (Below.refl w2.heap.size w2) (Obj.cells #[.int .i64 n1, .int .i64 n2, .slice X2 n3.length d2_, .slice X3 n4.length d3_, .slice X4 n5.length d4_, .slice X5 n6.length d5_, .slice X6 n7.length d6_, .slice X7 n8.length d7_, .slice X8 n9.length d8_, .slice X9 n10.length d9_, .int .i64 n11] 35 (0, 0))
 have BO := am (blk_new w2 (Obj.cells #[.int .i64 n1, .int .i64 n2, .slice X2 n3.length d2_, .slice X3 n4.length d3_, .slice X4 n5.length d4_, .slice X5 n6.length d5_, .slice X6 n7.length d6_, .slice X7 n8.length d7_, .slice X8 n9.length d8_, .slice X9 n10.length d9_, .int .i64 n11] 35 (0, 0))); have TO := am (show T w2.heap.size = 0 from M.out.zhi (Nat.le_refl _)); have GO := am (show w.heap.size ≤ w2.heap.size from bz_ HB.out)
 replace BN := kb_ BN hb_
 replace B2 := kb_ B2 hb_
 replace M := am (M.out.below hb_); replace HB := h9_ HB hb_
 obtain ⟨gO, hg_⟩ : ∃ g_, g_ = w2.heap.size := ⟨_, rfl⟩
 rw [← hg_] at BO TO GO NE ⊢
 clear hb_ hg_
 generalize w2.alloc (Obj.cells #[.int .i64 n1, .int .i64 n2, .slice X2 n3.length d2_, .slice X3 n4.length d3_, .slice X4 n5.length d4_, .slice X5 n6.length d5_, .slice X6 n7.length d6_, .slice X7 n8.length d7_, .slice X8 n9.length d8_, .slice X9 n10.length d9_, .int .i64 n11] 35 (0, 0)) = w3 at *
 obtain ⟨y0, y1, y2, y3, y4, y5, y6, y7, y8, y9, y10, -⟩ := cz11_ BN.out
 go_upto_region 3 with (first | (go_at_call 88; (with_reducible refine (spec_l18All.calls k a0_0 a0_1 _ _ l0_2 _ _ l0_3 _ _ l0_4 _ _ l0_5 _ _ l0_6 _ _ l0_7 _ _ l0_8 _ _ l0_9 a0_10 q _ ?s2 HC2.out ?s3 HC3.out ?s4 HC4.out ?s5 HC5.out ?s6 HC6.out ?s7 HC7.out ?s8 HC8.out ?s9 HC9.out E2.out).mono ?_); (case s2 => exact cb_ HR2.out HB.out); (case s3 => exact cb_ HR3.out HB.out); (case s4 => exact cb_ HR4.out HB.out); (case s5 => exact cb_ HR5.out HB.out); (case s6 => exact cb_ HR6.out HB.out); (case s7 => exact cb_ HR7.out HB.out); (case s8 => exact cb_ HR8.out HB.out); (case s9 => exact cb_ HR9.out HB.out); rintro e w4 ⟨vq, rfl, ho, hb⟩; have HQ := am (Kd.R_lower (Kd.R_mono (ok' := fun k_ => T k_ = 0) (Kd.R_bound ho) (fun k_ h_ => M.out.zhi h_.2.1)) (bz_ HB.out)); obtain ⟨Aq, cq, e_⟩ := Kd.R_slice ho; subst e_; replace M := am (M.out.belowV hb); replace BN := kb_ BN hb; replace B2 := kb_ B2 hb; replace BO := kb_ BO hb; replace HB := h9_ HB hb; clear ho hb y0 y1 y2 y3 y4 y5 y6 y7 y8 y9 y10))
 clear E1 E2
 go_wp2
 go_loopg [5] k (fun kq v5 w' => ∃ (T : Nat → Nat) (i : Int) (b : List (List S72)) (o t : List Int) (a : List (List S72)), v5 = .int .i64 i ∧ Aside0 (spec_l19Step.l0 kq a0_0 a0_1 l0_5 q i b o t a = some (b5, o6, t7, a9)) ∧ Aside0 (kq ≤ k) ∧ Aside0 (Marks T w.heap.size w' (.slice X2 n3.length d2_) (.slice X3 n4.length d3_) (.slice X4 n5.length d4_) (.slice X5 n6.length d5_) (.slice X6 n7.length d6_) (.slice X7 n8.length d7_) (.slice X8 n9.length d8_) (.slice X9 n10.length d9_) n3 n4 n5 b o t n9 a) ∧ Aside0 (T gN = 0) ∧ Aside0 (T g2 = 0) ∧ Aside0 (T gO = 0) ∧ Aside0 (w'.heap[gN]? = some (.cells #[.int .i64 a0_0, .int .i64 a0_1, .slice A0_2 l0_2.length c0_2, .slice A0_3 l0_3.length c0_3, .slice A0_4 l0_4.length c0_4, .slice A0_5 l0_5.length c0_5, .slice A0_6 l0_6.length c0_6, .slice A0_7 l0_7.length c0_7, .slice A0_8 l0_8.length c0_8, .slice A0_9 l0_9.length c0_9, .int .i64 a0_10] 35 (0, 0))) ∧ Aside0 (w'.heap[g2]? = some (.cells #[.int .i64 0, .int .i64 0, .slice none 0 0, .slice none 0 0, .slice none 0 0, .slice none 0 0, .slice none 0 0, .slice none 0 0, .slice none 0 0, .slice none 0 0, .int .i64 0] 35 (0, 0))) ∧ Aside0 (w'.heap[gO]? = some (.cells #[.int .i64 n1, .int .i64 n2, .slice X2 n3.length d2_, .slice X3 n4.length d3_, .slice X4 n5.length d4_, .slice X5 n6.length d5_, .slice X6 n7.length d6_, .slice X7 n8.length d7_, .slice X8 n9.length d8_, .slice X9 n10.length d9_, .int .i64 n11] 35 (0, 0))) ∧ Aside0 (Kd.R k107 107 w' w.heap.size (fun k_ => T k_ = 0) (.slice Aq q.length cq) q) ∧ Aside0 (Below w.heap.size w w'))
 case atStart => exact ⟨T, 0, n6, n7, n8, n10, rfl, E3, ⟨Nat.le_refl _⟩, ⟨M.out.belowV (Below.refl _ _)⟩, TN, T2, TO, ⟨bq_ BN.out⟩, ⟨bq_ B2.out⟩, ⟨bq_ BO.out⟩, ⟨ra_ HQ.out⟩, ⟨bb_ HB.out⟩⟩
 clear E3 M TN T2 TO BN B2 BO HQ HB
 obtain ⟨T, i, b, o, t, a, rfl, HA, HK1, M, TN, T2, TO, BN, B2, BO, HQ, HB⟩ := hrel
 obtain _ | k1 := gk
 ·exact absurd HA.out (by simp [spec_l19Step.l0])
 have h := HA.out; clear HA; simp only [spec_l19Step.l0] at h
 by_cases c1 : i < (q.length : Int)
 rotate_left
 ·rw [if_neg c1] at h; simp only [Option.some.injEq, Prod.mk.injEq] at h; obtain ⟨rfl, rfl, rfl, rfl⟩ := h; have c1d : decide (i < (q.length : Int)) = false := decide_eq_false c1; clear c1
  obtain ⟨y0, y1, y2, y3, y4, y5, y6, y7, y8, y9, y10, -⟩ := cz11_ BN.out
  go_upto_region 21 with (first | (go_at_call 89; (with_reducible refine (spec_l19Entering.calls k a0_0 a0_1 _ _ l0_2 _ _ l0_3 _ _ l0_4 _ _ l0_5 _ _ l0_6 _ _ l0_7 _ _ l0_8 _ _ l0_9 a0_10 ee _ ?s2 HC2.out ?s3 HC3.out ?s4 HC4.out ?s5 HC5.out ?s6 HC6.out ?s7 HC7.out ?s8 HC8.out ?s9 HC9.out E4.out).mono ?_); (case s2 => exact cb_ HR2.out HB.out); (case s3 => exact cb_ HR3.out HB.out); (case s4 => exact cb_ HR4.out HB.out); (case s5 => exact cb_ HR5.out HB.out); (case s6 => exact cb_ HR6.out HB.out); (case s7 => exact cb_ HR7.out HB.out); (case s8 => exact cb_ HR8.out HB.out); (case s9 => exact cb_ HR9.out HB.out); rintro e w6 ⟨ve, rfl, ho, hb⟩; have HV := am (Kd.R_lower (Kd.R_mono (ok' := fun k_ => T k_ = 0) (Kd.R_bound ho) (fun k_ h_ => M.out.zhi h_.2.1)) (bz_ HB.out)); obtain ⟨Ae_, ce_, e_⟩ := Kd.R_slice ho; subst e_; replace M := am (M.out.belowV hb); replace BN := kb_ BN hb; replace B2 := kb_ B2 hb; replace BO := kb_ BO hb; replace HB := h9_ HB hb; clear ho hb HQ y0 y1 y2 y3 y4 y5 y6 y7 y8 y9 y10))
  clear E4
  go_wp2
  go_loopg [13] k (fun kq v13 w' => ∃ (T : Nat → Nat) (i : Int) (b s : List (List S72)), v13 = .int .i64 i ∧ Aside0 (spec_l19Step.l1 kq l0_8 ee i b s = some (d5, d8)) ∧ Aside0 (kq ≤ k) ∧ Aside0 (Marks T w.heap.size w' (.slice X2 n3.length d2_) (.slice X3 n4.length d3_) (.slice X4 n5.length d4_) (.slice X5 n6.length d5_) (.slice X6 n7.length d6_) (.slice X7 n8.length d7_) (.slice X8 n9.length d8_) (.slice X9 n10.length d9_) n3 n4 n5 b o t s a) ∧ Aside0 (T gN = 0) ∧ Aside0 (T g2 = 0) ∧ Aside0 (T gO = 0) ∧ Aside0 (w'.heap[gN]? = some (.cells #[.int .i64 a0_0, .int .i64 a0_1, .slice A0_2 l0_2.length c0_2, .slice A0_3 l0_3.length c0_3, .slice A0_4 l0_4.length c0_4, .slice A0_5 l0_5.length c0_5, .slice A0_6 l0_6.length c0_6, .slice A0_7 l0_7.length c0_7, .slice A0_8 l0_8.length c0_8, .slice A0_9 l0_9.length c0_9, .int .i64 a0_10] 35 (0, 0))) ∧ Aside0 (w'.heap[g2]? = some (.cells #[.int .i64 0, .int .i64 0, .slice none 0 0, .slice none 0 0, .slice none 0 0, .slice none 0 0, .slice none 0 0, .slice none 0 0, .slice none 0 0, .slice none 0 0, .int .i64 0] 35 (0, 0))) ∧ Aside0 (w'.heap[gO]? = some (.cells #[.int .i64 n1, .int .i64 n2, .slice X2 n3.length d2_, .slice X3 n4.length d3_, .slice X4 n5.length d4_, .slice X5 n6.length d5_, .slice X6 n7.length d6_, .slice X7 n8.length d7_, .slice X8 n9.length d8_, .slice X9 n10.length d9_, .int .i64 n11] 35 (0, 0))) ∧ Aside0 (Kd.R (Kd.int .i64) 3 w' w.heap.size (fun k_ => T k_ = 0) (.slice Ae_ ee.length ce_) ee) ∧ Aside0 (Below w.heap.size w w'))
  case atStart => exact ⟨T, 0, b, n9, rfl, E5, ⟨Nat.le_refl _⟩, ⟨M.out.belowV (Below.refl _ _)⟩, TN, T2, TO, ⟨bq_ BN.out⟩, ⟨bq_ B2.out⟩, ⟨bq_ BO.out⟩, ⟨ra_ HV.out⟩, ⟨bb_ HB.out⟩⟩
  clear E5 M TN T2 TO BN B2 BO HV HB c1d HK1
  obtain ⟨T, i, b, s, rfl, HA, HK1, M, TN, T2, TO, BN, B2, BO, HV, HB⟩ := hrel
  cases gk with
  | zero => exact absurd HA.out (by simp [spec_l19Step.l1])
  | succ k2 =>
  have h := HA.out; clear HA; simp only [spec_l19Step.l1] at h
  by_cases c1 : i < (ee.length : Int)
  rotate_left
  ·rw [if_neg c1] at h; simp only [Option.some.injEq, Prod.mk.injEq] at h; obtain ⟨rfl, rfl⟩ := h; have c1d : decide (i < (ee.length : Int)) = false := decide_eq_false c1; clear c1
   obtain ⟨y0, y1, y2, y3, y4, y5, y6, y7, y8, y9, y10, -⟩ := cz11_ BN.out
   have hx : wr.cell? ⟨gO, 10, none⟩ = some (.int .i64 n11) := (blk_cell BO.out 10).trans rfl; have hf := blk_frozen BO.out 10; go_upto_region 30 with fail
   clear hx hf y0 y1 y2 y3 y4 y5 y6 y7 y8 y9 y10
   replace B2 := am (blk_far (bq_ B2.out) (p := ⟨gO, 10, none⟩) NE.out (.int .i64 (wrap64 (a0_10 + 1))) : (wr.setCell ⟨gO, 10, none⟩ (.int .i64 (wrap64 (a0_10 + 1)))).heap[g2]? = _); replace BO := am (blk_put (bq_ BO.out) 10 (.int .i64 (wrap64 (a0_10 + 1))) (cs' := #[.int .i64 n1, .int .i64 n2, .slice X2 n3.length d2_, .slice X3 n4.length d3_, .slice X4 n5.length d4_, .slice X5 n6.length d5_, .slice X6 n7.length d6_, .slice X7 n8.length d7_, .slice X8 n9.length d8_, .slice X9 n10.length d9_, .int .i64 (wrap64 (a0_10 + 1))]) rfl); replace HB := am (below_set HB.out GO.out : Below w.heap.size w (wr.setCell ⟨gO, 10, none⟩ (.int .i64 (wrap64 (a0_10 + 1))))); replace M := am (M.out.move (w1 := wr.setCell ⟨gO, 10, none⟩ (.int .i64 (wrap64 (a0_10 + 1)))) (fun k_ h_ => Below.heap_setCell _ _ _ _ (fun e_ => h_ (e_ ▸ TO.out))) (Nat.le_of_eq (by simp only [World.setCell, Array.size_modify]))); generalize wr.setCell ⟨gO, 10, none⟩ (.int .i64 (wrap64 (a0_10 + 1))) = wy at *
   obtain ⟨y0, y1, y2, y3, y4, y5, y6, y7, y8, y9, y10, -⟩ := cz11_ BO.out; obtain ⟨z0, z1, z2, z3, z4, z5, z6, z7, z8, z9, z10, zf0, zf1, zf2, zf3, zf4, zf5, zf6, zf7, zf8, zf9, zf10⟩ := cz11_ B2.out; go_wp2; clear y0 y1 y2 y3 y4 y5 y6 y7 y8 y9 y10 z0 z1 z2 z3 z4 z5 z6 z7 z8 z9 z10 zf0 zf1 zf2 zf3 zf4 zf5 zf6 zf7 zf8 zf9 zf10
   change bodyPost _ _ _ _ _ (st11_ _ g2 (.int .i64 n1) (.int .i64 n2) (.slice X2 n3.length d2_) (.slice X3 n4.length d3_) (.slice X4 n5.length d4_) (.slice X5 n6.length d5_) (.slice X6 n7.length d6_) (.slice X7 n8.length d7_) (.slice X8 n9.length d8_) (.slice X9 n10.length d9_) (.int .i64 (wrap64 (a0_10 + 1))))
   replace M := am (M.out.move (w1 := st11_ _ g2 (.int .i64 n1) (.int .i64 n2) (.slice X2 n3.length d2_) (.slice X3 n4.length d3_) (.slice X4 n5.length d4_) (.slice X5 n6.length d5_) (.slice X6 n7.length d6_) (.slice X7 n8.length d7_) (.slice X8 n9.length d8_) (.slice X9 n10.length d9_) (.int .i64 (wrap64 (a0_10 + 1)))) (fun k_ h_ => st11_far (fun e_ => h_ (e_ ▸ T2.out))) (Nat.le_of_eq st11_size.symm)); replace B2 := am (st11_blk B2.out : (st11_ _ g2 (.int .i64 n1) (.int .i64 n2) (.slice X2 n3.length d2_) (.slice X3 n4.length d3_) (.slice X4 n5.length d4_) (.slice X5 n6.length d5_) (.slice X6 n7.length d6_) (.slice X7 n8.length d7_) (.slice X8 n9.length d8_) (.slice X9 n10.length d9_) (.int .i64 (wrap64 (a0_10 + 1)))).heap[g2]? = _); replace HB := am (st11_below HB.out G2.out : Below w.heap.size w (st11_ _ g2 (.int .i64 n1) (.int .i64 n2) (.slice X2 n3.length d2_) (.slice X3 n4.length d3_) (.slice X4 n5.length d4_) (.slice X5 n6.length d5_) (.slice X6 n7.length d6_) (.slice X7 n8.length d7_) (.slice X8 n9.length d8_) (.slice X9 n10.length d9_) (.int .i64 (wrap64 (a0_10 + 1))))); generalize st11_ _ g2 (.int .i64 n1) (.int .i64 n2) (.slice X2 n3.length d2_) (.slice X3 n4.length d3_) (.slice X4 n5.length d4_) (.slice X5 n6.length d5_) (.slice X6 n7.length d6_) (.slice X7 n8.length d7_) (.slice X8 n9.length d8_) (.slice X9 n10.length d9_) (.int .i64 (wrap64 (a0_10 + 1))) = wz at *
   refine bodyPost_ret (results_cell_row rfl _ _ g2 35 _ (0, 0) _ rfl (bq_ B2.out) Try.underlying35 rfl (by kernel_rfl)) rfl ?_
   exact ⟨T, _, _, _, _, _, _, _, _, rfl, M.out.belowV (Below.refl _ _), bb_ HB.out⟩
  rw [if_pos c1] at h; by_cases c2 : 0 ≤ i
  rotate_left
  ·rw [if_neg c2] at h; cases h
  rw [if_pos c2] at h
  obtain ⟨kk, hkk⟩ : ∃ y_, y_ = rd ee i := ⟨_, rfl⟩; rw [← hkk] at h
  obtain ⟨f, e1, g_⟩ := Option.bind_eq_some_iff.1 h; clear h; have h := g_; clear g_; try dsimp only at h
  obtain ⟨b1, e2, g_⟩ := Option.bind_eq_some_iff.1 h; clear h; have h := g_; clear g_; try dsimp only at h
  obtain ⟨s1, e3, g_⟩ := Option.bind_eq_some_iff.1 h; clear h; have h := g_; clear g_; try dsimp only at h
  obtain ⟨q1_, hf⟩ := spec_l19Step.hd_some e1; obtain ⟨q2_, hb1⟩ := spec_l19Step.push_some e2; obtain ⟨q3_, hs1⟩ := spec_l19Step.tl_some e3; have H' := am h; have S1 := am q1_; have S2 := am q2_; have S3 := am q3_; have HF := am hf; have HB1 := am hb1; have HS1 := am hs1; clear h e1 e2 e3 q1_ q2_ q3_ hf hb1 hs1
  obtain ⟨ge, zee, ev, _, _, _, _⟩ := Kd.R_form HV.out (by omega); injection ev with ev1 _ ev3; subst ev1; subst ev3; obtain ⟨hx, hfx⟩ := Kd.R_celln 0 HV.out i c2 c1; rw [show rdOf 0 ee i = kk from hkk.symm] at hx; have HKK := am hkk; clear hkk
  have c1d : decide (i < (ee.length : Int)) = true := decide_eq_true c1; replace c1 := eq_true c1; replace c2 := eq_true c2
  go_upto_region 25 with fail
  clear hx hfx
  obtain ⟨y0, y1, y2, y3, y4, y5, y6, y7, y8, y9, y10, -⟩ := cz11_ BN.out
  obtain ⟨p9, q9, l9⟩ := S1.out
  obtain ⟨adn, An, cn, en, xn, ln, hn⟩ := at_L4 (cb_ HR8.out HB.out : Kd.C (Kd.slice 72 k72) wr A0_8 l0_8.length l0_8) kk p9 q9; cases en
  obtain ⟨adf, ef, f0, f1, f2, f3, f4⟩ := at_T72 hn 0 (by omega) (by omega); cases ef
  (try rw [show ((0 : Int)).toNat = 0 from rfl] at f0); (try rw [show 0 * 5 = 0 from rfl] at f0); (try rw [Addr.add_zero'] at f0); rw [show rd_T72 (rd_L4 l0_8 kk) 0 = f from HF.out.symm] at f0
  (try rw [show ((0 : Int)).toNat = 0 from rfl] at f1); (try rw [show 0 * 5 = 0 from rfl] at f1); (try rw [Addr.add_zero'] at f1); rw [show rd_T72 (rd_L4 l0_8 kk) 0 = f from HF.out.symm] at f1
  (try rw [show ((0 : Int)).toNat = 0 from rfl] at f2); (try rw [show 0 * 5 = 0 from rfl] at f2); (try rw [Addr.add_zero'] at f2); rw [show rd_T72 (rd_L4 l0_8 kk) 0 = f from HF.out.symm] at f2
  (try rw [show ((0 : Int)).toNat = 0 from rfl] at f3); (try rw [show 0 * 5 = 0 from rfl] at f3); (try rw [Addr.add_zero'] at f3); rw [show rd_T72 (rd_L4 l0_8 kk) 0 = f from HF.out.symm] at f3
  (try rw [show ((0 : Int)).toNat = 0 from rfl] at f4); (try rw [show 0 * 5 = 0 from rfl] at f4); (try rw [Addr.add_zero'] at f4); rw [show rd_T72 (rd_L4 l0_8 kk) 0 = f from HF.out.symm] at f4
  have l9' : (0 < (rd_L4 l0_8 kk).length) = True := eq_true l9; replace p9 := eq_true p9; replace q9 := eq_true q9; clear ln hn
  go_upto_region 26 with fail
  clear p9 q9 l9 l9' xn f0 f1 f2 f3 f4 y0 y1 y2 y3 y4 y5 y6 y7 y8 y9 y10
  have hb_ := below_alloc (Below.refl wr.heap.size wr) (Obj.cells #[.int .i64 f.f0, .int .i64 f.f1, .int .i64 f.f2, .bool f.f3, .bool f.f4] 72 (0, 0))
  have BF := am (blk_new wr (Obj.cells #[.int .i64 f.f0, .int .i64 f.f1, .int .i64 f.f2, .bool f.f3, .bool f.f4] 72 (0, 0))); have TF := am (show T wr.heap.size = 0 from M.out.zhi (Nat.le_refl _)); have GF := am (show w.heap.size ≤ wr.heap.size from bz_ HB.out)
  replace BN := kb_ BN hb_
  replace B2 := kb_ B2 hb_
  replace BO := kb_ BO hb_
  replace HV := am (Kd.R_below (ra_ HV.out) hb_)
  replace M := am (M.out.below hb_); replace HB := h9_ HB hb_
  obtain ⟨gF, hg_⟩ : ∃ g_, g_ = wr.heap.size := ⟨_, rfl⟩
  rw [← hg_] at BF TF GF ⊢
  clear hb_ hg_
  generalize wr.alloc (Obj.cells #[.int .i64 f.f0, .int .i64 f.f1, .int .i64 f.f2, .bool f.f3, .bool f.f4] 72 (0, 0)) = wb at *
  obtain ⟨k0, k1_, k2_, k3, k4, -⟩ := cz5_ BF.out; go_upto_region 27 with fail; clear k0 k1_ k2_ k3 k4
  obtain ⟨s0, s1, s3⟩ : 0 ≤ (wrap64 (wrap64 (wrap64 (10 * kk) + 8) + f.f2)) ∧ (wrap64 (wrap64 (wrap64 (10 * kk) + 8) + f.f2)) < (b.length : Int) ∧ (b.getD ((wrap64 (wrap64 (wrap64 (10 * kk) + 8) + f.f2)) : Int).toNat []).length < 4294967296 := S2.out
  obtain ⟨g5, zs, oki, Ae, ze, ev, hTs, hls, hx, hf, hR, HI, HH⟩ := M.out.get_5 (i := (wrap64 (wrap64 (wrap64 (10 * kk) + 8) + f.f2))) s0 s1
  obtain ⟨el, hel⟩ : ∃ y_, b.getD ((wrap64 (wrap64 (wrap64 (10 * kk) + 8) + f.f2)) : Int).toNat [] = y_ := ⟨_, rfl⟩; rw [hel] at hx hR HH s3
  injection ev with ev1 ln_ ev3
  subst ev1; subst ev3
  have L3 := am s3; have HEL := am hel; have HHH := am HH; have HII := am HI; have HRR := am hR; have LN := am ln_; have TS := am hTs; have C0 := am s0; have C1 := am s1; clear hel HH HI hTs hls hR hf
  have q10 : (wrap64 (wrap64 (wrap64 (10 * kk) + 8) + f.f2)) < (n6.length : Int) := by rw [LN.out]; exact s1
  replace s0 := eq_true s0; replace q10 := eq_true q10; clear s1 s3 ln_
  refine start_ (n := 13) (S := fun w' => w'.cell? ⟨gO, 5, none⟩ = some (.slice (some ⟨g5, 0, none⟩) n6.length d5_) ∧ w'.cell? ⟨g5, ((wrap64 (wrap64 (wrap64 (10 * kk) + 8) + f.f2)) : Int).toNat, none⟩ = some (.slice Ae el.length ze) ∧ w'.cell? ⟨gF, 0, none⟩ = some (.int .i64 f.f0) ∧ w'.cell? ⟨gF, 1, none⟩ = some (.int .i64 f.f1) ∧ w'.cell? ⟨gF, 2, none⟩ = some (.int .i64 f.f2) ∧ w'.cell? ⟨gF, 3, none⟩ = some (.bool f.f3) ∧ w'.cell? ⟨gF, 4, none⟩ = some (.bool f.f4)) (ds := [12]) #[false, false, false, false, false, false, false, false, false, false, false, false, false] (by kernel_rfl) rfl rfl ⟨(blk_cell BO.out 5).trans rfl, hx, (blk_cell BF.out 0).trans rfl, (blk_cell BF.out 1).trans rfl, (blk_cell BF.out 2).trans rfl, (blk_cell BF.out 3).trans rfl, (blk_cell BF.out 4).trans rfl⟩ (fun hHeld => ?_)
  replace BN := am (bq_ BN.out : wb.drew.heap[gN]? = some _)
  replace B2 := am (bq_ B2.out : wb.drew.heap[g2]? = some _)
  replace BO := am (bq_ BO.out : wb.drew.heap[gO]? = some _)
  replace BF := am (bq_ BF.out : wb.drew.heap[gF]? = some _)
  replace HV := am (Kd.R_drew HV.out)
  replace M := am (M.out.move (w1 := wb.drew) (fun _ _ => rfl) (Nat.le_refl _)); replace HB := am (bb_ HB.out : Below w.heap.size w wb.drew); replace HRR := am (Kd.R_drew HRR.out); replace HHH := am (show Kd.H (Kd.slice 72 k72) 42 wb.drew w.heap.size (fun k => T k = 5 ∨ wb.drew.heap.size ≤ k) (.slice (some ⟨g5, 0, none⟩) b.length d5_) b (wrap64 (wrap64 (wrap64 (10 * kk) + 8) + f.f2)) oki [.slice Ae el.length ze] from Kd.H_drew HHH.out); replace HII := am (show ∀ k, oki k → (T k = 5 ∨ wb.drew.heap.size ≤ k) ∧ k ≠ g5 from HII.out)
  clear hx; generalize wb.drew = wd at *
  refine pk_ 0 160 (bt_ 13 1) ?_
  refine tk_ (v := .slice (some ⟨g5, 0, none⟩) n6.length d5_) 1 161 (bt_ 13 3) hHeld ?_ (hy := by rintro w' ⟨s4, s5, s6, s7, s8, s9, s10⟩; go_simp)
  refine pk_ 2 162 (bt_ 13 7) ?_
  refine pk_ 3 163 (bt_ 13 15) ?_
  refine tk_ (v := .slice (some ⟨g5, 0, none⟩) n6.length d5_) 4 164 (bt_ 13 31) hHeld ?_ (hy := by rintro w' ⟨s4, s5, s6, s7, s8, s9, s10⟩; go_simp)
  refine pk_ 5 165 (bt_ 13 63) ?_
  refine pk_ 6 166 (bt_ 13 127) ?_
  refine tk_ (v := .slice Ae el.length ze) 7 167 (bt_ 13 255) hHeld ?_ (hy := by rintro w' ⟨s4, s5, s6, s7, s8, s9, s10⟩; go_simp)
  refine tk_ (v := .agg #[.int .i64 f.f0, .int .i64 f.f1, .int .i64 f.f2, .bool f.f3, .bool f.f4]) 8 168 (bt_ 13 511) hHeld ?_ (hy := by rintro w' ⟨s4, s5, s6, s7, s8, s9, s10⟩; go_simp)
  refine one_ (i := 9) (N := some 169) (bt_ 13 1023) rfl rfl (by kernel_rfl) (by decide) (fun K hK => ?_)
  refine value_ (w1 := ?_) (v := ?_) (by rfl) rfl ?_ ?_
  rotate_left 2
  ·go_simp
   constructor
   ·rfl
   ·rfl
  refine hK.out _ _ ⟨(blk_cell (blk_alloc BO.out _) 5).trans rfl, (World.cell?_alloc_lt _ _ _ (World.block_lt_of_cell? _ _ hHeld.2.1)).trans hHeld.2.1, (blk_cell (blk_alloc BF.out _) 0).trans rfl, (blk_cell (blk_alloc BF.out _) 1).trans rfl, (blk_cell (blk_alloc BF.out _) 2).trans rfl, (blk_cell (blk_alloc BF.out _) 3).trans rfl, (blk_cell (blk_alloc BF.out _) 4).trans rfl⟩ (fun hHeld => ?_)
  clear hK K
  refine nm_ 169 ?_
  refine one_ (i := 10) (N := some 170) (bt_ 13 2047) rfl rfl (by kernel_rfl) (by decide) (fun K hK => ?_)
  refine Kd.R_append_step k72 (w0 := w) w.heap.size (by rfl) (.tmp 167) (.tmp 169) 42 72 (.agg #[.int .i64 0, .int .i64 0, .int .i64 0, .bool false, .bool false]) 32 rfl Try.underlying42 info72 rfl (by decide) (by omega) (.slice Ae el.length ze) el f [.int .i64 f.f0, .int .i64 f.f1, .int .i64 f.f2, .bool f.f3, .bool f.f4] (fun k_ => oki k_ ∨ wd.heap.size ≤ k_) (fun _ => False) rfl rfl ?aP (fun _ hk => hk.elim) ?aF ?aO ?aB ?aS ?aL ?_
  (case aP => exact k72_mkM _ _ _ f)
  (case aF => exact fun k_ h_ => Or.inr h_)
  (case aO => exact Kd.R_mono (ra_ HRR.out) (fun k_ h_ => Or.inl h_))
  (case aB => exact bb_ HB.out)
  (case aS => exact (bz_ HB.out))
  (case aL => have := L3.out; omega)
  intro v_ wf ho hb hg hat
  have HGG := am hg; have HBF := am hb; have hrow : ∀ k_, (.slice Ae el.length ze : Value).ownBlock = some k_ → oki k_ := fun k_ e_ => HRR.out.1 k_ e_; obtain ⟨hx8, hf8⟩ := lent_cell HHH.out C0.out C1.out HGG.out hrow
  have bN_ := blk_grown (bq_ BN.out) hg (spec_l19Step.ob_ (e' := 0) HII.out HRR.out TN.out BN.out (by decide))
  have b2_ := blk_grown (bq_ B2.out) hg (spec_l19Step.ob_ (e' := 0) HII.out HRR.out T2.out B2.out (by decide))
  have bO_ := blk_grown (bq_ BO.out) hg (spec_l19Step.ob_ (e' := 0) HII.out HRR.out TO.out BO.out (by decide))
  have bF_ := blk_grown (bq_ BF.out) hg (spec_l19Step.ob_ (e' := 0) HII.out HRR.out TF.out BF.out (by decide))
  have HO := am ho; obtain ⟨Ao, co, e_⟩ := Kd.R_slice ho; subst e_; clear ho hb hg hat
  refine hK.out _ _ ⟨(blk_cell bO_ 5).trans rfl, hx8, (blk_cell bF_ 0).trans rfl, (blk_cell bF_ 1).trans rfl, (blk_cell bF_ 2).trans rfl, (blk_cell bF_ 3).trans rfl, (blk_cell bF_ 4).trans rfl⟩ (fun hHeld => ?_)
  clear hK K
  refine nm_ 170 ?_
  clear bN_ b2_ bO_ bF_
  refine pk_ 11 171 (bt_ 13 4095) ?_
  refine last_ (i := 12) (N := none) (bt_ 13 8191) rfl rfl (by kernel_rfl) (by decide) (fun K hK => ?_)
  refine skip_ (w1 := ?_) (by rfl) rfl ?_ ?_
  rotate_left
  ·go_simp
   rfl
  refine hK.out _ _ ?_
  clear hK K hHeld hx8 hf8 s0 q10
  refine done_ (by kernel_rfl) ?_
  have HAP := am (show el ++ [f] = el ++ [f] from rfl)
  obtain ⟨⟨T', hT', hM'⟩, hK9⟩ := M.out.put_5 (bz_ HB.out) C0.out C1.out (show (.slice (some ⟨g5, 0, none⟩) n6.length d5_ : Value) = .slice (some ⟨g5, 0, none⟩) b.length d5_ by rw [LN.out]) TS.out HII.out HHH.out HGG.out hrow rfl HO.out
  rw [show b.set ((wrap64 (wrap64 (wrap64 (10 * kk) + 8) + f.f2)) : Int).toNat (el ++ [f]) = b1 by rw [HB1.out, HEL.out], List.length_append] at hM'; rw [List.length_append] at hK9; simp only [List.length_cons, List.length_nil, Nat.zero_add] at hM' hK9
  have hlo := M.out.lo g5 (by rw [TS.out]; decide)
  replace HV := am (Kd.R_mono (Kd.R_keptB HV.out hK9 (fun k_ a_ b_ => by rw [a_] at b_; cases b_)) (fun k_ h_ => (hT' k_ h_.2.2).trans h_.1 : ∀ k_, _ → T' k_ = 0))
  have TN_ := am ((hT' gN (blk_lt BN.out)).trans TN.out); replace BN := am (blk_kept BN.out hK9 (fun h_ => by have h2_ := TN.out; rw [h_] at h2_; cases h2_)); clear TN; have TN := TN_; clear TN_
  have T2_ := am ((hT' g2 (blk_lt B2.out)).trans T2.out); replace B2 := am (blk_kept B2.out hK9 (fun h_ => by have h2_ := T2.out; rw [h_] at h2_; cases h2_)); clear T2; have T2 := T2_; clear T2_
  have TO_ := am ((hT' gO (blk_lt BO.out)).trans TO.out); replace BO := am (blk_kept BO.out hK9 (fun h_ => by have h2_ := TO.out; rw [h_] at h2_; cases h2_)); clear TO; have TO := TO_; clear TO_
  have TF_ := am ((hT' gF (blk_lt BF.out)).trans TF.out); replace BF := am (blk_kept BF.out hK9 (fun h_ => by have h2_ := TF.out; rw [h_] at h2_; cases h2_)); clear TF; have TF := TF_; clear TF_
  replace HB := am (below_set HBF.out hlo : Below w.heap.size w (wf.setCell ⟨g5, ((wrap64 (wrap64 (wrap64 (10 * kk) + 8) + f.f2)) : Int).toNat, none⟩ (.slice Ao (el.length + 1) co))); replace M := am hM'; clear hM' hK9 hT' hlo; generalize wf.setCell ⟨g5, ((wrap64 (wrap64 (wrap64 (10 * kk) + 8) + f.f2)) : Int).toNat, none⟩ (.slice Ao (el.length + 1) co) = wh at *
  clear HGG HBF HO HHH HII HRR LN TS C0 C1 L3 HEL HAP hrow
  obtain ⟨T, hTe⟩ : ∃ T0 : Nat → Nat, T0 = T' := ⟨_, rfl⟩; subst hTe
  go_upto_region 28 with fail
  obtain ⟨s0, s1, s2, s3⟩ : 0 ≤ kk ∧ kk < (s.length : Int) ∧ 1 ≤ ((s.getD (kk : Int).toNat []).length : Int) ∧ (s.getD (kk : Int).toNat []).length < 4294967296 := S3.out
  obtain ⟨g8, zs, oki, Ae, ze, ev, hTs, hls, hx, hf, hR, HI, HH⟩ := M.out.get_8 (i := kk) s0 s1
  obtain ⟨el, hel⟩ : ∃ y_, s.getD (kk : Int).toNat [] = y_ := ⟨_, rfl⟩; rw [hel] at hx hR HH s2 s3
  injection ev with ev1 ln_ ev3
  subst ev1; subst ev3
  obtain ⟨et, hd⟩ : ∃ y_, y_ = el.drop (1 : Int).toNat := ⟨_, rfl⟩; obtain ⟨i0_, hi_, _, hz_, _⟩ := info_parts info72; have hcut := cut_from (P := Try.prog) 42 72 .i64 Try.underlying42 hi_ 5 hz_ Ae el.length ze 1 (by omega) s2; have hr := Kd.Q_drop (k := (1 : Int).toNat) (Kd.Q_of_R hR) (by omega)
  obtain ⟨A5, hA5⟩ : ∃ A1, A1 = (if ze = (1 : Int).toNat then Ae else (Ae : Option Addr).map (·.add ((1 : Int).toNat * 5))) := ⟨_, rfl⟩; obtain ⟨c5, hc5⟩ : ∃ c1, c1 = ze - (1 : Int).toNat := ⟨_, rfl⟩; have hy : et.length = el.length - (1 : Int).toNat := (by rw [hd, List.length_drop]); rw [← hd] at hr; rw [← hy, ← hA5, ← hc5] at hcut; replace hr : Kd.Q k72 72 wh w.heap.size oki (.slice A5 et.length c5) et := (by rw [hA5, hc5, hy]; exact hr)
  have hel2 : el.drop 1 = et := hd.symm; have L3 := am (show et.length < 4294967296 by omega); have HQ5 := am hr; have HD := am hel2; have HEL := am hel; have HHH := am HH; have HII := am HI; have LN := am ln_; have TS := am hTs; have C0 := am s0; have C1 := am s1; clear hy hi_ hz_ hA5 hc5 hr hel2 hd hel HH HI hTs hls hR hf
  have q10 : kk < (n9.length : Int) := by rw [LN.out]; exact s1
  replace s0 := eq_true s0; replace s2 := eq_true s2; replace q10 := eq_true q10; clear s1 s3 ln_
  refine start_ (n := 13) (S := fun w' => w'.cell? ⟨gO, 8, none⟩ = some (.slice (some ⟨g8, 0, none⟩) n9.length d8_) ∧ w'.cell? ⟨g8, (kk : Int).toNat, none⟩ = some (.slice Ae el.length ze)) (ds := [12]) #[false, false, false, false, false, false, false, false, false, false, false, false, false] (by kernel_rfl) rfl rfl ⟨(blk_cell BO.out 8).trans rfl, hx⟩ (fun hHeld => ?_)
  replace BN := am (bq_ BN.out : wh.drew.heap[gN]? = some _)
  replace B2 := am (bq_ B2.out : wh.drew.heap[g2]? = some _)
  replace BO := am (bq_ BO.out : wh.drew.heap[gO]? = some _)
  replace BF := am (bq_ BF.out : wh.drew.heap[gF]? = some _)
  replace HV := am (Kd.R_drew HV.out)
  replace M := am (M.out.move (w1 := wh.drew) (fun _ _ => rfl) (Nat.le_refl _)); replace HB := am (bb_ HB.out : Below w.heap.size w wh.drew); replace HQ5 := am (Kd.Q_drew HQ5.out); replace HHH := am (show Kd.H (Kd.slice 72 k72) 42 wh.drew w.heap.size (fun k => T k = 8 ∨ wh.drew.heap.size ≤ k) (.slice (some ⟨g8, 0, none⟩) s.length d8_) s kk oki [.slice Ae el.length ze] from Kd.H_drew HHH.out); replace HII := am (show ∀ k, oki k → (T k = 8 ∨ wh.drew.heap.size ≤ k) ∧ k ≠ g8 from HII.out); replace hx : wh.drew.cell? ⟨g8, (kk : Int).toNat, none⟩ = some (.slice Ae el.length ze) := hx
  generalize wh.drew = wd at *
  refine pk_ 0 172 (bt_ 13 1) ?_
  refine tk_ (v := .slice (some ⟨g8, 0, none⟩) n9.length d8_) 1 173 (bt_ 13 3) hHeld ?_ (hy := by rintro w' ⟨s4, s5⟩; go_simp)
  refine pk_ 2 174 (bt_ 13 7) ?_
  refine pk_ 4 176 (bt_ 13 23) ?_
  refine tk_ (v := .slice (some ⟨g8, 0, none⟩) n9.length d8_) 5 177 (bt_ 13 55) hHeld ?_ (hy := by rintro w' ⟨s4, s5⟩; go_simp)
  refine pk_ 6 178 (bt_ 13 119) ?_
  refine pk_ 7 179 (bt_ 13 247) ?_
  refine tk_ (v := .slice Ae el.length ze) 8 180 (bt_ 13 503) hHeld ?_ (hy := by rintro w' ⟨s4, s5⟩; go_simp)
  refine pk_ (v := .slice A5 et.length c5) 9 181 (bt_ 13 1015) ?_ (hy := by intro w'; go_simp)
  refine one_ (i := 3) (N := some 175) (bt_ 13 1023) rfl rfl (by kernel_rfl) (by decide) (fun K hK => ?_)
  refine Kd.R_lit_step k72 _ 72 ?hg (N := 175) ?hd (xs := ([] : List S72)) (inner := []) (ok := fun _ => True) (okp := fun _ => True) ?hr ?hp (fun _ hk => hk) trivial (Below.refl _ _) (Nat.le_refl _) (by simp) ?_; (case hd => rfl); (case hg => rfl); (case hr => first | (go_simp; done) | (go_simp; rfl)); (case hp => exact (Reps.none _ _))
  intro v_ we ho hb _ _
  have HE := am ho; have HBE := am hb; have hxe := (hb.cell (World.block_lt_of_cell? wd _ hx)).trans hx; have hbo := bk_ BO.out hb; clear ho hb
  refine hK.out _ _ ⟨(blk_cell hbo 8).trans rfl, hxe⟩ (fun hHeld => ?_)
  clear hK K
  refine nm_ 175 ?_
  clear hxe hbo
  refine one_ (i := 10) (N := some 182) (bt_ 13 2047) rfl rfl (by kernel_rfl) (by decide) (fun K hK => ?_)
  refine Kd.R_append_rows_step k72 (w0 := wd) wd.heap.size (by rfl) (.tmp 175) (.tmp 181) 42 72 (.agg #[.int .i64 0, .int .i64 0, .int .i64 0, .bool false, .bool false]) 32 rfl Try.underlying42 info72 rfl (by decide) (by omega) v_ [] et _ _ _ (fun _ => True) (fun _ => False) rfl rfl ?aO ?aR (fun _ _ h => h) (fun _ h => h.elim) ?aF ?aB ?aS ?aL ?_
  (case aR => exact (Kd.Q_reads' (Kd.Q_below HQ5.out HBE.out)).2.2)
  (case aB => exact HBE.out)
  (case aF => exact fun _ _ => trivial)
  (case aO => exact HE.out)
  (case aS => exact HBE.out.size)
  (case aL => have := L3.out; simp only [List.length_nil]; omega)
  intro v2_ wf ho hb hg hat
  rw [List.nil_append] at ho
  have HO := am (Kd.R_lower (Kd.R_mono (Kd.R_bound ho) (fun k_ h_ => Or.inr h_.2.1 : ∀ k_, _ → oki k_ ∨ wd.heap.size ≤ k_)) (bz_ HB.out)); obtain ⟨Ao, co, e_⟩ := Kd.R_slice ho; subst e_; have HBF := am hb; have hbo := bk_ BO.out hb; obtain ⟨hx8, hf8⟩ := lent_cell HHH.out C0.out C1.out (grown_of_below hb none) (fun _ e_ => by cases e_); clear ho hb hg hat
  refine hK.out _ _ ⟨(blk_cell hbo 8).trans rfl, hx8⟩ (fun hHeld => ?_)
  clear hK K
  refine nm_ 182 ?_
  refine pk_ 11 183 (bt_ 13 4095) ?_
  refine last_ (i := 12) (N := none) (bt_ 13 8191) rfl rfl (by kernel_rfl) (by decide) (fun K hK => ?_)
  refine skip_ (w1 := ?_) (by rfl) rfl ?_ ?_
  rotate_left
  ·go_simp
   rfl
  refine hK.out _ _ ?_
  clear hK K hHeld hx8 hf8 hbo hx s0 s2 q10 hcut
  refine done_ (by kernel_rfl) ?_
  obtain ⟨⟨T', hT', hM'⟩, hK9⟩ := M.out.put_8 (bz_ HB.out) C0.out C1.out (show (.slice (some ⟨g8, 0, none⟩) n9.length d8_ : Value) = .slice (some ⟨g8, 0, none⟩) s.length d8_ by rw [LN.out]) TS.out HII.out HHH.out (grown_of_below HBF.out none) (fun _ e_ => by cases e_) rfl HO.out
  rw [show s.set (kk : Int).toNat et = s1 by rw [HS1.out, HEL.out, HD.out]] at hM'
  have hlo := M.out.lo g8 (by rw [TS.out]; decide)
  replace HV := am (Kd.R_mono (Kd.R_keptB HV.out hK9 (fun k_ a_ b_ => by rw [a_] at b_; cases b_)) (fun k_ h_ => (hT' k_ h_.2.2).trans h_.1 : ∀ k_, _ → T' k_ = 0))
  have TN_ := am ((hT' gN (blk_lt BN.out)).trans TN.out); replace BN := am (blk_kept BN.out hK9 (fun h_ => by have h2_ := TN.out; rw [h_] at h2_; cases h2_)); clear TN; have TN := TN_; clear TN_
  have T2_ := am ((hT' g2 (blk_lt B2.out)).trans T2.out); replace B2 := am (blk_kept B2.out hK9 (fun h_ => by have h2_ := T2.out; rw [h_] at h2_; cases h2_)); clear T2; have T2 := T2_; clear T2_
  have TO_ := am ((hT' gO (blk_lt BO.out)).trans TO.out); replace BO := am (blk_kept BO.out hK9 (fun h_ => by have h2_ := TO.out; rw [h_] at h2_; cases h2_)); clear TO; have TO := TO_; clear TO_
  have TF_ := am ((hT' gF (blk_lt BF.out)).trans TF.out); replace BF := am (blk_kept BF.out hK9 (fun h_ => by have h2_ := TF.out; rw [h_] at h2_; cases h2_)); clear TF; have TF := TF_; clear TF_
  replace HB := am (below_set (bs_ HB.out HBF.out) hlo : Below w.heap.size w (wf.setCell ⟨g8, (kk : Int).toNat, none⟩ (.slice Ao et.length co))); replace M := am hM'; clear hM' hK9 hT' hlo; generalize wf.setCell ⟨g8, (kk : Int).toNat, none⟩ (.slice Ao et.length co) = wg at *
  obtain ⟨T, hTe⟩ : ∃ T0 : Nat → Nat, T0 = T' := ⟨_, rfl⟩; subst hTe
  clear HQ5 HE HBE HO HBF HHH HII LN TS C0 C1 L3 HD HEL
  go_wp2
  go_roundg k2
  case measure => have := HK1.out; omega
  case rel => exact ⟨T, _, b1, s1, rfl, H', ⟨by have := HK1.out; omega⟩, ⟨M.out.belowV (Below.refl _ _)⟩, TN, T2, TO, ⟨bq_ BN.out⟩, ⟨bq_ B2.out⟩, ⟨bq_ BO.out⟩, ⟨ra_ HV.out⟩, ⟨bb_ HB.out⟩⟩
 rw [if_pos c1] at h; by_cases c2 : 0 ≤ i
 rotate_left
 ·rw [if_neg c2] at h; cases h
 rw [if_pos c2] at h
 obtain ⟨x, hx⟩ : ∃ y_, y_ = rd_T107 q i := ⟨_, rfl⟩; rw [← hx] at h
 obtain ⟨f, e1, g_⟩ := Option.bind_eq_some_iff.1 h; clear h; have h := g_; clear g_; try dsimp only at h
 obtain ⟨b1, e2, g_⟩ := Option.bind_eq_some_iff.1 h; clear h; have h := g_; clear g_; try dsimp only at h
 obtain ⟨⟨b2, a2⟩, e3, g_⟩ := Option.bind_eq_some_iff.1 h; clear h; have h := g_; clear g_; try dsimp only at h
 obtain ⟨o2, e4, g_⟩ := Option.bind_eq_some_iff.1 h; clear h; have h := g_; clear g_; try dsimp only at h
 obtain ⟨t2, e5, g_⟩ := Option.bind_eq_some_iff.1 h; clear h; have h := g_; clear g_; try dsimp only at h
 obtain ⟨s1, hf⟩ := spec_l19Step.hd_some e1; obtain ⟨s2, hb1⟩ := spec_l19Step.tl_some e2
 have H' := am h; have S1 := am s1; have S2 := am s2; have HF := am hf; have HB1 := am hb1; have E3 := am e3; have E4 := am e4; have E5 := am e5; clear h e1 e2 e3 e4 e5 s1 s2 hf hb1
 obtain ⟨ad, ea, x0, x1, x2⟩ := at_T107 (Kd.R_reads' HQ.out).2.2 i c2 c1; subst ea; rw [← hx] at x0 x1 x2; have HXX := am hx; clear hx
 have c1d : decide (i < (q.length : Int)) = true := decide_eq_true c1; replace c1 := eq_true c1; replace c2 := eq_true c2
 go_upto_region 7 with fail
 clear x0 x1 x2
 have hb_ := below_alloc (Below.refl wr.heap.size wr) (Obj.cells #[.int .i64 x.f0, .int .i64 x.f1, .int .i64 x.f2] 107 (0, 0))
 have BX := am (blk_new wr (Obj.cells #[.int .i64 x.f0, .int .i64 x.f1, .int .i64 x.f2] 107 (0, 0))); have TX := am (show T wr.heap.size = 0 from M.out.zhi (Nat.le_refl _)); have GX := am (show w.heap.size ≤ wr.heap.size from bz_ HB.out)
 replace BN := kb_ BN hb_
 replace B2 := kb_ B2 hb_
 replace BO := kb_ BO hb_
 replace HQ := am (Kd.R_below (ra_ HQ.out) hb_)
 replace M := am (M.out.below hb_); replace HB := h9_ HB hb_
 obtain ⟨gX, hg_⟩ : ∃ g_, g_ = wr.heap.size := ⟨_, rfl⟩
 rw [← hg_] at BX TX GX ⊢
 clear hb_ hg_
 generalize wr.alloc (Obj.cells #[.int .i64 x.f0, .int .i64 x.f1, .int .i64 x.f2] 107 (0, 0)) = wb at *
 obtain ⟨x0, x1, x2, -⟩ := cz3_ BX.out
 go_upto_region 9 with fail
 obtain ⟨y0, y1, y2, y3, y4, y5, y6, y7, y8, y9, y10, -⟩ := cz11_ BN.out
 obtain ⟨p9, q9, l9⟩ : 0 ≤ (wrap64 (wrap64 (10 * x.f0) + x.f2)) ∧ (wrap64 (wrap64 (10 * x.f0) + x.f2)) < (l0_5.length : Int) ∧ 0 < (rd_L4 l0_5 (wrap64 (wrap64 (10 * x.f0) + x.f2))).length := S1.out
 obtain ⟨adn, An, cn, en, xn, ln, hn⟩ := at_L4 (cb_ HR5.out HB.out : Kd.C (Kd.slice 72 k72) wb A0_5 l0_5.length l0_5) (wrap64 (wrap64 (10 * x.f0) + x.f2)) p9 q9; cases en
 obtain ⟨adf, ef, f0, f1, f2, f3, f4⟩ := at_T72 hn 0 (by omega) (by omega); cases ef
 (try rw [show ((0 : Int)).toNat = 0 from rfl] at f0); (try rw [show 0 * 5 = 0 from rfl] at f0); (try rw [Addr.add_zero'] at f0); rw [show rd_T72 (rd_L4 l0_5 (wrap64 (wrap64 (10 * x.f0) + x.f2))) 0 = f from HF.out.symm] at f0
 (try rw [show ((0 : Int)).toNat = 0 from rfl] at f1); (try rw [show 0 * 5 = 0 from rfl] at f1); (try rw [Addr.add_zero'] at f1); rw [show rd_T72 (rd_L4 l0_5 (wrap64 (wrap64 (10 * x.f0) + x.f2))) 0 = f from HF.out.symm] at f1
 (try rw [show ((0 : Int)).toNat = 0 from rfl] at f2); (try rw [show 0 * 5 = 0 from rfl] at f2); (try rw [Addr.add_zero'] at f2); rw [show rd_T72 (rd_L4 l0_5 (wrap64 (wrap64 (10 * x.f0) + x.f2))) 0 = f from HF.out.symm] at f2
 (try rw [show ((0 : Int)).toNat = 0 from rfl] at f3); (try rw [show 0 * 5 = 0 from rfl] at f3); (try rw [Addr.add_zero'] at f3); rw [show rd_T72 (rd_L4 l0_5 (wrap64 (wrap64 (10 * x.f0) + x.f2))) 0 = f from HF.out.symm] at f3
 (try rw [show ((0 : Int)).toNat = 0 from rfl] at f4); (try rw [show 0 * 5 = 0 from rfl] at f4); (try rw [Addr.add_zero'] at f4); rw [show rd_T72 (rd_L4 l0_5 (wrap64 (wrap64 (10 * x.f0) + x.f2))) 0 = f from HF.out.symm] at f4
 have l9' : (0 < (rd_L4 l0_5 (wrap64 (wrap64 (10 * x.f0) + x.f2))).length) = True := eq_true l9; replace p9 := eq_true p9; replace q9 := eq_true q9; clear ln hn
 go_upto_region 10 with fail
 clear p9 q9 l9 l9' xn f0 f1 f2 f3 f4 x0 x1 x2 y0 y1 y2 y3 y4 y5 y6 y7 y8 y9 y10
 have hb_ := below_alloc (Below.refl wb.heap.size wb) (Obj.cells #[.int .i64 f.f0, .int .i64 f.f1, .int .i64 f.f2, .bool f.f3, .bool f.f4] 72 (0, 0))
 have BF := am (blk_new wb (Obj.cells #[.int .i64 f.f0, .int .i64 f.f1, .int .i64 f.f2, .bool f.f3, .bool f.f4] 72 (0, 0))); have TF := am (show T wb.heap.size = 0 from M.out.zhi (Nat.le_refl _)); have GF := am (show w.heap.size ≤ wb.heap.size from bz_ HB.out)
 replace BN := kb_ BN hb_
 replace B2 := kb_ B2 hb_
 replace BO := kb_ BO hb_
 replace BX := kb_ BX hb_
 replace HQ := am (Kd.R_below (ra_ HQ.out) hb_)
 replace M := am (M.out.below hb_); replace HB := h9_ HB hb_
 obtain ⟨gF, hg_⟩ : ∃ g_, g_ = wb.heap.size := ⟨_, rfl⟩
 rw [← hg_] at BF TF GF ⊢
 clear hb_ hg_
 generalize wb.alloc (Obj.cells #[.int .i64 f.f0, .int .i64 f.f1, .int .i64 f.f2, .bool f.f3, .bool f.f4] 72 (0, 0)) = wc at *
 obtain ⟨s0, s1, s2, s3⟩ : 0 ≤ (wrap64 (wrap64 (10 * x.f0) + x.f2)) ∧ (wrap64 (wrap64 (10 * x.f0) + x.f2)) < (b.length : Int) ∧ 1 ≤ ((b.getD ((wrap64 (wrap64 (10 * x.f0) + x.f2)) : Int).toNat []).length : Int) ∧ (b.getD ((wrap64 (wrap64 (10 * x.f0) + x.f2)) : Int).toNat []).length < 4294967296 := S2.out
 obtain ⟨g5, zs, oki, Ae, ze, ev, hTs, hls, hx, hf, hR, HI, HH⟩ := M.out.get_5 (i := (wrap64 (wrap64 (10 * x.f0) + x.f2))) s0 s1
 obtain ⟨el, hel⟩ : ∃ y_, b.getD ((wrap64 (wrap64 (10 * x.f0) + x.f2)) : Int).toNat [] = y_ := ⟨_, rfl⟩; rw [hel] at hx hR HH s2 s3
 injection ev with ev1 ln_ ev3
 subst ev1; subst ev3
 obtain ⟨et, hd⟩ : ∃ y_, y_ = el.drop (1 : Int).toNat := ⟨_, rfl⟩; obtain ⟨i0_, hi_, _, hz_, _⟩ := info_parts info72; have hcut := cut_from (P := Try.prog) 42 72 .i64 Try.underlying42 hi_ 5 hz_ Ae el.length ze 1 (by omega) s2; have hr := Kd.Q_drop (k := (1 : Int).toNat) (Kd.Q_of_R hR) (by omega)
 obtain ⟨A5, hA5⟩ : ∃ A1, A1 = (if ze = (1 : Int).toNat then Ae else (Ae : Option Addr).map (·.add ((1 : Int).toNat * 5))) := ⟨_, rfl⟩; obtain ⟨c5, hc5⟩ : ∃ c1, c1 = ze - (1 : Int).toNat := ⟨_, rfl⟩; have hy : et.length = el.length - (1 : Int).toNat := (by rw [hd, List.length_drop]); rw [← hd] at hr; rw [← hy, ← hA5, ← hc5] at hcut; replace hr : Kd.Q k72 72 wc w.heap.size oki (.slice A5 et.length c5) et := (by rw [hA5, hc5, hy]; exact hr)
 have hel2 : el.drop 1 = et := hd.symm; have L3 := am (show et.length < 4294967296 by omega); have HQ5 := am hr; have HD := am hel2; have HEL := am hel; have HHH := am HH; have HII := am HI; have LN := am ln_; have TS := am hTs; have C0 := am s0; have C1 := am s1; clear hy hi_ hz_ hA5 hc5 hr hel2 hd hel HH HI hTs hls hR hf
 have q10 : (wrap64 (wrap64 (10 * x.f0) + x.f2)) < (n6.length : Int) := by rw [LN.out]; exact s1
 replace s0 := eq_true s0; replace s2 := eq_true s2; replace q10 := eq_true q10; clear s1 s3 ln_
 refine start_ (n := 13) (S := fun w' => w'.cell? ⟨gO, 5, none⟩ = some (.slice (some ⟨g5, 0, none⟩) n6.length d5_) ∧ w'.cell? ⟨g5, ((wrap64 (wrap64 (10 * x.f0) + x.f2)) : Int).toNat, none⟩ = some (.slice Ae el.length ze)) (ds := [12]) #[false, false, false, false, false, false, false, false, false, false, false, false, false] (by kernel_rfl) rfl rfl ⟨(blk_cell BO.out 5).trans rfl, hx⟩ (fun hHeld => ?_)
 replace BN := am (bq_ BN.out : wc.drew.heap[gN]? = some _)
 replace B2 := am (bq_ B2.out : wc.drew.heap[g2]? = some _)
 replace BO := am (bq_ BO.out : wc.drew.heap[gO]? = some _)
 replace BX := am (bq_ BX.out : wc.drew.heap[gX]? = some _)
 replace BF := am (bq_ BF.out : wc.drew.heap[gF]? = some _)
 replace HQ := am (Kd.R_drew HQ.out)
 replace M := am (M.out.move (w1 := wc.drew) (fun _ _ => rfl) (Nat.le_refl _)); replace HB := am (bb_ HB.out : Below w.heap.size w wc.drew); replace HQ5 := am (Kd.Q_drew HQ5.out); replace HHH := am (show Kd.H (Kd.slice 72 k72) 42 wc.drew w.heap.size (fun k => T k = 5 ∨ wc.drew.heap.size ≤ k) (.slice (some ⟨g5, 0, none⟩) b.length d5_) b (wrap64 (wrap64 (10 * x.f0) + x.f2)) oki [.slice Ae el.length ze] from Kd.H_drew HHH.out); replace HII := am (show ∀ k, oki k → (T k = 5 ∨ wc.drew.heap.size ≤ k) ∧ k ≠ g5 from HII.out); replace hx : wc.drew.cell? ⟨g5, ((wrap64 (wrap64 (10 * x.f0) + x.f2)) : Int).toNat, none⟩ = some (.slice Ae el.length ze) := hx
 generalize wc.drew = wd at *
 refine pk_ 0 47 (bt_ 13 1) ?_
 refine tk_ (v := .slice (some ⟨g5, 0, none⟩) n6.length d5_) 1 48 (bt_ 13 3) hHeld ?_ (hy := by rintro w' ⟨s4, s5⟩; go_simp)
 refine pk_ 2 49 (bt_ 13 7) ?_
 refine pk_ 4 51 (bt_ 13 23) ?_
 refine tk_ (v := .slice (some ⟨g5, 0, none⟩) n6.length d5_) 5 52 (bt_ 13 55) hHeld ?_ (hy := by rintro w' ⟨s4, s5⟩; go_simp)
 refine pk_ 6 53 (bt_ 13 119) ?_
 refine pk_ 7 54 (bt_ 13 247) ?_
 refine tk_ (v := .slice Ae el.length ze) 8 55 (bt_ 13 503) hHeld ?_ (hy := by rintro w' ⟨s4, s5⟩; go_simp)
 refine pk_ (v := .slice A5 et.length c5) 9 56 (bt_ 13 1015) ?_ (hy := by intro w'; go_simp)
 refine one_ (i := 3) (N := some 50) (bt_ 13 1023) rfl rfl (by kernel_rfl) (by decide) (fun K hK => ?_)
 refine Kd.R_lit_step k72 _ 72 ?hg (N := 50) ?hd (xs := ([] : List S72)) (inner := []) (ok := fun _ => True) (okp := fun _ => True) ?hr ?hp (fun _ hk => hk) trivial (Below.refl _ _) (Nat.le_refl _) (by simp) ?_; (case hd => rfl); (case hg => rfl); (case hr => first | (go_simp; done) | (go_simp; rfl)); (case hp => exact (Reps.none _ _))
 intro v_ we ho hb _ _
 have HE := am ho; have HBE := am hb; have hxe := (hb.cell (World.block_lt_of_cell? wd _ hx)).trans hx; have hbo := bk_ BO.out hb; clear ho hb
 refine hK.out _ _ ⟨(blk_cell hbo 5).trans rfl, hxe⟩ (fun hHeld => ?_)
 clear hK K
 refine nm_ 50 ?_
 clear hxe hbo
 refine one_ (i := 10) (N := some 57) (bt_ 13 2047) rfl rfl (by kernel_rfl) (by decide) (fun K hK => ?_)
 refine Kd.R_append_rows_step k72 (w0 := wd) wd.heap.size (by rfl) (.tmp 50) (.tmp 56) 42 72 (.agg #[.int .i64 0, .int .i64 0, .int .i64 0, .bool false, .bool false]) 32 rfl Try.underlying42 info72 rfl (by decide) (by omega) v_ [] et _ _ _ (fun _ => True) (fun _ => False) rfl rfl ?aO ?aR (fun _ _ h => h) (fun _ h => h.elim) ?aF ?aB ?aS ?aL ?_
 (case aR => exact (Kd.Q_reads' (Kd.Q_below HQ5.out HBE.out)).2.2)
 (case aB => exact HBE.out)
 (case aF => exact fun _ _ => trivial)
 (case aO => exact HE.out)
 (case aS => exact HBE.out.size)
 (case aL => have := L3.out; simp only [List.length_nil]; omega)
 intro v2_ wf ho hb hg hat
 rw [List.nil_append] at ho
 have HO := am (Kd.R_lower (Kd.R_mono (Kd.R_bound ho) (fun k_ h_ => Or.inr h_.2.1 : ∀ k_, _ → oki k_ ∨ wd.heap.size ≤ k_)) (bz_ HB.out)); obtain ⟨Ao, co, e_⟩ := Kd.R_slice ho; subst e_; have HBF := am hb; have hbo := bk_ BO.out hb; obtain ⟨hx8, hf8⟩ := lent_cell HHH.out C0.out C1.out (grown_of_below hb none) (fun _ e_ => by cases e_); clear ho hb hg hat
 refine hK.out _ _ ⟨(blk_cell hbo 5).trans rfl, hx8⟩ (fun hHeld => ?_)
 clear hK K
 refine nm_ 57 ?_
 refine pk_ 11 58 (bt_ 13 4095) ?_
 refine last_ (i := 12) (N := none) (bt_ 13 8191) rfl rfl (by kernel_rfl) (by decide) (fun K hK => ?_)
 refine skip_ (w1 := ?_) (by rfl) rfl ?_ ?_
 rotate_left
 ·go_simp
  rfl
 refine hK.out _ _ ?_
 clear hK K hHeld hx8 hf8 hbo hx s0 s2 q10 hcut
 refine done_ (by kernel_rfl) ?_
 obtain ⟨⟨T', hT', hM'⟩, hK9⟩ := M.out.put_5 (bz_ HB.out) C0.out C1.out (show (.slice (some ⟨g5, 0, none⟩) n6.length d5_ : Value) = .slice (some ⟨g5, 0, none⟩) b.length d5_ by rw [LN.out]) TS.out HII.out HHH.out (grown_of_below HBF.out none) (fun _ e_ => by cases e_) rfl HO.out
 rw [show b.set ((wrap64 (wrap64 (10 * x.f0) + x.f2)) : Int).toNat et = b1 by rw [HB1.out, HEL.out, HD.out]] at hM'
 have hlo := M.out.lo g5 (by rw [TS.out]; decide)
 replace HQ := am (Kd.R_mono (Kd.R_keptB HQ.out hK9 (fun k_ a_ b_ => by rw [a_] at b_; cases b_)) (fun k_ h_ => (hT' k_ h_.2.2).trans h_.1 : ∀ k_, _ → T' k_ = 0))
 have TN_ := am ((hT' gN (blk_lt BN.out)).trans TN.out); replace BN := am (blk_kept BN.out hK9 (fun h_ => by have h2_ := TN.out; rw [h_] at h2_; cases h2_)); clear TN; have TN := TN_; clear TN_
 have T2_ := am ((hT' g2 (blk_lt B2.out)).trans T2.out); replace B2 := am (blk_kept B2.out hK9 (fun h_ => by have h2_ := T2.out; rw [h_] at h2_; cases h2_)); clear T2; have T2 := T2_; clear T2_
 have TO_ := am ((hT' gO (blk_lt BO.out)).trans TO.out); replace BO := am (blk_kept BO.out hK9 (fun h_ => by have h2_ := TO.out; rw [h_] at h2_; cases h2_)); clear TO; have TO := TO_; clear TO_
 have TX_ := am ((hT' gX (blk_lt BX.out)).trans TX.out); replace BX := am (blk_kept BX.out hK9 (fun h_ => by have h2_ := TX.out; rw [h_] at h2_; cases h2_)); clear TX; have TX := TX_; clear TX_
 have TF_ := am ((hT' gF (blk_lt BF.out)).trans TF.out); replace BF := am (blk_kept BF.out hK9 (fun h_ => by have h2_ := TF.out; rw [h_] at h2_; cases h2_)); clear TF; have TF := TF_; clear TF_
 replace HB := am (below_set (bs_ HB.out HBF.out) hlo : Below w.heap.size w (wf.setCell ⟨g5, ((wrap64 (wrap64 (10 * x.f0) + x.f2)) : Int).toNat, none⟩ (.slice Ao et.length co))); replace M := am hM'; clear hM' hK9 hT' hlo; generalize wf.setCell ⟨g5, ((wrap64 (wrap64 (10 * x.f0) + x.f2)) : Int).toNat, none⟩ (.slice Ao et.length co) = wg at *
 obtain ⟨T, hTe⟩ : ∃ T0 : Nat → Nat, T0 = T' := ⟨_, rfl⟩; subst hTe
 clear HQ5 HE HBE HO HBF HHH HII LN TS C0 C1 L3 HD HEL
 obtain ⟨x0, x1, x2, -⟩ := cz3_ BX.out
 go_upto_if 61 with fail
 clear x0 x1 x2
 by_cases c3 : x.f1 = 4
 ·have e3 := E3.out; unfold spec_l19Step.go at e3; rw [if_pos c3] at e3; have c3b : (x.f1 == 4) = true := beq_iff_eq.mpr c3; clear c3 E3
  obtain ⟨a3, e6, e7⟩ := Option.bind_eq_some_iff.1 e3; simp only [Option.some.injEq, Prod.mk.injEq] at e7; obtain ⟨rfl, rfl⟩ := e7; obtain ⟨s3_, ha3⟩ := spec_l19Step.push_some e6; have S3 := am s3_; have HA3 := am ha3; clear e3 e6 s3_ ha3
  go_upto_region 12 with fail
  obtain ⟨s0, s1, s3⟩ : 0 ≤ x.f0 ∧ x.f0 < (a.length : Int) ∧ (a.getD (x.f0 : Int).toNat []).length < 4294967296 := S3.out
  obtain ⟨g9, zs, oki, Ae, ze, ev, hTs, hls, hx, hf, hR, HI, HH⟩ := M.out.get_9 (i := x.f0) s0 s1
  obtain ⟨el, hel⟩ : ∃ y_, a.getD (x.f0 : Int).toNat [] = y_ := ⟨_, rfl⟩; rw [hel] at hx hR HH s3
  injection ev with ev1 ln_ ev3
  subst ev1; subst ev3
  have L3 := am s3; have HEL := am hel; have HHH := am HH; have HII := am HI; have HRR := am hR; have LN := am ln_; have TS := am hTs; have C0 := am s0; have C1 := am s1; clear hel HH HI hTs hls hR hf
  have q10 : x.f0 < (n10.length : Int) := by rw [LN.out]; exact s1
  replace s0 := eq_true s0; replace q10 := eq_true q10; clear s1 s3 ln_
  refine start_ (n := 15) (S := fun w' => w'.cell? ⟨gO, 9, none⟩ = some (.slice (some ⟨g9, 0, none⟩) n10.length d9_) ∧ w'.cell? ⟨g9, (x.f0 : Int).toNat, none⟩ = some (.slice Ae el.length ze) ∧ w'.cell? ⟨gX, 0, none⟩ = some (.int .i64 x.f0) ∧ w'.cell? ⟨gF, 0, none⟩ = some (.int .i64 f.f0) ∧ w'.cell? ⟨gF, 1, none⟩ = some (.int .i64 f.f1) ∧ w'.cell? ⟨gF, 2, none⟩ = some (.int .i64 f.f2) ∧ w'.cell? ⟨gF, 3, none⟩ = some (.bool f.f3) ∧ w'.cell? ⟨gF, 4, none⟩ = some (.bool f.f4)) (ds := [14]) #[false, false, false, false, false, false, false, false, false, false, false, false, false, false, false] (by kernel_rfl) rfl rfl ⟨(blk_cell BO.out 9).trans rfl, hx, (blk_cell BX.out 0).trans rfl, (blk_cell BF.out 0).trans rfl, (blk_cell BF.out 1).trans rfl, (blk_cell BF.out 2).trans rfl, (blk_cell BF.out 3).trans rfl, (blk_cell BF.out 4).trans rfl⟩ (fun hHeld => ?_)
  replace BN := am (bq_ BN.out : wg.drew.heap[gN]? = some _)
  replace B2 := am (bq_ B2.out : wg.drew.heap[g2]? = some _)
  replace BO := am (bq_ BO.out : wg.drew.heap[gO]? = some _)
  replace BX := am (bq_ BX.out : wg.drew.heap[gX]? = some _)
  replace BF := am (bq_ BF.out : wg.drew.heap[gF]? = some _)
  replace HQ := am (Kd.R_drew HQ.out)
  replace M := am (M.out.move (w1 := wg.drew) (fun _ _ => rfl) (Nat.le_refl _)); replace HB := am (bb_ HB.out : Below w.heap.size w wg.drew); replace HRR := am (Kd.R_drew HRR.out); replace HHH := am (show Kd.H (Kd.slice 72 k72) 42 wg.drew w.heap.size (fun k => T k = 9 ∨ wg.drew.heap.size ≤ k) (.slice (some ⟨g9, 0, none⟩) a.length d9_) a x.f0 oki [.slice Ae el.length ze] from Kd.H_drew HHH.out); replace HII := am (show ∀ k, oki k → (T k = 9 ∨ wg.drew.heap.size ≤ k) ∧ k ≠ g9 from HII.out)
  clear hx; generalize wg.drew = wd at *
  refine pk_ 0 62 (bt_ 15 1) ?_
  refine tk_ (v := .slice (some ⟨g9, 0, none⟩) n10.length d9_) 1 63 (bt_ 15 3) hHeld ?_ (hy := by rintro w' ⟨s4, s5, s6, s7, s8, s9, s10, s11⟩; go_simp)
  refine pk_ 2 64 (bt_ 15 7) ?_
  refine tk_ (v := .int .i64 x.f0) 3 65 (bt_ 15 15) hHeld ?_ (hy := by rintro w' ⟨s4, s5, s6, s7, s8, s9, s10, s11⟩; go_simp)
  refine pk_ 4 66 (bt_ 15 31) ?_
  refine tk_ (v := .slice (some ⟨g9, 0, none⟩) n10.length d9_) 5 67 (bt_ 15 63) hHeld ?_ (hy := by rintro w' ⟨s4, s5, s6, s7, s8, s9, s10, s11⟩; go_simp)
  refine pk_ 6 68 (bt_ 15 127) ?_
  refine tk_ (v := .int .i64 x.f0) 7 69 (bt_ 15 255) hHeld ?_ (hy := by rintro w' ⟨s4, s5, s6, s7, s8, s9, s10, s11⟩; go_simp)
  refine pk_ 8 70 (bt_ 15 511) ?_
  refine tk_ (v := .slice Ae el.length ze) 9 71 (bt_ 15 1023) hHeld ?_ (hy := by rintro w' ⟨s4, s5, s6, s7, s8, s9, s10, s11⟩; go_simp)
  refine tk_ (v := .agg #[.int .i64 f.f0, .int .i64 f.f1, .int .i64 f.f2, .bool f.f3, .bool f.f4]) 10 72 (bt_ 15 2047) hHeld ?_ (hy := by rintro w' ⟨s4, s5, s6, s7, s8, s9, s10, s11⟩; go_simp)
  refine one_ (i := 11) (N := some 73) (bt_ 15 4095) rfl rfl (by kernel_rfl) (by decide) (fun K hK => ?_)
  refine value_ (w1 := ?_) (v := ?_) (by rfl) rfl ?_ ?_
  rotate_left 2
  ·go_simp
   constructor
   ·rfl
   ·rfl
  refine hK.out _ _ ⟨(blk_cell (blk_alloc BO.out _) 9).trans rfl, (World.cell?_alloc_lt _ _ _ (World.block_lt_of_cell? _ _ hHeld.2.1)).trans hHeld.2.1, (blk_cell (blk_alloc BX.out _) 0).trans rfl, (blk_cell (blk_alloc BF.out _) 0).trans rfl, (blk_cell (blk_alloc BF.out _) 1).trans rfl, (blk_cell (blk_alloc BF.out _) 2).trans rfl, (blk_cell (blk_alloc BF.out _) 3).trans rfl, (blk_cell (blk_alloc BF.out _) 4).trans rfl⟩ (fun hHeld => ?_)
  clear hK K
  refine nm_ 73 ?_
  refine one_ (i := 12) (N := some 74) (bt_ 15 8191) rfl rfl (by kernel_rfl) (by decide) (fun K hK => ?_)
  refine Kd.R_append_step k72 (w0 := w) w.heap.size (by rfl) (.tmp 71) (.tmp 73) 42 72 (.agg #[.int .i64 0, .int .i64 0, .int .i64 0, .bool false, .bool false]) 32 rfl Try.underlying42 info72 rfl (by decide) (by omega) (.slice Ae el.length ze) el f [.int .i64 f.f0, .int .i64 f.f1, .int .i64 f.f2, .bool f.f3, .bool f.f4] (fun k_ => oki k_ ∨ wd.heap.size ≤ k_) (fun _ => False) rfl rfl ?aP (fun _ hk => hk.elim) ?aF ?aO ?aB ?aS ?aL ?_
  (case aP => exact k72_mkM _ _ _ f)
  (case aF => exact fun k_ h_ => Or.inr h_)
  (case aO => exact Kd.R_mono (ra_ HRR.out) (fun k_ h_ => Or.inl h_))
  (case aB => exact bb_ HB.out)
  (case aS => exact (bz_ HB.out))
  (case aL => have := L3.out; omega)
  intro v_ wf ho hb hg hat
  have HGG := am hg; have HBF := am hb; have hrow : ∀ k_, (.slice Ae el.length ze : Value).ownBlock = some k_ → oki k_ := fun k_ e_ => HRR.out.1 k_ e_; obtain ⟨hx8, hf8⟩ := lent_cell HHH.out C0.out C1.out HGG.out hrow
  have bN_ := blk_grown (bq_ BN.out) hg (spec_l19Step.ob_ (e' := 0) HII.out HRR.out TN.out BN.out (by decide))
  have b2_ := blk_grown (bq_ B2.out) hg (spec_l19Step.ob_ (e' := 0) HII.out HRR.out T2.out B2.out (by decide))
  have bO_ := blk_grown (bq_ BO.out) hg (spec_l19Step.ob_ (e' := 0) HII.out HRR.out TO.out BO.out (by decide))
  have bX_ := blk_grown (bq_ BX.out) hg (spec_l19Step.ob_ (e' := 0) HII.out HRR.out TX.out BX.out (by decide))
  have bF_ := blk_grown (bq_ BF.out) hg (spec_l19Step.ob_ (e' := 0) HII.out HRR.out TF.out BF.out (by decide))
  have HO := am ho; obtain ⟨Ao, co, e_⟩ := Kd.R_slice ho; subst e_; clear ho hb hg hat
  refine hK.out _ _ ⟨(blk_cell bO_ 9).trans rfl, hx8, (blk_cell bX_ 0).trans rfl, (blk_cell bF_ 0).trans rfl, (blk_cell bF_ 1).trans rfl, (blk_cell bF_ 2).trans rfl, (blk_cell bF_ 3).trans rfl, (blk_cell bF_ 4).trans rfl⟩ (fun hHeld => ?_)
  clear hK K
  refine nm_ 74 ?_
  clear bN_ b2_ bO_ bX_ bF_
  refine pk_ 13 75 (bt_ 15 16383) ?_
  refine last_ (i := 14) (N := none) (bt_ 15 32767) rfl rfl (by kernel_rfl) (by decide) (fun K hK => ?_)
  refine skip_ (w1 := ?_) (by rfl) rfl ?_ ?_
  rotate_left
  ·go_simp
   rfl
  refine hK.out _ _ ?_
  clear hK K hHeld hx8 hf8 s0 q10
  refine done_ (by kernel_rfl) ?_
  have HAP := am (show el ++ [f] = el ++ [f] from rfl)
  obtain ⟨⟨T', hT', hM'⟩, hK9⟩ := M.out.put_9 (bz_ HB.out) C0.out C1.out (show (.slice (some ⟨g9, 0, none⟩) n10.length d9_ : Value) = .slice (some ⟨g9, 0, none⟩) a.length d9_ by rw [LN.out]) TS.out HII.out HHH.out HGG.out hrow rfl HO.out
  rw [show a.set (x.f0 : Int).toNat (el ++ [f]) = a3 by rw [HA3.out, HEL.out], List.length_append] at hM'; rw [List.length_append] at hK9; simp only [List.length_cons, List.length_nil, Nat.zero_add] at hM' hK9
  have hlo := M.out.lo g9 (by rw [TS.out]; decide)
  replace HQ := am (Kd.R_mono (Kd.R_keptB HQ.out hK9 (fun k_ a_ b_ => by rw [a_] at b_; cases b_)) (fun k_ h_ => (hT' k_ h_.2.2).trans h_.1 : ∀ k_, _ → T' k_ = 0))
  have TN_ := am ((hT' gN (blk_lt BN.out)).trans TN.out); replace BN := am (blk_kept BN.out hK9 (fun h_ => by have h2_ := TN.out; rw [h_] at h2_; cases h2_)); clear TN; have TN := TN_; clear TN_
  have T2_ := am ((hT' g2 (blk_lt B2.out)).trans T2.out); replace B2 := am (blk_kept B2.out hK9 (fun h_ => by have h2_ := T2.out; rw [h_] at h2_; cases h2_)); clear T2; have T2 := T2_; clear T2_
  have TO_ := am ((hT' gO (blk_lt BO.out)).trans TO.out); replace BO := am (blk_kept BO.out hK9 (fun h_ => by have h2_ := TO.out; rw [h_] at h2_; cases h2_)); clear TO; have TO := TO_; clear TO_
  have TX_ := am ((hT' gX (blk_lt BX.out)).trans TX.out); replace BX := am (blk_kept BX.out hK9 (fun h_ => by have h2_ := TX.out; rw [h_] at h2_; cases h2_)); clear TX; have TX := TX_; clear TX_
  have TF_ := am ((hT' gF (blk_lt BF.out)).trans TF.out); replace BF := am (blk_kept BF.out hK9 (fun h_ => by have h2_ := TF.out; rw [h_] at h2_; cases h2_)); clear TF; have TF := TF_; clear TF_
  replace HB := am (below_set HBF.out hlo : Below w.heap.size w (wf.setCell ⟨g9, (x.f0 : Int).toNat, none⟩ (.slice Ao (el.length + 1) co))); replace M := am hM'; clear hM' hK9 hT' hlo; generalize wf.setCell ⟨g9, (x.f0 : Int).toNat, none⟩ (.slice Ao (el.length + 1) co) = wh at *
  clear HGG HBF HO HHH HII HRR LN TS C0 C1 L3 HEL HAP hrow
  obtain ⟨T, hTe⟩ : ∃ T0 : Nat → Nat, T0 = T' := ⟨_, rfl⟩; subst hTe
  obtain ⟨s4_, ho2⟩ := spec_l19Step.own_some E4.out; obtain ⟨s5_, ht2⟩ := spec_l19Step.trn_some E5.out; have S4 := am s4_; have S5 := am s5_; have HO2 := am ho2; have HT2 := am ht2; clear s4_ s5_ ho2 ht2
  cases hf4 : f.f4
  ·have BF4 := am BF.out; rw [hf4] at BF4; have ho2 := HO2.out; rw [hf4, if_neg (by decide)] at ho2
   replace HO2 := am ho2; clear ho2 HF HB1
   obtain ⟨s0, s1⟩ : 0 ≤ (wrap64 (wrap64 (wrap64 (10 * x.f0) + wrap64 (2 * x.f1)) + Int.tmod x.f2 2)) ∧ (wrap64 (wrap64 (wrap64 (10 * x.f0) + wrap64 (2 * x.f1)) + Int.tmod x.f2 2)) < (o.length : Int) := S4.out
   obtain ⟨gi, zi, ev, _, _, _, _⟩ := Kd.R_form M.out.h6 (by omega)
   injection ev with ev1 ln_ ev3; subst ev1; subst ev3
   have TS := am (show T gi = 6 from M.out.h6.1 gi rfl); have LN := am ln_; have s2 : (wrap64 (wrap64 (wrap64 (10 * x.f0) + wrap64 (2 * x.f1)) + Int.tmod x.f2 2)) < (n7.length : Int) := by rw [ln_]; exact s1
   obtain ⟨hx, hf⟩ := Kd.R_celln 0 M.out.h6 (wrap64 (wrap64 (wrap64 (10 * x.f0) + wrap64 (2 * x.f1)) + Int.tmod x.f2 2)) s0 s2; have hp := am (Kd.R_putn M.out.h6 (wrap64 (wrap64 (wrap64 (10 * x.f0) + wrap64 (2 * x.f1)) + Int.tmod x.f2 2)) (wrap64 (Int.tdiv x.f2 2))); replace s0 := eq_true s0; replace s2 := eq_true s2; clear s1 ln_
   obtain ⟨x0, x1, x2, -⟩ := cz3_ BX.out; obtain ⟨k0, k1_, k2, k3, k4, -⟩ := cz5_ BF4.out; obtain ⟨y0, y1, y2, y3, y4, y5, y6, y7, y8, y9, y10, -⟩ := cz11_ BO.out
   go_upto_region 19 with fail
   clear hx hf s0 s2
   have hK9 : Kept wh (wh.setCell ⟨gi, (wrap64 (wrap64 (wrap64 (10 * x.f0) + wrap64 (2 * x.f1)) + Int.tmod x.f2 2)).toNat, none⟩ (.int .i64 (wrap64 (Int.tdiv x.f2 2)))) (fun k => T k = 6) := Kept.setCell (Kept.refl wh _) (Or.inl TS.out) _; have hlo := M.out.lo gi (by rw [TS.out]; decide)
   have z := hp.out; rw [← HO2.out] at z; replace M := am (Marks.set6 (ok' := fun k => T k = 6) (ok'' := fun _ => True) (r6 := o2) M.out hK9 z); clear z
   replace HQ := am (Kd.R_kept (ra_ HQ.out) hK9 (fun k_ a_ b_ => by rw [a_] at b_; cases b_))
   replace BN := am (blk_kept BN.out hK9 (fun h_ => by have h2_ := TN.out; rw [h_] at h2_; cases h2_))
   replace B2 := am (blk_kept B2.out hK9 (fun h_ => by have h2_ := T2.out; rw [h_] at h2_; cases h2_))
   replace BO := am (blk_kept BO.out hK9 (fun h_ => by have h2_ := TO.out; rw [h_] at h2_; cases h2_))
   replace BX := am (blk_kept BX.out hK9 (fun h_ => by have h2_ := TX.out; rw [h_] at h2_; cases h2_))
   replace BF := am (blk_kept BF.out hK9 (fun h_ => by have h2_ := TF.out; rw [h_] at h2_; cases h2_))
   replace HB := am (below_set HB.out hlo : Below w.heap.size w (wh.setCell ⟨gi, (wrap64 (wrap64 (wrap64 (10 * x.f0) + wrap64 (2 * x.f1)) + Int.tmod x.f2 2)).toNat, none⟩ (.int .i64 (wrap64 (Int.tdiv x.f2 2))))); generalize wh.setCell ⟨gi, (wrap64 (wrap64 (wrap64 (10 * x.f0) + wrap64 (2 * x.f1)) + Int.tmod x.f2 2)).toNat, none⟩ (.int .i64 (wrap64 (Int.tdiv x.f2 2))) = wi at *; clear hK9 hlo hp TS LN
   clear x0 x1 x2 k0 k1_ k2 k3 k4 BF4 y0 y1 y2 y3 y4 y5 y6 y7 y8 y9 y10
   obtain ⟨s0, s1⟩ : 0 ≤ (wrap64 (wrap64 (5 * x.f0) + x.f1)) ∧ (wrap64 (wrap64 (5 * x.f0) + x.f1)) < (t.length : Int) := S5.out
   obtain ⟨gi, zi, ev, _, _, _, _⟩ := Kd.R_form M.out.h7 (by omega)
   injection ev with ev1 ln_ ev3; subst ev1; subst ev3
   have TS := am (show T gi = 7 from M.out.h7.1 gi rfl); have LN := am ln_; have s2 : (wrap64 (wrap64 (5 * x.f0) + x.f1)) < (n8.length : Int) := by rw [ln_]; exact s1
   obtain ⟨hx, hf⟩ := Kd.R_celln 0 M.out.h7 (wrap64 (wrap64 (5 * x.f0) + x.f1)) s0 s2; have hp := am (Kd.R_putn M.out.h7 (wrap64 (wrap64 (5 * x.f0) + x.f1)) (Int.tmod (wrap64 (x.f2 + 1)) 10)); replace s0 := eq_true s0; replace s2 := eq_true s2; clear s1 ln_
   obtain ⟨x0, x1, x2, -⟩ := cz3_ BX.out; obtain ⟨y0, y1, y2, y3, y4, y5, y6, y7, y8, y9, y10, -⟩ := cz11_ BO.out
   go_wp2
   clear hx hf s0 s2
   have hK9 : Kept wi (wi.setCell ⟨gi, (wrap64 (wrap64 (5 * x.f0) + x.f1)).toNat, none⟩ (.int .i64 (Int.tmod (wrap64 (x.f2 + 1)) 10))) (fun k => T k = 7) := Kept.setCell (Kept.refl wi _) (Or.inl TS.out) _; have hlo := M.out.lo gi (by rw [TS.out]; decide)
   have z := hp.out; rw [← HT2.out] at z; replace M := am (Marks.set7 (ok' := fun k => T k = 7) (ok'' := fun _ => True) (r7 := t2) M.out hK9 z); clear z
   replace HQ := am (Kd.R_kept (ra_ HQ.out) hK9 (fun k_ a_ b_ => by rw [a_] at b_; cases b_))
   replace BN := am (blk_kept BN.out hK9 (fun h_ => by have h2_ := TN.out; rw [h_] at h2_; cases h2_))
   replace B2 := am (blk_kept B2.out hK9 (fun h_ => by have h2_ := T2.out; rw [h_] at h2_; cases h2_))
   replace BO := am (blk_kept BO.out hK9 (fun h_ => by have h2_ := TO.out; rw [h_] at h2_; cases h2_))
   replace BX := am (blk_kept BX.out hK9 (fun h_ => by have h2_ := TX.out; rw [h_] at h2_; cases h2_))
   replace BF := am (blk_kept BF.out hK9 (fun h_ => by have h2_ := TF.out; rw [h_] at h2_; cases h2_))
   replace HB := am (below_set HB.out hlo : Below w.heap.size w (wi.setCell ⟨gi, (wrap64 (wrap64 (5 * x.f0) + x.f1)).toNat, none⟩ (.int .i64 (Int.tmod (wrap64 (x.f2 + 1)) 10)))); generalize wi.setCell ⟨gi, (wrap64 (wrap64 (5 * x.f0) + x.f1)).toNat, none⟩ (.int .i64 (Int.tmod (wrap64 (x.f2 + 1)) 10)) = wj at *; clear hK9 hlo hp TS LN
   go_roundg k1
   case measure => have := HK1.out; omega
   case rel => exact ⟨T, _, b1, o2, t2, a3, rfl, H', ⟨by have := HK1.out; omega⟩, M, TN, T2, TO, BN, B2, BO, HQ, HB⟩
  ·have BF4 := am BF.out; rw [hf4] at BF4; have ho2 := HO2.out; rw [hf4, if_pos rfl] at ho2
   replace HO2 := am ho2; clear ho2 HF HB1
   obtain ⟨s0, s1⟩ : 0 ≤ (wrap64 (wrap64 (wrap64 (10 * x.f0) + wrap64 (2 * x.f1)) + Int.tmod x.f2 2)) ∧ (wrap64 (wrap64 (wrap64 (10 * x.f0) + wrap64 (2 * x.f1)) + Int.tmod x.f2 2)) < (o.length : Int) := S4.out
   obtain ⟨gi, zi, ev, _, _, _, _⟩ := Kd.R_form M.out.h6 (by omega)
   injection ev with ev1 ln_ ev3; subst ev1; subst ev3
   have TS := am (show T gi = 6 from M.out.h6.1 gi rfl); have LN := am ln_; have s2 : (wrap64 (wrap64 (wrap64 (10 * x.f0) + wrap64 (2 * x.f1)) + Int.tmod x.f2 2)) < (n7.length : Int) := by rw [ln_]; exact s1
   obtain ⟨hx, hf⟩ := Kd.R_celln 0 M.out.h6 (wrap64 (wrap64 (wrap64 (10 * x.f0) + wrap64 (2 * x.f1)) + Int.tmod x.f2 2)) s0 s2; have hp := am (Kd.R_putn M.out.h6 (wrap64 (wrap64 (wrap64 (10 * x.f0) + wrap64 (2 * x.f1)) + Int.tmod x.f2 2)) (-1)); replace s0 := eq_true s0; replace s2 := eq_true s2; clear s1 ln_
   obtain ⟨x0, x1, x2, -⟩ := cz3_ BX.out; obtain ⟨k0, k1_, k2, k3, k4, -⟩ := cz5_ BF4.out; obtain ⟨y0, y1, y2, y3, y4, y5, y6, y7, y8, y9, y10, -⟩ := cz11_ BO.out
   go_upto_region 19 with fail
   clear hx hf s0 s2
   have hK9 : Kept wh (wh.setCell ⟨gi, (wrap64 (wrap64 (wrap64 (10 * x.f0) + wrap64 (2 * x.f1)) + Int.tmod x.f2 2)).toNat, none⟩ (.int .i64 (-1))) (fun k => T k = 6) := Kept.setCell (Kept.refl wh _) (Or.inl TS.out) _; have hlo := M.out.lo gi (by rw [TS.out]; decide)
   have z := hp.out; rw [← HO2.out] at z; replace M := am (Marks.set6 (ok' := fun k => T k = 6) (ok'' := fun _ => True) (r6 := o2) M.out hK9 z); clear z
   replace HQ := am (Kd.R_kept (ra_ HQ.out) hK9 (fun k_ a_ b_ => by rw [a_] at b_; cases b_))
   replace BN := am (blk_kept BN.out hK9 (fun h_ => by have h2_ := TN.out; rw [h_] at h2_; cases h2_))
   replace B2 := am (blk_kept B2.out hK9 (fun h_ => by have h2_ := T2.out; rw [h_] at h2_; cases h2_))
   replace BO := am (blk_kept BO.out hK9 (fun h_ => by have h2_ := TO.out; rw [h_] at h2_; cases h2_))
   replace BX := am (blk_kept BX.out hK9 (fun h_ => by have h2_ := TX.out; rw [h_] at h2_; cases h2_))
   replace BF := am (blk_kept BF.out hK9 (fun h_ => by have h2_ := TF.out; rw [h_] at h2_; cases h2_))
   replace HB := am (below_set HB.out hlo : Below w.heap.size w (wh.setCell ⟨gi, (wrap64 (wrap64 (wrap64 (10 * x.f0) + wrap64 (2 * x.f1)) + Int.tmod x.f2 2)).toNat, none⟩ (.int .i64 (-1)))); generalize wh.setCell ⟨gi, (wrap64 (wrap64 (wrap64 (10 * x.f0) + wrap64 (2 * x.f1)) + Int.tmod x.f2 2)).toNat, none⟩ (.int .i64 (-1)) = wi at *; clear hK9 hlo hp TS LN
   clear x0 x1 x2 k0 k1_ k2 k3 k4 BF4 y0 y1 y2 y3 y4 y5 y6 y7 y8 y9 y10
   obtain ⟨s0, s1⟩ : 0 ≤ (wrap64 (wrap64 (5 * x.f0) + x.f1)) ∧ (wrap64 (wrap64 (5 * x.f0) + x.f1)) < (t.length : Int) := S5.out
   obtain ⟨gi, zi, ev, _, _, _, _⟩ := Kd.R_form M.out.h7 (by omega)
   injection ev with ev1 ln_ ev3; subst ev1; subst ev3
   have TS := am (show T gi = 7 from M.out.h7.1 gi rfl); have LN := am ln_; have s2 : (wrap64 (wrap64 (5 * x.f0) + x.f1)) < (n8.length : Int) := by rw [ln_]; exact s1
   obtain ⟨hx, hf⟩ := Kd.R_celln 0 M.out.h7 (wrap64 (wrap64 (5 * x.f0) + x.f1)) s0 s2; have hp := am (Kd.R_putn M.out.h7 (wrap64 (wrap64 (5 * x.f0) + x.f1)) (Int.tmod (wrap64 (x.f2 + 1)) 10)); replace s0 := eq_true s0; replace s2 := eq_true s2; clear s1 ln_
   obtain ⟨x0, x1, x2, -⟩ := cz3_ BX.out; obtain ⟨y0, y1, y2, y3, y4, y5, y6, y7, y8, y9, y10, -⟩ := cz11_ BO.out
   go_wp2
   clear hx hf s0 s2
   have hK9 : Kept wi (wi.setCell ⟨gi, (wrap64 (wrap64 (5 * x.f0) + x.f1)).toNat, none⟩ (.int .i64 (Int.tmod (wrap64 (x.f2 + 1)) 10))) (fun k => T k = 7) := Kept.setCell (Kept.refl wi _) (Or.inl TS.out) _; have hlo := M.out.lo gi (by rw [TS.out]; decide)
   have z := hp.out; rw [← HT2.out] at z; replace M := am (Marks.set7 (ok' := fun k => T k = 7) (ok'' := fun _ => True) (r7 := t2) M.out hK9 z); clear z
   replace HQ := am (Kd.R_kept (ra_ HQ.out) hK9 (fun k_ a_ b_ => by rw [a_] at b_; cases b_))
   replace BN := am (blk_kept BN.out hK9 (fun h_ => by have h2_ := TN.out; rw [h_] at h2_; cases h2_))
   replace B2 := am (blk_kept B2.out hK9 (fun h_ => by have h2_ := T2.out; rw [h_] at h2_; cases h2_))
   replace BO := am (blk_kept BO.out hK9 (fun h_ => by have h2_ := TO.out; rw [h_] at h2_; cases h2_))
   replace BX := am (blk_kept BX.out hK9 (fun h_ => by have h2_ := TX.out; rw [h_] at h2_; cases h2_))
   replace BF := am (blk_kept BF.out hK9 (fun h_ => by have h2_ := TF.out; rw [h_] at h2_; cases h2_))
   replace HB := am (below_set HB.out hlo : Below w.heap.size w (wi.setCell ⟨gi, (wrap64 (wrap64 (5 * x.f0) + x.f1)).toNat, none⟩ (.int .i64 (Int.tmod (wrap64 (x.f2 + 1)) 10)))); generalize wi.setCell ⟨gi, (wrap64 (wrap64 (5 * x.f0) + x.f1)).toNat, none⟩ (.int .i64 (Int.tmod (wrap64 (x.f2 + 1)) 10)) = wj at *; clear hK9 hlo hp TS LN
   go_roundg k1
   case measure => have := HK1.out; omega
   case rel => exact ⟨T, _, b1, o2, t2, a3, rfl, H', ⟨by have := HK1.out; omega⟩, M, TN, T2, TO, BN, B2, BO, HQ, HB⟩
 have e3 := E3.out; unfold spec_l19Step.go at e3; rw [if_neg c3] at e3; have c3b : (x.f1 == 4) = false := beq_eq_false_iff_ne.mpr c3; clear c3 E3
 obtain ⟨nn, e6, e7⟩ := Option.bind_eq_some_iff.1 e3; obtain ⟨op, e8, e9⟩ := Option.bind_eq_some_iff.1 e7; obtain ⟨b3, e10, e11⟩ := Option.bind_eq_some_iff.1 e9; simp only [Option.some.injEq, Prod.mk.injEq] at e11; obtain ⟨rfl, rfl⟩ := e11; obtain ⟨s3_, hb3⟩ := spec_l19Step.push_some e10; have S3 := am s3_; have HB3 := am hb3; have E6 := am e6; have E8 := am e8; clear e3 e6 e7 e8 e9 e10 s3_ hb3
 go_upto_region 13 with fail
 have m0 : wg.cell? ⟨gN, 0, none⟩ = some (.int .i64 a0_0) := (blk_cell BN.out 0).trans rfl; have m1 : wg.cell? ⟨gN, 1, none⟩ = some (.int .i64 a0_1) := (blk_cell BN.out 1).trans rfl; have m2 : wg.cell? ⟨gX, 0, none⟩ = some (.int .i64 x.f0) := (blk_cell BX.out 0).trans rfl; have m3 : wg.cell? ⟨gX, 1, none⟩ = some (.int .i64 x.f1) := (blk_cell BX.out 1).trans rfl
 go_region_held3 (fun w' => w'.cell? ⟨gN, 0, none⟩ = some (.int .i64 a0_0) ∧ w'.cell? ⟨gN, 1, none⟩ = some (.int .i64 a0_1) ∧ w'.cell? ⟨gX, 0, none⟩ = some (.int .i64 x.f0) ∧ w'.cell? ⟨gX, 1, none⟩ = some (.int .i64 x.f1)) (exact ⟨m0, m1, m2, m3⟩) (first | (go_at_call 70; (with_reducible refine (spec_NextNode.calls a0_0 a0_1 x.f0 x.f1 nn _ E6.out).mono ?_); rintro e wk ⟨rfl, hb⟩; replace BN := kb_ BN hb; replace B2 := kb_ B2 hb; replace BO := kb_ BO hb; replace BX := kb_ BX hb; replace BF := kb_ BF hb; replace HQ := am (Kd.R_below (ra_ HQ.out) hb); replace M := am (M.out.belowV hb); replace HB := h9_ HB hb; clear hb m0 m1 m2 m3; have m0 : wk.cell? ⟨gN, 0, none⟩ = some (.int .i64 a0_0) := (blk_cell BN.out 0).trans rfl; have m1 : wk.cell? ⟨gN, 1, none⟩ = some (.int .i64 a0_1) := (blk_cell BN.out 1).trans rfl; have m2 : wk.cell? ⟨gX, 0, none⟩ = some (.int .i64 x.f0) := (blk_cell BX.out 0).trans rfl; have m3 : wk.cell? ⟨gX, 1, none⟩ = some (.int .i64 x.f1) := (blk_cell BX.out 1).trans rfl) | (go_at_call 71; (with_reducible refine (spec_Opposite.calls x.f1 op _ E8.out).mono ?_); rintro e wl ⟨rfl, hd⟩; have hb := hd.below; clear hd; replace BN := kb_ BN hb; replace B2 := kb_ B2 hb; replace BO := kb_ BO hb; replace BX := kb_ BX hb; replace BF := kb_ BF hb; replace HQ := am (Kd.R_below (ra_ HQ.out) hb); replace M := am (M.out.belowV hb); replace HB := h9_ HB hb; clear hb m0 m1 m2 m3; have m0 : wl.cell? ⟨gN, 0, none⟩ = some (.int .i64 a0_0) := (blk_cell BN.out 0).trans rfl; have m1 : wl.cell? ⟨gN, 1, none⟩ = some (.int .i64 a0_1) := (blk_cell BN.out 1).trans rfl; have m2 : wl.cell? ⟨gX, 0, none⟩ = some (.int .i64 x.f0) := (blk_cell BX.out 0).trans rfl; have m3 : wl.cell? ⟨gX, 1, none⟩ = some (.int .i64 x.f1) := (blk_cell BX.out 1).trans rfl))
 clear m0 m1 m2 m3 E6 E8
 go_upto_region 14 with fail
 obtain ⟨s0, s1, s3⟩ : 0 ≤ (wrap64 (wrap64 (wrap64 (10 * nn) + wrap64 (2 * op)) + Int.tmod x.f2 2)) ∧ (wrap64 (wrap64 (wrap64 (10 * nn) + wrap64 (2 * op)) + Int.tmod x.f2 2)) < (b1.length : Int) ∧ (b1.getD ((wrap64 (wrap64 (wrap64 (10 * nn) + wrap64 (2 * op)) + Int.tmod x.f2 2)) : Int).toNat []).length < 4294967296 := S3.out
 obtain ⟨gq, zs, oki, Ae, ze, ev, hTs, hls, hx, hf, hR, HI, HH⟩ := M.out.get_5 (i := (wrap64 (wrap64 (wrap64 (10 * nn) + wrap64 (2 * op)) + Int.tmod x.f2 2))) s0 s1
 obtain ⟨el, hel⟩ : ∃ y_, b1.getD ((wrap64 (wrap64 (wrap64 (10 * nn) + wrap64 (2 * op)) + Int.tmod x.f2 2)) : Int).toNat [] = y_ := ⟨_, rfl⟩; rw [hel] at hx hR HH s3
 injection ev with ev1 ln_ ev3
 injection ev1 with ev1; injection ev1 with ev1; subst ev1; subst ev3
 have L3 := am s3; have HEL := am hel; have HHH := am HH; have HII := am HI; have HRR := am hR; have LN := am ln_; have TS := am hTs; have C0 := am s0; have C1 := am s1; clear hel HH HI hTs hls hR hf
 have q10 : (wrap64 (wrap64 (wrap64 (10 * nn) + wrap64 (2 * op)) + Int.tmod x.f2 2)) < (n6.length : Int) := by rw [LN.out]; exact s1
 replace s0 := eq_true s0; replace q10 := eq_true q10; clear s1 s3 ln_
 refine start_ (n := 13) (S := fun w' => w'.cell? ⟨gO, 5, none⟩ = some (.slice (some ⟨g5, 0, none⟩) n6.length d5_) ∧ w'.cell? ⟨g5, ((wrap64 (wrap64 (wrap64 (10 * nn) + wrap64 (2 * op)) + Int.tmod x.f2 2)) : Int).toNat, none⟩ = some (.slice Ae el.length ze) ∧ w'.cell? ⟨gF, 0, none⟩ = some (.int .i64 f.f0) ∧ w'.cell? ⟨gF, 1, none⟩ = some (.int .i64 f.f1) ∧ w'.cell? ⟨gF, 2, none⟩ = some (.int .i64 f.f2) ∧ w'.cell? ⟨gF, 3, none⟩ = some (.bool f.f3) ∧ w'.cell? ⟨gF, 4, none⟩ = some (.bool f.f4)) (ds := [12]) #[false, false, false, false, false, false, false, false, false, false, false, false, false] (by kernel_rfl) rfl rfl ⟨(blk_cell BO.out 5).trans rfl, hx, (blk_cell BF.out 0).trans rfl, (blk_cell BF.out 1).trans rfl, (blk_cell BF.out 2).trans rfl, (blk_cell BF.out 3).trans rfl, (blk_cell BF.out 4).trans rfl⟩ (fun hHeld => ?_)
 replace BN := am (bq_ BN.out : wl.drew.heap[gN]? = some _)
 replace B2 := am (bq_ B2.out : wl.drew.heap[g2]? = some _)
 replace BO := am (bq_ BO.out : wl.drew.heap[gO]? = some _)
 replace BX := am (bq_ BX.out : wl.drew.heap[gX]? = some _)
 replace BF := am (bq_ BF.out : wl.drew.heap[gF]? = some _)
 replace HQ := am (Kd.R_drew HQ.out)
 replace M := am (M.out.move (w1 := wl.drew) (fun _ _ => rfl) (Nat.le_refl _)); replace HB := am (bb_ HB.out : Below w.heap.size w wl.drew); replace HRR := am (Kd.R_drew HRR.out); replace HHH := am (show Kd.H (Kd.slice 72 k72) 42 wl.drew w.heap.size (fun k => T k = 5 ∨ wl.drew.heap.size ≤ k) (.slice (some ⟨g5, 0, none⟩) b1.length d5_) b1 (wrap64 (wrap64 (wrap64 (10 * nn) + wrap64 (2 * op)) + Int.tmod x.f2 2)) oki [.slice Ae el.length ze] from Kd.H_drew HHH.out); replace HII := am (show ∀ k, oki k → (T k = 5 ∨ wl.drew.heap.size ≤ k) ∧ k ≠ g5 from HII.out)
 clear hx; generalize wl.drew = wd at *
 refine pk_ 0 92 (bt_ 13 1) ?_
 refine tk_ (v := .slice (some ⟨g5, 0, none⟩) n6.length d5_) 1 93 (bt_ 13 3) hHeld ?_ (hy := by rintro w' ⟨s4, s5, s6, s7, s8, s9, s10⟩; go_simp)
 refine pk_ 2 94 (bt_ 13 7) ?_
 refine pk_ 3 95 (bt_ 13 15) ?_
 refine tk_ (v := .slice (some ⟨g5, 0, none⟩) n6.length d5_) 4 96 (bt_ 13 31) hHeld ?_ (hy := by rintro w' ⟨s4, s5, s6, s7, s8, s9, s10⟩; go_simp)
 refine pk_ 5 97 (bt_ 13 63) ?_
 refine pk_ 6 98 (bt_ 13 127) ?_
 refine tk_ (v := .slice Ae el.length ze) 7 99 (bt_ 13 255) hHeld ?_ (hy := by rintro w' ⟨s4, s5, s6, s7, s8, s9, s10⟩; go_simp)
 refine tk_ (v := .agg #[.int .i64 f.f0, .int .i64 f.f1, .int .i64 f.f2, .bool f.f3, .bool f.f4]) 8 100 (bt_ 13 511) hHeld ?_ (hy := by rintro w' ⟨s4, s5, s6, s7, s8, s9, s10⟩; go_simp)
 refine one_ (i := 9) (N := some 101) (bt_ 13 1023) rfl rfl (by kernel_rfl) (by decide) (fun K hK => ?_)
 refine value_ (w1 := ?_) (v := ?_) (by rfl) rfl ?_ ?_
 rotate_left 2
 ·go_simp
  constructor
  ·rfl
  ·rfl
 refine hK.out _ _ ⟨(blk_cell (blk_alloc BO.out _) 5).trans rfl, (World.cell?_alloc_lt _ _ _ (World.block_lt_of_cell? _ _ hHeld.2.1)).trans hHeld.2.1, (blk_cell (blk_alloc BF.out _) 0).trans rfl, (blk_cell (blk_alloc BF.out _) 1).trans rfl, (blk_cell (blk_alloc BF.out _) 2).trans rfl, (blk_cell (blk_alloc BF.out _) 3).trans rfl, (blk_cell (blk_alloc BF.out _) 4).trans rfl⟩ (fun hHeld => ?_)
 clear hK K
 refine nm_ 101 ?_
 refine one_ (i := 10) (N := some 102) (bt_ 13 2047) rfl rfl (by kernel_rfl) (by decide) (fun K hK => ?_)
 refine Kd.R_append_step k72 (w0 := w) w.heap.size (by rfl) (.tmp 99) (.tmp 101) 42 72 (.agg #[.int .i64 0, .int .i64 0, .int .i64 0, .bool false, .bool false]) 32 rfl Try.underlying42 info72 rfl (by decide) (by omega) (.slice Ae el.length ze) el f [.int .i64 f.f0, .int .i64 f.f1, .int .i64 f.f2, .bool f.f3, .bool f.f4] (fun k_ => oki k_ ∨ wd.heap.size ≤ k_) (fun _ => False) rfl rfl ?aP (fun _ hk => hk.elim) ?aF ?aO ?aB ?aS ?aL ?_
 (case aP => exact k72_mkM _ _ _ f)
 (case aF => exact fun k_ h_ => Or.inr h_)
 (case aO => exact Kd.R_mono (ra_ HRR.out) (fun k_ h_ => Or.inl h_))
 (case aB => exact bb_ HB.out)
 (case aS => exact (bz_ HB.out))
 (case aL => have := L3.out; omega)
 intro v_ wf ho hb hg hat
 have HGG := am hg; have HBF := am hb; have hrow : ∀ k_, (.slice Ae el.length ze : Value).ownBlock = some k_ → oki k_ := fun k_ e_ => HRR.out.1 k_ e_; obtain ⟨hx8, hf8⟩ := lent_cell HHH.out C0.out C1.out HGG.out hrow
 have bN_ := blk_grown (bq_ BN.out) hg (spec_l19Step.ob_ (e' := 0) HII.out HRR.out TN.out BN.out (by decide))
 have b2_ := blk_grown (bq_ B2.out) hg (spec_l19Step.ob_ (e' := 0) HII.out HRR.out T2.out B2.out (by decide))
 have bO_ := blk_grown (bq_ BO.out) hg (spec_l19Step.ob_ (e' := 0) HII.out HRR.out TO.out BO.out (by decide))
 have bX_ := blk_grown (bq_ BX.out) hg (spec_l19Step.ob_ (e' := 0) HII.out HRR.out TX.out BX.out (by decide))
 have bF_ := blk_grown (bq_ BF.out) hg (spec_l19Step.ob_ (e' := 0) HII.out HRR.out TF.out BF.out (by decide))
 have HO := am ho; obtain ⟨Ao, co, e_⟩ := Kd.R_slice ho; subst e_; clear ho hb hg hat
 refine hK.out _ _ ⟨(blk_cell bO_ 5).trans rfl, hx8, (blk_cell bF_ 0).trans rfl, (blk_cell bF_ 1).trans rfl, (blk_cell bF_ 2).trans rfl, (blk_cell bF_ 3).trans rfl, (blk_cell bF_ 4).trans rfl⟩ (fun hHeld => ?_)
 clear hK K
 refine nm_ 102 ?_
 clear bN_ b2_ bO_ bX_ bF_
 refine pk_ 11 103 (bt_ 13 4095) ?_
 refine last_ (i := 12) (N := none) (bt_ 13 8191) rfl rfl (by kernel_rfl) (by decide) (fun K hK => ?_)
 refine skip_ (w1 := ?_) (by rfl) rfl ?_ ?_
 rotate_left
 ·go_simp
  rfl
 refine hK.out _ _ ?_
 clear hK K hHeld hx8 hf8 s0 q10
 refine done_ (by kernel_rfl) ?_
 have HAP := am (show el ++ [f] = el ++ [f] from rfl)
 obtain ⟨⟨T', hT', hM'⟩, hK9⟩ := M.out.put_5 (bz_ HB.out) C0.out C1.out (show (.slice (some ⟨g5, 0, none⟩) n6.length d5_ : Value) = .slice (some ⟨g5, 0, none⟩) b1.length d5_ by rw [LN.out]) TS.out HII.out HHH.out HGG.out hrow rfl HO.out
 rw [show b1.set ((wrap64 (wrap64 (wrap64 (10 * nn) + wrap64 (2 * op)) + Int.tmod x.f2 2)) : Int).toNat (el ++ [f]) = b3 by rw [HB3.out, HEL.out], List.length_append] at hM'; rw [List.length_append] at hK9; simp only [List.length_cons, List.length_nil, Nat.zero_add] at hM' hK9
 have hlo := M.out.lo g5 (by rw [TS.out]; decide)
 replace HQ := am (Kd.R_mono (Kd.R_keptB HQ.out hK9 (fun k_ a_ b_ => by rw [a_] at b_; cases b_)) (fun k_ h_ => (hT' k_ h_.2.2).trans h_.1 : ∀ k_, _ → T' k_ = 0))
 have TN_ := am ((hT' gN (blk_lt BN.out)).trans TN.out); replace BN := am (blk_kept BN.out hK9 (fun h_ => by have h2_ := TN.out; rw [h_] at h2_; cases h2_)); clear TN; have TN := TN_; clear TN_
 have T2_ := am ((hT' g2 (blk_lt B2.out)).trans T2.out); replace B2 := am (blk_kept B2.out hK9 (fun h_ => by have h2_ := T2.out; rw [h_] at h2_; cases h2_)); clear T2; have T2 := T2_; clear T2_
 have TO_ := am ((hT' gO (blk_lt BO.out)).trans TO.out); replace BO := am (blk_kept BO.out hK9 (fun h_ => by have h2_ := TO.out; rw [h_] at h2_; cases h2_)); clear TO; have TO := TO_; clear TO_
 have TX_ := am ((hT' gX (blk_lt BX.out)).trans TX.out); replace BX := am (blk_kept BX.out hK9 (fun h_ => by have h2_ := TX.out; rw [h_] at h2_; cases h2_)); clear TX; have TX := TX_; clear TX_
 have TF_ := am ((hT' gF (blk_lt BF.out)).trans TF.out); replace BF := am (blk_kept BF.out hK9 (fun h_ => by have h2_ := TF.out; rw [h_] at h2_; cases h2_)); clear TF; have TF := TF_; clear TF_
 replace HB := am (below_set HBF.out hlo : Below w.heap.size w (wf.setCell ⟨g5, ((wrap64 (wrap64 (wrap64 (10 * nn) + wrap64 (2 * op)) + Int.tmod x.f2 2)) : Int).toNat, none⟩ (.slice Ao (el.length + 1) co))); replace M := am hM'; clear hM' hK9 hT' hlo; generalize wf.setCell ⟨g5, ((wrap64 (wrap64 (wrap64 (10 * nn) + wrap64 (2 * op)) + Int.tmod x.f2 2)) : Int).toNat, none⟩ (.slice Ao (el.length + 1) co) = wh at *
 clear HGG HBF HO HHH HII HRR LN TS C0 C1 L3 HEL HAP hrow
 obtain ⟨T, hTe⟩ : ∃ T0 : Nat → Nat, T0 = T' := ⟨_, rfl⟩; subst hTe
 obtain ⟨s4_, ho2⟩ := spec_l19Step.own_some E4.out; obtain ⟨s5_, ht2⟩ := spec_l19Step.trn_some E5.out; have S4 := am s4_; have S5 := am s5_; have HO2 := am ho2; have HT2 := am ht2; clear s4_ s5_ ho2 ht2
 cases hf4 : f.f4
 ·have BF4 := am BF.out; rw [hf4] at BF4; have ho2 := HO2.out; rw [hf4, if_neg (by decide)] at ho2
  replace HO2 := am ho2; clear ho2 HF HB1
  obtain ⟨s0, s1⟩ : 0 ≤ (wrap64 (wrap64 (wrap64 (10 * x.f0) + wrap64 (2 * x.f1)) + Int.tmod x.f2 2)) ∧ (wrap64 (wrap64 (wrap64 (10 * x.f0) + wrap64 (2 * x.f1)) + Int.tmod x.f2 2)) < (o.length : Int) := S4.out
  obtain ⟨gi, zi, ev, _, _, _, _⟩ := Kd.R_form M.out.h6 (by omega)
  injection ev with ev1 ln_ ev3; subst ev1; subst ev3
  have TS := am (show T gi = 6 from M.out.h6.1 gi rfl); have LN := am ln_; have s2 : (wrap64 (wrap64 (wrap64 (10 * x.f0) + wrap64 (2 * x.f1)) + Int.tmod x.f2 2)) < (n7.length : Int) := by rw [ln_]; exact s1
  obtain ⟨hx, hf⟩ := Kd.R_celln 0 M.out.h6 (wrap64 (wrap64 (wrap64 (10 * x.f0) + wrap64 (2 * x.f1)) + Int.tmod x.f2 2)) s0 s2; have hp := am (Kd.R_putn M.out.h6 (wrap64 (wrap64 (wrap64 (10 * x.f0) + wrap64 (2 * x.f1)) + Int.tmod x.f2 2)) (wrap64 (Int.tdiv x.f2 2))); replace s0 := eq_true s0; replace s2 := eq_true s2; clear s1 ln_
  obtain ⟨x0, x1, x2, -⟩ := cz3_ BX.out; obtain ⟨k0, k1_, k2, k3, k4, -⟩ := cz5_ BF4.out; obtain ⟨y0, y1, y2, y3, y4, y5, y6, y7, y8, y9, y10, -⟩ := cz11_ BO.out
  go_upto_region 19 with fail
  clear hx hf s0 s2
  have hK9 : Kept wh (wh.setCell ⟨gi, (wrap64 (wrap64 (wrap64 (10 * x.f0) + wrap64 (2 * x.f1)) + Int.tmod x.f2 2)).toNat, none⟩ (.int .i64 (wrap64 (Int.tdiv x.f2 2)))) (fun k => T k = 6) := Kept.setCell (Kept.refl wh _) (Or.inl TS.out) _; have hlo := M.out.lo gi (by rw [TS.out]; decide)
  have z := hp.out; rw [← HO2.out] at z; replace M := am (Marks.set6 (ok' := fun k => T k = 6) (ok'' := fun _ => True) (r6 := o2) M.out hK9 z); clear z
  replace HQ := am (Kd.R_kept (ra_ HQ.out) hK9 (fun k_ a_ b_ => by rw [a_] at b_; cases b_))
  replace BN := am (blk_kept BN.out hK9 (fun h_ => by have h2_ := TN.out; rw [h_] at h2_; cases h2_))
  replace B2 := am (blk_kept B2.out hK9 (fun h_ => by have h2_ := T2.out; rw [h_] at h2_; cases h2_))
  replace BO := am (blk_kept BO.out hK9 (fun h_ => by have h2_ := TO.out; rw [h_] at h2_; cases h2_))
  replace BX := am (blk_kept BX.out hK9 (fun h_ => by have h2_ := TX.out; rw [h_] at h2_; cases h2_))
  replace BF := am (blk_kept BF.out hK9 (fun h_ => by have h2_ := TF.out; rw [h_] at h2_; cases h2_))
  replace HB := am (below_set HB.out hlo : Below w.heap.size w (wh.setCell ⟨gi, (wrap64 (wrap64 (wrap64 (10 * x.f0) + wrap64 (2 * x.f1)) + Int.tmod x.f2 2)).toNat, none⟩ (.int .i64 (wrap64 (Int.tdiv x.f2 2))))); generalize wh.setCell ⟨gi, (wrap64 (wrap64 (wrap64 (10 * x.f0) + wrap64 (2 * x.f1)) + Int.tmod x.f2 2)).toNat, none⟩ (.int .i64 (wrap64 (Int.tdiv x.f2 2))) = wi at *; clear hK9 hlo hp TS LN
  clear x0 x1 x2 k0 k1_ k2 k3 k4 BF4 y0 y1 y2 y3 y4 y5 y6 y7 y8 y9 y10
  obtain ⟨s0, s1⟩ : 0 ≤ (wrap64 (wrap64 (5 * x.f0) + x.f1)) ∧ (wrap64 (wrap64 (5 * x.f0) + x.f1)) < (t.length : Int) := S5.out
  obtain ⟨gi, zi, ev, _, _, _, _⟩ := Kd.R_form M.out.h7 (by omega)
  injection ev with ev1 ln_ ev3; subst ev1; subst ev3
  have TS := am (show T gi = 7 from M.out.h7.1 gi rfl); have LN := am ln_; have s2 : (wrap64 (wrap64 (5 * x.f0) + x.f1)) < (n8.length : Int) := by rw [ln_]; exact s1
  obtain ⟨hx, hf⟩ := Kd.R_celln 0 M.out.h7 (wrap64 (wrap64 (5 * x.f0) + x.f1)) s0 s2; have hp := am (Kd.R_putn M.out.h7 (wrap64 (wrap64 (5 * x.f0) + x.f1)) (Int.tmod (wrap64 (x.f2 + 1)) 10)); replace s0 := eq_true s0; replace s2 := eq_true s2; clear s1 ln_
  obtain ⟨x0, x1, x2, -⟩ := cz3_ BX.out; obtain ⟨y0, y1, y2, y3, y4, y5, y6, y7, y8, y9, y10, -⟩ := cz11_ BO.out
  go_wp2
  clear hx hf s0 s2
  have hK9 : Kept wi (wi.setCell ⟨gi, (wrap64 (wrap64 (5 * x.f0) + x.f1)).toNat, none⟩ (.int .i64 (Int.tmod (wrap64 (x.f2 + 1)) 10))) (fun k => T k = 7) := Kept.setCell (Kept.refl wi _) (Or.inl TS.out) _; have hlo := M.out.lo gi (by rw [TS.out]; decide)
  have z := hp.out; rw [← HT2.out] at z; replace M := am (Marks.set7 (ok' := fun k => T k = 7) (ok'' := fun _ => True) (r7 := t2) M.out hK9 z); clear z
  replace HQ := am (Kd.R_kept (ra_ HQ.out) hK9 (fun k_ a_ b_ => by rw [a_] at b_; cases b_))
  replace BN := am (blk_kept BN.out hK9 (fun h_ => by have h2_ := TN.out; rw [h_] at h2_; cases h2_))
  replace B2 := am (blk_kept B2.out hK9 (fun h_ => by have h2_ := T2.out; rw [h_] at h2_; cases h2_))
  replace BO := am (blk_kept BO.out hK9 (fun h_ => by have h2_ := TO.out; rw [h_] at h2_; cases h2_))
  replace BX := am (blk_kept BX.out hK9 (fun h_ => by have h2_ := TX.out; rw [h_] at h2_; cases h2_))
  replace BF := am (blk_kept BF.out hK9 (fun h_ => by have h2_ := TF.out; rw [h_] at h2_; cases h2_))
  replace HB := am (below_set HB.out hlo : Below w.heap.size w (wi.setCell ⟨gi, (wrap64 (wrap64 (5 * x.f0) + x.f1)).toNat, none⟩ (.int .i64 (Int.tmod (wrap64 (x.f2 + 1)) 10)))); generalize wi.setCell ⟨gi, (wrap64 (wrap64 (5 * x.f0) + x.f1)).toNat, none⟩ (.int .i64 (Int.tmod (wrap64 (x.f2 + 1)) 10)) = wj at *; clear hK9 hlo hp TS LN
  go_roundg k1
  case measure => have := HK1.out; omega
  case rel => exact ⟨T, _, b3, o2, t2, a, rfl, H', ⟨by have := HK1.out; omega⟩, M, TN, T2, TO, BN, B2, BO, HQ, HB⟩
 ·have BF4 := am BF.out; rw [hf4] at BF4; have ho2 := HO2.out; rw [hf4, if_pos rfl] at ho2
  replace HO2 := am ho2; clear ho2 HF HB1
  obtain ⟨s0, s1⟩ : 0 ≤ (wrap64 (wrap64 (wrap64 (10 * x.f0) + wrap64 (2 * x.f1)) + Int.tmod x.f2 2)) ∧ (wrap64 (wrap64 (wrap64 (10 * x.f0) + wrap64 (2 * x.f1)) + Int.tmod x.f2 2)) < (o.length : Int) := S4.out
  obtain ⟨gi, zi, ev, _, _, _, _⟩ := Kd.R_form M.out.h6 (by omega)
  injection ev with ev1 ln_ ev3; subst ev1; subst ev3
  have TS := am (show T gi = 6 from M.out.h6.1 gi rfl); have LN := am ln_; have s2 : (wrap64 (wrap64 (wrap64 (10 * x.f0) + wrap64 (2 * x.f1)) + Int.tmod x.f2 2)) < (n7.length : Int) := by rw [ln_]; exact s1
  obtain ⟨hx, hf⟩ := Kd.R_celln 0 M.out.h6 (wrap64 (wrap64 (wrap64 (10 * x.f0) + wrap64 (2 * x.f1)) + Int.tmod x.f2 2)) s0 s2; have hp := am (Kd.R_putn M.out.h6 (wrap64 (wrap64 (wrap64 (10 * x.f0) + wrap64 (2 * x.f1)) + Int.tmod x.f2 2)) (-1)); replace s0 := eq_true s0; replace s2 := eq_true s2; clear s1 ln_
  obtain ⟨x0, x1, x2, -⟩ := cz3_ BX.out; obtain ⟨k0, k1_, k2, k3, k4, -⟩ := cz5_ BF4.out; obtain ⟨y0, y1, y2, y3, y4, y5, y6, y7, y8, y9, y10, -⟩ := cz11_ BO.out
  go_upto_region 19 with fail
  clear hx hf s0 s2
  have hK9 : Kept wh (wh.setCell ⟨gi, (wrap64 (wrap64 (wrap64 (10 * x.f0) + wrap64 (2 * x.f1)) + Int.tmod x.f2 2)).toNat, none⟩ (.int .i64 (-1))) (fun k => T k = 6) := Kept.setCell (Kept.refl wh _) (Or.inl TS.out) _; have hlo := M.out.lo gi (by rw [TS.out]; decide)
  have z := hp.out; rw [← HO2.out] at z; replace M := am (Marks.set6 (ok' := fun k => T k = 6) (ok'' := fun _ => True) (r6 := o2) M.out hK9 z); clear z
  replace HQ := am (Kd.R_kept (ra_ HQ.out) hK9 (fun k_ a_ b_ => by rw [a_] at b_; cases b_))
  replace BN := am (blk_kept BN.out hK9 (fun h_ => by have h2_ := TN.out; rw [h_] at h2_; cases h2_))
  replace B2 := am (blk_kept B2.out hK9 (fun h_ => by have h2_ := T2.out; rw [h_] at h2_; cases h2_))
  replace BO := am (blk_kept BO.out hK9 (fun h_ => by have h2_ := TO.out; rw [h_] at h2_; cases h2_))
  replace BX := am (blk_kept BX.out hK9 (fun h_ => by have h2_ := TX.out; rw [h_] at h2_; cases h2_))
  replace BF := am (blk_kept BF.out hK9 (fun h_ => by have h2_ := TF.out; rw [h_] at h2_; cases h2_))
  replace HB := am (below_set HB.out hlo : Below w.heap.size w (wh.setCell ⟨gi, (wrap64 (wrap64 (wrap64 (10 * x.f0) + wrap64 (2 * x.f1)) + Int.tmod x.f2 2)).toNat, none⟩ (.int .i64 (-1)))); generalize wh.setCell ⟨gi, (wrap64 (wrap64 (wrap64 (10 * x.f0) + wrap64 (2 * x.f1)) + Int.tmod x.f2 2)).toNat, none⟩ (.int .i64 (-1)) = wi at *; clear hK9 hlo hp TS LN
  clear x0 x1 x2 k0 k1_ k2 k3 k4 BF4 y0 y1 y2 y3 y4 y5 y6 y7 y8 y9 y10
  obtain ⟨s0, s1⟩ : 0 ≤ (wrap64 (wrap64 (5 * x.f0) + x.f1)) ∧ (wrap64 (wrap64 (5 * x.f0) + x.f1)) < (t.length : Int) := S5.out
  obtain ⟨gi, zi, ev, _, _, _, _⟩ := Kd.R_form M.out.h7 (by omega)
  injection ev with ev1 ln_ ev3; subst ev1; subst ev3
  have TS := am (show T gi = 7 from M.out.h7.1 gi rfl); have LN := am ln_; have s2 : (wrap64 (wrap64 (5 * x.f0) + x.f1)) < (n8.length : Int) := by rw [ln_]; exact s1
  obtain ⟨hx, hf⟩ := Kd.R_celln 0 M.out.h7 (wrap64 (wrap64 (5 * x.f0) + x.f1)) s0 s2; have hp := am (Kd.R_putn M.out.h7 (wrap64 (wrap64 (5 * x.f0) + x.f1)) (Int.tmod (wrap64 (x.f2 + 1)) 10)); replace s0 := eq_true s0; replace s2 := eq_true s2; clear s1 ln_
  obtain ⟨x0, x1, x2, -⟩ := cz3_ BX.out; obtain ⟨y0, y1, y2, y3, y4, y5, y6, y7, y8, y9, y10, -⟩ := cz11_ BO.out
  go_wp2
  clear hx hf s0 s2
  have hK9 : Kept wi (wi.setCell ⟨gi, (wrap64 (wrap64 (5 * x.f0) + x.f1)).toNat, none⟩ (.int .i64 (Int.tmod (wrap64 (x.f2 + 1)) 10))) (fun k => T k = 7) := Kept.setCell (Kept.refl wi _) (Or.inl TS.out) _; have hlo := M.out.lo gi (by rw [TS.out]; decide)
  have z := hp.out; rw [← HT2.out] at z; replace M := am (Marks.set7 (ok' := fun k => T k = 7) (ok'' := fun _ => True) (r7 := t2) M.out hK9 z); clear z
  replace HQ := am (Kd.R_kept (ra_ HQ.out) hK9 (fun k_ a_ b_ => by rw [a_] at b_; cases b_))
  replace BN := am (blk_kept BN.out hK9 (fun h_ => by have h2_ := TN.out; rw [h_] at h2_; cases h2_))
  replace B2 := am (blk_kept B2.out hK9 (fun h_ => by have h2_ := T2.out; rw [h_] at h2_; cases h2_))
  replace BO := am (blk_kept BO.out hK9 (fun h_ => by have h2_ := TO.out; rw [h_] at h2_; cases h2_))
  replace BX := am (blk_kept BX.out hK9 (fun h_ => by have h2_ := TX.out; rw [h_] at h2_; cases h2_))
  replace BF := am (blk_kept BF.out hK9 (fun h_ => by have h2_ := TF.out; rw [h_] at h2_; cases h2_))
  replace HB := am (below_set HB.out hlo : Below w.heap.size w (wi.setCell ⟨gi, (wrap64 (wrap64 (5 * x.f0) + x.f1)).toNat, none⟩ (.int .i64 (Int.tmod (wrap64 (x.f2 + 1)) 10)))); generalize wi.setCell ⟨gi, (wrap64 (wrap64 (5 * x.f0) + x.f1)).toNat, none⟩ (.int .i64 (Int.tmod (wrap64 (x.f2 + 1)) 10)) = wj at *; clear hK9 hlo hp TS LN
  go_roundg k1
  case measure => have := HK1.out; omega
  case rel => exact ⟨T, _, b3, o2, t2, a, rfl, H', ⟨by have := HK1.out; omega⟩, M, TN, T2, TO, BN, B2, BO, HQ, HB⟩
theorem spec_l19Step.calls (k : Nat) (a0_0 : Int) (a0_1 : Int) (A0_2 : Option Addr) (c0_2 : Nat) (l0_2 : List Int) (A0_3 : Option Addr) (c0_3 : Nat) (l0_3 : List Int) (A0_4 : Option Addr) (c0_4 : Nat) (l0_4 : List Int) (A0_5 : Option Addr) (c0_5 : Nat) (l0_5 : List (List S72)) (A0_6 : Option Addr) (c0_6 : Nat) (l0_6 : List Int) (A0_7 : Option Addr) (c0_7 : Nat) (l0_7 : List Int) (A0_8 : Option Addr) (c0_8 : Nat) (l0_8 : List (List S72)) (A0_9 : Option Addr) (c0_9 : Nat) (l0_9 : List (List S72)) (a0_10 : Int) (r1 : Int) (r2 : Int) (r3 : List Int) (r4 : List Int) (r5 : List Int) (r6 : List (List S72)) (r7 : List Int) (r8 : List Int) (r9 : List (List S72)) (r10 : List (List S72)) (r11 : Int) (w : World) (hr0_2 : Kd.C (Kd.int .i64) w A0_2 l0_2.length l0_2) (hc0_2 : l0_2.length ≤ c0_2) (hr0_3 : Kd.C (Kd.int .i64) w A0_3 l0_3.length l0_3) (hc0_3 : l0_3.length ≤ c0_3) (hr0_4 : Kd.C (Kd.int .i64) w A0_4 l0_4.length l0_4) (hc0_4 : l0_4.length ≤ c0_4) (hr0_5 : Kd.C (Kd.slice 72 k72) w A0_5 l0_5.length l0_5) (hc0_5 : l0_5.length ≤ c0_5) (hr0_6 : Kd.C (Kd.int .i64) w A0_6 l0_6.length l0_6) (hc0_6 : l0_6.length ≤ c0_6) (hr0_7 : Kd.C (Kd.int .i64) w A0_7 l0_7.length l0_7) (hc0_7 : l0_7.length ≤ c0_7) (hr0_8 : Kd.C (Kd.slice 72 k72) w A0_8 l0_8.length l0_8) (hc0_8 : l0_8.length ≤ c0_8) (hr0_9 : Kd.C (Kd.slice 72 k72) w A0_9 l0_9.length l0_9) (hc0_9 : l0_9.length ≤ c0_9) (h : spec_l19Step.f k a0_0 a0_1 l0_2 l0_3 l0_4 l0_5 l0_6 l0_7 l0_8 l0_9 a0_10 = some (r1, r2, r3, r4, r5, r6, r7, r8, r9, r10, r11)) :
  Calls Try.prog 67 #[.agg #[.int .i64 a0_0, .int .i64 a0_1, .slice A0_2 l0_2.length c0_2, .slice A0_3 l0_3.length c0_3, .slice A0_4 l0_4.length c0_4, .slice A0_5 l0_5.length c0_5, .slice A0_6 l0_6.length c0_6, .slice A0_7 l0_7.length c0_7, .slice A0_8 l0_8.length c0_8, .slice A0_9 l0_9.length c0_9, .int .i64 a0_10]] w fun e w' => ∃ v2_ v3_ v4_ v5_ v6_ v7_ v8_ v9_ : Value, e = .returned (.agg #[.int .i64 r1, .int .i64 r2, v2_, v3_, v4_, v5_, v6_, v7_, v8_, v9_, .int .i64 r11]) ∧ Kd.R (Kd.int .i64) 3 w' w.heap.size (fun k_ => some k_ ≠ (v3_ : Value).ownBlock ∧ some k_ ≠ (v4_ : Value).ownBlock ∧ some k_ ≠ (v6_ : Value).ownBlock ∧ some k_ ≠ (v7_ : Value).ownBlock) v2_ r3 ∧ Kd.R (Kd.int .i64) 3 w' w.heap.size (fun k_ => some k_ ≠ (v2_ : Value).ownBlock ∧ some k_ ≠ (v4_ : Value).ownBlock ∧ some k_ ≠ (v6_ : Value).ownBlock ∧ some k_ ≠ (v7_ : Value).ownBlock) v3_ r4 ∧ Kd.R (Kd.int .i64) 3 w' w.heap.size (fun k_ => some k_ ≠ (v2_ : Value).ownBlock ∧ some k_ ≠ (v3_ : Value).ownBlock ∧ some k_ ≠ (v6_ : Value).ownBlock ∧ some k_ ≠ (v7_ : Value).ownBlock) v4_ r5 ∧ Kd.S (Kd.slice 72 k72) 42 w' w.heap.size (fun k_ => some k_ ≠ (v8_ : Value).ownBlock ∧ some k_ ≠ (v9_ : Value).ownBlock) v5_ r6 ∧ Kd.R (Kd.int .i64) 3 w' w.heap.size (fun k_ => some k_ ≠ (v2_ : Value).ownBlock ∧ some k_ ≠ (v3_ : Value).ownBlock ∧ some k_ ≠ (v4_ : Value).ownBlock ∧ some k_ ≠ (v7_ : Value).ownBlock) v6_ r7 ∧ Kd.R (Kd.int .i64) 3 w' w.heap.size (fun k_ => some k_ ≠ (v2_ : Value).ownBlock ∧ some k_ ≠ (v3_ : Value).ownBlock ∧ some k_ ≠ (v4_ : Value).ownBlock ∧ some k_ ≠ (v6_ : Value).ownBlock) v7_ r8 ∧ Kd.S (Kd.slice 72 k72) 42 w' w.heap.size (fun k_ => some k_ ≠ (v5_ : Value).ownBlock ∧ some k_ ≠ (v9_ : Value).ownBlock) v8_ r9 ∧ Kd.S (Kd.slice 72 k72) 42 w' w.heap.size (fun k_ => some k_ ≠ (v5_ : Value).ownBlock ∧ some k_ ≠ (v8_ : Value).ownBlock) v9_ r10 ∧ Below w.heap.size w w' :=
 (spec_l19Step.callsM k a0_0 a0_1 _ _ l0_2 _ _ l0_3 _ _ l0_4 _ _ l0_5 _ _ l0_6 _ _ l0_7 _ _ l0_8 _ _ l0_9 a0_10 r1 r2 r3 r4 r5 r6 r7 r8 r9 r10 r11 w hr0_2 hc0_2 hr0_3 hc0_3 hr0_4 hc0_4 hr0_5 hc0_5 hr0_6 hc0_6 hr0_7 hc0_7 hr0_8 hc0_8 hr0_9 hc0_9 h).mono (fun e w' ⟨T, v2, v3, v4, v5, v6, v7, v8, v9, he, hM, hb⟩ => by obtain ⟨s2, s3, s4, s5, s6, s7, s8, s9⟩ := hM.std; exact ⟨_, _, _, _, _, _, _, _, he, s2, s3, s4, s5, s6, s7, s8, s9, hb⟩)
end Go.Proofs.Yteiemoooelpdaaa.PFnCreditSum
-- thin
