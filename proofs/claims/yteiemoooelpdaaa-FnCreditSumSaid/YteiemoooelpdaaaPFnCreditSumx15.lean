
import Derived.Test.YteiemoooelpdaaaPFnCreditSumx0
import Derived.Test.YteiemoooelpdaaaPFnCreditSumx1
import Derived.Test.YteiemoooelpdaaaPFnCreditSumx14
namespace Go.Proofs.Yteiemoooelpdaaa.PFnCreditSum
open Go.RowKit Go.Proofs.YteiemoooelpdaaaW.PrintWords Go.Proofs.YteiemoooelpdaaaW.PrintLast Go.Proofs.YteiemoooelpdaaaW.PrintMore
attribute [local go_sem] max2_int min2_int max_two min_two max_three min_three max_four min_four
set_option linter.unusedVariables false
set_option maxHeartbeats 8000000
set_option maxRecDepth 100000
set_option linter.unusedSimpArgs false
def spec_l18All.l0 : Nat → List (S107) → Int → Int → Int → List Int → List Int → List Int → List (List (S72)) → List Int → List Int → List (List (S72)) → List (List (S72)) → Int → Option ((List (S107)))
 | 0, _, _, _, _, _, _, _, _, _, _, _, _, _ => none
 | k + 1, x3, x4, x433000, x433001, x433002, x433003, x433004, x433005, x433006, x433007, x433008, x433009, x433010 => (spec_NodeCount.f x433000 x433001).bind fun t436 => (if x4 < t436 then ((spec_l18Grants.f k x433000 x433001 x433002 x433003 x433004 x433005 x433006 x433007 x433008 x433009 x433010 x4).bind fun t437 => (if x3.length + t437.length < 5864062014805 then (spec_l18All.l0 k (x3 ++ t437) (wrap64 (x4 + 1)) x433000 x433001 x433002 x433003 x433004 x433005 x433006 x433007 x433008 x433009 x433010) else (none))) else (some x3))
def spec_l18All.f (k : Nat) (a0_0 : Int) (a0_1 : Int) (l0_2 : List Int) (l0_3 : List Int) (l0_4 : List Int) (l0_5 : List (List (S72))) (l0_6 : List Int) (l0_7 : List Int) (l0_8 : List (List (S72))) (l0_9 : List (List (S72))) (a0_10 : Int) : Option ((List (S107))) := spec_l18All.l0 k (([] : List (S107))) 0 a0_0 a0_1 l0_2 l0_3 l0_4 l0_5 l0_6 l0_7 l0_8 l0_9 a0_10
theorem spec_l18All.calls (k : Nat) (a0_0 : Int) (a0_1 : Int) (A0_2 : Option Addr) (c0_2 : Nat) (l0_2 : List Int) (A0_3 : Option Addr) (c0_3 : Nat) (l0_3 : List Int) (A0_4 : Option Addr) (c0_4 : Nat) (l0_4 : List Int) (A0_5 : Option Addr) (c0_5 : Nat) (l0_5 : List (List (S72))) (A0_6 : Option Addr) (c0_6 : Nat) (l0_6 : List Int) (A0_7 : Option Addr) (c0_7 : Nat) (l0_7 : List Int) (A0_8 : Option Addr) (c0_8 : Nat) (l0_8 : List (List (S72))) (A0_9 : Option Addr) (c0_9 : Nat) (l0_9 : List (List (S72))) (a0_10 : Int) (r : List (S107)) (w : World) (hr0_2 : Kd.C (Kd.int .i64) w A0_2 l0_2.length l0_2) (hc0_2 : l0_2.length ≤ c0_2) (hr0_3 : Kd.C (Kd.int .i64) w A0_3 l0_3.length l0_3) (hc0_3 : l0_3.length ≤ c0_3) (hr0_4 : Kd.C (Kd.int .i64) w A0_4 l0_4.length l0_4) (hc0_4 : l0_4.length ≤ c0_4) (hr0_5 : Kd.C (Kd.slice 72 k72) w A0_5 l0_5.length l0_5) (hc0_5 : l0_5.length ≤ c0_5) (hr0_6 : Kd.C (Kd.int .i64) w A0_6 l0_6.length l0_6) (hc0_6 : l0_6.length ≤ c0_6) (hr0_7 : Kd.C (Kd.int .i64) w A0_7 l0_7.length l0_7) (hc0_7 : l0_7.length ≤ c0_7) (hr0_8 : Kd.C (Kd.slice 72 k72) w A0_8 l0_8.length l0_8) (hc0_8 : l0_8.length ≤ c0_8) (hr0_9 : Kd.C (Kd.slice 72 k72) w A0_9 l0_9.length l0_9) (hc0_9 : l0_9.length ≤ c0_9) (h : spec_l18All.f k a0_0 a0_1 l0_2 l0_3 l0_4 l0_5 l0_6 l0_7 l0_8 l0_9 a0_10 = some r) :
  Calls Try.prog 88 #[.agg #[.int .i64 a0_0, .int .i64 a0_1, .slice A0_2 l0_2.length c0_2, .slice A0_3 l0_3.length c0_3, .slice A0_4 l0_4.length c0_4, .slice A0_5 l0_5.length c0_5, .slice A0_6 l0_6.length c0_6, .slice A0_7 l0_7.length c0_7, .slice A0_8 l0_8.length c0_8, .slice A0_9 l0_9.length c0_9, .int .i64 a0_10]] w fun e w' => ∃ v0_ : Value, e = .returned (v0_) ∧ Kd.R k107 107 w' w.heap.size (fun _ => True) v0_ r ∧ Below w.heap.size w w' := by
 have hu35 := Try.underlying35
 have hu25 := Try.underlying25
 obtain ⟨HR0_2, HC0_2, HR0_3, HC0_3, HR0_4, HC0_4, HR0_5, HC0_5, HR0_6, HC0_6, HR0_7, HC0_7, HR0_8, HC0_8, HR0_9, HC0_9⟩ := a16_ hr0_2 hc0_2 hr0_3 hc0_3 hr0_4 hc0_4 hr0_5 hc0_5 hr0_6 hc0_6 hr0_7 hc0_7 hr0_8 hc0_8 hr0_9 hc0_9; clear hr0_2 hc0_2 hr0_3 hc0_3 hr0_4 hc0_4 hr0_5 hc0_5 hr0_6 hc0_6 hr0_7 hc0_7 hr0_8 hc0_8 hr0_9 hc0_9
 have HB := am (Below.refl w.heap.size w)
 have H : (spec_l18All.l0 k (([] : List (S107))) 0 a0_0 a0_1 l0_2 l0_3 l0_4 l0_5 l0_6 l0_7 l0_8 l0_9 a0_10) = some r := h
 clear h
 obtain ⟨y433, hy433⟩ : ∃ y_ : List (S107), y_ = (([] : List (S107))) := ⟨_, rfl⟩
 replace H : (spec_l18All.l0 k y433 0 a0_0 a0_1 l0_2 l0_3 l0_4 l0_5 l0_6 l0_7 l0_8 l0_9 a0_10) = some r := ry_ hy433 H
 have Ny433 := am hy433
 clear hy433
 have H' := am H
 clear H
 go_enter Try.func88, Try.ntmps88
 go_wp2_with (first | ((with_reducible refine gate_dst (N := 1) rfl ?_); refine bx_ 1 #[.int .i64 a0_0, .int .i64 a0_1, .slice A0_2 l0_2.length c0_2, .slice A0_3 l0_3.length c0_3, .slice A0_4 l0_4.length c0_4, .slice A0_5 l0_5.length c0_5, .slice A0_6 l0_6.length c0_6, .slice A0_7 l0_7.length c0_7, .slice A0_8 l0_8.length c0_8, .slice A0_9 l0_9.length c0_9, .int .i64 a0_10] 35 ?_; intro gb432 hg w2 hbox hb; have BK432 := am (hbox); have GW432 := gw_ hg HB; replace HB := h9_ HB hb; clear hb hbox hg) | ((with_reducible refine gate_dst (N := 5) rfl ?_); refine Kd.R_lit k107 _ 107 ?hg (N := 5) ?hd (xs := ([] : List (S107))) (inner := []) (ok := fun _ => True) (okp := fun _ => True) ?hr ?hp (fun _ hk => hk) trivial (Below.refl _ _) (Nat.le_refl _) (by simp) ?_; (case hd => rfl); (case hg => rfl); (case hr => first | (go_simp; done) | (go_simp; rfl)); (case hp => exact (Reps.none _ _)); intro v434 w3 ho4 hb hg_ hnew_; clear hg_ hnew_; (first | rw [← Ny433.out] at ho4 | (simp only [Int.reduceToNat] at ho4; rw [← Ny433.out] at ho4)); have HO435 := am (Kd.R_lower ho4 (bz_ HB.out)); replace BK432 := kb_ BK432 hb; replace HB := h9_ HB hb; clear hb ho4))
 go_loopg [3, 4] k (fun kq v3 v4 w' => ∃ (x3_1 : List (S107)) (x4_1 : Int), v4 = .int .i64 x4_1 ∧ Aside0 (spec_l18All.l0 kq x3_1 x4_1 a0_0 a0_1 l0_2 l0_3 l0_4 l0_5 l0_6 l0_7 l0_8 l0_9 a0_10 = some r) ∧ Aside0 (kq ≤ k) ∧ Aside0 (Kd.R k107 107 w' w.heap.size (fun _ => True) v3 x3_1) ∧ Aside0 (w'.heap[gb432]? = some (.cells #[.int .i64 a0_0, .int .i64 a0_1, (.slice A0_2 l0_2.length c0_2), (.slice A0_3 l0_3.length c0_3), (.slice A0_4 l0_4.length c0_4), (.slice A0_5 l0_5.length c0_5), (.slice A0_6 l0_6.length c0_6), (.slice A0_7 l0_7.length c0_7), (.slice A0_8 l0_8.length c0_8), (.slice A0_9 l0_9.length c0_9), .int .i64 a0_10] 35 (0, 0))) ∧ Aside0 (Below w.heap.size w w'))
 case atStart => exact ⟨(y433), (0), ef_, H', ⟨Nat.le_refl _⟩, ⟨ra_ HO435.out⟩, ⟨bq_ BK432.out⟩, ⟨bb_ HB.out⟩⟩
 clear H'
 obtain ⟨x3_1, x4_1, rfl, HA, HK1, HO_3, BK432, HB⟩ := hrel
 obtain _ | k1 := gk
 ·exact absurd HA.out (by simp [spec_l18All.l0])
 have H := HA.out
 clear HA
 simp only [spec_l18All.l0] at H
 obtain ⟨t436, A5, H⟩ := bi_ H
 by_cases c6 : x4_1 < t436
 rotate_left
 ·rw [if_neg c6] at H
  have c6b0 : decide (x4_1 < t436) = false := decide_eq_false c6
  clear c6
  obtain rfl := Option.some.inj H
  obtain ⟨hcz15_0, hcz15_1, hcz15_2, hcz15_3, hcz15_4, hcz15_5, hcz15_6, hcz15_7, hcz15_8, hcz15_9, hcz15_10, hfz15_0, hfz15_1, hfz15_2, hfz15_3, hfz15_4, hfz15_5, hfz15_6, hfz15_7, hfz15_8, hfz15_9, hfz15_10⟩ := cz11_ BK432.out
  go_wp2_with (first | ((with_reducible refine gate_callee (f := 57) rfl ?_); refine gm_ (some 10) Try.func57 #[.agg #[.int .i64 a0_0, .int .i64 a0_1]] rfl ?_; (with_reducible refine (spec_NodeCount.calls a0_0 a0_1 t436 _ A5.out).mono ?_); rintro e w16 ⟨rfl, hb⟩; refine ⟨_, rfl, ?_⟩; replace HO_3 := rb_ HO_3 hb; replace BK432 := kb_ BK432 hb; replace HB := h9_ HB hb; (try clear hb)))
  go_ret
  exact ⟨_, fin_, ra_ HO_3.out, bb_ HB.out⟩
 rw [if_pos c6] at H
 have c6b0 : decide (x4_1 < t436) = true := decide_eq_true c6
 clear c6
 obtain ⟨t437, A7, H⟩ := bi_ H
 by_cases c8 : x3_1.length + t437.length < 5864062014805
 rotate_left
 ·rw [if_neg c8] at H
  exact absurd H (by simp)
 rw [if_pos c8] at H
 have LMc8 := am c8
 clear c8
 obtain ⟨y440, hy440⟩ : ∃ y_ : List (S107), y_ = (x3_1 ++ t437) := ⟨_, rfl⟩
 replace H : (spec_l18All.l0 k1 y440 (wrap64 (x4_1 + 1)) a0_0 a0_1 l0_2 l0_3 l0_4 l0_5 l0_6 l0_7 l0_8 l0_9 a0_10) = some r := ry_ hy440 H
 have Ny440 := am hy440
 clear hy440
 have H' := am H
 clear H
 obtain ⟨hcz9_0, hcz9_1, hcz9_2, hcz9_3, hcz9_4, hcz9_5, hcz9_6, hcz9_7, hcz9_8, hcz9_9, hcz9_10, hfz9_0, hfz9_1, hfz9_2, hfz9_3, hfz9_4, hfz9_5, hfz9_6, hfz9_7, hfz9_8, hfz9_9, hfz9_10⟩ := cz11_ BK432.out
 go_wp2_with (first | ((with_reducible refine gate_callee (f := 57) rfl ?_); refine gm_ (some 10) Try.func57 #[.agg #[.int .i64 a0_0, .int .i64 a0_1]] rfl ?_; (with_reducible refine (spec_NodeCount.calls a0_0 a0_1 t436 _ A5.out).mono ?_); rintro e w10 ⟨rfl, hb⟩; refine ⟨_, rfl, ?_⟩; replace HO_3 := rb_ HO_3 hb; replace BK432 := kb_ BK432 hb; replace HB := h9_ HB hb; (try clear hb); obtain ⟨hcz11_0, hcz11_1, hcz11_2, hcz11_3, hcz11_4, hcz11_5, hcz11_6, hcz11_7, hcz11_8, hcz11_9, hcz11_10, hfz11_0, hfz11_1, hfz11_2, hfz11_3, hfz11_4, hfz11_5, hfz11_6, hfz11_7, hfz11_8, hfz11_9, hfz11_10⟩ := cz11_ BK432.out) | ((with_reducible refine gate_callee (f := 100) rfl ?_); refine gm_ (some 17) Try.func100 #[.agg #[.int .i64 a0_0, .int .i64 a0_1, .slice A0_2 l0_2.length c0_2, .slice A0_3 l0_3.length c0_3, .slice A0_4 l0_4.length c0_4, .slice A0_5 l0_5.length c0_5, .slice A0_6 l0_6.length c0_6, .slice A0_7 l0_7.length c0_7, .slice A0_8 l0_8.length c0_8, .slice A0_9 l0_9.length c0_9, .int .i64 a0_10], .int .i64 x4_1] rfl ?_; (with_reducible refine (spec_l18Grants.calls k1 a0_0 a0_1 _ _ l0_2 _ _ l0_3 _ _ l0_4 _ _ l0_5 _ _ l0_6 _ _ l0_7 _ _ l0_8 _ _ l0_9 a0_10 x4_1 t437 _ ?side1 HC0_2.out ?side3 HC0_3.out ?side5 HC0_4.out ?side7 HC0_5.out ?side9 HC0_6.out ?side11 HC0_7.out ?side13 HC0_8.out ?side15 HC0_9.out A7.out).mono ?_); (case side1 => exact cb_ HR0_2.out HB.out); (case side3 => exact cb_ HR0_3.out HB.out); (case side5 => exact cb_ HR0_4.out HB.out); (case side7 => exact cb_ HR0_5.out HB.out); (case side9 => exact cb_ HR0_6.out HB.out); (case side11 => exact cb_ HR0_7.out HB.out); (case side13 => exact cb_ HR0_8.out HB.out); (case side15 => exact cb_ HR0_9.out HB.out); rintro e w12 ⟨v438, rfl, ho0, hb⟩; refine ⟨_, rfl, ?_⟩; have HO439 := am (Kd.R_lower (Kd.R_new' ho0 (rl_ HO_3.out)) (bz_ HB.out)); replace HO_3 := re_ HO_3 ho0 hb; replace BK432 := kb_ BK432 hb; replace HB := h9_ HB hb; (try clear hb); (try clear ho0); obtain ⟨Ao14, co14, eo14⟩ := Kd.R_slice HO439.out; subst eo14) | ((with_reducible refine gate_builtin (b := .append) (xs := #[.tmp 14, .tmp 17]) rfl ?_); at_builtin; refine Kd.R_append_rows k107 (w0 := w) w.heap.size rfl (.tmp 14) (.tmp 17) 104 107 (.agg #[(.int .i64 0), (.int .i64 0), (.int .i64 0)]) 24 rfl Try.underlying104 info107 rfl (by decide) (by omega) u3 x3_1 t437 _ _ _ (fun k_ => some k_ ≠ (.slice Ao14 t437.length co14 : Value).ownBlock) (fun _ => False) rfl rfl ?aO ?aR (fun _ _ h => h) (fun _ h => h.elim) ?aF ?aB ?aS ?aL ?_; (case aR => repeat (first | exact (Kd.R_reads' HO439.out).2.2 | (with_reducible refine Kd.C_alloc ?_ _) | (with_reducible refine Kd.C_drewN ?_ _) | (with_reducible refine Kd.C_drew ?_))); (case aB => exact (hb_ HB.out)); (case aF => exact (fun k_ hk => Kd.fresh' (rl_ HO439.out) k_ hk)); (case aO => exact (by (with_reducible repeat (first | apply Kd.R_alloc | apply Kd.R_drewN | apply Kd.R_drew)); exact Kd.R_mono HO_3.out (fun _ hk => hk.2))); (case aS => exact (bz_ HB.out)); (case aL => have := LMc8.out; omega); intro v441 w13 ho hb hg hat; rw [← Ny440.out] at ho; have n0_ := am (blk_grown (g := gb432) (o := .cells #[.int .i64 a0_0, .int .i64 a0_1, .slice A0_2 l0_2.length c0_2, .slice A0_3 l0_3.length c0_3, .slice A0_4 l0_4.length c0_4, .slice A0_5 l0_5.length c0_5, .slice A0_6 l0_6.length c0_6, .slice A0_7 l0_7.length c0_7, .slice A0_8 l0_8.length c0_8, .slice A0_9 l0_9.length c0_9, .int .i64 a0_10] 35 (0, 0)) (bq_ BK432.out) hg (Kd.R_ne HO_3.out BK432.out (by decide))); have n1_ := am (Kd.R_after (ok := (fun _ => True)) (ra_ HO439.out) hg hat); have n2_ := am (hb); have n3_ := am (ho); clear BK432; clear HO439; clear HB; clear HO_3; have BK432 := n0_; have HO439 := n1_; have HB := n2_; have HO442 := n3_; clear n0_ n1_ n2_ n3_; clear ho hb hg hat))
 go_roundg k1
 case measure => have := HK1.out; omega
 case rel => exact ⟨(y440), (wrap64 (x4_1 + 1)), ef_, H', ⟨by have := HK1.out; omega⟩, ⟨by (with_reducible repeat (first | apply Kd.R_alloc | apply Kd.R_drewN | apply Kd.R_drew)); exact Kd.R_mono HO442.out (fun _ hk => trivial)⟩, ⟨bq_ BK432.out⟩, ⟨bb_ HB.out⟩⟩
end Go.Proofs.Yteiemoooelpdaaa.PFnCreditSum
-- thin
