
import Derived.Test.YteiemoooelpdaaaPFnCreditSumx0
import Derived.Test.YteiemoooelpdaaaPFnCreditSumx2
import Derived.Test.YteiemoooelpdaaaPFnCreditSumx4
import Derived.Test.YteiemoooelpdaaaPFnCreditSumx17
import Derived.Test.YteiemoooelpdaaaPFnCreditSumx18
namespace Go.Proofs.Yteiemoooelpdaaa.PFnCreditSum
open Go.RowKit Go.Proofs.YteiemoooelpdaaaW.PrintWords Go.Proofs.YteiemoooelpdaaaW.PrintLast Go.Proofs.YteiemoooelpdaaaW.PrintMore
attribute [local go_sem] max2_int min2_int max_two min_two max_three min_three max_four min_four
set_option linter.unusedVariables false
set_option maxHeartbeats 8000000
set_option maxRecDepth 100000
set_option linter.unusedSimpArgs false
mutual
def impl_NetOk.j0 : Nat → Bool → Int → Int → List Int → List Int → List Int → List (List (S72)) → List Int → List Int → List (List (S72)) → List (List (S72)) → Int → Option (Bool)
 | 0, _, _, _, _, _, _, _, _, _, _, _, _ => none
 | k + 1, x55, x462000, x462001, x462002, x462003, x462004, x462005, x462006, x462007, x462008, x462009, x462010 => if x55 = true then (none) else (impl_NetOk.l0 k x462005 (x462005.length : Int) 0 x462000 x462001 x462002 x462003 x462004 x462005 x462006 x462007 x462008 x462009 x462010)
def impl_NetOk.l0 : Nat → List (List (S72)) → Int → Int → Int → Int → List Int → List Int → List Int → List (List (S72)) → List Int → List Int → List (List (S72)) → List (List (S72)) → Int → Option (Bool)
 | 0, _, _, _, _, _, _, _, _, _, _, _, _, _, _ => none
 | k + 1, x57, x58, x59, x462000, x462001, x462002, x462003, x462004, x462005, x462006, x462007, x462008, x462009, x462010 => if x59 < x58 then (if 0 ≤ x59 then (if x59 < (x57.length : Int) then (if ((rd_L4 x57 x59).length : Int) > 3 then (none) else ((impl_ClassOnly.f k (rd_L4 x57 x59) (Int.tmod x59 2)).bind fun t465 => (if (t465.length : Int) = ((rd_L4 x57 x59).length : Int) then ((impl_areFlits.f k x462000 x462001 (rd_L4 x57 x59)).bind fun t468 => (if t468 = true then (impl_NetOk.l0 k x57 x58 (wrap64 (x59 + 1)) x462000 x462001 x462002 x462003 x462004 x462005 x462006 x462007 x462008 x462009 x462010) else (none))) else (none)))) else (none)) else (none)) else (impl_NetOk.l1 k x462008 (x462008.length : Int) 0 x462000 x462001 x462002 x462003 x462004 x462005 x462006 x462007 x462008 x462009 x462010)
def impl_NetOk.l1 : Nat → List (List (S72)) → Int → Int → Int → Int → List Int → List Int → List Int → List (List (S72)) → List Int → List Int → List (List (S72)) → List (List (S72)) → Int → Option (Bool)
 | 0, _, _, _, _, _, _, _, _, _, _, _, _, _, _ => none
 | k + 1, x87, x88, x89, x462000, x462001, x462002, x462003, x462004, x462005, x462006, x462007, x462008, x462009, x462010 => if x89 < x88 then (if 0 ≤ x89 then (if x89 < (x87.length : Int) then (if ((rd_L4 x87 x89).length : Int) > 60 then (none) else ((impl_areFlits.f k x462000 x462001 (rd_L4 x87 x89)).bind fun t470 => (if t470 = true then (impl_NetOk.l1 k x87 x88 (wrap64 (x89 + 1)) x462000 x462001 x462002 x462003 x462004 x462005 x462006 x462007 x462008 x462009 x462010) else (none)))) else (none)) else (none)) else ((impl_areInside.f k x462006 (-1) 4).bind fun t471 => (if t471 = true then ((impl_areInside.f k x462007 0 9).bind fun t472 => (if t472 = true then ((impl_inside.f x462010 0 1000000).bind fun t473 => (some t473)) else (none))) else (none)))
end
def impl_NetOk.f (k : Nat) (a0_0 : Int) (a0_1 : Int) (l0_2 : List Int) (l0_3 : List Int) (l0_4 : List Int) (l0_5 : List (List (S72))) (l0_6 : List Int) (l0_7 : List Int) (l0_8 : List (List (S72))) (l0_9 : List (List (S72))) (a0_10 : Int) : Option (Bool) := (impl_NodeCount.f a0_0 a0_1).bind fun t462 => ((impl_ClassesOk.f k a0_0 a0_1 l0_2 l0_3 l0_4).bind fun t463 => (if t463 = true then (if (l0_5.length : Int) = (wrap64 (10 * t462)) then (if (l0_6.length : Int) = (wrap64 (10 * t462)) then (if (l0_7.length : Int) = (wrap64 (5 * t462)) then (if (l0_8.length : Int) = t462 then (impl_NetOk.j0 k ((l0_9.length : Int) != t462) a0_0 a0_1 l0_2 l0_3 l0_4 l0_5 l0_6 l0_7 l0_8 l0_9 a0_10) else (impl_NetOk.j0 k true a0_0 a0_1 l0_2 l0_3 l0_4 l0_5 l0_6 l0_7 l0_8 l0_9 a0_10)) else (impl_NetOk.j0 k true a0_0 a0_1 l0_2 l0_3 l0_4 l0_5 l0_6 l0_7 l0_8 l0_9 a0_10)) else (impl_NetOk.j0 k true a0_0 a0_1 l0_2 l0_3 l0_4 l0_5 l0_6 l0_7 l0_8 l0_9 a0_10)) else (impl_NetOk.j0 k true a0_0 a0_1 l0_2 l0_3 l0_4 l0_5 l0_6 l0_7 l0_8 l0_9 a0_10)) else (impl_NetOk.j0 k true a0_0 a0_1 l0_2 l0_3 l0_4 l0_5 l0_6 l0_7 l0_8 l0_9 a0_10)))
theorem impl_NetOk.e0 {P : Prop} (h : P := by
 obtain ⟨hcz_0, hcz_1, hcz_2, hcz_3, hcz_4, hcz_5, hcz_6, hcz_7, hcz_8, hcz_9, hcz_10, hfz_0, hfz_1, hfz_2, hfz_3, hfz_4, hfz_5, hfz_6, hfz_7, hfz_8, hfz_9, hfz_10⟩ := cz11_ BK461.out
 go_wp2_with (first | ((with_reducible refine gate_callee (f := 47) rfl ?_); refine gm_ (some 16) Try.func47 #[.agg #[.int .i64 a0_0, .int .i64 a0_1, .slice A0_2 l0_2.length c0_2], .agg #[.slice A0_3 l0_3.length c0_3, .slice A0_4 l0_4.length c0_4]] rfl ?_; (with_reducible refine (impl_ClassesOk.calls k a0_0 a0_1 _ _ l0_2 _ _ l0_3 _ _ l0_4 _ _ ?side1 HC0_2.out ?side3 HC0_3.out ?side5 HC0_4.out A7.out).mono ?_); (case side1 => exact cb_ HR0_2.out HB.out); (case side3 => exact cb_ HR0_3.out HB.out); (case side5 => exact cb_ HR0_4.out HB.out); rintro e w_0 ⟨rfl, hb⟩; refine ⟨_, rfl, ?_⟩; replace BK461 := kb_ BK461 hb; replace HB := h9_ HB hb; (try clear hb); obtain ⟨hcz_0, hcz_1, hcz_2, hcz_3, hcz_4, hcz_5, hcz_6, hcz_7, hcz_8, hcz_9, hcz_10, hfz_0, hfz_1, hfz_2, hfz_3, hfz_4, hfz_5, hfz_6, hfz_7, hfz_8, hfz_9, hfz_10⟩ := cz11_ BK461.out))
 go_meet
 case rel => exact ⟨_, (true), ef_, H', ⟨kq_⟩, ⟨bq_ BK461.out⟩, ⟨bb_ HB.out⟩⟩) : P := h
theorem impl_NetOk.calls (k : Nat) (a0_0 : Int) (a0_1 : Int) (A0_2 : Option Addr) (c0_2 : Nat) (l0_2 : List Int) (A0_3 : Option Addr) (c0_3 : Nat) (l0_3 : List Int) (A0_4 : Option Addr) (c0_4 : Nat) (l0_4 : List Int) (A0_5 : Option Addr) (c0_5 : Nat) (l0_5 : List (List (S72))) (A0_6 : Option Addr) (c0_6 : Nat) (l0_6 : List Int) (A0_7 : Option Addr) (c0_7 : Nat) (l0_7 : List Int) (A0_8 : Option Addr) (c0_8 : Nat) (l0_8 : List (List (S72))) (A0_9 : Option Addr) (c0_9 : Nat) (l0_9 : List (List (S72))) (a0_10 : Int) (r : Bool) (w : World) (hr0_2 : Kd.C (Kd.int .i64) w A0_2 l0_2.length l0_2) (hc0_2 : l0_2.length ≤ c0_2) (hr0_3 : Kd.C (Kd.int .i64) w A0_3 l0_3.length l0_3) (hc0_3 : l0_3.length ≤ c0_3) (hr0_4 : Kd.C (Kd.int .i64) w A0_4 l0_4.length l0_4) (hc0_4 : l0_4.length ≤ c0_4) (hr0_5 : Kd.C (Kd.slice 72 k72) w A0_5 l0_5.length l0_5) (hc0_5 : l0_5.length ≤ c0_5) (hr0_6 : Kd.C (Kd.int .i64) w A0_6 l0_6.length l0_6) (hc0_6 : l0_6.length ≤ c0_6) (hr0_7 : Kd.C (Kd.int .i64) w A0_7 l0_7.length l0_7) (hc0_7 : l0_7.length ≤ c0_7) (hr0_8 : Kd.C (Kd.slice 72 k72) w A0_8 l0_8.length l0_8) (hc0_8 : l0_8.length ≤ c0_8) (hr0_9 : Kd.C (Kd.slice 72 k72) w A0_9 l0_9.length l0_9) (hc0_9 : l0_9.length ≤ c0_9) (h : impl_NetOk.f k a0_0 a0_1 l0_2 l0_3 l0_4 l0_5 l0_6 l0_7 l0_8 l0_9 a0_10 = some r) :
  Calls Try.prog 26 #[.agg #[.int .i64 a0_0, .int .i64 a0_1, .slice A0_2 l0_2.length c0_2, .slice A0_3 l0_3.length c0_3, .slice A0_4 l0_4.length c0_4, .slice A0_5 l0_5.length c0_5, .slice A0_6 l0_6.length c0_6, .slice A0_7 l0_7.length c0_7, .slice A0_8 l0_8.length c0_8, .slice A0_9 l0_9.length c0_9, .int .i64 a0_10]] w fun e w' => e = .returned (.bool r) ∧ Below w.heap.size w w' := by
 have hu35 := Try.underlying35
 have hu25 := Try.underlying25
 have hu28 := Try.underlying28
 have hu32 := Try.underlying32
 obtain ⟨HR0_2, HC0_2, HR0_3, HC0_3, HR0_4, HC0_4, HR0_5, HC0_5, HR0_6, HC0_6, HR0_7, HC0_7, HR0_8, HC0_8, HR0_9, HC0_9⟩ := a16_ hr0_2 hc0_2 hr0_3 hc0_3 hr0_4 hc0_4 hr0_5 hc0_5 hr0_6 hc0_6 hr0_7 hc0_7 hr0_8 hc0_8 hr0_9 hc0_9; clear hr0_2 hc0_2 hr0_3 hc0_3 hr0_4 hc0_4 hr0_5 hc0_5 hr0_6 hc0_6 hr0_7 hc0_7 hr0_8 hc0_8 hr0_9 hc0_9
 have HB := am (Below.refl w.heap.size w)
 have H : ((impl_NodeCount.f a0_0 a0_1).bind fun t462 => ((impl_ClassesOk.f k a0_0 a0_1 l0_2 l0_3 l0_4).bind fun t463 => (if t463 = true then (if (l0_5.length : Int) = (wrap64 (10 * t462)) then (if (l0_6.length : Int) = (wrap64 (10 * t462)) then (if (l0_7.length : Int) = (wrap64 (5 * t462)) then (if (l0_8.length : Int) = t462 then (impl_NetOk.j0 k ((l0_9.length : Int) != t462) a0_0 a0_1 l0_2 l0_3 l0_4 l0_5 l0_6 l0_7 l0_8 l0_9 a0_10) else (impl_NetOk.j0 k true a0_0 a0_1 l0_2 l0_3 l0_4 l0_5 l0_6 l0_7 l0_8 l0_9 a0_10)) else (impl_NetOk.j0 k true a0_0 a0_1 l0_2 l0_3 l0_4 l0_5 l0_6 l0_7 l0_8 l0_9 a0_10)) else (impl_NetOk.j0 k true a0_0 a0_1 l0_2 l0_3 l0_4 l0_5 l0_6 l0_7 l0_8 l0_9 a0_10)) else (impl_NetOk.j0 k true a0_0 a0_1 l0_2 l0_3 l0_4 l0_5 l0_6 l0_7 l0_8 l0_9 a0_10)) else (impl_NetOk.j0 k true a0_0 a0_1 l0_2 l0_3 l0_4 l0_5 l0_6 l0_7 l0_8 l0_9 a0_10)))) = some r := h
 clear h
 obtain ⟨t462, A2, H⟩ := bi_ H
 have HC3 := am H
 clear H
 go_enter Try.func26, Try.ntmps26
 go_upto_region 2 with (first | ((with_reducible refine gate_dst (N := 1) rfl ?_); (try (refine gate_guard (by rfl) ?_; dsimp only)); refine bx_ 1 #[.int .i64 a0_0, .int .i64 a0_1, .slice A0_2 l0_2.length c0_2, .slice A0_3 l0_3.length c0_3, .slice A0_4 l0_4.length c0_4, .slice A0_5 l0_5.length c0_5, .slice A0_6 l0_6.length c0_6, .slice A0_7 l0_7.length c0_7, .slice A0_8 l0_8.length c0_8, .slice A0_9 l0_9.length c0_9, .int .i64 a0_10] 35 ?_; intro gb461 hg w4 hbox hb; have BK461 := am (hbox); have GW461 := gw_ hg HB; replace HB := h9_ HB hb; clear hb hbox hg; obtain ⟨hcz5_0, hcz5_1, hcz5_2, hcz5_3, hcz5_4, hcz5_5, hcz5_6, hcz5_7, hcz5_8, hcz5_9, hcz5_10, hfz5_0, hfz5_1, hfz5_2, hfz5_3, hfz5_4, hfz5_5, hfz5_6, hfz5_7, hfz5_8, hfz5_9, hfz5_10⟩ := cz11_ BK461.out) | ((with_reducible refine gate_callee (f := 28) rfl ?_); refine gm_ (some 11) Try.func28 #[.agg #[.int .i64 a0_0, .int .i64 a0_1]] rfl ?_; (with_reducible refine (impl_NodeCount.calls a0_0 a0_1 t462 _ A2.out).mono ?_); rintro e w6 ⟨rfl, hb⟩; refine ⟨_, rfl, ?_⟩; replace BK461 := kb_ BK461 hb; replace HB := h9_ HB hb; (try clear hb)))
 (try simp only [Act.put, List.setIfInBounds_toArray, List.set_cons_zero, List.set_cons_succ])
 go_cut [55] (fun v55 wc => ∃ (kq : Nat) (x55_2 : Bool), v55 = .bool x55_2 ∧ Aside0 (impl_NetOk.j0 kq x55_2 a0_0 a0_1 l0_2 l0_3 l0_4 l0_5 l0_6 l0_7 l0_8 l0_9 a0_10 = some r) ∧ Aside0 (kq ≤ k) ∧ Aside0 (wc.heap[gb461]? = some (.cells #[.int .i64 a0_0, .int .i64 a0_1, (.slice A0_2 l0_2.length c0_2), (.slice A0_3 l0_3.length c0_3), (.slice A0_4 l0_4.length c0_4), (.slice A0_5 l0_5.length c0_5), (.slice A0_6 l0_6.length c0_6), (.slice A0_7 l0_7.length c0_7), (.slice A0_8 l0_8.length c0_8), (.slice A0_9 l0_9.length c0_9), .int .i64 a0_10] 35 (0, 0))) ∧ Aside0 (Below w.heap.size w wc))
 case first =>
  have H := HC3.out
  clear HC3
  obtain ⟨t463, A7, H⟩ := bi_ H
  by_cases c8 : t463 = true
  rotate_left
  ·replace c8 := Bool.eq_false_iff.mpr c8
   subst c8
   rw [if_neg (show ¬ (false = true) by decide)] at H
   have H' := am H
   clear H
   exact impl_NetOk.e0
  subst c8
  rw [if_pos rfl] at H
  by_cases c9 : (l0_5.length : Int) = (wrap64 (10 * t462))
  rotate_left
  ·rw [if_neg c9] at H
   have c9b0 : ((l0_5.length : Int) == (wrap64 (10 * t462))) = false := beq_eq_false_iff_ne.mpr c9
   have c9b1 : ((l0_5.length : Int) != (wrap64 (10 * t462))) = true := bne_iff_ne.mpr c9
   (first | rw [c9b0] | (simp only [i64_w, i32_w]; rw [c9b0]) | skip)
   have H' := am H
   clear H
   exact impl_NetOk.e0
  rw [if_pos c9] at H
  have c9b0 : ((l0_5.length : Int) == (wrap64 (10 * t462))) = true := beq_iff_eq.mpr c9
  have c9b1 : ((l0_5.length : Int) != (wrap64 (10 * t462))) = false := bne_eq_false_iff_eq.mpr c9
  clear c9
  (first | rw [c9b0] | (simp only [i64_w, i32_w]; rw [c9b0]) | skip)
  by_cases c10 : (l0_6.length : Int) = (wrap64 (10 * t462))
  rotate_left
  ·rw [if_neg c10] at H
   have c10b0 : ((l0_6.length : Int) == (wrap64 (10 * t462))) = false := beq_eq_false_iff_ne.mpr c10
   have c10b1 : ((l0_6.length : Int) != (wrap64 (10 * t462))) = true := bne_iff_ne.mpr c10
   have H' := am H
   clear H
   exact impl_NetOk.e0
  rw [if_pos c10] at H
  have c10b0 : ((l0_6.length : Int) == (wrap64 (10 * t462))) = true := beq_iff_eq.mpr c10
  have c10b1 : ((l0_6.length : Int) != (wrap64 (10 * t462))) = false := bne_eq_false_iff_eq.mpr c10
  clear c10
  by_cases c11 : (l0_7.length : Int) = (wrap64 (5 * t462))
  rotate_left
  ·rw [if_neg c11] at H
   have c11b0 : ((l0_7.length : Int) == (wrap64 (5 * t462))) = false := beq_eq_false_iff_ne.mpr c11
   have c11b1 : ((l0_7.length : Int) != (wrap64 (5 * t462))) = true := bne_iff_ne.mpr c11
   have H' := am H
   clear H
   exact impl_NetOk.e0
  rw [if_pos c11] at H
  have c11b0 : ((l0_7.length : Int) == (wrap64 (5 * t462))) = true := beq_iff_eq.mpr c11
  have c11b1 : ((l0_7.length : Int) != (wrap64 (5 * t462))) = false := bne_eq_false_iff_eq.mpr c11
  clear c11
  by_cases c12 : (l0_8.length : Int) = t462
  rotate_left
  ·rw [if_neg c12] at H
   have c12b0 : ((l0_8.length : Int) == t462) = false := beq_eq_false_iff_ne.mpr c12
   have c12b1 : ((l0_8.length : Int) != t462) = true := bne_iff_ne.mpr c12
   have H' := am H
   clear H
   exact impl_NetOk.e0
  rw [if_pos c12] at H
  have c12b0 : ((l0_8.length : Int) == t462) = true := beq_iff_eq.mpr c12
  have c12b1 : ((l0_8.length : Int) != t462) = false := bne_eq_false_iff_eq.mpr c12
  clear c12
  have H' := am H
  clear H
  obtain ⟨hcz13_0, hcz13_1, hcz13_2, hcz13_3, hcz13_4, hcz13_5, hcz13_6, hcz13_7, hcz13_8, hcz13_9, hcz13_10, hfz13_0, hfz13_1, hfz13_2, hfz13_3, hfz13_4, hfz13_5, hfz13_6, hfz13_7, hfz13_8, hfz13_9, hfz13_10⟩ := cz11_ BK461.out
  go_wp2_with (first | ((with_reducible refine gate_callee (f := 47) rfl ?_); refine gm_ (some 16) Try.func47 #[.agg #[.int .i64 a0_0, .int .i64 a0_1, .slice A0_2 l0_2.length c0_2], .agg #[.slice A0_3 l0_3.length c0_3, .slice A0_4 l0_4.length c0_4]] rfl ?_; (with_reducible refine (impl_ClassesOk.calls k a0_0 a0_1 _ _ l0_2 _ _ l0_3 _ _ l0_4 true _ ?side1 HC0_2.out ?side3 HC0_3.out ?side5 HC0_4.out A7.out).mono ?_); (case side1 => exact cb_ HR0_2.out HB.out); (case side3 => exact cb_ HR0_3.out HB.out); (case side5 => exact cb_ HR0_4.out HB.out); rintro e w14 ⟨rfl, hb⟩; refine ⟨_, rfl, ?_⟩; replace BK461 := kb_ BK461 hb; replace HB := h9_ HB hb; (try clear hb); obtain ⟨hcz15_0, hcz15_1, hcz15_2, hcz15_3, hcz15_4, hcz15_5, hcz15_6, hcz15_7, hcz15_8, hcz15_9, hcz15_10, hfz15_0, hfz15_1, hfz15_2, hfz15_3, hfz15_4, hfz15_5, hfz15_6, hfz15_7, hfz15_8, hfz15_9, hfz15_10⟩ := cz11_ BK461.out))
  go_meet
  case rel => exact ⟨_, (((l0_9.length : Int) != t462)), ef_, H', ⟨kq_⟩, ⟨bq_ BK461.out⟩, ⟨bb_ HB.out⟩⟩
 case rest =>
  clear HC3
  try clear hcz5_0 hcz5_1 hcz5_10 hcz5_2 hcz5_3 hcz5_4 hcz5_5 hcz5_6 hcz5_7 hcz5_8 hcz5_9 hfz5_0 hfz5_1 hfz5_10 hfz5_2 hfz5_3 hfz5_4 hfz5_5 hfz5_6 hfz5_7 hfz5_8 hfz5_9
  obtain ⟨kq, x55_2, rfl, HA, HJ2, BK461, HB⟩ := hcut
  cases kq with
  | zero => exact absurd HA.out (by simp [impl_NetOk.j0])
  | succ kj2 =>
   have H := HA.out
   clear HA
   simp only [impl_NetOk.j0] at H
   by_cases c30 : x55_2 = true
   ·subst c30
    rw [if_pos rfl] at H
    exact absurd H (by simp)
   ·replace c30 := Bool.eq_false_iff.mpr c30
    subst c30
    rw [if_neg (show ¬ (false = true) by decide)] at H
    have H' := am H
    clear H
    obtain ⟨hcz31_0, hcz31_1, hcz31_2, hcz31_3, hcz31_4, hcz31_5, hcz31_6, hcz31_7, hcz31_8, hcz31_9, hcz31_10, hfz31_0, hfz31_1, hfz31_2, hfz31_3, hfz31_4, hfz31_5, hfz31_6, hfz31_7, hfz31_8, hfz31_9, hfz31_10⟩ := cz11_ BK461.out
    go_wp2
    go_loopg [59] kj2 (fun kq v59 w' => ∃ (x59_2 : Int), v59 = .int .i64 x59_2 ∧ Aside0 (impl_NetOk.l0 kq l0_5 (l0_5.length : Int) x59_2 a0_0 a0_1 l0_2 l0_3 l0_4 l0_5 l0_6 l0_7 l0_8 l0_9 a0_10 = some r) ∧ Aside0 (kq ≤ kj2) ∧ Aside0 (w'.heap[gb461]? = some (.cells #[.int .i64 a0_0, .int .i64 a0_1, (.slice A0_2 l0_2.length c0_2), (.slice A0_3 l0_3.length c0_3), (.slice A0_4 l0_4.length c0_4), (.slice A0_5 l0_5.length c0_5), (.slice A0_6 l0_6.length c0_6), (.slice A0_7 l0_7.length c0_7), (.slice A0_8 l0_8.length c0_8), (.slice A0_9 l0_9.length c0_9), .int .i64 a0_10] 35 (0, 0))) ∧ Aside0 (Below w.heap.size w w'))
    case atStart => exact ⟨(0), ef_, H', ⟨Nat.le_refl _⟩, ⟨bq_ BK461.out⟩, ⟨bb_ HB.out⟩⟩
    clear H'
    try clear c30
    try clear hcz31_0 hcz31_1 hcz31_10 hcz31_2 hcz31_3 hcz31_4 hcz31_5 hcz31_6 hcz31_7 hcz31_8 hcz31_9 hfz31_0 hfz31_1 hfz31_10 hfz31_2 hfz31_3 hfz31_4 hfz31_5 hfz31_6 hfz31_7 hfz31_8 hfz31_9
    try clear hcz5_0 hcz5_1 hcz5_10 hcz5_2 hcz5_3 hcz5_4 hcz5_5 hcz5_6 hcz5_7 hcz5_8 hcz5_9 hfz5_0 hfz5_1 hfz5_10 hfz5_2 hfz5_3 hfz5_4 hfz5_5 hfz5_6 hfz5_7 hfz5_8 hfz5_9
    obtain ⟨x59_2, rfl, HA, HK2, BK461, HB⟩ := hrel
    obtain _ | k2 := gk
    ·exact absurd HA.out (by simp [impl_NetOk.l0])
    have H := HA.out
    clear HA
    simp only [impl_NetOk.l0] at H
    by_cases c32 : x59_2 < (l0_5.length : Int)
    ·rw [if_pos c32] at H
     have c32b0 : decide (x59_2 < (l0_5.length : Int)) = true := decide_eq_true c32
     clear c32
     by_cases c33 : 0 ≤ x59_2
     rotate_left
     ·rw [if_neg c33] at H
      exact absurd H (by simp)
     rw [if_pos c33] at H
     have c33b0 : decide (0 ≤ x59_2) = true := decide_eq_true c33
     clear c33
     by_cases c34 : x59_2 < (l0_5.length : Int)
     rotate_left
     ·rw [if_neg c34] at H
      exact absurd H (by simp)
     rw [if_pos c34] at H
     have c34b0 : decide (x59_2 < (l0_5.length : Int)) = true := decide_eq_true c34
     clear c34
     by_cases c35 : ((rd_L4 l0_5 x59_2).length : Int) > 3
     ·rw [if_pos c35] at H
      exact absurd H (by simp)
     rw [if_neg c35] at H
     have c35b0 : decide (3 < ((rd_L4 l0_5 x59_2).length : Int)) = false := decide_eq_false c35
     have c35b1 : decide (3 < (rd_L4 l0_5 x59_2).length) = false := decide_eq_false (by omega)
     clear c35
     obtain ⟨t465, A36, H⟩ := bi_ H
     by_cases c37 : (t465.length : Int) = ((rd_L4 l0_5 x59_2).length : Int)
     rotate_left
     ·rw [if_neg c37] at H
      exact absurd H (by simp)
     rw [if_pos c37] at H
     have c37b0 : ((t465.length : Int) == ((rd_L4 l0_5 x59_2).length : Int)) = true := beq_iff_eq.mpr c37
     have c37b1 : ((t465.length : Int) != ((rd_L4 l0_5 x59_2).length : Int)) = false := bne_eq_false_iff_eq.mpr c37
     have c37b2 : (t465.length == (rd_L4 l0_5 x59_2).length) = true := by first | simpa using c37 | (simp at c37 ⊢; omega)
     clear c37
     obtain ⟨t468, A38, H⟩ := bi_ H
     by_cases c39 : t468 = true
     rotate_left
     ·replace c39 := Bool.eq_false_iff.mpr c39
      subst c39
      rw [if_neg (show ¬ (false = true) by decide)] at H
      exact absurd H (by simp)
     subst c39
     rw [if_pos rfl] at H
     have H' := am H
     clear H
     have p464 : 0 ≤ (x59_2 : Int) := of_decide_eq_true dg_
     have q464 : x59_2 < (l0_5.length : Int) := of_decide_eq_true dg_
     obtain ⟨ad464, A464_0, c464_0, e464, hx464_0, hl464_0, hi464_0⟩ := at_L4 HR0_5.out x59_2 p464 q464
     cases e464
     replace hx464_0 := hc_ HB hx464_0
     have HR464_0 := am hi464_0
     have HC464_0 := am hl464_0
     clear hi464_0 hl464_0
     replace p464 := eq_true p464
     replace q464 := eq_true q464
     go_wp2_with (first | (go_at_call 48; (with_reducible refine (impl_ClassOnly.calls k2 _ _ (rd_L4 l0_5 x59_2) (Int.tmod x59_2 2) t465 _ ?side1 HC464_0.out A36.out).mono ?_); (case side1 => exact cb_ HR464_0.out HB.out); rintro e w40 ⟨v466, rfl, ho0, hb⟩; have HO467 := am (Kd.R_lower ho0 (bz_ HB.out)); replace BK461 := kb_ BK461 hb; replace HB := h9_ HB hb; (try clear hb); (try clear ho0); obtain ⟨Ao41, co41, eo41⟩ := Kd.R_slice HO467.out; subst eo41; obtain ⟨hcz42_0, hcz42_1, hcz42_2, hcz42_3, hcz42_4, hcz42_5, hcz42_6, hcz42_7, hcz42_8, hcz42_9, hcz42_10, hfz42_0, hfz42_1, hfz42_2, hfz42_3, hfz42_4, hfz42_5, hfz42_6, hfz42_7, hfz42_8, hfz42_9, hfz42_10⟩ := cz11_ BK461.out) | (go_at_call 49; (with_reducible refine (impl_areFlits.calls k2 a0_0 a0_1 _ _ (rd_L4 l0_5 x59_2) true _ ?side1 HC464_0.out A38.out).mono ?_); (case side1 => exact cb_ HR464_0.out HB.out); rintro e w43 ⟨rfl, hb⟩; replace HO467 := rb_ HO467 hb; replace BK461 := kb_ BK461 hb; replace HB := h9_ HB hb; (try clear hb)))
     go_roundg k2
     case measure => have := HJ2.out; have := HK2.out; omega
     case rel => exact ⟨(wrap64 (x59_2 + 1)), ef_, H', ⟨by have := HJ2.out; have := HK2.out; omega⟩, ⟨bq_ BK461.out⟩, ⟨bb_ HB.out⟩⟩
    rw [if_neg c32] at H
    have c32b0 : decide (x59_2 < (l0_5.length : Int)) = false := decide_eq_false c32
    clear c32
    have H' := am H
    clear H
    obtain ⟨hcz44_0, hcz44_1, hcz44_2, hcz44_3, hcz44_4, hcz44_5, hcz44_6, hcz44_7, hcz44_8, hcz44_9, hcz44_10, hfz44_0, hfz44_1, hfz44_2, hfz44_3, hfz44_4, hfz44_5, hfz44_6, hfz44_7, hfz44_8, hfz44_9, hfz44_10⟩ := cz11_ BK461.out
    go_wp2
    go_loopg [89] k2 (fun kq v89 w' => ∃ (x89_3 : Int), v89 = .int .i64 x89_3 ∧ Aside0 (impl_NetOk.l1 kq l0_8 (l0_8.length : Int) x89_3 a0_0 a0_1 l0_2 l0_3 l0_4 l0_5 l0_6 l0_7 l0_8 l0_9 a0_10 = some r) ∧ Aside0 (kq ≤ k2) ∧ Aside0 (w'.heap[gb461]? = some (.cells #[.int .i64 a0_0, .int .i64 a0_1, (.slice A0_2 l0_2.length c0_2), (.slice A0_3 l0_3.length c0_3), (.slice A0_4 l0_4.length c0_4), (.slice A0_5 l0_5.length c0_5), (.slice A0_6 l0_6.length c0_6), (.slice A0_7 l0_7.length c0_7), (.slice A0_8 l0_8.length c0_8), (.slice A0_9 l0_9.length c0_9), .int .i64 a0_10] 35 (0, 0))) ∧ Aside0 (Below w.heap.size w w'))
    case atStart => exact ⟨(0), ef_, H', ⟨Nat.le_refl _⟩, ⟨bq_ BK461.out⟩, ⟨bb_ HB.out⟩⟩
    clear H'
    try clear c30
    try clear c32
    try clear c32b0
    try clear hcz31_0 hcz31_1 hcz31_10 hcz31_2 hcz31_3 hcz31_4 hcz31_5 hcz31_6 hcz31_7 hcz31_8 hcz31_9 hfz31_0 hfz31_1 hfz31_10 hfz31_2 hfz31_3 hfz31_4 hfz31_5 hfz31_6 hfz31_7 hfz31_8 hfz31_9
    try clear hcz44_0 hcz44_1 hcz44_10 hcz44_2 hcz44_3 hcz44_4 hcz44_5 hcz44_6 hcz44_7 hcz44_8 hcz44_9 hfz44_0 hfz44_1 hfz44_10 hfz44_2 hfz44_3 hfz44_4 hfz44_5 hfz44_6 hfz44_7 hfz44_8 hfz44_9
    try clear hcz5_0 hcz5_1 hcz5_10 hcz5_2 hcz5_3 hcz5_4 hcz5_5 hcz5_6 hcz5_7 hcz5_8 hcz5_9 hfz5_0 hfz5_1 hfz5_10 hfz5_2 hfz5_3 hfz5_4 hfz5_5 hfz5_6 hfz5_7 hfz5_8 hfz5_9
    obtain ⟨x89_3, rfl, HA, HK3, BK461, HB⟩ := hrel
    obtain _ | k3 := gk
    ·exact absurd HA.out (by simp [impl_NetOk.l1])
    have H := HA.out
    clear HA
    simp only [impl_NetOk.l1] at H
    by_cases c45 : x89_3 < (l0_8.length : Int)
    rotate_left
    ·rw [if_neg c45] at H
     have c45b0 : decide (x89_3 < (l0_8.length : Int)) = false := decide_eq_false c45
     clear c45
     obtain ⟨t471, A53, H⟩ := bi_ H
     by_cases c54 : t471 = true
     rotate_left
     ·replace c54 := Bool.eq_false_iff.mpr c54
      subst c54
      rw [if_neg (show ¬ (false = true) by decide)] at H
      exact absurd H (by simp)
     subst c54
     rw [if_pos rfl] at H
     obtain ⟨t472, A55, H⟩ := bi_ H
     by_cases c56 : t472 = true
     rotate_left
     ·replace c56 := Bool.eq_false_iff.mpr c56
      subst c56
      rw [if_neg (show ¬ (false = true) by decide)] at H
      exact absurd H (by simp)
     subst c56
     rw [if_pos rfl] at H
     obtain ⟨t473, A57, H⟩ := bi_ H
     obtain rfl := Option.some.inj H
     obtain ⟨hcz58_0, hcz58_1, hcz58_2, hcz58_3, hcz58_4, hcz58_5, hcz58_6, hcz58_7, hcz58_8, hcz58_9, hcz58_10, hfz58_0, hfz58_1, hfz58_2, hfz58_3, hfz58_4, hfz58_5, hfz58_6, hfz58_7, hfz58_8, hfz58_9, hfz58_10⟩ := cz11_ BK461.out
     go_wp2_with (first | ((with_reducible refine gate_callee (f := 50) rfl ?_); refine gm_ (some 107) Try.func50 #[.slice A0_6 l0_6.length c0_6, .int .i64 (-1), .int .i64 4] rfl ?_; (with_reducible refine (impl_areInside.calls k3 _ _ l0_6 (-1) 4 true _ ?side1 HC0_6.out A53.out).mono ?_); (case side1 => exact cb_ HR0_6.out HB.out); rintro e w' ⟨rfl, ⟨nd, rfl⟩⟩; refine ⟨_, rfl, ?_⟩) | (go_at_call 50; (with_reducible refine (impl_areInside.calls k3 _ _ l0_7 0 9 true _ ?side1 HC0_7.out A55.out).mono ?_); (case side1 => exact cb_ HR0_7.out HB.out); rintro e w' ⟨rfl, ⟨nd, rfl⟩⟩) | (go_at_call 22; (with_reducible refine (impl_inside.calls a0_10 0 1000000 t473 _ A57.out).mono ?_); rintro e w' ⟨rfl, ⟨nd, rfl⟩⟩))
     go_ret
     exact ⟨fin_, bb_ HB.out⟩
    rw [if_pos c45] at H
    have c45b0 : decide (x89_3 < (l0_8.length : Int)) = true := decide_eq_true c45
    clear c45
    by_cases c46 : 0 ≤ x89_3
    rotate_left
    ·rw [if_neg c46] at H
     exact absurd H (by simp)
    rw [if_pos c46] at H
    have c46b0 : decide (0 ≤ x89_3) = true := decide_eq_true c46
    clear c46
    by_cases c47 : x89_3 < (l0_8.length : Int)
    rotate_left
    ·rw [if_neg c47] at H
     exact absurd H (by simp)
    rw [if_pos c47] at H
    have c47b0 : decide (x89_3 < (l0_8.length : Int)) = true := decide_eq_true c47
    clear c47
    by_cases c48 : ((rd_L4 l0_8 x89_3).length : Int) > 60
    ·rw [if_pos c48] at H
     exact absurd H (by simp)
    rw [if_neg c48] at H
    have c48b0 : decide (60 < ((rd_L4 l0_8 x89_3).length : Int)) = false := decide_eq_false c48
    have c48b1 : decide (60 < (rd_L4 l0_8 x89_3).length) = false := decide_eq_false (by omega)
    clear c48
    obtain ⟨t470, A49, H⟩ := bi_ H
    by_cases c50 : t470 = true
    rotate_left
    ·replace c50 := Bool.eq_false_iff.mpr c50
     subst c50
     rw [if_neg (show ¬ (false = true) by decide)] at H
     exact absurd H (by simp)
    subst c50
    rw [if_pos rfl] at H
    have H' := am H
    clear H
    have p469 : 0 ≤ (x89_3 : Int) := of_decide_eq_true dg_
    have q469 : x89_3 < (l0_8.length : Int) := of_decide_eq_true dg_
    obtain ⟨ad469, A469_0, c469_0, e469, hx469_0, hl469_0, hi469_0⟩ := at_L4 HR0_8.out x89_3 p469 q469
    cases e469
    replace hx469_0 := hc_ HB hx469_0
    have HR469_0 := am hi469_0
    have HC469_0 := am hl469_0
    clear hi469_0 hl469_0
    replace p469 := eq_true p469
    replace q469 := eq_true q469
    obtain ⟨hcz51_0, hcz51_1, hcz51_2, hcz51_3, hcz51_4, hcz51_5, hcz51_6, hcz51_7, hcz51_8, hcz51_9, hcz51_10, hfz51_0, hfz51_1, hfz51_2, hfz51_3, hfz51_4, hfz51_5, hfz51_6, hfz51_7, hfz51_8, hfz51_9, hfz51_10⟩ := cz11_ BK461.out
    go_wp2_with (first | (go_at_call 49; (with_reducible refine (impl_areFlits.calls k3 a0_0 a0_1 _ _ (rd_L4 l0_8 x89_3) true _ ?side1 HC469_0.out A49.out).mono ?_); (case side1 => exact cb_ HR469_0.out HB.out); rintro e w52 ⟨rfl, hb⟩; replace BK461 := kb_ BK461 hb; replace HB := h9_ HB hb; (try clear hb)))
    go_roundg k3
    case measure => have := HJ2.out; have := HK2.out; have := HK3.out; omega
    case rel => exact ⟨(wrap64 (x89_3 + 1)), ef_, H', ⟨by have := HJ2.out; have := HK2.out; have := HK3.out; omega⟩, ⟨bq_ BK461.out⟩, ⟨bb_ HB.out⟩⟩
end Go.Proofs.Yteiemoooelpdaaa.PFnCreditSum
-- thin
