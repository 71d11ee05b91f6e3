/- The law's functions as plain functions, and their calls. No condition. -/
import Derived.Test.YtaofkfooijfjbaaPFnNewNetsx0
import Derived.Test.YtaofkfooijfjbaaPFnNewNetsx1
import Derived.Test.YtaofkfooijfjbaaPFnNewNetsx2
import Derived.Test.YtaofkfooijfjbaaPFnNewNetsx6
import Derived.Test.YtaofkfooijfjbaaPFnNewNetsx7
import Derived.Test.YtaofkfooijfjbaaPFnNewNetsx8
import Derived.Test.YtaofkfooijfjbaaPFnNewNetsx9
namespace Go.Proofs.Ytaofkfooijfjbaa.PFnNewNets
open Go.RowKit Go.Proofs.YtaofkfooijfjbaaW.PrintWords Go.Proofs.YtaofkfooijfjbaaW.PrintLast Go.Proofs.YtaofkfooijfjbaaW.PrintMore
attribute [local go_sem] max2_int min2_int max_two min_two max_three min_three max_four min_four
set_option linter.unusedVariables false
set_option maxHeartbeats 8000000
set_option maxRecDepth 100000
set_option linter.unusedSimpArgs false

/-! ### laws_FnNewNets: function 3 -/
def laws_FnNewNets.f (k : Nat) (l0 : List Int) : Option (Bool) := (laws_big.f l0).bind fun t361 => (if t361 = true then (some true) else ((spec_DrawClasses.f k l0).bind fun bt362 => ((impl_NetNew.f k bt362.1 bt362.2.1 bt362.2.2.1 bt362.2.2.2.1 bt362.2.2.2.2).bind fun bt375 => ((spec_DrawPlaces.f k l0).bind fun t404 => (if bt375.2.2.2.2.2.2.2.2.2.2.2 = true then ((impl_NetOk.f k bt375.1 bt375.2.1 bt375.2.2.1 bt375.2.2.2.1 bt375.2.2.2.2.1 bt375.2.2.2.2.2.1 bt375.2.2.2.2.2.2.1 bt375.2.2.2.2.2.2.2.1 bt375.2.2.2.2.2.2.2.2.1 bt375.2.2.2.2.2.2.2.2.2.1 bt375.2.2.2.2.2.2.2.2.2.2.1).bind fun t407 => (if t407 = true then ((impl_FlitsInside.f k bt375.1 bt375.2.1 bt375.2.2.1 bt375.2.2.2.1 bt375.2.2.2.2.1 bt375.2.2.2.2.2.1 bt375.2.2.2.2.2.2.1 bt375.2.2.2.2.2.2.2.1 bt375.2.2.2.2.2.2.2.2.1 bt375.2.2.2.2.2.2.2.2.2.1 bt375.2.2.2.2.2.2.2.2.2.2.1).bind fun t408 => (if t408 = 0 then ((impl_FlitsWaiting.f k bt375.1 bt375.2.1 bt375.2.2.1 bt375.2.2.2.1 bt375.2.2.2.2.1 bt375.2.2.2.2.2.1 bt375.2.2.2.2.2.2.1 bt375.2.2.2.2.2.2.2.1 bt375.2.2.2.2.2.2.2.2.1 bt375.2.2.2.2.2.2.2.2.2.1 bt375.2.2.2.2.2.2.2.2.2.2.1).bind fun t409 => (if t409 = 0 then (if bt375.2.2.2.2.2.2.2.2.2.2.1 = 0 then (if 0 < (t404.length : Int) then (if 1 < (t404.length : Int) then (if 2 < (t404.length : Int) then ((impl_BufferAt.f (Int.tmod (rd t404 0) 16) (Int.tmod (rd t404 1) 5) (Int.tmod (rd t404 2) 2)).bind fun t413 => (some (t413 == (wrap64 ((wrap64 ((wrap64 (10 * (Int.tmod (rd t404 0) 16))) + (wrap64 (2 * (Int.tmod (rd t404 1) 5))))) + (Int.tmod (rd t404 2) 2)))))) else (none)) else (none)) else (none)) else (none)) else (none))) else (none))) else (none))) else (none))))))
theorem laws_FnNewNets.mono : ∀ a0 k, LeO (laws_FnNewNets.f k a0) (laws_FnNewNets.f (k + 1) a0) := by
 intro a0 k
 unfold laws_FnNewNets.f
 repeat' (with_reducible first | exact impl_FlitsInside.mono .. | exact impl_FlitsWaiting.mono .. | exact impl_NetNew.mono .. | exact impl_NetOk.mono .. | exact spec_DrawClasses.mono .. | exact spec_DrawPlaces.mono .. | exact LeO.refl .. | exact LeO.none .. | refine LeO.ite ?_ ?_ | refine LeO.bind ?_ (fun _ => ?_))
def laws_FnNewNets.T6 : Bool × List (List Nat × List Nat) := (true, [([], []), ([0], [0]), ([1], [1]), ([2, 1, 1], [1, 2]), ([1, 3], [1, 3]), ([4, 3], [4]), ([5], [5]), ([6, 5, 5], [5, 6]), ([7, 5], [5, 7]), ([5, 8], [5, 8]), ([9, 7], [9]), ([10], [10]), ([11, 10, 10], [10, 11]), ([12, 10], [10, 12]), ([10, 13], [10, 13]), ([14, 12], [14]), ([15], [15]), ([16, 15], [15, 16]), ([17, 15], [15, 17]), ([15, 18], [15, 18]), ([19, 15], [19]), ([20], [20]), ([21, 20], [20, 21]), ([22, 20], [20, 22]), ([23, 20], [20, 23]), ([20], [20]), ([25, 20], [20, 25]), ([26, 20], [20, 26]), ([27, 20], [20, 27]), ([20], [20]), ([29, 20], [20, 29]), ([30, 20], [20, 30]), ([31, 20], [20, 31]), ([24, 28, 32, 20, 20], [20, 24, 28, 32]), ([20], [20]), ([34, 20], [20, 34]), ([35, 20], [20, 35]), ([36, 20], [20, 36]), ([37, 20], [20, 37]), ([20], [20]), ([39, 20], [20, 39]), ([40, 20], [20, 40]), ([41, 20], [20, 41]), ([42, 20], [20, 42]), ([38, 43, 20], [20, 38, 43]), ([20], [20]), ([45, 20], [20, 45]), ([46, 20], [20, 46]), ([47, 20], [20, 47]), ([44, 48, 20], [20, 44, 48]), ([33, 49, 20], [20, 33, 49]), ([20, 50], [20, 50]), ([51, 33, 0, 1, 2, 3, 4, 5, 6, 7, 8, 9, 10, 11, 12, 13, 14, 15, 16, 17, 18, 19, 20, 21, 22, 23, 24, 25, 26, 27, 28, 29, 30, 31, 32, 33, 34, 35, 36, 37, 38, 39, 40, 41, 42, 43, 44, 45, 46, 47, 48, 49, 50, 51], [51])])
def laws_FnNewNets.B6 : List Nat := [0, 1, 3, 7, 15, 31, 63, 127, 255, 511, 1023, 2047, 4095, 8191, 16383, 32767, 65535, 131071, 262143, 524287, 1048575, 2097151, 4194303, 8388607, 16777215, 2097151, 35651583, 102760447, 236978175, 2097151, 538968063, 1612709887, 3760193535, 8589934591, 2097151, 17181966335, 51541704703, 120261181439, 257700134911, 2097151, 549757911039, 1649269538815, 3848292794367, 8246339305471, 17575008272383, 2097151, 35184374185983, 105553118363647, 246290606718975, 562932775649279, 1125899906842623, 2251799813685247, 4503599627370495]
theorem laws_FnNewNets.tab6 : rtab .any (opsOf Try.f3 6) = laws_FnNewNets.T6 := by kernel_rfl
theorem laws_FnNewNets.bits6 : waitsOk laws_FnNewNets.T6.2 laws_FnNewNets.B6 = true := by kernel_rfl
theorem laws_FnNewNets.calls (k : Nat) (A0 : Option Addr) (c0 : Nat) (l0 : List Int) (r : Bool) (w : World) (hr0 : Kd.C (Kd.int .u8) w A0 l0.length l0) (hc0 : l0.length ≤ c0) (h : laws_FnNewNets.f k l0 = some r) :
  Calls Try.prog 3 #[.slice A0 l0.length c0] w fun e w' => e = .returned (.bool r) ∧ Below w.heap.size w w' := by
 have hu28 := Try.underlying28
 have hu32 := Try.underlying32
 have hu37 := Try.underlying37
 have HR0 := Aside0.mk hr0
 have HC0 := Aside0.mk hc0
 clear hr0 hc0
 have HB := Aside0.mk (Below.refl w.heap.size w)
 have H : ((laws_big.f l0).bind fun t361 => (if t361 = true then (some true) else ((spec_DrawClasses.f k l0).bind fun bt362 => ((impl_NetNew.f k bt362.1 bt362.2.1 bt362.2.2.1 bt362.2.2.2.1 bt362.2.2.2.2).bind fun bt375 => ((spec_DrawPlaces.f k l0).bind fun t404 => (if bt375.2.2.2.2.2.2.2.2.2.2.2 = true then ((impl_NetOk.f k bt375.1 bt375.2.1 bt375.2.2.1 bt375.2.2.2.1 bt375.2.2.2.2.1 bt375.2.2.2.2.2.1 bt375.2.2.2.2.2.2.1 bt375.2.2.2.2.2.2.2.1 bt375.2.2.2.2.2.2.2.2.1 bt375.2.2.2.2.2.2.2.2.2.1 bt375.2.2.2.2.2.2.2.2.2.2.1).bind fun t407 => (if t407 = true then ((impl_FlitsInside.f k bt375.1 bt375.2.1 bt375.2.2.1 bt375.2.2.2.1 bt375.2.2.2.2.1 bt375.2.2.2.2.2.1 bt375.2.2.2.2.2.2.1 bt375.2.2.2.2.2.2.2.1 bt375.2.2.2.2.2.2.2.2.1 bt375.2.2.2.2.2.2.2.2.2.1 bt375.2.2.2.2.2.2.2.2.2.2.1).bind fun t408 => (if t408 = 0 then ((impl_FlitsWaiting.f k bt375.1 bt375.2.1 bt375.2.2.1 bt375.2.2.2.1 bt375.2.2.2.2.1 bt375.2.2.2.2.2.1 bt375.2.2.2.2.2.2.1 bt375.2.2.2.2.2.2.2.1 bt375.2.2.2.2.2.2.2.2.1 bt375.2.2.2.2.2.2.2.2.2.1 bt375.2.2.2.2.2.2.2.2.2.2.1).bind fun t409 => (if t409 = 0 then (if bt375.2.2.2.2.2.2.2.2.2.2.1 = 0 then (if 0 < (t404.length : Int) then (if 1 < (t404.length : Int) then (if 2 < (t404.length : Int) then ((impl_BufferAt.f (Int.tmod (rd t404 0) 16) (Int.tmod (rd t404 1) 5) (Int.tmod (rd t404 2) 2)).bind fun t413 => (some (t413 == (wrap64 ((wrap64 ((wrap64 (10 * (Int.tmod (rd t404 0) 16))) + (wrap64 (2 * (Int.tmod (rd t404 1) 5))))) + (Int.tmod (rd t404 2) 2)))))) else (none)) else (none)) else (none)) else (none)) else (none))) else (none))) else (none))) else (none))))))) = some r := h
 clear h
 obtain ⟨t361, A2, H⟩ := bi_ H
 by_cases c3 : t361 = true
 ·subst c3
  rw [if_pos rfl] at H
  obtain rfl := Option.some.inj H
  go_enter Try.func3, Try.ntmps3
  go_wp2_with (first | ((with_reducible refine gate_callee (f := 8) rfl ?_); refine gm_ (some 9) Try.func8 #[.slice A0 l0.length c0] rfl ?_; (with_reducible refine (laws_big.calls _ _ l0 true _ ?side1 HC0.out A2.out).mono ?_); (case side1 => repeat (first | exact HR0.out | (with_reducible refine Kd.C_alloc ?_ _) | (with_reducible refine Kd.C_drewN ?_ _) | (with_reducible refine Kd.C_drew ?_))); rintro e w' ⟨rfl, ⟨nd, rfl⟩⟩; refine ⟨_, rfl, ?_⟩))
  go_ret
  exact ⟨fin_, bb_ HB.out⟩
 ·replace c3 := Bool.eq_false_iff.mpr c3
  subst c3
  rw [if_neg (show ¬ (false = true) by decide)] at H
  obtain ⟨⟨t362, t363, t364, t367, t370⟩, A4, H⟩ := bi_ H
  try dsimp only at H
  obtain ⟨⟨t375, t376, t377, t380, t383, t386, t389, t392, t395, t398, t401, t402⟩, A5, H⟩ := bi_ H
  try dsimp only at H
  obtain ⟨t404, A6, H⟩ := bi_ H
  by_cases c7 : t402 = true
  ·subst c7
   rw [if_pos rfl] at H
   obtain ⟨t407, A8, H⟩ := bi_ H
   by_cases c9 : t407 = true
   rotate_left
   ·replace c9 := Bool.eq_false_iff.mpr c9
    subst c9
    rw [if_neg (show ¬ (false = true) by decide)] at H
    exact absurd H (by simp)
   subst c9
   rw [if_pos rfl] at H
   obtain ⟨t408, A10, H⟩ := bi_ H
   by_cases c11 : t408 = 0
   rotate_left
   ·rw [if_neg c11] at H
    exact absurd H (by simp)
   rw [if_pos c11] at H
   have c11b0 : (t408 == 0) = true := beq_iff_eq.mpr c11
   have c11b1 : (t408 != 0) = false := bne_eq_false_iff_eq.mpr c11
   clear c11
   obtain ⟨t409, A12, H⟩ := bi_ H
   by_cases c13 : t409 = 0
   rotate_left
   ·rw [if_neg c13] at H
    exact absurd H (by simp)
   rw [if_pos c13] at H
   have c13b0 : (t409 == 0) = true := beq_iff_eq.mpr c13
   have c13b1 : (t409 != 0) = false := bne_eq_false_iff_eq.mpr c13
   clear c13
   by_cases c14 : t401 = 0
   rotate_left
   ·rw [if_neg c14] at H
    exact absurd H (by simp)
   rw [if_pos c14] at H
   have c14b0 : (t401 == 0) = true := beq_iff_eq.mpr c14
   have c14b1 : (t401 != 0) = false := bne_eq_false_iff_eq.mpr c14
   clear c14
   by_cases c15 : 0 < (t404.length : Int)
   rotate_left
   ·rw [if_neg c15] at H
    exact absurd H (by simp)
   rw [if_pos c15] at H
   have c15b0 : decide (0 < (t404.length : Int)) = true := decide_eq_true c15
   have c15b1 : decide (0 < t404.length) = true := decide_eq_true (by omega)
   clear c15
   by_cases c16 : 1 < (t404.length : Int)
   rotate_left
   ·rw [if_neg c16] at H
    exact absurd H (by simp)
   rw [if_pos c16] at H
   have c16b0 : decide (1 < (t404.length : Int)) = true := decide_eq_true c16
   have c16b1 : decide (1 < t404.length) = true := decide_eq_true (by omega)
   clear c16
   by_cases c17 : 2 < (t404.length : Int)
   rotate_left
   ·rw [if_neg c17] at H
    exact absurd H (by simp)
   rw [if_pos c17] at H
   have c17b0 : decide (2 < (t404.length : Int)) = true := decide_eq_true c17
   have c17b1 : decide (2 < t404.length) = true := decide_eq_true (by omega)
   clear c17
   obtain ⟨t413, A18, H⟩ := bi_ H
   obtain rfl := Option.some.inj H
   go_enter Try.func3, Try.ntmps3
   try go_wp2_with (first | ((with_reducible refine gate_callee (f := 8) rfl ?_); refine gm_ (some 9) Try.func8 #[.slice A0 l0.length c0] rfl ?_; (with_reducible refine (laws_big.calls _ _ l0 false _ ?side1 HC0.out A2.out).mono ?_); (case side1 => repeat (first | exact HR0.out | (with_reducible refine Kd.C_alloc ?_ _) | (with_reducible refine Kd.C_drewN ?_ _) | (with_reducible refine Kd.C_drew ?_))); rintro e w' ⟨rfl, ⟨nd, rfl⟩⟩; refine ⟨_, rfl, ?_⟩) | ((with_reducible refine gate_callee (f := 9) rfl ?_); refine gm_ (some 12) Try.func9 #[.slice A0 l0.length c0] rfl ?_; (with_reducible refine (spec_DrawClasses.calls k _ _ l0 t362 t363 t364 t367 t370 _ ?side1 HC0.out A4.out).mono ?_); (case side1 => repeat (first | exact HR0.out | (with_reducible refine Kd.C_alloc ?_ _) | (with_reducible refine Kd.C_drewN ?_ _) | (with_reducible refine Kd.C_drew ?_))); rintro e w19 ⟨v365, v368, v371, rfl, ho0, ho1, ho2, hb⟩; refine ⟨_, rfl, ?_⟩; have HO366 := Aside0.mk (Kd.R_lower ho0 (bz_ HB.out)); have HO369 := Aside0.mk (Kd.R_lower ho1 (bz_ HB.out)); have HO372 := Aside0.mk (Kd.R_lower ho2 (bz_ HB.out)); replace HB := hs_ HB hb; (try clear hb); (try clear ho0); (try clear ho1); (try clear ho2)) | ((with_reducible refine gate_dst (N := 3) rfl ?_); refine box_event ?hg (N := 3) ?hd (cs := #[.int .i64 0, .int .i64 0, .slice none 0 0]) (t := 28) ?hr ?_; (case hd => rfl); (case hg => rfl); (case hr => first | (go_simp; done) | (go_simp; rfl)); intro gb373 hg w20 hbox hb; replace HO366 := rb_ HO366 hb; replace HO369 := rb_ HO369 hb; replace HO372 := rb_ HO372 hb; have BK373 := Aside0.mk (hbox); have GW373 := gw_ hg HB; replace HB := hs_ HB hb; clear hb hbox hg) | ((with_reducible refine gate_dst (N := 4) rfl ?_); refine box_event ?hg (N := 4) ?hd (cs := #[.slice none 0 0, .slice none 0 0]) (t := 32) ?hr ?_; (case hd => rfl); (case hg => rfl); (case hr => first | (go_simp; done) | (go_simp; rfl)); intro gb374 hg w21 hbox hb; replace HO366 := rb_ HO366 hb; replace HO369 := rb_ HO369 hb; replace HO372 := rb_ HO372 hb; have BK374 := Aside0.mk (hbox); have GW374 := gw_ hg HB; replace HB := hs_ HB hb; have NB373_374 := nl_ hg BK373; have NB374_373 := ng_ hg BK373; replace BK373 := kb_ BK373 hb; clear hb hbox hg; have hnb22 := NB373_374.out; have hnc22 := NB374_373.out; obtain ⟨hcz23_0, hcz23_1, hcz23_2, hfz23_0, hfz23_1, hfz23_2⟩ := cz3_ BK373.out; obtain ⟨Ao24, co24, eo24⟩ := Kd.R_slice HO366.out; subst eo24; obtain ⟨Ao25, co25, eo25⟩ := Kd.R_slice HO369.out; subst eo25; obtain ⟨hcz26_0, hcz26_1, hfz26_0, hfz26_1⟩ := cz2_ BK374.out; obtain ⟨Ao27, co27, eo27⟩ := Kd.R_slice HO372.out; subst eo27) | ((with_reducible refine gate_callee (f := 10) rfl ?_); refine gm_ (some 18) Try.func10 #[.agg #[.int .i64 t362, .int .i64 t363, .slice Ao24 t364.length co24], .agg #[.slice Ao25 t367.length co25, .slice Ao27 t370.length co27]] rfl ?_; (with_reducible refine (impl_NetNew.calls k t362 t363 _ _ t364 _ _ t367 _ _ t370 t375 t376 t377 t380 t383 t386 t389 t392 t395 t398 t401 true _ ?side1 ?side2 ?side3 ?side4 ?side5 ?side6 A5.out).mono ?_); (case side1 => refine (Kd.R_reads' (e := 3) (base := w.heap.size) (ok := fun k_ => (some k_ ≠ (.slice Ao25 t367.length co25 : Value).ownBlock ∧ some k_ ≠ (.slice Ao27 t370.length co27 : Value).ownBlock)) (n := t364.length) (c := co24) ?_).2.2; exact (rm_ (Kd.R_mono (Kd.R_far (p := ⟨gb374, 1, none⟩) (Kd.R_far (p := ⟨gb374, 0, none⟩) (Kd.R_far (p := ⟨gb373, 2, none⟩) (Kd.R_far (p := ⟨gb373, 1, none⟩) (Kd.R_far (p := ⟨gb373, 0, none⟩) (Kd.R_types (Kd.R_types HO366.out BK373.out (by decide)) BK374.out (by decide)) (fun _ hk => hk.1.2) (.int .i64 t362)) (fun _ hk => hk.1.2) (.int .i64 t363)) (fun _ hk => hk.1.2) (.slice Ao24 t364.length co24)) (fun _ hk => hk.2) (.slice Ao25 t367.length co25)) (fun _ hk => hk.2) (.slice Ao27 t370.length co27)) (fun _ h_ => h_.1)) (fun _ h_ => h_.1))); (case side2 => exact (Kd.R_reads' HO366.out).2.1); (case side3 => refine (Kd.R_reads' (e := 3) (base := w.heap.size) (ok := fun k_ => (some k_ ≠ (.slice Ao24 t364.length co24 : Value).ownBlock ∧ some k_ ≠ (.slice Ao27 t370.length co27 : Value).ownBlock)) (n := t367.length) (c := co25) ?_).2.2; exact (rm_ (Kd.R_mono (Kd.R_far (p := ⟨gb374, 1, none⟩) (Kd.R_far (p := ⟨gb374, 0, none⟩) (Kd.R_far (p := ⟨gb373, 2, none⟩) (Kd.R_far (p := ⟨gb373, 1, none⟩) (Kd.R_far (p := ⟨gb373, 0, none⟩) (Kd.R_types (Kd.R_types HO369.out BK373.out (by decide)) BK374.out (by decide)) (fun _ hk => hk.1.2) (.int .i64 t362)) (fun _ hk => hk.1.2) (.int .i64 t363)) (fun _ hk => hk.1.2) (.slice Ao24 t364.length co24)) (fun _ hk => hk.2) (.slice Ao25 t367.length co25)) (fun _ hk => hk.2) (.slice Ao27 t370.length co27)) (fun _ h_ => h_.1)) (fun _ h_ => h_.1))); (case side4 => exact (Kd.R_reads' HO369.out).2.1); (case side5 => refine (Kd.R_reads' (e := 3) (base := w.heap.size) (ok := fun k_ => (some k_ ≠ (.slice Ao24 t364.length co24 : Value).ownBlock ∧ some k_ ≠ (.slice Ao25 t367.length co25 : Value).ownBlock)) (n := t370.length) (c := co27) ?_).2.2; exact (rm_ (Kd.R_mono (Kd.R_far (p := ⟨gb374, 1, none⟩) (Kd.R_far (p := ⟨gb374, 0, none⟩) (Kd.R_far (p := ⟨gb373, 2, none⟩) (Kd.R_far (p := ⟨gb373, 1, none⟩) (Kd.R_far (p := ⟨gb373, 0, none⟩) (Kd.R_types (Kd.R_types HO372.out BK373.out (by decide)) BK374.out (by decide)) (fun _ hk => hk.1.2) (.int .i64 t362)) (fun _ hk => hk.1.2) (.int .i64 t363)) (fun _ hk => hk.1.2) (.slice Ao24 t364.length co24)) (fun _ hk => hk.2) (.slice Ao25 t367.length co25)) (fun _ hk => hk.2) (.slice Ao27 t370.length co27)) (fun _ h_ => h_.1)) (fun _ h_ => h_.1))); (case side6 => exact (Kd.R_reads' HO372.out).2.1); rintro e w28 ⟨v378, v381, v384, v387, v390, v393, v396, v399, rfl, ho0, ho1, ho2, ho3, ho4, ho5, ho6, ho7, hb⟩; refine ⟨_, rfl, ?_⟩; have HO379 := Aside0.mk (Kd.R_lower (Kd.R_new' (Kd.R_new' (Kd.R_new' ho0 (Kd.R_lt (rm_ (Kd.R_mono (Kd.R_far (p := ⟨gb374, 1, none⟩) (Kd.R_far (p := ⟨gb374, 0, none⟩) (Kd.R_far (p := ⟨gb373, 2, none⟩) (Kd.R_far (p := ⟨gb373, 1, none⟩) (Kd.R_far (p := ⟨gb373, 0, none⟩) (Kd.R_types (Kd.R_types HO366.out BK373.out (by decide)) BK374.out (by decide)) (fun _ hk => hk.1.2) (.int .i64 t362)) (fun _ hk => hk.1.2) (.int .i64 t363)) (fun _ hk => hk.1.2) (.slice Ao24 t364.length co24)) (fun _ hk => hk.2) (.slice Ao25 t367.length co25)) (fun _ hk => hk.2) (.slice Ao27 t370.length co27)) (fun _ h_ => h_.1)) (fun _ h_ => h_.1)))) (Kd.R_lt (rm_ (Kd.R_mono (Kd.R_far (p := ⟨gb374, 1, none⟩) (Kd.R_far (p := ⟨gb374, 0, none⟩) (Kd.R_far (p := ⟨gb373, 2, none⟩) (Kd.R_far (p := ⟨gb373, 1, none⟩) (Kd.R_far (p := ⟨gb373, 0, none⟩) (Kd.R_types (Kd.R_types HO369.out BK373.out (by decide)) BK374.out (by decide)) (fun _ hk => hk.1.2) (.int .i64 t362)) (fun _ hk => hk.1.2) (.int .i64 t363)) (fun _ hk => hk.1.2) (.slice Ao24 t364.length co24)) (fun _ hk => hk.2) (.slice Ao25 t367.length co25)) (fun _ hk => hk.2) (.slice Ao27 t370.length co27)) (fun _ h_ => h_.1)) (fun _ h_ => h_.1)))) (Kd.R_lt (rm_ (Kd.R_mono (Kd.R_far (p := ⟨gb374, 1, none⟩) (Kd.R_far (p := ⟨gb374, 0, none⟩) (Kd.R_far (p := ⟨gb373, 2, none⟩) (Kd.R_far (p := ⟨gb373, 1, none⟩) (Kd.R_far (p := ⟨gb373, 0, none⟩) (Kd.R_types (Kd.R_types HO372.out BK373.out (by decide)) BK374.out (by decide)) (fun _ hk => hk.1.2) (.int .i64 t362)) (fun _ hk => hk.1.2) (.int .i64 t363)) (fun _ hk => hk.1.2) (.slice Ao24 t364.length co24)) (fun _ hk => hk.2) (.slice Ao25 t367.length co25)) (fun _ hk => hk.2) (.slice Ao27 t370.length co27)) (fun _ h_ => h_.1)) (fun _ h_ => h_.1)))) (bz_ HB.out)); have HO382 := Aside0.mk (Kd.R_lower (Kd.R_new' (Kd.R_new' (Kd.R_new' ho1 (Kd.R_lt (rm_ (Kd.R_mono (Kd.R_far (p := ⟨gb374, 1, none⟩) (Kd.R_far (p := ⟨gb374, 0, none⟩) (Kd.R_far (p := ⟨gb373, 2, none⟩) (Kd.R_far (p := ⟨gb373, 1, none⟩) (Kd.R_far (p := ⟨gb373, 0, none⟩) (Kd.R_types (Kd.R_types HO366.out BK373.out (by decide)) BK374.out (by decide)) (fun _ hk => hk.1.2) (.int .i64 t362)) (fun _ hk => hk.1.2) (.int .i64 t363)) (fun _ hk => hk.1.2) (.slice Ao24 t364.length co24)) (fun _ hk => hk.2) (.slice Ao25 t367.length co25)) (fun _ hk => hk.2) (.slice Ao27 t370.length co27)) (fun _ h_ => h_.1)) (fun _ h_ => h_.1)))) (Kd.R_lt (rm_ (Kd.R_mono (Kd.R_far (p := ⟨gb374, 1, none⟩) (Kd.R_far (p := ⟨gb374, 0, none⟩) (Kd.R_far (p := ⟨gb373, 2, none⟩) (Kd.R_far (p := ⟨gb373, 1, none⟩) (Kd.R_far (p := ⟨gb373, 0, none⟩) (Kd.R_types (Kd.R_types HO369.out BK373.out (by decide)) BK374.out (by decide)) (fun _ hk => hk.1.2) (.int .i64 t362)) (fun _ hk => hk.1.2) (.int .i64 t363)) (fun _ hk => hk.1.2) (.slice Ao24 t364.length co24)) (fun _ hk => hk.2) (.slice Ao25 t367.length co25)) (fun _ hk => hk.2) (.slice Ao27 t370.length co27)) (fun _ h_ => h_.1)) (fun _ h_ => h_.1)))) (Kd.R_lt (rm_ (Kd.R_mono (Kd.R_far (p := ⟨gb374, 1, none⟩) (Kd.R_far (p := ⟨gb374, 0, none⟩) (Kd.R_far (p := ⟨gb373, 2, none⟩) (Kd.R_far (p := ⟨gb373, 1, none⟩) (Kd.R_far (p := ⟨gb373, 0, none⟩) (Kd.R_types (Kd.R_types HO372.out BK373.out (by decide)) BK374.out (by decide)) (fun _ hk => hk.1.2) (.int .i64 t362)) (fun _ hk => hk.1.2) (.int .i64 t363)) (fun _ hk => hk.1.2) (.slice Ao24 t364.length co24)) (fun _ hk => hk.2) (.slice Ao25 t367.length co25)) (fun _ hk => hk.2) (.slice Ao27 t370.length co27)) (fun _ h_ => h_.1)) (fun _ h_ => h_.1)))) (bz_ HB.out)); have HO385 := Aside0.mk (Kd.R_lower (Kd.R_new' (Kd.R_new' (Kd.R_new' ho2 (Kd.R_lt (rm_ (Kd.R_mono (Kd.R_far (p := ⟨gb374, 1, none⟩) (Kd.R_far (p := ⟨gb374, 0, none⟩) (Kd.R_far (p := ⟨gb373, 2, none⟩) (Kd.R_far (p := ⟨gb373, 1, none⟩) (Kd.R_far (p := ⟨gb373, 0, none⟩) (Kd.R_types (Kd.R_types HO366.out BK373.out (by decide)) BK374.out (by decide)) (fun _ hk => hk.1.2) (.int .i64 t362)) (fun _ hk => hk.1.2) (.int .i64 t363)) (fun _ hk => hk.1.2) (.slice Ao24 t364.length co24)) (fun _ hk => hk.2) (.slice Ao25 t367.length co25)) (fun _ hk => hk.2) (.slice Ao27 t370.length co27)) (fun _ h_ => h_.1)) (fun _ h_ => h_.1)))) (Kd.R_lt (rm_ (Kd.R_mono (Kd.R_far (p := ⟨gb374, 1, none⟩) (Kd.R_far (p := ⟨gb374, 0, none⟩) (Kd.R_far (p := ⟨gb373, 2, none⟩) (Kd.R_far (p := ⟨gb373, 1, none⟩) (Kd.R_far (p := ⟨gb373, 0, none⟩) (Kd.R_types (Kd.R_types HO369.out BK373.out (by decide)) BK374.out (by decide)) (fun _ hk => hk.1.2) (.int .i64 t362)) (fun _ hk => hk.1.2) (.int .i64 t363)) (fun _ hk => hk.1.2) (.slice Ao24 t364.length co24)) (fun _ hk => hk.2) (.slice Ao25 t367.length co25)) (fun _ hk => hk.2) (.slice Ao27 t370.length co27)) (fun _ h_ => h_.1)) (fun _ h_ => h_.1)))) (Kd.R_lt (rm_ (Kd.R_mono (Kd.R_far (p := ⟨gb374, 1, none⟩) (Kd.R_far (p := ⟨gb374, 0, none⟩) (Kd.R_far (p := ⟨gb373, 2, none⟩) (Kd.R_far (p := ⟨gb373, 1, none⟩) (Kd.R_far (p := ⟨gb373, 0, none⟩) (Kd.R_types (Kd.R_types HO372.out BK373.out (by decide)) BK374.out (by decide)) (fun _ hk => hk.1.2) (.int .i64 t362)) (fun _ hk => hk.1.2) (.int .i64 t363)) (fun _ hk => hk.1.2) (.slice Ao24 t364.length co24)) (fun _ hk => hk.2) (.slice Ao25 t367.length co25)) (fun _ hk => hk.2) (.slice Ao27 t370.length co27)) (fun _ h_ => h_.1)) (fun _ h_ => h_.1)))) (bz_ HB.out)); have HO388 := Aside0.mk (Kd.S_lower ho3 (bz_ HB.out)); have HO391 := Aside0.mk (Kd.R_lower (Kd.R_new' (Kd.R_new' (Kd.R_new' ho4 (Kd.R_lt (rm_ (Kd.R_mono (Kd.R_far (p := ⟨gb374, 1, none⟩) (Kd.R_far (p := ⟨gb374, 0, none⟩) (Kd.R_far (p := ⟨gb373, 2, none⟩) (Kd.R_far (p := ⟨gb373, 1, none⟩) (Kd.R_far (p := ⟨gb373, 0, none⟩) (Kd.R_types (Kd.R_types HO366.out BK373.out (by decide)) BK374.out (by decide)) (fun _ hk => hk.1.2) (.int .i64 t362)) (fun _ hk => hk.1.2) (.int .i64 t363)) (fun _ hk => hk.1.2) (.slice Ao24 t364.length co24)) (fun _ hk => hk.2) (.slice Ao25 t367.length co25)) (fun _ hk => hk.2) (.slice Ao27 t370.length co27)) (fun _ h_ => h_.1)) (fun _ h_ => h_.1)))) (Kd.R_lt (rm_ (Kd.R_mono (Kd.R_far (p := ⟨gb374, 1, none⟩) (Kd.R_far (p := ⟨gb374, 0, none⟩) (Kd.R_far (p := ⟨gb373, 2, none⟩) (Kd.R_far (p := ⟨gb373, 1, none⟩) (Kd.R_far (p := ⟨gb373, 0, none⟩) (Kd.R_types (Kd.R_types HO369.out BK373.out (by decide)) BK374.out (by decide)) (fun _ hk => hk.1.2) (.int .i64 t362)) (fun _ hk => hk.1.2) (.int .i64 t363)) (fun _ hk => hk.1.2) (.slice Ao24 t364.length co24)) (fun _ hk => hk.2) (.slice Ao25 t367.length co25)) (fun _ hk => hk.2) (.slice Ao27 t370.length co27)) (fun _ h_ => h_.1)) (fun _ h_ => h_.1)))) (Kd.R_lt (rm_ (Kd.R_mono (Kd.R_far (p := ⟨gb374, 1, none⟩) (Kd.R_far (p := ⟨gb374, 0, none⟩) (Kd.R_far (p := ⟨gb373, 2, none⟩) (Kd.R_far (p := ⟨gb373, 1, none⟩) (Kd.R_far (p := ⟨gb373, 0, none⟩) (Kd.R_types (Kd.R_types HO372.out BK373.out (by decide)) BK374.out (by decide)) (fun _ hk => hk.1.2) (.int .i64 t362)) (fun _ hk => hk.1.2) (.int .i64 t363)) (fun _ hk => hk.1.2) (.slice Ao24 t364.length co24)) (fun _ hk => hk.2) (.slice Ao25 t367.length co25)) (fun _ hk => hk.2) (.slice Ao27 t370.length co27)) (fun _ h_ => h_.1)) (fun _ h_ => h_.1)))) (bz_ HB.out)); have HO394 := Aside0.mk (Kd.R_lower (Kd.R_new' (Kd.R_new' (Kd.R_new' ho5 (Kd.R_lt (rm_ (Kd.R_mono (Kd.R_far (p := ⟨gb374, 1, none⟩) (Kd.R_far (p := ⟨gb374, 0, none⟩) (Kd.R_far (p := ⟨gb373, 2, none⟩) (Kd.R_far (p := ⟨gb373, 1, none⟩) (Kd.R_far (p := ⟨gb373, 0, none⟩) (Kd.R_types (Kd.R_types HO366.out BK373.out (by decide)) BK374.out (by decide)) (fun _ hk => hk.1.2) (.int .i64 t362)) (fun _ hk => hk.1.2) (.int .i64 t363)) (fun _ hk => hk.1.2) (.slice Ao24 t364.length co24)) (fun _ hk => hk.2) (.slice Ao25 t367.length co25)) (fun _ hk => hk.2) (.slice Ao27 t370.length co27)) (fun _ h_ => h_.1)) (fun _ h_ => h_.1)))) (Kd.R_lt (rm_ (Kd.R_mono (Kd.R_far (p := ⟨gb374, 1, none⟩) (Kd.R_far (p := ⟨gb374, 0, none⟩) (Kd.R_far (p := ⟨gb373, 2, none⟩) (Kd.R_far (p := ⟨gb373, 1, none⟩) (Kd.R_far (p := ⟨gb373, 0, none⟩) (Kd.R_types (Kd.R_types HO369.out BK373.out (by decide)) BK374.out (by decide)) (fun _ hk => hk.1.2) (.int .i64 t362)) (fun _ hk => hk.1.2) (.int .i64 t363)) (fun _ hk => hk.1.2) (.slice Ao24 t364.length co24)) (fun _ hk => hk.2) (.slice Ao25 t367.length co25)) (fun _ hk => hk.2) (.slice Ao27 t370.length co27)) (fun _ h_ => h_.1)) (fun _ h_ => h_.1)))) (Kd.R_lt (rm_ (Kd.R_mono (Kd.R_far (p := ⟨gb374, 1, none⟩) (Kd.R_far (p := ⟨gb374, 0, none⟩) (Kd.R_far (p := ⟨gb373, 2, none⟩) (Kd.R_far (p := ⟨gb373, 1, none⟩) (Kd.R_far (p := ⟨gb373, 0, none⟩) (Kd.R_types (Kd.R_types HO372.out BK373.out (by decide)) BK374.out (by decide)) (fun _ hk => hk.1.2) (.int .i64 t362)) (fun _ hk => hk.1.2) (.int .i64 t363)) (fun _ hk => hk.1.2) (.slice Ao24 t364.length co24)) (fun _ hk => hk.2) (.slice Ao25 t367.length co25)) (fun _ hk => hk.2) (.slice Ao27 t370.length co27)) (fun _ h_ => h_.1)) (fun _ h_ => h_.1)))) (bz_ HB.out)); replace HO366 := Aside0.mk (Kd.R_mono (Kd.R_told (Kd.R_told (Kd.R_told (Kd.R_told (Kd.R_told (Kd.R_old (rm_ (Kd.R_mono (Kd.R_far (p := ⟨gb374, 1, none⟩) (Kd.R_far (p := ⟨gb374, 0, none⟩) (Kd.R_far (p := ⟨gb373, 2, none⟩) (Kd.R_far (p := ⟨gb373, 1, none⟩) (Kd.R_far (p := ⟨gb373, 0, none⟩) (Kd.R_types (Kd.R_types HO366.out BK373.out (by decide)) BK374.out (by decide)) (fun _ hk => hk.1.2) (.int .i64 t362)) (fun _ hk => hk.1.2) (.int .i64 t363)) (fun _ hk => hk.1.2) (.slice Ao24 t364.length co24)) (fun _ hk => hk.2) (.slice Ao25 t367.length co25)) (fun _ hk => hk.2) (.slice Ao27 t370.length co27)) (fun _ h_ => h_.1)) (fun _ h_ => h_.1)) hb) (Kd.R_base ho0)) (Kd.R_base ho1)) (Kd.R_base ho2)) (Kd.R_base ho4)) (Kd.R_base ho5)) (fun _ h_ => h_.1)); replace HO369 := Aside0.mk (Kd.R_mono (Kd.R_told (Kd.R_told (Kd.R_told (Kd.R_told (Kd.R_told (Kd.R_old (rm_ (Kd.R_mono (Kd.R_far (p := ⟨gb374, 1, none⟩) (Kd.R_far (p := ⟨gb374, 0, none⟩) (Kd.R_far (p := ⟨gb373, 2, none⟩) (Kd.R_far (p := ⟨gb373, 1, none⟩) (Kd.R_far (p := ⟨gb373, 0, none⟩) (Kd.R_types (Kd.R_types HO369.out BK373.out (by decide)) BK374.out (by decide)) (fun _ hk => hk.1.2) (.int .i64 t362)) (fun _ hk => hk.1.2) (.int .i64 t363)) (fun _ hk => hk.1.2) (.slice Ao24 t364.length co24)) (fun _ hk => hk.2) (.slice Ao25 t367.length co25)) (fun _ hk => hk.2) (.slice Ao27 t370.length co27)) (fun _ h_ => h_.1)) (fun _ h_ => h_.1)) hb) (Kd.R_base ho0)) (Kd.R_base ho1)) (Kd.R_base ho2)) (Kd.R_base ho4)) (Kd.R_base ho5)) (fun _ h_ => h_.1)); replace HO372 := Aside0.mk (Kd.R_mono (Kd.R_told (Kd.R_told (Kd.R_told (Kd.R_told (Kd.R_told (Kd.R_old (rm_ (Kd.R_mono (Kd.R_far (p := ⟨gb374, 1, none⟩) (Kd.R_far (p := ⟨gb374, 0, none⟩) (Kd.R_far (p := ⟨gb373, 2, none⟩) (Kd.R_far (p := ⟨gb373, 1, none⟩) (Kd.R_far (p := ⟨gb373, 0, none⟩) (Kd.R_types (Kd.R_types HO372.out BK373.out (by decide)) BK374.out (by decide)) (fun _ hk => hk.1.2) (.int .i64 t362)) (fun _ hk => hk.1.2) (.int .i64 t363)) (fun _ hk => hk.1.2) (.slice Ao24 t364.length co24)) (fun _ hk => hk.2) (.slice Ao25 t367.length co25)) (fun _ hk => hk.2) (.slice Ao27 t370.length co27)) (fun _ h_ => h_.1)) (fun _ h_ => h_.1)) hb) (Kd.R_base ho0)) (Kd.R_base ho1)) (Kd.R_base ho2)) (Kd.R_base ho4)) (Kd.R_base ho5)) (fun _ h_ => h_.1)); have HO397 := Aside0.mk (Kd.S_lower ho6 (bz_ HB.out)); have HO400 := Aside0.mk (Kd.S_lower ho7 (bz_ HB.out)); replace BK373 := Aside0.mk (blk_below (g := gb373) (o := .cells #[.int .i64 t362, .int .i64 t363, .slice Ao24 t364.length co24] 28 (0, 0)) (by (with_reducible repeat (first | refine blk_drewN ?_ _ | refine blk_drew ?_ | refine blk_alloc ?_ _)); refine blk_far ?_ NB373_374.out _; (with_reducible repeat (first | refine blk_drewN ?_ _ | refine blk_drew ?_ | refine blk_alloc ?_ _)); refine blk_far ?_ NB373_374.out _; (with_reducible repeat (first | refine blk_drewN ?_ _ | refine blk_drew ?_ | refine blk_alloc ?_ _)); refine blk_put (cs := #[.int .i64 t362, .int .i64 t363, .slice none 0 0]) ?_ 2 _ rfl; (with_reducible repeat (first | refine blk_drewN ?_ _ | refine blk_drew ?_ | refine blk_alloc ?_ _)); refine blk_put (cs := #[.int .i64 t362, .int .i64 0, .slice none 0 0]) ?_ 1 _ rfl; (with_reducible repeat (first | refine blk_drewN ?_ _ | refine blk_drew ?_ | refine blk_alloc ?_ _)); refine blk_put (cs := #[.int .i64 0, .int .i64 0, .slice none 0 0]) ?_ 0 _ rfl; (with_reducible repeat (first | refine blk_drewN ?_ _ | refine blk_drew ?_ | refine blk_alloc ?_ _)); exact BK373.out) hb); replace BK374 := Aside0.mk (blk_below (g := gb374) (o := .cells #[.slice Ao25 t367.length co25, .slice Ao27 t370.length co27] 32 (0, 0)) (by (with_reducible repeat (first | refine blk_drewN ?_ _ | refine blk_drew ?_ | refine blk_alloc ?_ _)); refine blk_put (cs := #[.slice Ao25 t367.length co25, .slice none 0 0]) ?_ 1 _ rfl; (with_reducible repeat (first | refine blk_drewN ?_ _ | refine blk_drew ?_ | refine blk_alloc ?_ _)); refine blk_put (cs := #[.slice none 0 0, .slice none 0 0]) ?_ 0 _ rfl; (with_reducible repeat (first | refine blk_drewN ?_ _ | refine blk_drew ?_ | refine blk_alloc ?_ _)); refine blk_far ?_ NB374_373.out _; (with_reducible repeat (first | refine blk_drewN ?_ _ | refine blk_drew ?_ | refine blk_alloc ?_ _)); refine blk_far ?_ NB374_373.out _; (with_reducible repeat (first | refine blk_drewN ?_ _ | refine blk_drew ?_ | refine blk_alloc ?_ _)); refine blk_far ?_ NB374_373.out _; (with_reducible repeat (first | refine blk_drewN ?_ _ | refine blk_drew ?_ | refine blk_alloc ?_ _)); exact BK374.out) hb); replace HB := hs_ HB hb; (try clear hb); (try clear ho0); (try clear ho1); (try clear ho2); (try clear ho3); (try clear ho4); (try clear ho5); (try clear ho6); (try clear ho7)) | ((with_reducible refine gate_dst (N := 5) rfl ?_); refine box_event ?hg (N := 5) ?hd (cs := #[.int .i64 0, .int .i64 0, .slice none 0 0, .slice none 0 0, .slice none 0 0, .slice none 0 0, .slice none 0 0, .slice none 0 0, .slice none 0 0, .slice none 0 0, .int .i64 0]) (t := 37) ?hr ?_; (case hd => rfl); (case hg => rfl); (case hr => first | (go_simp; done) | (go_simp; rfl)); intro gb403 hg w29 hbox hb; replace HO366 := rb_ HO366 hb; replace HO369 := rb_ HO369 hb; replace HO372 := rb_ HO372 hb; replace HO379 := rb_ HO379 hb; replace HO382 := rb_ HO382 hb; replace HO385 := rb_ HO385 hb; replace HO388 := Aside0.mk (Kd.S_below (sa_ HO388.out) hb); replace HO391 := rb_ HO391 hb; replace HO394 := rb_ HO394 hb; replace HO397 := Aside0.mk (Kd.S_below (sa_ HO397.out) hb); replace HO400 := Aside0.mk (Kd.S_below (sa_ HO400.out) hb); have BK403 := Aside0.mk (hbox); have GW403 := gw_ hg HB; replace HB := hs_ HB hb; have NB373_403 := nl_ hg BK373; have NB403_373 := ng_ hg BK373; replace BK373 := kb_ BK373 hb; have NB374_403 := nl_ hg BK374; have NB403_374 := ng_ hg BK374; replace BK374 := kb_ BK374 hb; clear hb hbox hg; have hnb30 := NB403_373.out; have hnc30 := NB373_403.out; have hnb31 := NB403_374.out; have hnc31 := NB374_403.out; obtain ⟨hcz32_0, hcz32_1, hcz32_2, hcz32_3, hcz32_4, hcz32_5, hcz32_6, hcz32_7, hcz32_8, hcz32_9, hcz32_10, hfz32_0, hfz32_1, hfz32_2, hfz32_3, hfz32_4, hfz32_5, hfz32_6, hfz32_7, hfz32_8, hfz32_9, hfz32_10⟩ := cz11_ BK403.out; obtain ⟨Ao33, co33, eo33⟩ := Kd.R_slice HO379.out; subst eo33; obtain ⟨Ao34, co34, eo34⟩ := Kd.R_slice HO382.out; subst eo34; obtain ⟨Ao35, co35, eo35⟩ := Kd.R_slice HO385.out; subst eo35; obtain ⟨Ao36, co36, eo36⟩ := Kd.S_slice HO388.out; subst eo36; obtain ⟨Ao37, co37, eo37⟩ := Kd.R_slice HO391.out; subst eo37; obtain ⟨Ao38, co38, eo38⟩ := Kd.R_slice HO394.out; subst eo38; obtain ⟨Ao39, co39, eo39⟩ := Kd.S_slice HO397.out; subst eo39; obtain ⟨Ao40, co40, eo40⟩ := Kd.S_slice HO400.out; subst eo40) | ((with_reducible refine gate_callee (f := 11) rfl ?_); refine gm_ (some 22) Try.func11 #[.slice A0 l0.length c0] rfl ?_; (with_reducible refine (spec_DrawPlaces.calls k _ _ l0 t404 _ ?side1 HC0.out A6.out).mono ?_); (case side1 => exact Kd.C_below HR0.out (by repeat (first | (with_reducible first | exact HB.out | apply below_alloc | apply pw_below_drewN | apply below_drew1 | refine below_set ?_ GW373.out | refine below_set ?_ GW374.out | refine below_set ?_ GW403.out) | exact HB.out))); rintro e w41 ⟨v405, rfl, ho0, hb⟩; refine ⟨_, rfl, ?_⟩; replace HO388 := Aside0.mk (Kd.S_below (sm_ (Kd.S_types HO388.out BK403.out (by decide)) (fun _ h_ => h_.1)) hb); replace HO397 := Aside0.mk (Kd.S_below (sm_ (Kd.S_types HO397.out BK403.out (by decide)) (fun _ h_ => h_.1)) hb); replace HO400 := Aside0.mk (Kd.S_below (sm_ (Kd.S_types HO400.out BK403.out (by decide)) (fun _ h_ => h_.1)) hb); have HO406 := Aside0.mk (Kd.R_lower (Kd.R_new' (Kd.R_new' (Kd.R_new' (Kd.R_new' (Kd.R_new' (Kd.R_new' (Kd.R_new' (Kd.R_new' ho0 (Kd.R_lt (rm_ (Kd.R_types HO366.out BK403.out (by decide)) (fun _ h_ => h_.1)))) (Kd.R_lt (rm_ (Kd.R_types HO369.out BK403.out (by decide)) (fun _ h_ => h_.1)))) (Kd.R_lt (rm_ (Kd.R_types HO372.out BK403.out (by decide)) (fun _ h_ => h_.1)))) (Kd.R_lt (rm_ (Kd.R_types HO379.out BK403.out (by decide)) (fun _ h_ => h_.1)))) (Kd.R_lt (rm_ (Kd.R_types HO382.out BK403.out (by decide)) (fun _ h_ => h_.1)))) (Kd.R_lt (rm_ (Kd.R_types HO385.out BK403.out (by decide)) (fun _ h_ => h_.1)))) (Kd.R_lt (rm_ (Kd.R_types HO391.out BK403.out (by decide)) (fun _ h_ => h_.1)))) (Kd.R_lt (rm_ (Kd.R_types HO394.out BK403.out (by decide)) (fun _ h_ => h_.1)))) (bz_ HB.out)); replace HO366 := Aside0.mk (Kd.R_elder' (rm_ (Kd.R_types HO366.out BK403.out (by decide)) (fun _ h_ => h_.1)) (Kd.R_base ho0) hb); replace HO369 := Aside0.mk (Kd.R_elder' (rm_ (Kd.R_types HO369.out BK403.out (by decide)) (fun _ h_ => h_.1)) (Kd.R_base ho0) hb); replace HO372 := Aside0.mk (Kd.R_elder' (rm_ (Kd.R_types HO372.out BK403.out (by decide)) (fun _ h_ => h_.1)) (Kd.R_base ho0) hb); replace HO379 := Aside0.mk (Kd.R_elder' (rm_ (Kd.R_types HO379.out BK403.out (by decide)) (fun _ h_ => h_.1)) (Kd.R_base ho0) hb); replace HO382 := Aside0.mk (Kd.R_elder' (rm_ (Kd.R_types HO382.out BK403.out (by decide)) (fun _ h_ => h_.1)) (Kd.R_base ho0) hb); replace HO385 := Aside0.mk (Kd.R_elder' (rm_ (Kd.R_types HO385.out BK403.out (by decide)) (fun _ h_ => h_.1)) (Kd.R_base ho0) hb); replace HO391 := Aside0.mk (Kd.R_elder' (rm_ (Kd.R_types HO391.out BK403.out (by decide)) (fun _ h_ => h_.1)) (Kd.R_base ho0) hb); replace HO394 := Aside0.mk (Kd.R_elder' (rm_ (Kd.R_types HO394.out BK403.out (by decide)) (fun _ h_ => h_.1)) (Kd.R_base ho0) hb); replace BK373 := Aside0.mk (blk_below (bf_ BK373.out) hb); replace BK374 := Aside0.mk (blk_below (bf_ BK374.out) hb); replace BK403 := Aside0.mk (blk_below (g := gb403) (o := .cells #[.int .i64 t375, .int .i64 t376, .slice Ao33 t377.length co33, .slice Ao34 t380.length co34, .slice Ao35 t383.length co35, .slice Ao36 t386.length co36, .slice Ao37 t389.length co37, .slice Ao38 t392.length co38, .slice Ao39 t395.length co39, .slice Ao40 t398.length co40, .int .i64 t401] 37 (0, 0)) (by (with_reducible repeat (first | refine blk_drewN ?_ _ | refine blk_drew ?_ | refine blk_alloc ?_ _)); refine blk_put (cs := #[.int .i64 t375, .int .i64 t376, .slice Ao33 t377.length co33, .slice Ao34 t380.length co34, .slice Ao35 t383.length co35, .slice Ao36 t386.length co36, .slice Ao37 t389.length co37, .slice Ao38 t392.length co38, .slice Ao39 t395.length co39, .slice Ao40 t398.length co40, .int .i64 0]) ?_ 10 _ rfl; (with_reducible repeat (first | refine blk_drewN ?_ _ | refine blk_drew ?_ | refine blk_alloc ?_ _)); refine blk_put (cs := #[.int .i64 t375, .int .i64 t376, .slice Ao33 t377.length co33, .slice Ao34 t380.length co34, .slice Ao35 t383.length co35, .slice Ao36 t386.length co36, .slice Ao37 t389.length co37, .slice Ao38 t392.length co38, .slice Ao39 t395.length co39, .slice none 0 0, .int .i64 0]) ?_ 9 _ rfl; (with_reducible repeat (first | refine blk_drewN ?_ _ | refine blk_drew ?_ | refine blk_alloc ?_ _)); refine blk_put (cs := #[.int .i64 t375, .int .i64 t376, .slice Ao33 t377.length co33, .slice Ao34 t380.length co34, .slice Ao35 t383.length co35, .slice Ao36 t386.length co36, .slice Ao37 t389.length co37, .slice Ao38 t392.length co38, .slice none 0 0, .slice none 0 0, .int .i64 0]) ?_ 8 _ rfl; (with_reducible repeat (first | refine blk_drewN ?_ _ | refine blk_drew ?_ | refine blk_alloc ?_ _)); refine blk_put (cs := #[.int .i64 t375, .int .i64 t376, .slice Ao33 t377.length co33, .slice Ao34 t380.length co34, .slice Ao35 t383.length co35, .slice Ao36 t386.length co36, .slice Ao37 t389.length co37, .slice none 0 0, .slice none 0 0, .slice none 0 0, .int .i64 0]) ?_ 7 _ rfl; (with_reducible repeat (first | refine blk_drewN ?_ _ | refine blk_drew ?_ | refine blk_alloc ?_ _)); refine blk_put (cs := #[.int .i64 t375, .int .i64 t376, .slice Ao33 t377.length co33, .slice Ao34 t380.length co34, .slice Ao35 t383.length co35, .slice Ao36 t386.length co36, .slice none 0 0, .slice none 0 0, .slice none 0 0, .slice none 0 0, .int .i64 0]) ?_ 6 _ rfl; (with_reducible repeat (first | refine blk_drewN ?_ _ | refine blk_drew ?_ | refine blk_alloc ?_ _)); refine blk_put (cs := #[.int .i64 t375, .int .i64 t376, .slice Ao33 t377.length co33, .slice Ao34 t380.length co34, .slice Ao35 t383.length co35, .slice none 0 0, .slice none 0 0, .slice none 0 0, .slice none 0 0, .slice none 0 0, .int .i64 0]) ?_ 5 _ rfl; (with_reducible repeat (first | refine blk_drewN ?_ _ | refine blk_drew ?_ | refine blk_alloc ?_ _)); refine blk_put (cs := #[.int .i64 t375, .int .i64 t376, .slice Ao33 t377.length co33, .slice Ao34 t380.length co34, .slice none 0 0, .slice none 0 0, .slice none 0 0, .slice none 0 0, .slice none 0 0, .slice none 0 0, .int .i64 0]) ?_ 4 _ rfl; (with_reducible repeat (first | refine blk_drewN ?_ _ | refine blk_drew ?_ | refine blk_alloc ?_ _)); refine blk_put (cs := #[.int .i64 t375, .int .i64 t376, .slice Ao33 t377.length co33, .slice none 0 0, .slice none 0 0, .slice none 0 0, .slice none 0 0, .slice none 0 0, .slice none 0 0, .slice none 0 0, .int .i64 0]) ?_ 3 _ rfl; (with_reducible repeat (first | refine blk_drewN ?_ _ | refine blk_drew ?_ | refine blk_alloc ?_ _)); refine blk_put (cs := #[.int .i64 t375, .int .i64 t376, .slice none 0 0, .slice none 0 0, .slice none 0 0, .slice none 0 0, .slice none 0 0, .slice none 0 0, .slice none 0 0, .slice none 0 0, .int .i64 0]) ?_ 2 _ rfl; (with_reducible repeat (first | refine blk_drewN ?_ _ | refine blk_drew ?_ | refine blk_alloc ?_ _)); refine blk_put (cs := #[.int .i64 t375, .int .i64 0, .slice none 0 0, .slice none 0 0, .slice none 0 0, .slice none 0 0, .slice none 0 0, .slice none 0 0, .slice none 0 0, .slice none 0 0, .int .i64 0]) ?_ 1 _ rfl; (with_reducible repeat (first | refine blk_drewN ?_ _ | refine blk_drew ?_ | refine blk_alloc ?_ _)); refine blk_put (cs := #[.int .i64 0, .int .i64 0, .slice none 0 0, .slice none 0 0, .slice none 0 0, .slice none 0 0, .slice none 0 0, .slice none 0 0, .slice none 0 0, .slice none 0 0, .int .i64 0]) ?_ 0 _ rfl; (with_reducible repeat (first | refine blk_drewN ?_ _ | refine blk_drew ?_ | refine blk_alloc ?_ _)); exact BK403.out) hb); replace HB := hs_ HB hb; (try clear hb); (try clear ho0)))
   replace HO366 := Aside0.mk (Kd.R_drew HO366.out)
   replace HO369 := Aside0.mk (Kd.R_drew HO369.out)
   replace HO372 := Aside0.mk (Kd.R_drew HO372.out)
   replace HO379 := Aside0.mk (Kd.R_drew HO379.out)
   replace HO382 := Aside0.mk (Kd.R_drew HO382.out)
   replace HO385 := Aside0.mk (Kd.R_drew HO385.out)
   replace HO388 := Aside0.mk (Kd.S_drew HO388.out)
   replace HO391 := Aside0.mk (Kd.R_drew HO391.out)
   replace HO394 := Aside0.mk (Kd.R_drew HO394.out)
   replace HO397 := Aside0.mk (Kd.S_drew HO397.out)
   replace HO400 := Aside0.mk (Kd.S_drew HO400.out)
   replace HO406 := Aside0.mk (Kd.R_drew HO406.out)
   replace BK373 := Aside0.mk (blk_drew BK373.out)
   replace BK374 := Aside0.mk (blk_drew BK374.out)
   replace BK403 := Aside0.mk (blk_drew BK403.out)
   replace HB := Aside0.mk (below_drew1 HB.out)
   obtain ⟨Ao41, co41, eo41⟩ := Kd.R_slice HO406.out
   (first | subst eo41 | (injection eo41 with f1_ f2_ f3_; have f4_ := f1_.symm; have f5_ := f3_.symm; clear f1_ f2_ f3_; subst f4_; subst f5_))
   have p410 : 0 ≤ (0 : Int) := (by omega)
   have q410 : 0 < (t404.length : Int) := of_decide_eq_true dg_
   obtain ⟨ad410, e410, hx410_0⟩ := Kd.at_int (Kd.R_reads' HO406.out).2.2 0 p410 q410
   cases e410
   have qi410 : (0 < t404.length) = True := eq_true (by omega)
   (try rw [show ((0 : Int)).toNat = 0 from rfl] at hx410_0)
   (try rw [Addr.add_zero'] at hx410_0)
   replace p410 := eq_true p410
   replace q410 := eq_true q410
   have p411 : 0 ≤ (1 : Int) := (by omega)
   have q411 : 1 < (t404.length : Int) := of_decide_eq_true dg_
   obtain ⟨ad411, e411, hx411_0⟩ := Kd.at_int (Kd.R_reads' HO406.out).2.2 1 p411 q411
   obtain rfl : ad410 = ad411 := (by injection e411)
   (try simp only [show (1 : Int).toNat = 1 from rfl, Nat.reduceMul, Nat.reduceEqDiff, Go.Addr.add, ↓reduceIte] at hx411_0)
   have qi411 : (1 < t404.length) = True := eq_true (by omega)
   (try rw [show ((1 : Int)).toNat = 1 from rfl] at hx411_0)
   replace p411 := eq_true p411
   replace q411 := eq_true q411
   have p412 : 0 ≤ (2 : Int) := (by omega)
   have q412 : 2 < (t404.length : Int) := of_decide_eq_true dg_
   obtain ⟨ad412, e412, hx412_0⟩ := Kd.at_int (Kd.R_reads' HO406.out).2.2 2 p412 q412
   obtain rfl : ad410 = ad412 := (by injection e412)
   (try simp only [show (2 : Int).toNat = 2 from rfl, Nat.reduceMul, Nat.reduceEqDiff, Go.Addr.add, ↓reduceIte] at hx412_0)
   have qi412 : (2 < t404.length) = True := eq_true (by omega)
   (try rw [show ((2 : Int)).toNat = 2 from rfl] at hx412_0)
   replace p412 := eq_true p412
   replace q412 := eq_true q412
   have p414 : 0 ≤ (0 : Int) := (by omega)
   have q414 : 0 < (t404.length : Int) := of_decide_eq_true dg_
   obtain ⟨ad414, e414, hx414_0⟩ := Kd.at_int (Kd.R_reads' HO406.out).2.2 0 p414 q414
   obtain rfl : ad410 = ad414 := (by injection e414)
   have qi414 : (0 < t404.length) = True := eq_true (by omega)
   (try rw [show ((0 : Int)).toNat = 0 from rfl] at hx414_0)
   (try rw [Addr.add_zero'] at hx414_0)
   replace p414 := eq_true p414
   replace q414 := eq_true q414
   have p415 : 0 ≤ (1 : Int) := (by omega)
   have q415 : 1 < (t404.length : Int) := of_decide_eq_true dg_
   obtain ⟨ad415, e415, hx415_0⟩ := Kd.at_int (Kd.R_reads' HO406.out).2.2 1 p415 q415
   obtain rfl : ad410 = ad415 := (by injection e415)
   (try simp only [show (1 : Int).toNat = 1 from rfl, Nat.reduceMul, Nat.reduceEqDiff, Go.Addr.add, ↓reduceIte] at hx415_0)
   have qi415 : (1 < t404.length) = True := eq_true (by omega)
   (try rw [show ((1 : Int)).toNat = 1 from rfl] at hx415_0)
   replace p415 := eq_true p415
   replace q415 := eq_true q415
   have p416 : 0 ≤ (2 : Int) := (by omega)
   have q416 : 2 < (t404.length : Int) := of_decide_eq_true dg_
   obtain ⟨ad416, e416, hx416_0⟩ := Kd.at_int (Kd.R_reads' HO406.out).2.2 2 p416 q416
   obtain rfl : ad410 = ad416 := (by injection e416)
   (try simp only [show (2 : Int).toNat = 2 from rfl, Nat.reduceMul, Nat.reduceEqDiff, Go.Addr.add, ↓reduceIte] at hx416_0)
   have qi416 : (2 < t404.length) = True := eq_true (by omega)
   (try rw [show ((2 : Int)).toNat = 2 from rfl] at hx416_0)
   replace p416 := eq_true p416
   replace q416 := eq_true q416
   refine start_ (n := 53) (S := fun w' => w'.cell? ⟨gb403, 0, none⟩ = some (.int .i64 t375) ∧ w'.cell? ⟨gb403, 1, none⟩ = some (.int .i64 t376) ∧ w'.cell? ⟨gb403, 2, none⟩ = some (.slice Ao33 t377.length co33) ∧ w'.cell? ⟨gb403, 3, none⟩ = some (.slice Ao34 t380.length co34) ∧ w'.cell? ⟨gb403, 4, none⟩ = some (.slice Ao35 t383.length co35) ∧ w'.cell? ⟨gb403, 5, none⟩ = some (.slice Ao36 t386.length co36) ∧ w'.cell? ⟨gb403, 6, none⟩ = some (.slice Ao37 t389.length co37) ∧ w'.cell? ⟨gb403, 7, none⟩ = some (.slice Ao38 t392.length co38) ∧ w'.cell? ⟨gb403, 8, none⟩ = some (.slice Ao39 t395.length co39) ∧ w'.cell? ⟨gb403, 9, none⟩ = some (.slice Ao40 t398.length co40) ∧ w'.cell? ⟨gb403, 10, none⟩ = some (.int .i64 t401) ∧ w'.cell? ad410 = some (.int .i64 (rd t404 0)) ∧ w'.cell? ⟨ad410.block, ad410.off + 1, none⟩ = some (.int .i64 (rd t404 1)) ∧ w'.cell? ⟨ad410.block, ad410.off + 2, none⟩ = some (.int .i64 (rd t404 2)) ∧ w'.cell? ad410 = some (.int .i64 (rd t404 0)) ∧ w'.cell? ⟨ad410.block, ad410.off + 1, none⟩ = some (.int .i64 (rd t404 1)) ∧ w'.cell? ⟨ad410.block, ad410.off + 2, none⟩ = some (.int .i64 (rd t404 2))) (ds := []) #[false, false, false, false, false, false, false, false, false, false, false, false, false, false, false, false, false, false, false, false, false, false, false, false, false, false, false, false, false, false, false, false, false, false, false, false, false, false, false, false, false, false, false, false, false, false, false, false, false, false, false, false, false] (by kernel_rfl) rfl rfl ⟨(blk_cell BK403.out 0).trans rfl, (blk_cell BK403.out 1).trans rfl, (blk_cell BK403.out 2).trans rfl, (blk_cell BK403.out 3).trans rfl, (blk_cell BK403.out 4).trans rfl, (blk_cell BK403.out 5).trans rfl, (blk_cell BK403.out 6).trans rfl, (blk_cell BK403.out 7).trans rfl, (blk_cell BK403.out 8).trans rfl, (blk_cell BK403.out 9).trans rfl, (blk_cell BK403.out 10).trans rfl, hx410_0, hx411_0, hx412_0, hx414_0, hx415_0, hx416_0⟩ (fun hHeld => ?_); refine with_tabW laws_FnNewNets.tab6 laws_FnNewNets.bits6 (fun HT_ HW_ => ?_)
   generalize w41.drew = w42 at HO366 HO369 HO372 HO379 HO382 HO385 HO388 HO391 HO394 HO397 HO400 HO406 BK373 BK374 BK403 HB hx410_0 hx411_0 hx412_0 hx414_0 hx415_0 hx416_0 hHeld ⊢
   refine pu_ 0 23 (bt_ 53 1) HT_ ?_
   refine pu_ 1 24 (bt_ 53 3) HT_ ?_
   refine take_ (i := 2) (N := some 25) (v := ?_) (a' := ?_) (bt_ 53 7) rfl rfl (take_ofW HT_.out HW_.out (by kernel_rfl)) (fun _ _ _ h => h) (Or.inl ⟨by rfl, ?_⟩) hHeld ?_ ?_
   rotate_left
   ·rintro w' ⟨s0, s1, s2, s3, s4, s5, s6, s7, s8, s9, s10, s11, s12, s13, s14, s15, s16⟩
    go_simp
    with_reducible rfl
   rotate_left
   ·simp only [Act.put, List.setIfInBounds_toArray, List.set_cons_zero, List.set_cons_succ, i64_w, i32_w]
    rfl
   refine one_ (i := 3) (N := some 26) (bt_ 53 15) rfl rfl (one_of HT_.out (by kernel_rfl)) (by decide) (fun K hK => ?_)
   refine goes_ Try.func12 (by kernel_rfl) rfl #[.agg #[.int .i64 t375, .int .i64 t376, .slice Ao33 t377.length co33, .slice Ao34 t380.length co34, .slice Ao35 t383.length co35, .slice Ao36 t386.length co36, .slice Ao37 t389.length co37, .slice Ao38 t392.length co38, .slice Ao39 t395.length co39, .slice Ao40 t398.length co40, .int .i64 t401]] (by rfl) rfl rfl (by (try simp only [List.map_toArray, List.map_cons, List.map_nil]); first | done | rfl | (simp only [List.length_drop, List.length_take]; rfl)) ?_
   with_reducible refine (impl_NetOk.calls k t375 t376 _ _ t377 _ _ t380 _ _ t383 _ _ t386 _ _ t389 _ _ t392 _ _ t395 _ _ t398 t401 true _ ?side1 ?side2 ?side3 ?side4 ?side5 ?side6 ?side7 ?side8 ?side9 ?side10 ?side11 ?side12 ?side13 ?side14 ?side15 ?side16 A8.out).mono ?_
   (case side1 => exact rr_ HO379)
   (case side2 => exact (Kd.R_reads' HO379.out).2.1)
   (case side3 => exact rr_ HO382)
   (case side4 => exact (Kd.R_reads' HO382.out).2.1)
   (case side5 => exact rr_ HO385)
   (case side6 => exact (Kd.R_reads' HO385.out).2.1)
   (case side7 => repeat (first | exact (Kd.S_reads' HO388.out).2.2 | (with_reducible refine Kd.C_alloc ?_ _) | (with_reducible refine Kd.C_drewN ?_ _) | (with_reducible refine Kd.C_drew ?_)))
   (case side8 => exact (Kd.S_reads' HO388.out).2.1)
   (case side9 => exact rr_ HO391)
   (case side10 => exact (Kd.R_reads' HO391.out).2.1)
   (case side11 => exact rr_ HO394)
   (case side12 => exact (Kd.R_reads' HO394.out).2.1)
   (case side13 => repeat (first | exact (Kd.S_reads' HO397.out).2.2 | (with_reducible refine Kd.C_alloc ?_ _) | (with_reducible refine Kd.C_drewN ?_ _) | (with_reducible refine Kd.C_drew ?_)))
   (case side14 => exact (Kd.S_reads' HO397.out).2.1)
   (case side15 => repeat (first | exact (Kd.S_reads' HO400.out).2.2 | (with_reducible refine Kd.C_alloc ?_ _) | (with_reducible refine Kd.C_drewN ?_ _) | (with_reducible refine Kd.C_drew ?_)))
   (case side16 => exact (Kd.S_reads' HO400.out).2.1)
   rintro e w43 ⟨rfl, hb⟩
   have HS11_ := (hb.cell (World.block_lt_of_cell? _ _ (hHeld.2.2.2.2.2.2.2.2.2.2.2.1))).trans (hHeld.2.2.2.2.2.2.2.2.2.2.2.1)
   have HS12_ := (hb.cell (World.block_lt_of_cell? _ _ (hHeld.2.2.2.2.2.2.2.2.2.2.2.2.1))).trans (hHeld.2.2.2.2.2.2.2.2.2.2.2.2.1)
   have HS13_ := (hb.cell (World.block_lt_of_cell? _ _ (hHeld.2.2.2.2.2.2.2.2.2.2.2.2.2.1))).trans (hHeld.2.2.2.2.2.2.2.2.2.2.2.2.2.1)
   have HS14_ := (hb.cell (World.block_lt_of_cell? _ _ (hHeld.2.2.2.2.2.2.2.2.2.2.2.2.2.2.1))).trans (hHeld.2.2.2.2.2.2.2.2.2.2.2.2.2.2.1)
   have HS15_ := (hb.cell (World.block_lt_of_cell? _ _ (hHeld.2.2.2.2.2.2.2.2.2.2.2.2.2.2.2.1))).trans (hHeld.2.2.2.2.2.2.2.2.2.2.2.2.2.2.2.1)
   have HS16_ := (hb.cell (World.block_lt_of_cell? _ _ (hHeld.2.2.2.2.2.2.2.2.2.2.2.2.2.2.2.2))).trans (hHeld.2.2.2.2.2.2.2.2.2.2.2.2.2.2.2.2)
   refine ⟨_, rfl, ?_⟩
   replace HO366 := rb_ HO366 hb
   replace HO369 := rb_ HO369 hb
   replace HO372 := rb_ HO372 hb
   replace HO379 := rb_ HO379 hb
   replace HO382 := rb_ HO382 hb
   replace HO385 := rb_ HO385 hb
   replace HO388 := Aside0.mk (Kd.S_below (sa_ HO388.out) hb)
   replace HO391 := rb_ HO391 hb
   replace HO394 := rb_ HO394 hb
   replace HO397 := Aside0.mk (Kd.S_below (sa_ HO397.out) hb)
   replace HO400 := Aside0.mk (Kd.S_below (sa_ HO400.out) hb)
   replace HO406 := rb_ HO406 hb
   replace BK373 := kb_ BK373 hb
   replace BK374 := kb_ BK374 hb
   replace BK403 := kb_ BK403 hb
   replace HB := hs_ HB hb
   (try clear hb)
   (try clear hk)
   refine hK.out _ _ ⟨(blk_cell BK403.out 0).trans rfl, (blk_cell BK403.out 1).trans rfl, (blk_cell BK403.out 2).trans rfl, (blk_cell BK403.out 3).trans rfl, (blk_cell BK403.out 4).trans rfl, (blk_cell BK403.out 5).trans rfl, (blk_cell BK403.out 6).trans rfl, (blk_cell BK403.out 7).trans rfl, (blk_cell BK403.out 8).trans rfl, (blk_cell BK403.out 9).trans rfl, (blk_cell BK403.out 10).trans rfl, HS11_, HS12_, HS13_, HS14_, HS15_, HS16_⟩ (fun hHeld => ?_)
   clear hK K
   refine norm_ (a' := ?_) ?_ ?_
   rotate_left
   ·show Act.put _ (some 26) _ = _
    simp only [Act.put, List.setIfInBounds_toArray, List.set_cons_zero, List.set_cons_succ, i64_w, i32_w]
    rfl
   refine pu_ 4 27 (bt_ 53 31) HT_ ?_
   refine pu_ 5 28 (bt_ 53 63) HT_ ?_
   refine take_ (i := 6) (N := some 29) (v := ?_) (a' := ?_) (bt_ 53 127) rfl rfl (take_ofW HT_.out HW_.out (by kernel_rfl)) (fun _ _ _ h => h) (Or.inl ⟨by rfl, ?_⟩) hHeld ?_ ?_
   rotate_left
   ·rintro w' ⟨s0, s1, s2, s3, s4, s5, s6, s7, s8, s9, s10, s11, s12, s13, s14, s15, s16⟩
    go_simp
    with_reducible rfl
   rotate_left
   ·simp only [Act.put, List.setIfInBounds_toArray, List.set_cons_zero, List.set_cons_succ, i64_w, i32_w]
    rfl
   refine one_ (i := 7) (N := some 30) (bt_ 53 255) rfl rfl (one_of HT_.out (by kernel_rfl)) (by decide) (fun K hK => ?_)
   refine goes_ Try.func13 (by kernel_rfl) rfl #[.agg #[.int .i64 t375, .int .i64 t376, .slice Ao33 t377.length co33, .slice Ao34 t380.length co34, .slice Ao35 t383.length co35, .slice Ao36 t386.length co36, .slice Ao37 t389.length co37, .slice Ao38 t392.length co38, .slice Ao39 t395.length co39, .slice Ao40 t398.length co40, .int .i64 t401]] (by rfl) rfl rfl (by (try simp only [List.map_toArray, List.map_cons, List.map_nil]); first | done | rfl | (simp only [List.length_drop, List.length_take]; rfl)) ?_
   with_reducible refine (impl_FlitsInside.calls k t375 t376 _ _ t377 _ _ t380 _ _ t383 _ _ t386 _ _ t389 _ _ t392 _ _ t395 _ _ t398 t401 t408 _ ?side1 ?side2 ?side3 ?side4 ?side5 ?side6 ?side7 ?side8 ?side9 ?side10 ?side11 ?side12 ?side13 ?side14 ?side15 ?side16 A10.out).mono ?_
   (case side1 => exact rr_ HO379)
   (case side2 => exact (Kd.R_reads' HO379.out).2.1)
   (case side3 => exact rr_ HO382)
   (case side4 => exact (Kd.R_reads' HO382.out).2.1)
   (case side5 => exact rr_ HO385)
   (case side6 => exact (Kd.R_reads' HO385.out).2.1)
   (case side7 => repeat (first | exact (Kd.S_reads' HO388.out).2.2 | (with_reducible refine Kd.C_alloc ?_ _) | (with_reducible refine Kd.C_drewN ?_ _) | (with_reducible refine Kd.C_drew ?_)))
   (case side8 => exact (Kd.S_reads' HO388.out).2.1)
   (case side9 => exact rr_ HO391)
   (case side10 => exact (Kd.R_reads' HO391.out).2.1)
   (case side11 => exact rr_ HO394)
   (case side12 => exact (Kd.R_reads' HO394.out).2.1)
   (case side13 => repeat (first | exact (Kd.S_reads' HO397.out).2.2 | (with_reducible refine Kd.C_alloc ?_ _) | (with_reducible refine Kd.C_drewN ?_ _) | (with_reducible refine Kd.C_drew ?_)))
   (case side14 => exact (Kd.S_reads' HO397.out).2.1)
   (case side15 => repeat (first | exact (Kd.S_reads' HO400.out).2.2 | (with_reducible refine Kd.C_alloc ?_ _) | (with_reducible refine Kd.C_drewN ?_ _) | (with_reducible refine Kd.C_drew ?_)))
   (case side16 => exact (Kd.S_reads' HO400.out).2.1)
   rintro e w44 ⟨rfl, hb⟩
   have HS11_ := (hb.cell (World.block_lt_of_cell? _ _ (hHeld.2.2.2.2.2.2.2.2.2.2.2.1))).trans (hHeld.2.2.2.2.2.2.2.2.2.2.2.1)
   have HS12_ := (hb.cell (World.block_lt_of_cell? _ _ (hHeld.2.2.2.2.2.2.2.2.2.2.2.2.1))).trans (hHeld.2.2.2.2.2.2.2.2.2.2.2.2.1)
   have HS13_ := (hb.cell (World.block_lt_of_cell? _ _ (hHeld.2.2.2.2.2.2.2.2.2.2.2.2.2.1))).trans (hHeld.2.2.2.2.2.2.2.2.2.2.2.2.2.1)
   have HS14_ := (hb.cell (World.block_lt_of_cell? _ _ (hHeld.2.2.2.2.2.2.2.2.2.2.2.2.2.2.1))).trans (hHeld.2.2.2.2.2.2.2.2.2.2.2.2.2.2.1)
   have HS15_ := (hb.cell (World.block_lt_of_cell? _ _ (hHeld.2.2.2.2.2.2.2.2.2.2.2.2.2.2.2.1))).trans (hHeld.2.2.2.2.2.2.2.2.2.2.2.2.2.2.2.1)
   have HS16_ := (hb.cell (World.block_lt_of_cell? _ _ (hHeld.2.2.2.2.2.2.2.2.2.2.2.2.2.2.2.2))).trans (hHeld.2.2.2.2.2.2.2.2.2.2.2.2.2.2.2.2)
   refine ⟨_, rfl, ?_⟩
   replace HO366 := rb_ HO366 hb
   replace HO369 := rb_ HO369 hb
   replace HO372 := rb_ HO372 hb
   replace HO379 := rb_ HO379 hb
   replace HO382 := rb_ HO382 hb
   replace HO385 := rb_ HO385 hb
   replace HO388 := Aside0.mk (Kd.S_below (sa_ HO388.out) hb)
   replace HO391 := rb_ HO391 hb
   replace HO394 := rb_ HO394 hb
   replace HO397 := Aside0.mk (Kd.S_below (sa_ HO397.out) hb)
   replace HO400 := Aside0.mk (Kd.S_below (sa_ HO400.out) hb)
   replace HO406 := rb_ HO406 hb
   replace BK373 := kb_ BK373 hb
   replace BK374 := kb_ BK374 hb
   replace BK403 := kb_ BK403 hb
   replace HB := hs_ HB hb
   (try clear hb)
   (try clear hk)
   refine hK.out _ _ ⟨(blk_cell BK403.out 0).trans rfl, (blk_cell BK403.out 1).trans rfl, (blk_cell BK403.out 2).trans rfl, (blk_cell BK403.out 3).trans rfl, (blk_cell BK403.out 4).trans rfl, (blk_cell BK403.out 5).trans rfl, (blk_cell BK403.out 6).trans rfl, (blk_cell BK403.out 7).trans rfl, (blk_cell BK403.out 8).trans rfl, (blk_cell BK403.out 9).trans rfl, (blk_cell BK403.out 10).trans rfl, HS11_, HS12_, HS13_, HS14_, HS15_, HS16_⟩ (fun hHeld => ?_)
   clear hK K
   refine norm_ (a' := ?_) ?_ ?_
   rotate_left
   ·show Act.put _ (some 30) _ = _
    simp only [Act.put, List.setIfInBounds_toArray, List.set_cons_zero, List.set_cons_succ, i64_w, i32_w]
    rfl
   refine pu_ 8 31 (bt_ 53 511) HT_ ?_
   refine pu_ 9 32 (bt_ 53 1023) HT_ ?_
   refine pu_ 10 33 (bt_ 53 2047) HT_ ?_
   refine take_ (i := 11) (N := some 34) (v := ?_) (a' := ?_) (bt_ 53 4095) rfl rfl (take_ofW HT_.out HW_.out (by kernel_rfl)) (fun _ _ _ h => h) (Or.inl ⟨by rfl, ?_⟩) hHeld ?_ ?_
   rotate_left
   ·rintro w' ⟨s0, s1, s2, s3, s4, s5, s6, s7, s8, s9, s10, s11, s12, s13, s14, s15, s16⟩
    go_simp
    with_reducible rfl
   rotate_left
   ·simp only [Act.put, List.setIfInBounds_toArray, List.set_cons_zero, List.set_cons_succ, i64_w, i32_w]
    rfl
   refine one_ (i := 12) (N := some 35) (bt_ 53 8191) rfl rfl (one_of HT_.out (by kernel_rfl)) (by decide) (fun K hK => ?_)
   refine goes_ Try.func14 (by kernel_rfl) rfl #[.agg #[.int .i64 t375, .int .i64 t376, .slice Ao33 t377.length co33, .slice Ao34 t380.length co34, .slice Ao35 t383.length co35, .slice Ao36 t386.length co36, .slice Ao37 t389.length co37, .slice Ao38 t392.length co38, .slice Ao39 t395.length co39, .slice Ao40 t398.length co40, .int .i64 t401]] (by rfl) rfl rfl (by (try simp only [List.map_toArray, List.map_cons, List.map_nil]); first | done | rfl | (simp only [List.length_drop, List.length_take]; rfl)) ?_
   with_reducible refine (impl_FlitsWaiting.calls k t375 t376 _ _ t377 _ _ t380 _ _ t383 _ _ t386 _ _ t389 _ _ t392 _ _ t395 _ _ t398 t401 t409 _ ?side1 ?side2 ?side3 ?side4 ?side5 ?side6 ?side7 ?side8 ?side9 ?side10 ?side11 ?side12 ?side13 ?side14 ?side15 ?side16 A12.out).mono ?_
   (case side1 => exact rr_ HO379)
   (case side2 => exact (Kd.R_reads' HO379.out).2.1)
   (case side3 => exact rr_ HO382)
   (case side4 => exact (Kd.R_reads' HO382.out).2.1)
   (case side5 => exact rr_ HO385)
   (case side6 => exact (Kd.R_reads' HO385.out).2.1)
   (case side7 => repeat (first | exact (Kd.S_reads' HO388.out).2.2 | (with_reducible refine Kd.C_alloc ?_ _) | (with_reducible refine Kd.C_drewN ?_ _) | (with_reducible refine Kd.C_drew ?_)))
   (case side8 => exact (Kd.S_reads' HO388.out).2.1)
   (case side9 => exact rr_ HO391)
   (case side10 => exact (Kd.R_reads' HO391.out).2.1)
   (case side11 => exact rr_ HO394)
   (case side12 => exact (Kd.R_reads' HO394.out).2.1)
   (case side13 => repeat (first | exact (Kd.S_reads' HO397.out).2.2 | (with_reducible refine Kd.C_alloc ?_ _) | (with_reducible refine Kd.C_drewN ?_ _) | (with_reducible refine Kd.C_drew ?_)))
   (case side14 => exact (Kd.S_reads' HO397.out).2.1)
   (case side15 => repeat (first | exact (Kd.S_reads' HO400.out).2.2 | (with_reducible refine Kd.C_alloc ?_ _) | (with_reducible refine Kd.C_drewN ?_ _) | (with_reducible refine Kd.C_drew ?_)))
   (case side16 => exact (Kd.S_reads' HO400.out).2.1)
   rintro e w45 ⟨rfl, hb⟩
   have HS11_ := (hb.cell (World.block_lt_of_cell? _ _ (hHeld.2.2.2.2.2.2.2.2.2.2.2.1))).trans (hHeld.2.2.2.2.2.2.2.2.2.2.2.1)
   have HS12_ := (hb.cell (World.block_lt_of_cell? _ _ (hHeld.2.2.2.2.2.2.2.2.2.2.2.2.1))).trans (hHeld.2.2.2.2.2.2.2.2.2.2.2.2.1)
   have HS13_ := (hb.cell (World.block_lt_of_cell? _ _ (hHeld.2.2.2.2.2.2.2.2.2.2.2.2.2.1))).trans (hHeld.2.2.2.2.2.2.2.2.2.2.2.2.2.1)
   have HS14_ := (hb.cell (World.block_lt_of_cell? _ _ (hHeld.2.2.2.2.2.2.2.2.2.2.2.2.2.2.1))).trans (hHeld.2.2.2.2.2.2.2.2.2.2.2.2.2.2.1)
   have HS15_ := (hb.cell (World.block_lt_of_cell? _ _ (hHeld.2.2.2.2.2.2.2.2.2.2.2.2.2.2.2.1))).trans (hHeld.2.2.2.2.2.2.2.2.2.2.2.2.2.2.2.1)
   have HS16_ := (hb.cell (World.block_lt_of_cell? _ _ (hHeld.2.2.2.2.2.2.2.2.2.2.2.2.2.2.2.2))).trans (hHeld.2.2.2.2.2.2.2.2.2.2.2.2.2.2.2.2)
   refine ⟨_, rfl, ?_⟩
   replace HO366 := rb_ HO366 hb
   replace HO369 := rb_ HO369 hb
   replace HO372 := rb_ HO372 hb
   replace HO379 := rb_ HO379 hb
   replace HO382 := rb_ HO382 hb
   replace HO385 := rb_ HO385 hb
   replace HO388 := Aside0.mk (Kd.S_below (sa_ HO388.out) hb)
   replace HO391 := rb_ HO391 hb
   replace HO394 := rb_ HO394 hb
   replace HO397 := Aside0.mk (Kd.S_below (sa_ HO397.out) hb)
   replace HO400 := Aside0.mk (Kd.S_below (sa_ HO400.out) hb)
   replace HO406 := rb_ HO406 hb
   replace BK373 := kb_ BK373 hb
   replace BK374 := kb_ BK374 hb
   replace BK403 := kb_ BK403 hb
   replace HB := hs_ HB hb
   (try clear hb)
   (try clear hk)
   obtain ⟨Ao46, co46, eo46⟩ := Kd.R_slice HO406.out
   (first | subst eo46 | (injection eo46 with f1_ f2_ f3_; have f4_ := f1_.symm; have f5_ := f3_.symm; clear f1_ f2_ f3_; subst f4_; subst f5_))
   refine hK.out _ _ ⟨(blk_cell BK403.out 0).trans rfl, (blk_cell BK403.out 1).trans rfl, (blk_cell BK403.out 2).trans rfl, (blk_cell BK403.out 3).trans rfl, (blk_cell BK403.out 4).trans rfl, (blk_cell BK403.out 5).trans rfl, (blk_cell BK403.out 6).trans rfl, (blk_cell BK403.out 7).trans rfl, (blk_cell BK403.out 8).trans rfl, (blk_cell BK403.out 9).trans rfl, (blk_cell BK403.out 10).trans rfl, HS11_, HS12_, HS13_, HS14_, HS15_, HS16_⟩ (fun hHeld => ?_)
   clear hK K
   refine norm_ (a' := ?_) ?_ ?_
   rotate_left
   ·show Act.put _ (some 35) _ = _
    simp only [Act.put, List.setIfInBounds_toArray, List.set_cons_zero, List.set_cons_succ, i64_w, i32_w]
    rfl
   refine pu_ 13 36 (bt_ 53 16383) HT_ ?_
   refine pu_ 14 37 (bt_ 53 32767) HT_ ?_
   refine pu_ 15 38 (bt_ 53 65535) HT_ ?_
   refine pu_ 16 39 (bt_ 53 131071) HT_ ?_
   refine take_ (i := 17) (N := some 40) (v := ?_) (a' := ?_) (bt_ 53 262143) rfl rfl (take_ofW HT_.out HW_.out (by kernel_rfl)) (fun _ _ _ h => h) (Or.inl ⟨by rfl, ?_⟩) hHeld ?_ ?_
   rotate_left
   ·rintro w' ⟨s0, s1, s2, s3, s4, s5, s6, s7, s8, s9, s10, s11, s12, s13, s14, s15, s16⟩
    go_simp
    with_reducible rfl
   rotate_left
   ·simp only [Act.put, List.setIfInBounds_toArray, List.set_cons_zero, List.set_cons_succ, i64_w, i32_w]
    rfl
   refine pu_ 18 41 (bt_ 53 524287) HT_ ?_
   refine pu_ 19 42 (bt_ 53 1048575) HT_ ?_
   refine pu_ 20 43 (bt_ 53 2097151) HT_ ?_
   refine pu_ 21 44 (bt_ 53 4194303) HT_ ?_
   refine pu_ 22 45 (bt_ 53 8388607) HT_ ?_
   refine pu_ 25 48 (bt_ 53 41943039) HT_ ?_
   refine pu_ 26 49 (bt_ 53 109051903) HT_ ?_
   refine pu_ 29 52 (bt_ 53 645922815) HT_ ?_
   refine pu_ 30 53 (bt_ 53 1719664639) HT_ ?_
   refine pu_ 34 57 (bt_ 53 18899533823) HT_ ?_
   refine pu_ 35 58 (bt_ 53 53259272191) HT_ ?_
   refine pu_ 39 62 (bt_ 53 603015086079) HT_ ?_
   refine pu_ 40 63 (bt_ 53 1702526713855) HT_ ?_
   refine pu_ 45 68 (bt_ 53 36886898802687) HT_ ?_
   refine pu_ 46 69 (bt_ 53 107255642980351) HT_ ?_
   refine take_ (i := 23) (N := some 46) (v := ?_) (a' := ?_) (bt_ 53 107255651368959) rfl rfl (take_ofW HT_.out HW_.out (by kernel_rfl)) (fun _ _ _ h => h) (Or.inl ⟨by rfl, ?_⟩) hHeld ?_ ?_
   rotate_left
   ·rintro w' ⟨s0, s1, s2, s3, s4, s5, s6, s7, s8, s9, s10, s11, s12, s13, s14, s15, s16⟩
    go_simp
    with_reducible rfl
   rotate_left
   ·simp only [Act.put, List.setIfInBounds_toArray, List.set_cons_zero, List.set_cons_succ, i64_w, i32_w]
    rfl
   refine pu_ 24 47 (bt_ 53 107255668146175) HT_ ?_
   refine take_ (i := 27) (N := some 50) (v := ?_) (a' := ?_) (bt_ 53 107255802363903) rfl rfl (take_ofW HT_.out HW_.out (by kernel_rfl)) (fun _ _ _ h => h) (Or.inl ⟨by rfl, ?_⟩) hHeld ?_ ?_
   rotate_left
   ·rintro w' ⟨s0, s1, s2, s3, s4, s5, s6, s7, s8, s9, s10, s11, s12, s13, s14, s15, s16⟩
    go_simp
    with_reducible rfl
   rotate_left
   ·simp only [Act.put, List.setIfInBounds_toArray, List.set_cons_zero, List.set_cons_succ, i64_w, i32_w]
    rfl
   refine pu_ 28 51 (bt_ 53 107256070799359) HT_ ?_
   refine take_ (i := 31) (N := some 54) (v := ?_) (a' := ?_) (bt_ 53 107258218283007) rfl rfl (take_ofW HT_.out HW_.out (by kernel_rfl)) (fun _ _ _ h => h) (Or.inl ⟨by rfl, ?_⟩) hHeld ?_ ?_
   rotate_left
   ·rintro w' ⟨s0, s1, s2, s3, s4, s5, s6, s7, s8, s9, s10, s11, s12, s13, s14, s15, s16⟩
    go_simp
    with_reducible rfl
   rotate_left
   ·simp only [Act.put, List.setIfInBounds_toArray, List.set_cons_zero, List.set_cons_succ, i64_w, i32_w]
    rfl
   refine pu_ 32 55 (bt_ 53 107262513250303) HT_ ?_
   refine take_ (i := 36) (N := some 59) (v := ?_) (a' := ?_) (bt_ 53 107331232727039) rfl rfl (take_ofW HT_.out HW_.out (by kernel_rfl)) (fun _ _ _ h => h) (Or.inl ⟨by rfl, ?_⟩) hHeld ?_ ?_
   rotate_left
   ·rintro w' ⟨s0, s1, s2, s3, s4, s5, s6, s7, s8, s9, s10, s11, s12, s13, s14, s15, s16⟩
    go_simp
    with_reducible rfl
   rotate_left
   ·simp only [Act.put, List.setIfInBounds_toArray, List.set_cons_zero, List.set_cons_succ, i64_w, i32_w]
    rfl
   refine pu_ 37 60 (bt_ 53 107468671680511) HT_ ?_
   refine pu_ 38 61 (bt_ 53 107743549587455) HT_ ?_
   refine take_ (i := 41) (N := some 64) (v := ?_) (a' := ?_) (bt_ 53 109942572843007) rfl rfl (take_ofW HT_.out HW_.out (by kernel_rfl)) (fun _ _ _ h => h) (Or.inl ⟨by rfl, ?_⟩) hHeld ?_ ?_
   rotate_left
   ·rintro w' ⟨s0, s1, s2, s3, s4, s5, s6, s7, s8, s9, s10, s11, s12, s13, s14, s15, s16⟩
    go_simp
    with_reducible rfl
   rotate_left
   ·simp only [Act.put, List.setIfInBounds_toArray, List.set_cons_zero, List.set_cons_succ, i64_w, i32_w]
    rfl
   refine pu_ 42 65 (bt_ 53 114340619354111) HT_ ?_
   refine pu_ 43 66 (bt_ 53 123136712376319) HT_ ?_
   refine pu_ 44 67 (bt_ 53 140728898420735) HT_ ?_
   refine take_ (i := 47) (N := some 70) (v := ?_) (a' := ?_) (bt_ 53 281466386776063) rfl rfl (take_ofW HT_.out HW_.out (by kernel_rfl)) (fun _ _ _ h => h) (Or.inl ⟨by rfl, ?_⟩) hHeld ?_ ?_
   rotate_left
   ·rintro w' ⟨s0, s1, s2, s3, s4, s5, s6, s7, s8, s9, s10, s11, s12, s13, s14, s15, s16⟩
    go_simp
    with_reducible rfl
   rotate_left
   ·simp only [Act.put, List.setIfInBounds_toArray, List.set_cons_zero, List.set_cons_succ, i64_w, i32_w]
    rfl
   refine pu_ 48 71 (bt_ 53 562941363486719) HT_ ?_
   refine pu_ 49 72 (bt_ 53 1125891316908031) HT_ ?_
   refine one_ (i := 33) (N := some 56) (bt_ 53 1125899906842623) rfl rfl (one_of HT_.out (by kernel_rfl)) (by decide) (fun K hK => ?_)
   refine goes_ Try.func15 (by kernel_rfl) rfl #[.int .i64 (Int.tmod (rd t404 0) 16), .int .i64 (Int.tmod (rd t404 1) 5), .int .i64 (Int.tmod (rd t404 2) 2)] (by rfl) rfl rfl (by (try simp only [List.map_toArray, List.map_cons, List.map_nil]); first | done | rfl | (simp only [List.length_drop, List.length_take]; rfl)) ?_
   with_reducible refine (impl_BufferAt.calls (Int.tmod (rd t404 0) 16) (Int.tmod (rd t404 1) 5) (Int.tmod (rd t404 2) 2) t413 _ A18.out).mono ?_
   rintro e w' ⟨rfl, ⟨nd, rfl⟩⟩
   refine ⟨_, rfl, ?_⟩
   refine hK.out _ _ ⟨(blk_cell BK403.out 0).trans rfl, (blk_cell BK403.out 1).trans rfl, (blk_cell BK403.out 2).trans rfl, (blk_cell BK403.out 3).trans rfl, (blk_cell BK403.out 4).trans rfl, (blk_cell BK403.out 5).trans rfl, (blk_cell BK403.out 6).trans rfl, (blk_cell BK403.out 7).trans rfl, (blk_cell BK403.out 8).trans rfl, (blk_cell BK403.out 9).trans rfl, (blk_cell BK403.out 10).trans rfl, hHeld.2.2.2.2.2.2.2.2.2.2.2.1, hHeld.2.2.2.2.2.2.2.2.2.2.2.2.1, hHeld.2.2.2.2.2.2.2.2.2.2.2.2.2.1, hHeld.2.2.2.2.2.2.2.2.2.2.2.2.2.2.1, hHeld.2.2.2.2.2.2.2.2.2.2.2.2.2.2.2.1, hHeld.2.2.2.2.2.2.2.2.2.2.2.2.2.2.2.2⟩ (fun hHeld => ?_)
   clear hK K
   refine norm_ (a' := ?_) ?_ ?_
   rotate_left
   ·show Act.put _ (some 56) _ = _
    simp only [Act.put, List.setIfInBounds_toArray, List.set_cons_zero, List.set_cons_succ, i64_w, i32_w]
    rfl
   refine pu_ 50 73 (bt_ 53 2251799813685247) HT_ ?_
   refine pu_ 51 74 (bt_ 53 4503599627370495) HT_ ?_
   refine pu_ 52 2 (bt_ 53 9007199254740991) HT_ ?_
   refine done_ (done_of HT_.out (by kernel_rfl)) ?_
   try go_wp2
   go_ret
   exact ⟨fin_, bb_ HB.out⟩
  ·replace c7 := Bool.eq_false_iff.mpr c7
   subst c7
   rw [if_neg (show ¬ (false = true) by decide)] at H
   exact absurd H (by simp)

/-- THE ONE PURE STATEMENT of laws_FnNewNets: yours. -/
def laws_FnNewNets.Pure : Prop := ∀ (l0 : List Int), l0.length ≤ maxLen → l0.length * 1 ≤ 140737488351232 → (∀ x ∈ l0, (Lit.int .u8 x).wf = true) → ∃ k, laws_FnNewNets.f k l0 = some true
theorem laws_FnNewNets.walk (P : laws_FnNewNets.Pure) (a0 : Option Addr) (len0 cap0 : Nat) (z0 : List Int) (w : World) (w0 : (a0 = none ∧ len0 = 0 ∧ cap0 = 0 ∧ z0 = []) ∨ ∃ x, a0 = some x ∧ len0 ≤ cap0 ∧ cap0 ≤ maxLen ∧ z0.length = cap0 ∧ (∀ i, i < z0.length → w.cell? (x.add i) = some (.int .u8 (z0.getD i 0))) ∧ ∀ n ∈ z0, (Lit.int .u8 n).wf = true) (y0 : len0 * 1 ≤ 140737488351232) :
  Calls Try.prog 3 #[.slice a0 len0 cap0] w fun e w' => e = .returned (.bool true) ∧ Below w.heap.size w w' := by
 obtain ⟨l0, rfl, hr0, hm0, hw0, hc0⟩ := ReadsInt.ofRowC w0
 obtain ⟨k, h⟩ := P l0 hm0 y0 hw0
 refine (laws_FnNewNets.calls k _ _ l0 true w (Kd.C_of_reads (d := (0 : Int)) (h1 := fun _ => rfl) hr0) hc0 h).mono ?_
 rintro e w' ⟨rfl, hd⟩
 exact ⟨rfl, hd⟩

end Go.Proofs.Ytaofkfooijfjbaa.PFnNewNets
-- thin
