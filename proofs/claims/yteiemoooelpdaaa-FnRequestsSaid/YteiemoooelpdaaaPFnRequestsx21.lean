
import Derived.Test.YteiemoooelpdaaaPFnRequestsx0
import Derived.Test.YteiemoooelpdaaaPFnRequestsx1
import Derived.Test.YteiemoooelpdaaaPFnRequestsx2
import Derived.Test.YteiemoooelpdaaaPFnRequestsx4
import Derived.Test.YteiemoooelpdaaaPFnRequestsx10
import Derived.Test.YteiemoooelpdaaaPFnRequestsx11
import Derived.Test.YteiemoooelpdaaaPFnRequestsx12
import Derived.Test.YteiemoooelpdaaaPFnRequestsx13
import Derived.Test.YteiemoooelpdaaaPFnRequestsx17
import Derived.Test.YteiemoooelpdaaaPFnRequestsx20
namespace Go.Proofs.Yteiemoooelpdaaa.PFnRequests
open Go.RowKit Go.Proofs.YteiemoooelpdaaaW.PrintWords Go.Proofs.YteiemoooelpdaaaW.PrintLast Go.Proofs.YteiemoooelpdaaaW.PrintMore
attribute [local go_sem] max2_int min2_int max_two min_two max_three min_three max_four min_four
set_option linter.unusedVariables false
set_option maxHeartbeats 8000000
set_option maxRecDepth 100000
set_option linter.unusedSimpArgs false
def spec_l17Ok.f (k : Nat) (a0_0 : Int) (a0_1 : Int) (l0_2 : List Int) (l0_3 : List Int) (l0_4 : List Int) (l0_5 : List (List (S72))) (l0_6 : List Int) (l0_7 : List Int) (l0_8 : List (List (S72))) (l0_9 : List (List (S72))) (a0_10 : Int) (a1 : Int) (a2 : Int) : Option (Bool) := (spec_NetOk.f k a0_0 a0_1 l0_2 l0_3 l0_4 l0_5 l0_6 l0_7 l0_8 l0_9 a0_10).bind fun t500 => (if t500 = true then ((spec_l02Has.f a0_0 a0_1 a1).bind fun t501 => (if t501 = true then ((spec_l01In.f a2 0 4).bind fun t502 => (some t502)) else (none))) else (none))
theorem spec_l17Ok.calls (k : Nat) (a0_0 : Int) (a0_1 : Int) (A0_2 : Option Addr) (c0_2 : Nat) (l0_2 : List Int) (A0_3 : Option Addr) (c0_3 : Nat) (l0_3 : List Int) (A0_4 : Option Addr) (c0_4 : Nat) (l0_4 : List Int) (A0_5 : Option Addr) (c0_5 : Nat) (l0_5 : List (List (S72))) (A0_6 : Option Addr) (c0_6 : Nat) (l0_6 : List Int) (A0_7 : Option Addr) (c0_7 : Nat) (l0_7 : List Int) (A0_8 : Option Addr) (c0_8 : Nat) (l0_8 : List (List (S72))) (A0_9 : Option Addr) (c0_9 : Nat) (l0_9 : List (List (S72))) (a0_10 : Int) (a1 : Int) (a2 : Int) (r : Bool) (w : World) (hr0_2 : Kd.C (Kd.int .i64) w A0_2 l0_2.length l0_2) (hc0_2 : l0_2.length ≤ c0_2) (hr0_3 : Kd.C (Kd.int .i64) w A0_3 l0_3.length l0_3) (hc0_3 : l0_3.length ≤ c0_3) (hr0_4 : Kd.C (Kd.int .i64) w A0_4 l0_4.length l0_4) (hc0_4 : l0_4.length ≤ c0_4) (hr0_5 : Kd.C (Kd.slice 72 k72) w A0_5 l0_5.length l0_5) (hc0_5 : l0_5.length ≤ c0_5) (hr0_6 : Kd.C (Kd.int .i64) w A0_6 l0_6.length l0_6) (hc0_6 : l0_6.length ≤ c0_6) (hr0_7 : Kd.C (Kd.int .i64) w A0_7 l0_7.length l0_7) (hc0_7 : l0_7.length ≤ c0_7) (hr0_8 : Kd.C (Kd.slice 72 k72) w A0_8 l0_8.length l0_8) (hc0_8 : l0_8.length ≤ c0_8) (hr0_9 : Kd.C (Kd.slice 72 k72) w A0_9 l0_9.length l0_9) (hc0_9 : l0_9.length ≤ c0_9) (h : spec_l17Ok.f k a0_0 a0_1 l0_2 l0_3 l0_4 l0_5 l0_6 l0_7 l0_8 l0_9 a0_10 a1 a2 = some r) :
  Calls Try.prog 20 #[.agg #[.int .i64 a0_0, .int .i64 a0_1, .slice A0_2 l0_2.length c0_2, .slice A0_3 l0_3.length c0_3, .slice A0_4 l0_4.length c0_4, .slice A0_5 l0_5.length c0_5, .slice A0_6 l0_6.length c0_6, .slice A0_7 l0_7.length c0_7, .slice A0_8 l0_8.length c0_8, .slice A0_9 l0_9.length c0_9, .int .i64 a0_10], .int .i64 a1, .int .i64 a2] w fun e w' => e = .returned (.bool r) ∧ Below w.heap.size w w' := by
 have hu35 := Try.underlying35
 have hu25 := Try.underlying25
 obtain ⟨HR0_2, HC0_2, HR0_3, HC0_3, HR0_4, HC0_4, HR0_5, HC0_5, HR0_6, HC0_6, HR0_7, HC0_7, HR0_8, HC0_8, HR0_9, HC0_9⟩ := a16_ hr0_2 hc0_2 hr0_3 hc0_3 hr0_4 hc0_4 hr0_5 hc0_5 hr0_6 hc0_6 hr0_7 hc0_7 hr0_8 hc0_8 hr0_9 hc0_9; clear hr0_2 hc0_2 hr0_3 hc0_3 hr0_4 hc0_4 hr0_5 hc0_5 hr0_6 hc0_6 hr0_7 hc0_7 hr0_8 hc0_8 hr0_9 hc0_9
 have HB := am (Below.refl w.heap.size w)
 have H : ((spec_NetOk.f k a0_0 a0_1 l0_2 l0_3 l0_4 l0_5 l0_6 l0_7 l0_8 l0_9 a0_10).bind fun t500 => (if t500 = true then ((spec_l02Has.f a0_0 a0_1 a1).bind fun t501 => (if t501 = true then ((spec_l01In.f a2 0 4).bind fun t502 => (some t502)) else (none))) else (none))) = some r := h
 clear h
 obtain ⟨t500, A4, H⟩ := bi_ H
 by_cases c5 : t500 = true
 ·subst c5
  rw [if_pos rfl] at H
  obtain ⟨t501, A6, H⟩ := bi_ H
  by_cases c7 : t501 = true
  rotate_left
  ·replace c7 := Bool.eq_false_iff.mpr c7
   subst c7
   rw [if_neg (show ¬ (false = true) by decide)] at H
   exact absurd H (by simp)
  subst c7
  rw [if_pos rfl] at H
  obtain ⟨t502, A8, H⟩ := bi_ H
  obtain rfl := Option.some.inj H
  go_enter Try.func20, Try.ntmps20
  go_wp2_with (first | ((with_reducible refine gate_dst (N := 3) rfl ?_); refine bx_ 3 #[.int .i64 a0_0, .int .i64 a0_1, .slice A0_2 l0_2.length c0_2, .slice A0_3 l0_3.length c0_3, .slice A0_4 l0_4.length c0_4, .slice A0_5 l0_5.length c0_5, .slice A0_6 l0_6.length c0_6, .slice A0_7 l0_7.length c0_7, .slice A0_8 l0_8.length c0_8, .slice A0_9 l0_9.length c0_9, .int .i64 a0_10] 35 ?_; intro gb499 hg w9 hbox hb; have BK499 := am (hbox); have GW499 := gw_ hg HB; replace HB := h9_ HB hb; clear hb hbox hg; obtain ⟨hcz10_0, hcz10_1, hcz10_2, hcz10_3, hcz10_4, hcz10_5, hcz10_6, hcz10_7, hcz10_8, hcz10_9, hcz10_10, hfz10_0, hfz10_1, hfz10_2, hfz10_3, hfz10_4, hfz10_5, hfz10_6, hfz10_7, hfz10_8, hfz10_9, hfz10_10⟩ := cz11_ BK499.out) | ((with_reducible refine gate_callee (f := 38) rfl ?_); refine gm_ (some 8) Try.func38 #[.agg #[.int .i64 a0_0, .int .i64 a0_1, .slice A0_2 l0_2.length c0_2, .slice A0_3 l0_3.length c0_3, .slice A0_4 l0_4.length c0_4, .slice A0_5 l0_5.length c0_5, .slice A0_6 l0_6.length c0_6, .slice A0_7 l0_7.length c0_7, .slice A0_8 l0_8.length c0_8, .slice A0_9 l0_9.length c0_9, .int .i64 a0_10]] rfl ?_; (with_reducible refine (spec_NetOk.calls k a0_0 a0_1 _ _ l0_2 _ _ l0_3 _ _ l0_4 _ _ l0_5 _ _ l0_6 _ _ l0_7 _ _ l0_8 _ _ l0_9 a0_10 true _ ?side1 HC0_2.out ?side3 HC0_3.out ?side5 HC0_4.out ?side7 HC0_5.out ?side9 HC0_6.out ?side11 HC0_7.out ?side13 HC0_8.out ?side15 HC0_9.out A4.out).mono ?_); (case side1 => exact cb_ HR0_2.out HB.out); (case side3 => exact cb_ HR0_3.out HB.out); (case side5 => exact cb_ HR0_4.out HB.out); (case side7 => exact cb_ HR0_5.out HB.out); (case side9 => exact cb_ HR0_6.out HB.out); (case side11 => exact cb_ HR0_7.out HB.out); (case side13 => exact cb_ HR0_8.out HB.out); (case side15 => exact cb_ HR0_9.out HB.out); rintro e w11 ⟨rfl, hb⟩; refine ⟨_, rfl, ?_⟩; replace BK499 := kb_ BK499 hb; replace HB := h9_ HB hb; (try clear hb); obtain ⟨hcz12_0, hcz12_1, hcz12_2, hcz12_3, hcz12_4, hcz12_5, hcz12_6, hcz12_7, hcz12_8, hcz12_9, hcz12_10, hfz12_0, hfz12_1, hfz12_2, hfz12_3, hfz12_4, hfz12_5, hfz12_6, hfz12_7, hfz12_8, hfz12_9, hfz12_10⟩ := cz11_ BK499.out) | (go_at_call 39; (with_reducible refine (spec_l02Has.calls a0_0 a0_1 a1 true _ A6.out).mono ?_); rintro e w13 ⟨rfl, hb⟩; replace BK499 := kb_ BK499 hb; replace HB := h9_ HB hb; (try clear hb)) | (go_at_call 40; (with_reducible refine (spec_l01In.calls a2 0 4 t502 _ A8.out).mono ?_); rintro e w' ⟨rfl, ⟨nd, rfl⟩⟩))
  go_ret
  exact ⟨fin_, bb_ HB.out⟩
 ·replace c5 := Bool.eq_false_iff.mpr c5
  subst c5
  rw [if_neg (show ¬ (false = true) by decide)] at H
  exact absurd H (by simp)
mutual
def spec_RequestsAt.l0 : Nat → Int → Int → List Int → Bool → Int → Int → Int → List Int → List Int → List Int → List (List (S72)) → List Int → List Int → List (List (S72)) → List (List (S72)) → Int → Option (List Int)
 | 0, _, _, _, _, _, _, _, _, _, _, _, _, _, _, _, _ => none
 | k + 1, x1, x2, x7, x8, x9, x504000, x504001, x504002, x504003, x504004, x504005, x504006, x504007, x504008, x504009, x504010 => if x9 < 10 then (spec_RequestsAt.j1 k x1 x2 x7 x8 x9 x8 x504000 x504001 x504002 x504003 x504004 x504005 x504006 x504007 x504008 x504009 x504010) else (spec_RequestsAt.j1 k x1 x2 x7 x8 x9 false x504000 x504001 x504002 x504003 x504004 x504005 x504006 x504007 x504008 x504009 x504010)
def spec_RequestsAt.j1 : Nat → Int → Int → List Int → Bool → Int → Bool → Int → Int → List Int → List Int → List Int → List (List (S72)) → List Int → List Int → List (List (S72)) → List (List (S72)) → Int → Option (List Int)
 | 0, _, _, _, _, _, _, _, _, _, _, _, _, _, _, _, _, _ => none
 | k + 1, x1, x2, x7, x8, x9, x19, x504000, x504001, x504002, x504003, x504004, x504005, x504006, x504007, x504008, x504009, x504010 => if x19 = true then ((spec_l17Request.f k x504000 x504001 x504002 x504003 x504004 x504005 x504006 x504007 x504008 x504009 x504010 x1 x9 x2).bind fun t508 => (if t508 = true then (if x7.length < 17592186044416 then (spec_RequestsAt.l0 k x1 x2 (x7 ++ [x9]) x8 (wrap64 (x9 + 1)) x504000 x504001 x504002 x504003 x504004 x504005 x504006 x504007 x504008 x504009 x504010) else (none)) else (spec_RequestsAt.l0 k x1 x2 x7 x8 (wrap64 (x9 + 1)) x504000 x504001 x504002 x504003 x504004 x504005 x504006 x504007 x504008 x504009 x504010))) else (some x7)
end
def spec_RequestsAt.f (k : Nat) (a0_0 : Int) (a0_1 : Int) (l0_2 : List Int) (l0_3 : List Int) (l0_4 : List Int) (l0_5 : List (List (S72))) (l0_6 : List Int) (l0_7 : List Int) (l0_8 : List (List (S72))) (l0_9 : List (List (S72))) (a0_10 : Int) (a1 : Int) (a2 : Int) : Option (List Int) := (spec_l17Ok.f k a0_0 a0_1 l0_2 l0_3 l0_4 l0_5 l0_6 l0_7 l0_8 l0_9 a0_10 a1 a2).bind fun t507 => (spec_RequestsAt.l0 k a1 a2 (([] : List Int)) t507 0 a0_0 a0_1 l0_2 l0_3 l0_4 l0_5 l0_6 l0_7 l0_8 l0_9 a0_10)
theorem spec_RequestsAt.calls (k : Nat) (a0_0 : Int) (a0_1 : Int) (A0_2 : Option Addr) (c0_2 : Nat) (l0_2 : List Int) (A0_3 : Option Addr) (c0_3 : Nat) (l0_3 : List Int) (A0_4 : Option Addr) (c0_4 : Nat) (l0_4 : List Int) (A0_5 : Option Addr) (c0_5 : Nat) (l0_5 : List (List (S72))) (A0_6 : Option Addr) (c0_6 : Nat) (l0_6 : List Int) (A0_7 : Option Addr) (c0_7 : Nat) (l0_7 : List Int) (A0_8 : Option Addr) (c0_8 : Nat) (l0_8 : List (List (S72))) (A0_9 : Option Addr) (c0_9 : Nat) (l0_9 : List (List (S72))) (a0_10 : Int) (a1 : Int) (a2 : Int) (r : List Int) (w : World) (hr0_2 : Kd.C (Kd.int .i64) w A0_2 l0_2.length l0_2) (hc0_2 : l0_2.length ≤ c0_2) (hr0_3 : Kd.C (Kd.int .i64) w A0_3 l0_3.length l0_3) (hc0_3 : l0_3.length ≤ c0_3) (hr0_4 : Kd.C (Kd.int .i64) w A0_4 l0_4.length l0_4) (hc0_4 : l0_4.length ≤ c0_4) (hr0_5 : Kd.C (Kd.slice 72 k72) w A0_5 l0_5.length l0_5) (hc0_5 : l0_5.length ≤ c0_5) (hr0_6 : Kd.C (Kd.int .i64) w A0_6 l0_6.length l0_6) (hc0_6 : l0_6.length ≤ c0_6) (hr0_7 : Kd.C (Kd.int .i64) w A0_7 l0_7.length l0_7) (hc0_7 : l0_7.length ≤ c0_7) (hr0_8 : Kd.C (Kd.slice 72 k72) w A0_8 l0_8.length l0_8) (hc0_8 : l0_8.length ≤ c0_8) (hr0_9 : Kd.C (Kd.slice 72 k72) w A0_9 l0_9.length l0_9) (hc0_9 : l0_9.length ≤ c0_9) (h : spec_RequestsAt.f k a0_0 a0_1 l0_2 l0_3 l0_4 l0_5 l0_6 l0_7 l0_8 l0_9 a0_10 a1 a2 = some r) :
  Calls Try.prog 9 #[.agg #[.int .i64 a0_0, .int .i64 a0_1, .slice A0_2 l0_2.length c0_2, .slice A0_3 l0_3.length c0_3, .slice A0_4 l0_4.length c0_4, .slice A0_5 l0_5.length c0_5, .slice A0_6 l0_6.length c0_6, .slice A0_7 l0_7.length c0_7, .slice A0_8 l0_8.length c0_8, .slice A0_9 l0_9.length c0_9, .int .i64 a0_10], .int .i64 a1, .int .i64 a2] w fun e w' => ∃ v0_ : Value, e = .returned (v0_) ∧ Kd.R (Kd.int .i64) 3 w' w.heap.size (fun _ => True) v0_ r ∧ Below w.heap.size w w' := by
 have hu35 := Try.underlying35
 obtain ⟨HR0_2, HC0_2, HR0_3, HC0_3, HR0_4, HC0_4, HR0_5, HC0_5, HR0_6, HC0_6, HR0_7, HC0_7, HR0_8, HC0_8, HR0_9, HC0_9⟩ := a16_ hr0_2 hc0_2 hr0_3 hc0_3 hr0_4 hc0_4 hr0_5 hc0_5 hr0_6 hc0_6 hr0_7 hc0_7 hr0_8 hc0_8 hr0_9 hc0_9; clear hr0_2 hc0_2 hr0_3 hc0_3 hr0_4 hc0_4 hr0_5 hc0_5 hr0_6 hc0_6 hr0_7 hc0_7 hr0_8 hc0_8 hr0_9 hc0_9
 have HB := am (Below.refl w.heap.size w)
 have H : ((spec_l17Ok.f k a0_0 a0_1 l0_2 l0_3 l0_4 l0_5 l0_6 l0_7 l0_8 l0_9 a0_10 a1 a2).bind fun t507 => (spec_RequestsAt.l0 k a1 a2 (([] : List Int)) t507 0 a0_0 a0_1 l0_2 l0_3 l0_4 l0_5 l0_6 l0_7 l0_8 l0_9 a0_10)) = some r := h
 clear h
 obtain ⟨y504, hy504⟩ : ∃ y_ : List Int, y_ = (([] : List Int)) := ⟨_, rfl⟩
 replace H : ((spec_l17Ok.f k a0_0 a0_1 l0_2 l0_3 l0_4 l0_5 l0_6 l0_7 l0_8 l0_9 a0_10 a1 a2).bind fun t507 => (spec_RequestsAt.l0 k a1 a2 y504 t507 0 a0_0 a0_1 l0_2 l0_3 l0_4 l0_5 l0_6 l0_7 l0_8 l0_9 a0_10)) = some r := ry_ hy504 H
 have Ny504 := am hy504
 clear hy504
 obtain ⟨t507, A4, H⟩ := bi_ H
 have H' := am H
 clear H
 go_enter Try.func9, Try.ntmps9
 go_wp2_with (first | ((with_reducible refine gate_dst (N := 3) rfl ?_); refine bx_ 3 #[.int .i64 a0_0, .int .i64 a0_1, .slice A0_2 l0_2.length c0_2, .slice A0_3 l0_3.length c0_3, .slice A0_4 l0_4.length c0_4, .slice A0_5 l0_5.length c0_5, .slice A0_6 l0_6.length c0_6, .slice A0_7 l0_7.length c0_7, .slice A0_8 l0_8.length c0_8, .slice A0_9 l0_9.length c0_9, .int .i64 a0_10] 35 ?_; intro gb503 hg w5 hbox hb; have BK503 := am (hbox); have GW503 := gw_ hg HB; replace HB := h9_ HB hb; clear hb hbox hg) | ((with_reducible refine gate_dst (N := 10) rfl ?_); refine Kd.R_lit (Kd.int .i64) _ 3 ?hg (N := 10) ?hd (xs := ([] : List Int)) (inner := []) (ok := fun _ => True) (okp := fun _ => True) ?hr ?hp (fun _ hk => hk) trivial (Below.refl _ _) (Nat.le_refl _) (by simp) ?_; (case hd => rfl); (case hg => rfl); (case hr => first | (go_simp; done) | (go_simp; rfl)); (case hp => exact (Reps.none _ _)); intro v505 w6 ho7 hb hg_ hnew_; clear hg_ hnew_; (first | rw [← Ny504.out] at ho7 | (simp only [Int.reduceToNat] at ho7; rw [← Ny504.out] at ho7)); have HO506 := am (Kd.R_lower ho7 (bz_ HB.out)); replace BK503 := kb_ BK503 hb; replace HB := h9_ HB hb; clear hb ho7; obtain ⟨hcz8_0, hcz8_1, hcz8_2, hcz8_3, hcz8_4, hcz8_5, hcz8_6, hcz8_7, hcz8_8, hcz8_9, hcz8_10, hfz8_0, hfz8_1, hfz8_2, hfz8_3, hfz8_4, hfz8_5, hfz8_6, hfz8_7, hfz8_8, hfz8_9, hfz8_10⟩ := cz11_ BK503.out) | ((with_reducible refine gate_callee (f := 20) rfl ?_); refine gm_ (some 14) Try.func20 #[.agg #[.int .i64 a0_0, .int .i64 a0_1, .slice A0_2 l0_2.length c0_2, .slice A0_3 l0_3.length c0_3, .slice A0_4 l0_4.length c0_4, .slice A0_5 l0_5.length c0_5, .slice A0_6 l0_6.length c0_6, .slice A0_7 l0_7.length c0_7, .slice A0_8 l0_8.length c0_8, .slice A0_9 l0_9.length c0_9, .int .i64 a0_10], .int .i64 a1, .int .i64 a2] rfl ?_; (with_reducible refine (spec_l17Ok.calls k a0_0 a0_1 _ _ l0_2 _ _ l0_3 _ _ l0_4 _ _ l0_5 _ _ l0_6 _ _ l0_7 _ _ l0_8 _ _ l0_9 a0_10 a1 a2 t507 _ ?side1 HC0_2.out ?side3 HC0_3.out ?side5 HC0_4.out ?side7 HC0_5.out ?side9 HC0_6.out ?side11 HC0_7.out ?side13 HC0_8.out ?side15 HC0_9.out A4.out).mono ?_); (case side1 => exact cb_ HR0_2.out HB.out); (case side3 => exact cb_ HR0_3.out HB.out); (case side5 => exact cb_ HR0_4.out HB.out); (case side7 => exact cb_ HR0_5.out HB.out); (case side9 => exact cb_ HR0_6.out HB.out); (case side11 => exact cb_ HR0_7.out HB.out); (case side13 => exact cb_ HR0_8.out HB.out); (case side15 => exact cb_ HR0_9.out HB.out); rintro e w9 ⟨rfl, hb⟩; refine ⟨_, rfl, ?_⟩; replace HO506 := rb_ HO506 hb; replace BK503 := kb_ BK503 hb; replace HB := h9_ HB hb; (try clear hb)))
 go_loopg [7, 9] k (fun kq v7 v9 w' => ∃ (x7_1 : List Int) (x9_1 : Int), v9 = .int .i64 x9_1 ∧ Aside0 (spec_RequestsAt.l0 kq a1 a2 x7_1 t507 x9_1 a0_0 a0_1 l0_2 l0_3 l0_4 l0_5 l0_6 l0_7 l0_8 l0_9 a0_10 = some r) ∧ Aside0 (kq ≤ k) ∧ Aside0 (Kd.R (Kd.int .i64) 3 w' w.heap.size (fun _ => True) v7 x7_1) ∧ Aside0 (w'.heap[gb503]? = some (.cells #[.int .i64 a0_0, .int .i64 a0_1, (.slice A0_2 l0_2.length c0_2), (.slice A0_3 l0_3.length c0_3), (.slice A0_4 l0_4.length c0_4), (.slice A0_5 l0_5.length c0_5), (.slice A0_6 l0_6.length c0_6), (.slice A0_7 l0_7.length c0_7), (.slice A0_8 l0_8.length c0_8), (.slice A0_9 l0_9.length c0_9), .int .i64 a0_10] 35 (0, 0))) ∧ Aside0 (Below w.heap.size w w'))
 case atStart => exact ⟨(y504), (0), ef_, H', ⟨Nat.le_refl _⟩, ⟨ra_ HO506.out⟩, ⟨bq_ BK503.out⟩, ⟨bb_ HB.out⟩⟩
 clear H'
 try clear hcz8_0 hcz8_1 hcz8_10 hcz8_2 hcz8_3 hcz8_4 hcz8_5 hcz8_6 hcz8_7 hcz8_8 hcz8_9 hfz8_0 hfz8_1 hfz8_10 hfz8_2 hfz8_3 hfz8_4 hfz8_5 hfz8_6 hfz8_7 hfz8_8 hfz8_9
 obtain ⟨x7_1, x9_1, rfl, HA, HK1, HO_7, BK503, HB⟩ := hrel
 obtain _ | k1 := gk
 ·exact absurd HA.out (by simp [spec_RequestsAt.l0])
 have H := HA.out
 clear HA
 simp only [spec_RequestsAt.l0] at H
 have HC10 := am H
 clear H
 go_upto_region 4 with (fail)
 go_cut [19] (fun v19 wc => ∃ (kq : Nat) (x19_9 : Bool), v19 = .bool x19_9 ∧ Aside0 (spec_RequestsAt.j1 kq a1 a2 x7_1 t507 x9_1 x19_9 a0_0 a0_1 l0_2 l0_3 l0_4 l0_5 l0_6 l0_7 l0_8 l0_9 a0_10 = some r) ∧ Aside0 (kq ≤ k1) ∧ Aside0 (Kd.R (Kd.int .i64) 3 wc w.heap.size (fun _ => True) u7 x7_1) ∧ Aside0 (wc.heap[gb503]? = some (.cells #[.int .i64 a0_0, .int .i64 a0_1, (.slice A0_2 l0_2.length c0_2), (.slice A0_3 l0_3.length c0_3), (.slice A0_4 l0_4.length c0_4), (.slice A0_5 l0_5.length c0_5), (.slice A0_6 l0_6.length c0_6), (.slice A0_7 l0_7.length c0_7), (.slice A0_8 l0_8.length c0_8), (.slice A0_9 l0_9.length c0_9), .int .i64 a0_10] 35 (0, 0))) ∧ Aside0 (Below w.heap.size w wc))
 case first =>
  have H := HC10.out
  clear HC10
  by_cases c11 : x9_1 < 10
  ·rw [if_pos c11] at H
   have c11b0 : decide (x9_1 < 10) = true := decide_eq_true c11
   clear c11
   (first | rw [c11b0] | (simp only [i64_w, i32_w]; rw [c11b0]) | skip)
   have H' := am H
   clear H
   go_wp2
   go_meet
   case rel => exact ⟨_, (t507), ef_, H', ⟨by have := HK1.out; first | omega | exact Nat.le_refl _⟩, ⟨ra_ HO_7.out⟩, ⟨bq_ BK503.out⟩, ⟨bb_ HB.out⟩⟩
  rw [if_neg c11] at H
  have c11b0 : decide (x9_1 < 10) = false := decide_eq_false c11
  clear c11
  (first | rw [c11b0] | (simp only [i64_w, i32_w]; rw [c11b0]) | skip)
  have H' := am H
  clear H
  go_wp2
  go_meet
  case rel => exact ⟨_, (false), ef_, H', ⟨by have := HK1.out; first | omega | exact Nat.le_refl _⟩, ⟨ra_ HO_7.out⟩, ⟨bq_ BK503.out⟩, ⟨bb_ HB.out⟩⟩
 case rest =>
  clear HC10
  try clear hcz8_0 hcz8_1 hcz8_10 hcz8_2 hcz8_3 hcz8_4 hcz8_5 hcz8_6 hcz8_7 hcz8_8 hcz8_9 hfz8_0 hfz8_1 hfz8_10 hfz8_2 hfz8_3 hfz8_4 hfz8_5 hfz8_6 hfz8_7 hfz8_8 hfz8_9
  obtain ⟨kq, x19_9, rfl, HA, HJ9, HO_7, BK503, HB⟩ := hcut
  cases kq with
  | zero => exact absurd HA.out (by simp [spec_RequestsAt.j1])
  | succ kj9 =>
   have H := HA.out
   clear HA
   simp only [spec_RequestsAt.j1] at H
   by_cases c12 : x19_9 = true
   rotate_left
   ·replace c12 := Bool.eq_false_iff.mpr c12
    subst c12
    rw [if_neg (show ¬ (false = true) by decide)] at H
    obtain rfl := Option.some.inj H
    go_wp2
    go_ret
    exact ⟨_, fin_, ra_ HO_7.out, bb_ HB.out⟩
   subst c12
   rw [if_pos rfl] at H
   obtain ⟨t508, A13, H⟩ := bi_ H
   by_cases c14 : t508 = true
   rotate_left
   ·replace c14 := Bool.eq_false_iff.mpr c14
    subst c14
    rw [if_neg (show ¬ (false = true) by decide)] at H
    have H' := am H
    clear H
    obtain ⟨hcz19_0, hcz19_1, hcz19_2, hcz19_3, hcz19_4, hcz19_5, hcz19_6, hcz19_7, hcz19_8, hcz19_9, hcz19_10, hfz19_0, hfz19_1, hfz19_2, hfz19_3, hfz19_4, hfz19_5, hfz19_6, hfz19_7, hfz19_8, hfz19_9, hfz19_10⟩ := cz11_ BK503.out
    go_wp2_with (first | ((with_reducible refine gate_callee (f := 21) rfl ?_); refine gm_ (some 26) Try.func21 #[.agg #[.int .i64 a0_0, .int .i64 a0_1, .slice A0_2 l0_2.length c0_2, .slice A0_3 l0_3.length c0_3, .slice A0_4 l0_4.length c0_4, .slice A0_5 l0_5.length c0_5, .slice A0_6 l0_6.length c0_6, .slice A0_7 l0_7.length c0_7, .slice A0_8 l0_8.length c0_8, .slice A0_9 l0_9.length c0_9, .int .i64 a0_10], .int .i64 a1, .int .i64 x9_1, .int .i64 a2] rfl ?_; (with_reducible refine (spec_l17Request.calls kj9 a0_0 a0_1 _ _ l0_2 _ _ l0_3 _ _ l0_4 _ _ l0_5 _ _ l0_6 _ _ l0_7 _ _ l0_8 _ _ l0_9 a0_10 a1 x9_1 a2 false _ ?side1 HC0_2.out ?side3 HC0_3.out ?side5 HC0_4.out ?side7 HC0_5.out ?side9 HC0_6.out ?side11 HC0_7.out ?side13 HC0_8.out ?side15 HC0_9.out A13.out).mono ?_); (case side1 => exact cb_ HR0_2.out HB.out); (case side3 => exact cb_ HR0_3.out HB.out); (case side5 => exact cb_ HR0_4.out HB.out); (case side7 => exact cb_ HR0_5.out HB.out); (case side9 => exact cb_ HR0_6.out HB.out); (case side11 => exact cb_ HR0_7.out HB.out); (case side13 => exact cb_ HR0_8.out HB.out); (case side15 => exact cb_ HR0_9.out HB.out); rintro e w20 ⟨rfl, hb⟩; refine ⟨_, rfl, ?_⟩; replace HO_7 := rb_ HO_7 hb; replace BK503 := kb_ BK503 hb; replace HB := h9_ HB hb; (try clear hb)))
    go_roundg kj9
    case measure => have := HK1.out; have := HJ9.out; omega
    case rel => exact ⟨(x7_1), (wrap64 (x9_1 + 1)), ef_, H', ⟨by have := HK1.out; have := HJ9.out; omega⟩, ⟨ra_ HO_7.out⟩, ⟨bq_ BK503.out⟩, ⟨bb_ HB.out⟩⟩
   subst c14
   rw [if_pos rfl] at H
   by_cases c15 : x7_1.length < 17592186044416
   rotate_left
   ·rw [if_neg c15] at H
    exact absurd H (by simp)
   rw [if_pos c15] at H
   have LMc15 := am c15
   clear c15
   obtain ⟨y509, hy509⟩ : ∃ y_ : List Int, y_ = (x7_1 ++ [x9_1]) := ⟨_, rfl⟩
   replace H : (spec_RequestsAt.l0 kj9 a1 a2 y509 t507 (wrap64 (x9_1 + 1)) a0_0 a0_1 l0_2 l0_3 l0_4 l0_5 l0_6 l0_7 l0_8 l0_9 a0_10) = some r := ry_ hy509 H
   have Ny509 := am hy509
   clear hy509
   have H' := am H
   clear H
   obtain ⟨hcz16_0, hcz16_1, hcz16_2, hcz16_3, hcz16_4, hcz16_5, hcz16_6, hcz16_7, hcz16_8, hcz16_9, hcz16_10, hfz16_0, hfz16_1, hfz16_2, hfz16_3, hfz16_4, hfz16_5, hfz16_6, hfz16_7, hfz16_8, hfz16_9, hfz16_10⟩ := cz11_ BK503.out
   go_wp2_with (first | ((with_reducible refine gate_callee (f := 21) rfl ?_); refine gm_ (some 26) Try.func21 #[.agg #[.int .i64 a0_0, .int .i64 a0_1, .slice A0_2 l0_2.length c0_2, .slice A0_3 l0_3.length c0_3, .slice A0_4 l0_4.length c0_4, .slice A0_5 l0_5.length c0_5, .slice A0_6 l0_6.length c0_6, .slice A0_7 l0_7.length c0_7, .slice A0_8 l0_8.length c0_8, .slice A0_9 l0_9.length c0_9, .int .i64 a0_10], .int .i64 a1, .int .i64 x9_1, .int .i64 a2] rfl ?_; (with_reducible refine (spec_l17Request.calls kj9 a0_0 a0_1 _ _ l0_2 _ _ l0_3 _ _ l0_4 _ _ l0_5 _ _ l0_6 _ _ l0_7 _ _ l0_8 _ _ l0_9 a0_10 a1 x9_1 a2 true _ ?side1 HC0_2.out ?side3 HC0_3.out ?side5 HC0_4.out ?side7 HC0_5.out ?side9 HC0_6.out ?side11 HC0_7.out ?side13 HC0_8.out ?side15 HC0_9.out A13.out).mono ?_); (case side1 => exact cb_ HR0_2.out HB.out); (case side3 => exact cb_ HR0_3.out HB.out); (case side5 => exact cb_ HR0_4.out HB.out); (case side7 => exact cb_ HR0_5.out HB.out); (case side9 => exact cb_ HR0_6.out HB.out); (case side11 => exact cb_ HR0_7.out HB.out); (case side13 => exact cb_ HR0_8.out HB.out); (case side15 => exact cb_ HR0_9.out HB.out); rintro e w17 ⟨rfl, hb⟩; refine ⟨_, rfl, ?_⟩; replace HO_7 := rb_ HO_7 hb; replace BK503 := kb_ BK503 hb; replace HB := h9_ HB hb; (try clear hb)) | ((with_reducible refine gate_builtin (b := .append) (xs := #[.tmp 27, .tmp 29]) rfl ?_); at_builtin; refine Kd.R_append (Kd.int .i64) (w0 := w) w.heap.size rfl (.tmp 27) (.tmp 29) 26 3 (.int .i64 0) 8 rfl Try.underlying26 info3 rfl (by decide) (by omega) u7 x7_1 x9_1 [.int .i64 x9_1] (fun _ => True) (fun _ => False) rfl rfl ?aP (fun _ hk => hk.elim) ?aF ?aO ?aB ?aS ?aL ?_; (case aP => exact rfl); (case aB => exact (hb_ HB.out)); (case aF => exact (fun _ _ => trivial)); (case aO => exact (ra_ HO_7.out)); (case aS => exact (bz_ HB.out)); (case aL => have := LMc15.out; omega); intro v510 w18 ho hb hg hat; rw [← Ny509.out] at ho; have n0_ := am (blk_grown (g := gb503) (o := .cells #[.int .i64 a0_0, .int .i64 a0_1, .slice A0_2 l0_2.length c0_2, .slice A0_3 l0_3.length c0_3, .slice A0_4 l0_4.length c0_4, .slice A0_5 l0_5.length c0_5, .slice A0_6 l0_6.length c0_6, .slice A0_7 l0_7.length c0_7, .slice A0_8 l0_8.length c0_8, .slice A0_9 l0_9.length c0_9, .int .i64 a0_10] 35 (0, 0)) (bq_ BK503.out) hg (Kd.R_ne HO_7.out BK503.out (by decide))); have n1_ := am (hb); have n2_ := am (ho); clear BK503; clear HB; clear HO_7; have BK503 := n0_; have HB := n1_; have HO511 := n2_; clear n0_ n1_ n2_; clear ho hb hg hat))
   go_roundg kj9
   case measure => have := HK1.out; have := HJ9.out; omega
   case rel => exact ⟨(y509), (wrap64 (x9_1 + 1)), ef_, H', ⟨by have := HK1.out; have := HJ9.out; omega⟩, ⟨ra_ HO511.out⟩, ⟨bq_ BK503.out⟩, ⟨bb_ HB.out⟩⟩
def impl_WantedPort.f (k : Nat) (a0_0 : Int) (a0_1 : Int) (l0_2 : List Int) (l0_3 : List Int) (l0_4 : List Int) (l0_5 : List (List S72)) (l0_6 : List Int) (l0_7 : List Int) (l0_8 : List (List S72)) (l0_9 : List (List S72)) (a0_10 : Int) (a1 a2 : Int) : Option Int := (impl_isPlace.f k a0_0 a0_1 l0_2 l0_3 l0_4 l0_5 l0_6 l0_7 l0_8 l0_9 a0_10 a1).bind fun b1 => (if b1 = true then ((impl_inside.f a2 0 9).bind fun b2 => (if b2 = true then (impl_Net_wanted.f k a0_0 a0_1 l0_2 l0_3 l0_4 l0_5 l0_6 a1 a2) else (some (-1)))) else (some (-1)))
theorem impl_WantedPort.lf {P : Prop} (h : P := by
 go_enter Try.func10, Try.ntmps10
 go_wp2_with (first | ((with_reducible refine gate_dst (N := 3) rfl ?_); refine bx_ 3 #[.int .i64 a0_0, .int .i64 a0_1, .slice A0_2 l0_2.length c0_2, .slice A0_3 l0_3.length c0_3, .slice A0_4 l0_4.length c0_4, .slice A0_5 l0_5.length c0_5, .slice A0_6 l0_6.length c0_6, .slice A0_7 l0_7.length c0_7, .slice A0_8 l0_8.length c0_8, .slice A0_9 l0_9.length c0_9, .int .i64 a0_10] 35 ?_; intro gb hg w1 hbox hb; have BK := am hbox; replace HB := h9_ HB hb; clear hb hbox hg; obtain ⟨z0, z1, z2, z3, z4, z5, z6, z7, z8, z9, z10, f0, f1, f2, f3, f4, f5, f6, f7, f8, f9, f10⟩ := cz11_ BK.out) | (go_at_call 18; (with_reducible refine (impl_isPlace.calls k a0_0 a0_1 _ _ l0_2 _ _ l0_3 _ _ l0_4 _ _ l0_5 _ _ l0_6 _ _ l0_7 _ _ l0_8 _ _ l0_9 a0_10 a1 _ _ ?side1 HC0_2.out ?side2 HC0_3.out ?side3 HC0_4.out ?side4 HC0_5.out ?side5 HC0_6.out ?side6 HC0_7.out ?side7 HC0_8.out ?side8 HC0_9.out A1.out).mono ?_); (case side1 => exact cb_ HR0_2.out HB.out); (case side2 => exact cb_ HR0_3.out HB.out); (case side3 => exact cb_ HR0_4.out HB.out); (case side4 => exact cb_ HR0_5.out HB.out); (case side5 => exact cb_ HR0_6.out HB.out); (case side6 => exact cb_ HR0_7.out HB.out); (case side7 => exact cb_ HR0_8.out HB.out); (case side8 => exact cb_ HR0_9.out HB.out); rintro e w1 ⟨rfl, hb⟩; replace BK := kb_ BK hb; replace HB := h9_ HB hb; (try clear hb); obtain ⟨z0, z1, z2, z3, z4, z5, z6, z7, z8, z9, z10, f0, f1, f2, f3, f4, f5, f6, f7, f8, f9, f10⟩ := cz11_ BK.out) | (go_at_call 22; (with_reducible refine (impl_inside.calls _ _ _ _ _ A2.out).mono ?_); rintro e w' ⟨rfl, ⟨nd, rfl⟩⟩) | (go_at_call 23; (with_reducible refine (impl_Net_wanted.calls k gb a0_0 a0_1 l0_2 l0_3 l0_4 l0_5 l0_6 l0_7 l0_8 l0_9 a0_10 a1 a2 _ _ ?side1 A3.out).mono ?_); (case side1 => exact ⟨A0_2, c0_2, A0_3, c0_3, A0_4, c0_4, A0_5, c0_5, A0_6, c0_6, A0_7, c0_7, A0_8, c0_8, A0_9, c0_9, bq_ BK.out, ⟨cb_ HR0_2.out HB.out, HC0_2.out⟩, ⟨cb_ HR0_3.out HB.out, HC0_3.out⟩, ⟨cb_ HR0_4.out HB.out, HC0_4.out⟩, ⟨cb_ HR0_5.out HB.out, HC0_5.out⟩, ⟨cb_ HR0_6.out HB.out, HC0_6.out⟩, ⟨cb_ HR0_7.out HB.out, HC0_7.out⟩, ⟨cb_ HR0_8.out HB.out, HC0_8.out⟩, ⟨cb_ HR0_9.out HB.out, HC0_9.out⟩⟩); rintro e w1 ⟨rfl, hb⟩; replace BK := kb_ BK hb; replace HB := h9_ HB hb; (try clear hb); obtain ⟨z0, z1, z2, z3, z4, z5, z6, z7, z8, z9, z10, f0, f1, f2, f3, f4, f5, f6, f7, f8, f9, f10⟩ := cz11_ BK.out))
 go_ret
 exact ⟨fin_, bb_ HB.out⟩) : P := h
set_option maxHeartbeats 4000000 in
theorem impl_WantedPort.calls (k : Nat) (a0_0 : Int) (a0_1 : Int) (A0_2 : Option Addr) (c0_2 : Nat) (l0_2 : List Int) (A0_3 : Option Addr) (c0_3 : Nat) (l0_3 : List Int) (A0_4 : Option Addr) (c0_4 : Nat) (l0_4 : List Int) (A0_5 : Option Addr) (c0_5 : Nat) (l0_5 : List (List S72)) (A0_6 : Option Addr) (c0_6 : Nat) (l0_6 : List Int) (A0_7 : Option Addr) (c0_7 : Nat) (l0_7 : List Int) (A0_8 : Option Addr) (c0_8 : Nat) (l0_8 : List (List S72)) (A0_9 : Option Addr) (c0_9 : Nat) (l0_9 : List (List S72)) (a0_10 : Int) (a1 : Int) (a2 : Int) (r : Int) (w : World) (hr0_2 : Kd.C (Kd.int .i64) w A0_2 l0_2.length l0_2) (hc0_2 : l0_2.length ≤ c0_2) (hr0_3 : Kd.C (Kd.int .i64) w A0_3 l0_3.length l0_3) (hc0_3 : l0_3.length ≤ c0_3) (hr0_4 : Kd.C (Kd.int .i64) w A0_4 l0_4.length l0_4) (hc0_4 : l0_4.length ≤ c0_4) (hr0_5 : Kd.C (Kd.slice 72 k72) w A0_5 l0_5.length l0_5) (hc0_5 : l0_5.length ≤ c0_5) (hr0_6 : Kd.C (Kd.int .i64) w A0_6 l0_6.length l0_6) (hc0_6 : l0_6.length ≤ c0_6) (hr0_7 : Kd.C (Kd.int .i64) w A0_7 l0_7.length l0_7) (hc0_7 : l0_7.length ≤ c0_7) (hr0_8 : Kd.C (Kd.slice 72 k72) w A0_8 l0_8.length l0_8) (hc0_8 : l0_8.length ≤ c0_8) (hr0_9 : Kd.C (Kd.slice 72 k72) w A0_9 l0_9.length l0_9) (hc0_9 : l0_9.length ≤ c0_9) (h : impl_WantedPort.f k a0_0 a0_1 l0_2 l0_3 l0_4 l0_5 l0_6 l0_7 l0_8 l0_9 a0_10 a1 a2 = some r) :
  Calls Try.prog 10 #[.agg #[.int .i64 a0_0, .int .i64 a0_1, .slice A0_2 l0_2.length c0_2, .slice A0_3 l0_3.length c0_3, .slice A0_4 l0_4.length c0_4, .slice A0_5 l0_5.length c0_5, .slice A0_6 l0_6.length c0_6, .slice A0_7 l0_7.length c0_7, .slice A0_8 l0_8.length c0_8, .slice A0_9 l0_9.length c0_9, .int .i64 a0_10], .int .i64 a1, .int .i64 a2] w fun e w' => e = .returned (.int .i64 r) ∧ Below w.heap.size w w' := by
 obtain ⟨HR0_2, HC0_2, HR0_3, HC0_3, HR0_4, HC0_4, HR0_5, HC0_5, HR0_6, HC0_6, HR0_7, HC0_7, HR0_8, HC0_8, HR0_9, HC0_9⟩ := a16_ hr0_2 hc0_2 hr0_3 hc0_3 hr0_4 hc0_4 hr0_5 hc0_5 hr0_6 hc0_6 hr0_7 hc0_7 hr0_8 hc0_8 hr0_9 hc0_9; clear hr0_2 hc0_2 hr0_3 hc0_3 hr0_4 hc0_4 hr0_5 hc0_5 hr0_6 hc0_6 hr0_7 hc0_7 hr0_8 hc0_8 hr0_9 hc0_9
 have HB := am (Below.refl w.heap.size w)
 unfold impl_WantedPort.f at h
 obtain ⟨b1, A10, h⟩ := Option.bind_eq_some_iff.1 h
 have A1 := am A10
 clear A10
 cases b1 with
 | false =>
  have h1 : some (-1 : Int) = some r := h
  obtain rfl := Option.some.inj h1
  clear h h1
  exact impl_WantedPort.lf
 | true =>
  rw [if_pos rfl] at h
  obtain ⟨b2, A20, h⟩ := Option.bind_eq_some_iff.1 h
  have A2 := am A20
  clear A20
  cases b2 with
  | false =>
   have h1 : some (-1 : Int) = some r := h
   obtain rfl := Option.some.inj h1
   clear h h1
   exact impl_WantedPort.lf
  | true =>
   rw [if_pos rfl] at h
   have A3 := am h
   clear h
   exact impl_WantedPort.lf
def impl_HasRoom.f (k : Nat) (a0_0 : Int) (a0_1 : Int) (l0_2 : List Int) (l0_3 : List Int) (l0_4 : List Int) (l0_5 : List (List S72)) (l0_6 : List Int) (l0_7 : List Int) (l0_8 : List (List S72)) (l0_9 : List (List S72)) (a0_10 : Int) (a1 a2 a3 : Int) : Option Bool := (impl_isPlace.f k a0_0 a0_1 l0_2 l0_3 l0_4 l0_5 l0_6 l0_7 l0_8 l0_9 a0_10 a1).bind fun b1 => (if b1 = true then ((impl_inside.f a2 0 4).bind fun b2 => (if b2 = true then ((impl_inside.f a3 0 1).bind fun b3 => (if b3 = true then (impl_Net_hasRoom.f k a0_0 a0_1 l0_2 l0_5 a1 a2 a3) else (some false))) else (some false))) else (some false))
theorem impl_HasRoom.lf {P : Prop} (h : P := by
 go_enter Try.func11, Try.ntmps11
 go_wp2_with (first | ((with_reducible refine gate_dst (N := 4) rfl ?_); refine bx_ 4 #[.int .i64 a0_0, .int .i64 a0_1, .slice A0_2 l0_2.length c0_2, .slice A0_3 l0_3.length c0_3, .slice A0_4 l0_4.length c0_4, .slice A0_5 l0_5.length c0_5, .slice A0_6 l0_6.length c0_6, .slice A0_7 l0_7.length c0_7, .slice A0_8 l0_8.length c0_8, .slice A0_9 l0_9.length c0_9, .int .i64 a0_10] 35 ?_; intro gb hg w1 hbox hb; have BK := am hbox; replace HB := h9_ HB hb; clear hb hbox hg; obtain ⟨z0, z1, z2, z3, z4, z5, z6, z7, z8, z9, z10, f0, f1, f2, f3, f4, f5, f6, f7, f8, f9, f10⟩ := cz11_ BK.out) | (go_at_call 18; (with_reducible refine (impl_isPlace.calls k a0_0 a0_1 _ _ l0_2 _ _ l0_3 _ _ l0_4 _ _ l0_5 _ _ l0_6 _ _ l0_7 _ _ l0_8 _ _ l0_9 a0_10 a1 _ _ ?side1 HC0_2.out ?side2 HC0_3.out ?side3 HC0_4.out ?side4 HC0_5.out ?side5 HC0_6.out ?side6 HC0_7.out ?side7 HC0_8.out ?side8 HC0_9.out A1.out).mono ?_); (case side1 => exact cb_ HR0_2.out HB.out); (case side2 => exact cb_ HR0_3.out HB.out); (case side3 => exact cb_ HR0_4.out HB.out); (case side4 => exact cb_ HR0_5.out HB.out); (case side5 => exact cb_ HR0_6.out HB.out); (case side6 => exact cb_ HR0_7.out HB.out); (case side7 => exact cb_ HR0_8.out HB.out); (case side8 => exact cb_ HR0_9.out HB.out); rintro e w1 ⟨rfl, hb⟩; replace BK := kb_ BK hb; replace HB := h9_ HB hb; (try clear hb); obtain ⟨z0, z1, z2, z3, z4, z5, z6, z7, z8, z9, z10, f0, f1, f2, f3, f4, f5, f6, f7, f8, f9, f10⟩ := cz11_ BK.out) | (go_at_call 22; (with_reducible refine (impl_inside.calls _ _ _ _ _ A2.out).mono ?_); rintro e w' ⟨rfl, ⟨nd, rfl⟩⟩) | (go_at_call 22; (with_reducible refine (impl_inside.calls _ _ _ _ _ A3.out).mono ?_); rintro e w' ⟨rfl, ⟨nd, rfl⟩⟩) | (go_at_call 24; (with_reducible refine (impl_Net_hasRoom.calls k gb a0_0 a0_1 l0_2 l0_3 l0_4 l0_5 l0_6 l0_7 l0_8 l0_9 a0_10 a1 a2 a3 _ _ ?side1 A4.out).mono ?_); (case side1 => exact ⟨A0_2, c0_2, A0_3, c0_3, A0_4, c0_4, A0_5, c0_5, A0_6, c0_6, A0_7, c0_7, A0_8, c0_8, A0_9, c0_9, bq_ BK.out, ⟨cb_ HR0_2.out HB.out, HC0_2.out⟩, ⟨cb_ HR0_3.out HB.out, HC0_3.out⟩, ⟨cb_ HR0_4.out HB.out, HC0_4.out⟩, ⟨cb_ HR0_5.out HB.out, HC0_5.out⟩, ⟨cb_ HR0_6.out HB.out, HC0_6.out⟩, ⟨cb_ HR0_7.out HB.out, HC0_7.out⟩, ⟨cb_ HR0_8.out HB.out, HC0_8.out⟩, ⟨cb_ HR0_9.out HB.out, HC0_9.out⟩⟩); rintro e w1 ⟨rfl, hb⟩; replace BK := kb_ BK hb; replace HB := h9_ HB hb; (try clear hb); obtain ⟨z0, z1, z2, z3, z4, z5, z6, z7, z8, z9, z10, f0, f1, f2, f3, f4, f5, f6, f7, f8, f9, f10⟩ := cz11_ BK.out))
 go_ret
 exact ⟨fin_, bb_ HB.out⟩) : P := h
set_option maxHeartbeats 4000000 in
theorem impl_HasRoom.calls (k : Nat) (a0_0 : Int) (a0_1 : Int) (A0_2 : Option Addr) (c0_2 : Nat) (l0_2 : List Int) (A0_3 : Option Addr) (c0_3 : Nat) (l0_3 : List Int) (A0_4 : Option Addr) (c0_4 : Nat) (l0_4 : List Int) (A0_5 : Option Addr) (c0_5 : Nat) (l0_5 : List (List S72)) (A0_6 : Option Addr) (c0_6 : Nat) (l0_6 : List Int) (A0_7 : Option Addr) (c0_7 : Nat) (l0_7 : List Int) (A0_8 : Option Addr) (c0_8 : Nat) (l0_8 : List (List S72)) (A0_9 : Option Addr) (c0_9 : Nat) (l0_9 : List (List S72)) (a0_10 : Int) (a1 : Int) (a2 : Int) (a3 : Int) (r : Bool) (w : World) (hr0_2 : Kd.C (Kd.int .i64) w A0_2 l0_2.length l0_2) (hc0_2 : l0_2.length ≤ c0_2) (hr0_3 : Kd.C (Kd.int .i64) w A0_3 l0_3.length l0_3) (hc0_3 : l0_3.length ≤ c0_3) (hr0_4 : Kd.C (Kd.int .i64) w A0_4 l0_4.length l0_4) (hc0_4 : l0_4.length ≤ c0_4) (hr0_5 : Kd.C (Kd.slice 72 k72) w A0_5 l0_5.length l0_5) (hc0_5 : l0_5.length ≤ c0_5) (hr0_6 : Kd.C (Kd.int .i64) w A0_6 l0_6.length l0_6) (hc0_6 : l0_6.length ≤ c0_6) (hr0_7 : Kd.C (Kd.int .i64) w A0_7 l0_7.length l0_7) (hc0_7 : l0_7.length ≤ c0_7) (hr0_8 : Kd.C (Kd.slice 72 k72) w A0_8 l0_8.length l0_8) (hc0_8 : l0_8.length ≤ c0_8) (hr0_9 : Kd.C (Kd.slice 72 k72) w A0_9 l0_9.length l0_9) (hc0_9 : l0_9.length ≤ c0_9) (h : impl_HasRoom.f k a0_0 a0_1 l0_2 l0_3 l0_4 l0_5 l0_6 l0_7 l0_8 l0_9 a0_10 a1 a2 a3 = some r) :
  Calls Try.prog 11 #[.agg #[.int .i64 a0_0, .int .i64 a0_1, .slice A0_2 l0_2.length c0_2, .slice A0_3 l0_3.length c0_3, .slice A0_4 l0_4.length c0_4, .slice A0_5 l0_5.length c0_5, .slice A0_6 l0_6.length c0_6, .slice A0_7 l0_7.length c0_7, .slice A0_8 l0_8.length c0_8, .slice A0_9 l0_9.length c0_9, .int .i64 a0_10], .int .i64 a1, .int .i64 a2, .int .i64 a3] w fun e w' => e = .returned (.bool r) ∧ Below w.heap.size w w' := by
 obtain ⟨HR0_2, HC0_2, HR0_3, HC0_3, HR0_4, HC0_4, HR0_5, HC0_5, HR0_6, HC0_6, HR0_7, HC0_7, HR0_8, HC0_8, HR0_9, HC0_9⟩ := a16_ hr0_2 hc0_2 hr0_3 hc0_3 hr0_4 hc0_4 hr0_5 hc0_5 hr0_6 hc0_6 hr0_7 hc0_7 hr0_8 hc0_8 hr0_9 hc0_9; clear hr0_2 hc0_2 hr0_3 hc0_3 hr0_4 hc0_4 hr0_5 hc0_5 hr0_6 hc0_6 hr0_7 hc0_7 hr0_8 hc0_8 hr0_9 hc0_9
 have HB := am (Below.refl w.heap.size w)
 unfold impl_HasRoom.f at h
 obtain ⟨b1, A10, h⟩ := Option.bind_eq_some_iff.1 h
 have A1 := am A10
 clear A10
 cases b1 with
 | false =>
  have h1 : some false = some r := h
  obtain rfl := Option.some.inj h1
  clear h h1
  exact impl_HasRoom.lf
 | true =>
  rw [if_pos rfl] at h
  obtain ⟨b2, A20, h⟩ := Option.bind_eq_some_iff.1 h
  have A2 := am A20
  clear A20
  cases b2 with
  | false =>
   have h1 : some false = some r := h
   obtain rfl := Option.some.inj h1
   clear h h1
   exact impl_HasRoom.lf
  | true =>
   rw [if_pos rfl] at h
   obtain ⟨b3, A30, h⟩ := Option.bind_eq_some_iff.1 h
   have A3 := am A30
   clear A30
   cases b3 with
   | false =>
    have h1 : some false = some r := h
    obtain rfl := Option.some.inj h1
    clear h h1
    exact impl_HasRoom.lf
   | true =>
    rw [if_pos rfl] at h
    have A4 := am h
    clear h
    exact impl_HasRoom.lf
def impl_IsRequest.f (k : Nat) (a0_0 : Int) (a0_1 : Int) (l0_2 : List Int) (l0_3 : List Int) (l0_4 : List Int) (l0_5 : List (List S72)) (l0_6 : List Int) (l0_7 : List Int) (l0_8 : List (List S72)) (l0_9 : List (List S72)) (a0_10 : Int) (a1 a2 a3 : Int) : Option Bool := (impl_isPlace.f k a0_0 a0_1 l0_2 l0_3 l0_4 l0_5 l0_6 l0_7 l0_8 l0_9 a0_10 a1).bind fun b1 => (if b1 = true then ((impl_inside.f a2 0 9).bind fun b2 => (if b2 = true then (impl_Net_isRequest.f k a0_0 a0_1 l0_2 l0_3 l0_4 l0_5 l0_6 a1 a2 a3) else (some false))) else (some false))
theorem impl_IsRequest.lf {P : Prop} (h : P := by
 go_enter Try.func12, Try.ntmps12
 go_wp2_with (first | ((with_reducible refine gate_dst (N := 4) rfl ?_); refine bx_ 4 #[.int .i64 a0_0, .int .i64 a0_1, .slice A0_2 l0_2.length c0_2, .slice A0_3 l0_3.length c0_3, .slice A0_4 l0_4.length c0_4, .slice A0_5 l0_5.length c0_5, .slice A0_6 l0_6.length c0_6, .slice A0_7 l0_7.length c0_7, .slice A0_8 l0_8.length c0_8, .slice A0_9 l0_9.length c0_9, .int .i64 a0_10] 35 ?_; intro gb hg w1 hbox hb; have BK := am hbox; replace HB := h9_ HB hb; clear hb hbox hg; obtain ⟨z0, z1, z2, z3, z4, z5, z6, z7, z8, z9, z10, f0, f1, f2, f3, f4, f5, f6, f7, f8, f9, f10⟩ := cz11_ BK.out) | (go_at_call 18; (with_reducible refine (impl_isPlace.calls k a0_0 a0_1 _ _ l0_2 _ _ l0_3 _ _ l0_4 _ _ l0_5 _ _ l0_6 _ _ l0_7 _ _ l0_8 _ _ l0_9 a0_10 a1 _ _ ?side1 HC0_2.out ?side2 HC0_3.out ?side3 HC0_4.out ?side4 HC0_5.out ?side5 HC0_6.out ?side6 HC0_7.out ?side7 HC0_8.out ?side8 HC0_9.out A1.out).mono ?_); (case side1 => exact cb_ HR0_2.out HB.out); (case side2 => exact cb_ HR0_3.out HB.out); (case side3 => exact cb_ HR0_4.out HB.out); (case side4 => exact cb_ HR0_5.out HB.out); (case side5 => exact cb_ HR0_6.out HB.out); (case side6 => exact cb_ HR0_7.out HB.out); (case side7 => exact cb_ HR0_8.out HB.out); (case side8 => exact cb_ HR0_9.out HB.out); rintro e w1 ⟨rfl, hb⟩; replace BK := kb_ BK hb; replace HB := h9_ HB hb; (try clear hb); obtain ⟨z0, z1, z2, z3, z4, z5, z6, z7, z8, z9, z10, f0, f1, f2, f3, f4, f5, f6, f7, f8, f9, f10⟩ := cz11_ BK.out) | (go_at_call 22; (with_reducible refine (impl_inside.calls _ _ _ _ _ A2.out).mono ?_); rintro e w' ⟨rfl, ⟨nd, rfl⟩⟩) | (go_at_call 25; (with_reducible refine (impl_Net_isRequest.calls k gb a0_0 a0_1 l0_2 l0_3 l0_4 l0_5 l0_6 l0_7 l0_8 l0_9 a0_10 a1 a2 a3 _ _ ?side1 A3.out).mono ?_); (case side1 => exact ⟨A0_2, c0_2, A0_3, c0_3, A0_4, c0_4, A0_5, c0_5, A0_6, c0_6, A0_7, c0_7, A0_8, c0_8, A0_9, c0_9, bq_ BK.out, ⟨cb_ HR0_2.out HB.out, HC0_2.out⟩, ⟨cb_ HR0_3.out HB.out, HC0_3.out⟩, ⟨cb_ HR0_4.out HB.out, HC0_4.out⟩, ⟨cb_ HR0_5.out HB.out, HC0_5.out⟩, ⟨cb_ HR0_6.out HB.out, HC0_6.out⟩, ⟨cb_ HR0_7.out HB.out, HC0_7.out⟩, ⟨cb_ HR0_8.out HB.out, HC0_8.out⟩, ⟨cb_ HR0_9.out HB.out, HC0_9.out⟩⟩); rintro e w1 ⟨rfl, hb⟩; replace BK := kb_ BK hb; replace HB := h9_ HB hb; (try clear hb); obtain ⟨z0, z1, z2, z3, z4, z5, z6, z7, z8, z9, z10, f0, f1, f2, f3, f4, f5, f6, f7, f8, f9, f10⟩ := cz11_ BK.out))
 go_ret
 exact ⟨fin_, bb_ HB.out⟩) : P := h
set_option maxHeartbeats 4000000 in
theorem impl_IsRequest.calls (k : Nat) (a0_0 : Int) (a0_1 : Int) (A0_2 : Option Addr) (c0_2 : Nat) (l0_2 : List Int) (A0_3 : Option Addr) (c0_3 : Nat) (l0_3 : List Int) (A0_4 : Option Addr) (c0_4 : Nat) (l0_4 : List Int) (A0_5 : Option Addr) (c0_5 : Nat) (l0_5 : List (List S72)) (A0_6 : Option Addr) (c0_6 : Nat) (l0_6 : List Int) (A0_7 : Option Addr) (c0_7 : Nat) (l0_7 : List Int) (A0_8 : Option Addr) (c0_8 : Nat) (l0_8 : List (List S72)) (A0_9 : Option Addr) (c0_9 : Nat) (l0_9 : List (List S72)) (a0_10 : Int) (a1 : Int) (a2 : Int) (a3 : Int) (r : Bool) (w : World) (hr0_2 : Kd.C (Kd.int .i64) w A0_2 l0_2.length l0_2) (hc0_2 : l0_2.length ≤ c0_2) (hr0_3 : Kd.C (Kd.int .i64) w A0_3 l0_3.length l0_3) (hc0_3 : l0_3.length ≤ c0_3) (hr0_4 : Kd.C (Kd.int .i64) w A0_4 l0_4.length l0_4) (hc0_4 : l0_4.length ≤ c0_4) (hr0_5 : Kd.C (Kd.slice 72 k72) w A0_5 l0_5.length l0_5) (hc0_5 : l0_5.length ≤ c0_5) (hr0_6 : Kd.C (Kd.int .i64) w A0_6 l0_6.length l0_6) (hc0_6 : l0_6.length ≤ c0_6) (hr0_7 : Kd.C (Kd.int .i64) w A0_7 l0_7.length l0_7) (hc0_7 : l0_7.length ≤ c0_7) (hr0_8 : Kd.C (Kd.slice 72 k72) w A0_8 l0_8.length l0_8) (hc0_8 : l0_8.length ≤ c0_8) (hr0_9 : Kd.C (Kd.slice 72 k72) w A0_9 l0_9.length l0_9) (hc0_9 : l0_9.length ≤ c0_9) (h : impl_IsRequest.f k a0_0 a0_1 l0_2 l0_3 l0_4 l0_5 l0_6 l0_7 l0_8 l0_9 a0_10 a1 a2 a3 = some r) :
  Calls Try.prog 12 #[.agg #[.int .i64 a0_0, .int .i64 a0_1, .slice A0_2 l0_2.length c0_2, .slice A0_3 l0_3.length c0_3, .slice A0_4 l0_4.length c0_4, .slice A0_5 l0_5.length c0_5, .slice A0_6 l0_6.length c0_6, .slice A0_7 l0_7.length c0_7, .slice A0_8 l0_8.length c0_8, .slice A0_9 l0_9.length c0_9, .int .i64 a0_10], .int .i64 a1, .int .i64 a2, .int .i64 a3] w fun e w' => e = .returned (.bool r) ∧ Below w.heap.size w w' := by
 obtain ⟨HR0_2, HC0_2, HR0_3, HC0_3, HR0_4, HC0_4, HR0_5, HC0_5, HR0_6, HC0_6, HR0_7, HC0_7, HR0_8, HC0_8, HR0_9, HC0_9⟩ := a16_ hr0_2 hc0_2 hr0_3 hc0_3 hr0_4 hc0_4 hr0_5 hc0_5 hr0_6 hc0_6 hr0_7 hc0_7 hr0_8 hc0_8 hr0_9 hc0_9; clear hr0_2 hc0_2 hr0_3 hc0_3 hr0_4 hc0_4 hr0_5 hc0_5 hr0_6 hc0_6 hr0_7 hc0_7 hr0_8 hc0_8 hr0_9 hc0_9
 have HB := am (Below.refl w.heap.size w)
 unfold impl_IsRequest.f at h
 obtain ⟨b1, A10, h⟩ := Option.bind_eq_some_iff.1 h
 have A1 := am A10
 clear A10
 cases b1 with
 | false =>
  have h1 : some false = some r := h
  obtain rfl := Option.some.inj h1
  clear h h1
  exact impl_IsRequest.lf
 | true =>
  rw [if_pos rfl] at h
  obtain ⟨b2, A20, h⟩ := Option.bind_eq_some_iff.1 h
  have A2 := am A20
  clear A20
  cases b2 with
  | false =>
   have h1 : some false = some r := h
   obtain rfl := Option.some.inj h1
   clear h h1
   exact impl_IsRequest.lf
  | true =>
   rw [if_pos rfl] at h
   have A3 := am h
   clear h
   exact impl_IsRequest.lf
def laws_FnRequests.l1 (n1 : Int) (n2 : Int) (n3 : List Int) (n4 : List Int) (n5 : List Int) (n6 : List (List S72)) (n7 : List Int) (n8 : List Int) (n9 : List (List S72)) (n10 : List (List S72)) (n11 : Int) (n a : Int) (l : List Int) : Nat → Int → Option Bool
 | 0, _ => none
 | k + 1, i => if i < (l.length : Int) then (if 0 ≤ i then (impl_WantedPort.f k n1 n2 n3 n4 n5 n6 n7 n8 n9 n10 n11 n (rd l i)).bind fun t => if t = a then (impl_HasRoom.f k n1 n2 n3 n4 n5 n6 n7 n8 n9 n10 n11 n a (Int.tmod (rd l i) 2)).bind fun u => if u = true then (impl_IsRequest.f k n1 n2 n3 n4 n5 n6 n7 n8 n9 n10 n11 n (rd l i) a).bind fun v => if v = true then (if i > 0 then (if 0 ≤ wrap64 (i - 1) ∧ wrap64 (i - 1) < (l.length : Int) ∧ ¬ rd l i ≤ rd l (wrap64 (i - 1)) then laws_FnRequests.l1 n1 n2 n3 n4 n5 n6 n7 n8 n9 n10 n11 n a l k (wrap64 (i + 1)) else none) else laws_FnRequests.l1 n1 n2 n3 n4 n5 n6 n7 n8 n9 n10 n11 n a l k (wrap64 (i + 1))) else none else none else none else none) else some true
def laws_FnRequests.l0 (n1 : Int) (n2 : Int) (n3 : List Int) (n4 : List Int) (n5 : List Int) (n6 : List (List S72)) (n7 : List Int) (n8 : List Int) (n9 : List (List S72)) (n10 : List (List S72)) (n11 : Int) (n : Int) : Nat → Int → Option Bool
 | 0, _ => none
 | k + 1, a => if a ≤ 4 then (impl_RequestsAt.f k n1 n2 n3 n4 n5 n6 n7 n8 n9 n10 n11 n a).bind fun l => (spec_RequestsAt.f k n1 n2 n3 n4 n5 n6 n7 n8 n9 n10 n11 n a).bind fun m => if (l.length : Int) = (m.length : Int) then (laws_FnRequests.l1 n1 n2 n3 n4 n5 n6 n7 n8 n9 n10 n11 n a l k 0).bind fun _ => laws_FnRequests.l0 n1 n2 n3 n4 n5 n6 n7 n8 n9 n10 n11 n k (wrap64 (a + 1)) else none else some true
def laws_FnRequests.f (k : Nat) (l0 : List Int) : Option Bool := (laws_big.f l0).bind fun b => if b = true then some true else (spec_DrawNet.f k l0).bind fun m => (spec_DrawPlaces.f k l0).bind fun p => if 0 < (p.length : Int) then (if wrap64 (m.1 * m.2.1) = 0 then none else laws_FnRequests.l0 m.1 m.2.1 m.2.2.1 m.2.2.2.1 m.2.2.2.2.1 m.2.2.2.2.2.1 m.2.2.2.2.2.2.1 m.2.2.2.2.2.2.2.1 m.2.2.2.2.2.2.2.2.1 m.2.2.2.2.2.2.2.2.2.1 m.2.2.2.2.2.2.2.2.2.2 (Int.tmod (rd p 0) (wrap64 (m.1 * m.2.1))) k 0) else none
theorem laws_FnRequests.e0 {P : Prop} (h : P := by
 go_wp2; go_roundg k2
 case measure => have := HK2.out; omega
 case rel => exact ⟨_, rfl, HI, ⟨by have := HK2.out; omega⟩, ⟨HN.out⟩, ⟨bq_ B3.out⟩, ⟨ra_ HL.out⟩, ⟨bb_ HB.out⟩⟩) : P := h
theorem laws_FnRequests.calls (k : Nat) (A0 : Option Addr) (c0 : Nat) (l0 : List Int) (r : Bool) (w : World) (hr0 : Kd.C (Kd.int .u8) w A0 l0.length l0) (hc0 : l0.length ≤ c0) (h : laws_FnRequests.f k l0 = some r) :
  Calls Try.prog 3 #[.slice A0 l0.length c0] w fun e w' => e = .returned (.bool r) ∧ Below w.heap.size w w' := by
 have HR := am hr0; have HRC := am hc0; have HB := am (Below.refl w.heap.size w); clear hr0 hc0; unfold laws_FnRequests.f at h; obtain ⟨b, e1, h⟩ := Option.bind_eq_some_iff.1 h; have E1 := am e1; clear e1
 have hu35 := Try.underlying35; have hu28 := Try.underlying28; have hu25 := Try.underlying25
 by_cases cb : b = true
 ·subst cb; rw [if_pos rfl] at h; obtain rfl := Option.some.inj h; clear h; go_enter Try.func3, Try.ntmps3; go_wp2_with (first | (go_at_call 5; (with_reducible refine (laws_big.calls _ _ l0 true _ HR.out HRC.out E1.out).mono ?_); rintro e w1 ⟨rfl, hd⟩; have hb := hd.below; replace HB := h9_ HB hb; clear hb hd)); go_ret; exact ⟨rfl, bb_ HB.out⟩
 rw [if_neg cb] at h; replace cb := Bool.eq_false_iff.2 cb; subst cb
 obtain ⟨⟨n1, n2, n3, n4, n5, n6, n7, n8, n9, n10, n11⟩, e2, h⟩ := Option.bind_eq_some_iff.1 h; obtain ⟨p, e3, h⟩ := Option.bind_eq_some_iff.1 h; (try dsimp only at e2 h); have E2 := am e2; have E3 := am e3; clear e2 e3
 by_cases cp : 0 < (p.length : Int)
 rotate_left
 ·rw [if_neg cp] at h; cases h
 rw [if_pos cp] at h; by_cases cz : wrap64 (n1 * n2) = 0
 ·rw [if_pos cz] at h; cases h
 rw [if_neg cz] at h; have CP := am cp; have CZ := am cz; clear cp cz; obtain ⟨nd, hnd⟩ : ∃ y_, y_ = Int.tmod (rd p 0) (wrap64 (n1 * n2)) := ⟨_, rfl⟩; rw [← hnd] at h; have HND := am hnd; have H0 := am h; clear h hnd
 go_enter Try.func3, Try.ntmps3
 go_upto_region 4 with (first | (go_at_call 5; (with_reducible refine (laws_big.calls _ _ l0 false _ HR.out HRC.out E1.out).mono ?_); rintro e w1 ⟨rfl, hd⟩; have hb := hd.below; replace HB := h9_ HB hb; clear hb hd) | (go_at_call 6; (with_reducible refine (spec_DrawNet.callsS k _ _ l0 n1 n2 n3 n4 n5 n6 n7 n8 n9 n10 n11 _ ?s1 HRC.out E2.out).mono ?_); (case s1 => exact cb_ HR.out HB.out); rintro e w2 ⟨u2_, u3_, u4_, u5_, u6_, u7_, u8_, u9_, rfl, hS, hb⟩; have HN := am (hS.lower (bz_ HB.out)); replace HB := h9_ HB hb; clear hb hS; obtain ⟨X2, d2_, e_⟩ := Kd.R_slice HN.out.h2; subst e_; obtain ⟨X3, d3_, e_⟩ := Kd.R_slice HN.out.h3; subst e_; obtain ⟨X4, d4_, e_⟩ := Kd.R_slice HN.out.h4; subst e_; obtain ⟨X5, d5, e_⟩ := Kd.S_slice HN.out.h5; subst e_; obtain ⟨X6, d6, e_⟩ := Kd.R_slice HN.out.h6; subst e_; obtain ⟨X7, d7, e_⟩ := Kd.R_slice HN.out.h7; subst e_; obtain ⟨X8, d8, e_⟩ := Kd.S_slice HN.out.h8; subst e_; obtain ⟨X9, d9, e_⟩ := Kd.S_slice HN.out.h9; subst e_))
 have hb_ := below_alloc (Below.refl w2.heap.size w2) (Obj.cells #[.int .i64 n1, .int .i64 n2, (.slice X2 n3.length d2_), (.slice X3 n4.length d3_), (.slice X4 n5.length d4_), (.slice X5 n6.length d5), (.slice X6 n7.length d6), (.slice X7 n8.length d7), (.slice X8 n9.length d8), (.slice X9 n10.length d9), .int .i64 n11] 35 (0, 0)); have B3 := am (blk_new w2 (Obj.cells #[.int .i64 n1, .int .i64 n2, (.slice X2 n3.length d2_), (.slice X3 n4.length d3_), (.slice X4 n5.length d4_), (.slice X5 n6.length d5), (.slice X6 n7.length d6), (.slice X7 n8.length d7), (.slice X8 n9.length d8), (.slice X9 n10.length d9), .int .i64 n11] 35 (0, 0))); replace HN := am (HN.out.below hb_); replace HB := h9_ HB hb_; obtain ⟨g3, hg_⟩ : ∃ g_, g_ = w2.heap.size := ⟨_, rfl⟩; rw [← hg_] at B3 ⊢; clear hb_ hg_ E1 E2; generalize w2.alloc (Obj.cells #[.int .i64 n1, .int .i64 n2, (.slice X2 n3.length d2_), (.slice X3 n4.length d3_), (.slice X4 n5.length d4_), (.slice X5 n6.length d5), (.slice X6 n7.length d6), (.slice X7 n8.length d7), (.slice X8 n9.length d8), (.slice X9 n10.length d9), .int .i64 n11] 35 (0, 0)) = w3 at *
 go_upto_region 5 with (first | (go_at_call 7; (with_reducible refine (spec_DrawPlaces.calls k _ _ l0 p _ ?s1 HRC.out E3.out).mono ?_); (case s1 => exact cb_ HR.out HB.out); rintro e w4 ⟨v_, rfl, ho, hb⟩; have HP := am ho; obtain ⟨AP, dP, e_⟩ := Kd.R_slice ho; subst e_; replace HN := am (HN.out.below hb); replace B3 := kb_ B3 hb; replace HB := h9_ HB hb; clear hb ho E3))
 obtain ⟨adP, eP, xP⟩ := Kd.at_int (Kd.R_reads' HP.out).2.2 0 (Int.le_refl 0) CP.out; cases eP; (try rw [show (0 : Int).toNat = 0 from rfl] at xP); (try rw [Addr.add_zero'] at xP); have q0 : ((0 : Int) < (p.length : Int)) = True := eq_true CP.out; have q2 : (0 < p.length) = True := eq_true (by have := CP.out; omega); have q1 : (wrap64 (n1 * n2) == 0) = false := beq_eq_false_iff_ne.mpr CZ.out; have q4 : (IntKind.i64.wrap (n1 * n2) = 0) = False := eq_false (by rw [i64_w]; exact CZ.out); obtain ⟨z0, z1, z2, z3, z4, z5, z6, z7, z8, z9, z10, zf0, zf1, zf2, zf3, zf4, zf5, zf6, zf7, zf8, zf9, zf10⟩ := cz11_ B3.out
 go_region_held3 (fun w' => w'.cell? ⟨g3, 0, none⟩ = some (.int .i64 n1) ∧ w'.cell? ⟨g3, 1, none⟩ = some (.int .i64 n2) ∧ w'.cell? adP = some (.int .i64 (rd p 0))) (exact ⟨z0, z1, xP⟩) (fail)
 rw [i64_w, ← HND.out]; clear q0 q1 q2 q4 xP z0 z1 z2 z3 z4 z5 z6 z7 z8 z9 z10 zf0 zf1 zf2 zf3 zf4 zf5 zf6 zf7 zf8 zf9 zf10
 replace HN := am HN.out.drew; replace B3 := am (bq_ B3.out : w4.drew.heap[g3]? = _); replace HB := am (bb_ HB.out : Below w.heap.size w w4.drew); clear HP; generalize w4.drew = w5 at *; go_wp2
 go_loopg [6] k (fun kq v6 w' => ∃ a : Int, v6 = .int .i64 a ∧ Aside0 (laws_FnRequests.l0 n1 n2 n3 n4 n5 n6 n7 n8 n9 n10 n11 nd kq a = some r) ∧ Aside0 (kq ≤ k) ∧ Aside0 (Std8 w.heap.size w' (.slice X2 n3.length d2_) (.slice X3 n4.length d3_) (.slice X4 n5.length d4_) (.slice X5 n6.length d5) (.slice X6 n7.length d6) (.slice X7 n8.length d7) (.slice X8 n9.length d8) (.slice X9 n10.length d9) n3 n4 n5 n6 n7 n8 n9 n10) ∧ Aside0 (w'.heap[g3]? = some (.cells #[.int .i64 n1, .int .i64 n2, (.slice X2 n3.length d2_), (.slice X3 n4.length d3_), (.slice X4 n5.length d4_), (.slice X5 n6.length d5), (.slice X6 n7.length d6), (.slice X7 n8.length d7), (.slice X8 n9.length d8), (.slice X9 n10.length d9), .int .i64 n11] 35 (0, 0))) ∧ Aside0 (Below w.heap.size w w'))
 case atStart => exact ⟨0, rfl, H0, ⟨Nat.le_refl _⟩, ⟨HN.out⟩, ⟨bq_ B3.out⟩, ⟨bb_ HB.out⟩⟩
 clear H0 HN B3 HB; obtain ⟨a, rfl, HA, HK1, HN, B3, HB⟩ := hrel; cases gk with
 | zero => exact absurd HA.out (by simp [laws_FnRequests.l0])
 | succ k1 =>
  have h := HA.out; clear HA; simp only [laws_FnRequests.l0] at h; by_cases c1 : a ≤ 4
  rotate_left
  ·rw [if_neg c1] at h; obtain rfl := Option.some.inj h; have c1d : decide (a ≤ 4) = false := decide_eq_false c1; clear c1 h; go_wp2; go_ret; exact ⟨rfl, bb_ HB.out⟩
  rw [if_pos c1] at h; have c1d : decide (a ≤ 4) = true := decide_eq_true c1; clear c1; obtain ⟨l, e4, h⟩ := Option.bind_eq_some_iff.1 h; obtain ⟨m, e5, h⟩ := Option.bind_eq_some_iff.1 h; by_cases c2 : (l.length : Int) = (m.length : Int)
  rotate_left
  ·rw [if_neg c2] at h; cases h
  rw [if_pos c2] at h; obtain ⟨b1, e6, h⟩ := Option.bind_eq_some_iff.1 h; have E4 := am e4; have E5 := am e5; have HI := am e6; have HO := am h; have c2d : ((l.length : Int) != (m.length : Int)) = false := bne_eq_false_iff_eq.mpr c2; clear c2 e4 e5 e6 h; obtain ⟨z0, z1, z2, z3, z4, z5, z6, z7, z8, z9, z10, zf0, zf1, zf2, zf3, zf4, zf5, zf6, zf7, zf8, zf9, zf10⟩ := cz11_ B3.out
  go_wp2_with (first | (go_at_call 8; (with_reducible refine (impl_RequestsAt.calls k1 n1 n2 _ _ n3 _ _ n4 _ _ n5 _ _ n6 _ _ n7 _ _ n8 _ _ n9 _ _ n10 n11 nd a l _ (Kd.R_reads' HN.out.h2).2.2 (Kd.R_reads' HN.out.h2).2.1 (Kd.R_reads' HN.out.h3).2.2 (Kd.R_reads' HN.out.h3).2.1 (Kd.R_reads' HN.out.h4).2.2 (Kd.R_reads' HN.out.h4).2.1 (Kd.S_reads' HN.out.h5).2.2 (Kd.S_reads' HN.out.h5).2.1 (Kd.R_reads' HN.out.h6).2.2 (Kd.R_reads' HN.out.h6).2.1 (Kd.R_reads' HN.out.h7).2.2 (Kd.R_reads' HN.out.h7).2.1 (Kd.S_reads' HN.out.h8).2.2 (Kd.S_reads' HN.out.h8).2.1 (Kd.S_reads' HN.out.h9).2.2 (Kd.S_reads' HN.out.h9).2.1 E4.out).mono ?_); rintro e wb ⟨v_, rfl, ho, hb⟩; have HL := am (Kd.R_lower ho (bz_ HB.out)); replace HN := am (HN.out.below hb); replace B3 := kb_ B3 hb; replace HB := h9_ HB hb; obtain ⟨AL, dL, e_⟩ := Kd.R_slice ho; subst e_; clear hb ho E4; clear z0 z1 z2 z3 z4 z5 z6 z7 z8 z9 z10 zf0 zf1 zf2 zf3 zf4 zf5 zf6 zf7 zf8 zf9 zf10; obtain ⟨z0, z1, z2, z3, z4, z5, z6, z7, z8, z9, z10, zf0, zf1, zf2, zf3, zf4, zf5, zf6, zf7, zf8, zf9, zf10⟩ := cz11_ B3.out) | (go_at_call 9; (with_reducible refine (spec_RequestsAt.calls k1 n1 n2 _ _ n3 _ _ n4 _ _ n5 _ _ n6 _ _ n7 _ _ n8 _ _ n9 _ _ n10 n11 nd a m _ (Kd.R_reads' HN.out.h2).2.2 (Kd.R_reads' HN.out.h2).2.1 (Kd.R_reads' HN.out.h3).2.2 (Kd.R_reads' HN.out.h3).2.1 (Kd.R_reads' HN.out.h4).2.2 (Kd.R_reads' HN.out.h4).2.1 (Kd.S_reads' HN.out.h5).2.2 (Kd.S_reads' HN.out.h5).2.1 (Kd.R_reads' HN.out.h6).2.2 (Kd.R_reads' HN.out.h6).2.1 (Kd.R_reads' HN.out.h7).2.2 (Kd.R_reads' HN.out.h7).2.1 (Kd.S_reads' HN.out.h8).2.2 (Kd.S_reads' HN.out.h8).2.1 (Kd.S_reads' HN.out.h9).2.2 (Kd.S_reads' HN.out.h9).2.1 E5.out).mono ?_); rintro e wc ⟨v_, rfl, ho, hb⟩; obtain ⟨AM, dM, e_⟩ := Kd.R_slice ho; subst e_; replace HL := am (Kd.R_below (ra_ HL.out) hb); replace HN := am (HN.out.below hb); replace B3 := kb_ B3 hb; replace HB := h9_ HB hb; clear hb ho E5; clear z0 z1 z2 z3 z4 z5 z6 z7 z8 z9 z10 zf0 zf1 zf2 zf3 zf4 zf5 zf6 zf7 zf8 zf9 zf10; obtain ⟨z0, z1, z2, z3, z4, z5, z6, z7, z8, z9, z10, zf0, zf1, zf2, zf3, zf4, zf5, zf6, zf7, zf8, zf9, zf10⟩ := cz11_ B3.out))
  clear c1d c2d z0 z1 z2 z3 z4 z5 z6 z7 z8 z9 z10 zf0 zf1 zf2 zf3 zf4 zf5 zf6 zf7 zf8 zf9 zf10
  go_loopg [8] k1 (fun kq v8 w' => ∃ i : Int, v8 = .int .i64 i ∧ Aside0 (laws_FnRequests.l1 n1 n2 n3 n4 n5 n6 n7 n8 n9 n10 n11 nd a l kq i = some b1) ∧ Aside0 (kq ≤ k1) ∧ Aside0 (Std8 w.heap.size w' (.slice X2 n3.length d2_) (.slice X3 n4.length d3_) (.slice X4 n5.length d4_) (.slice X5 n6.length d5) (.slice X6 n7.length d6) (.slice X7 n8.length d7) (.slice X8 n9.length d8) (.slice X9 n10.length d9) n3 n4 n5 n6 n7 n8 n9 n10) ∧ Aside0 (w'.heap[g3]? = some (.cells #[.int .i64 n1, .int .i64 n2, (.slice X2 n3.length d2_), (.slice X3 n4.length d3_), (.slice X4 n5.length d4_), (.slice X5 n6.length d5), (.slice X6 n7.length d6), (.slice X7 n8.length d7), (.slice X8 n9.length d8), (.slice X9 n10.length d9), .int .i64 n11] 35 (0, 0))) ∧ Aside0 (Kd.R (Kd.int .i64) 3 w' w.heap.size (fun _ => True) (.slice AL l.length dL) l) ∧ Aside0 (Below w.heap.size w w'))
  case atStart => exact ⟨0, rfl, HI, ⟨Nat.le_refl _⟩, ⟨HN.out⟩, ⟨bq_ B3.out⟩, ⟨ra_ HL.out⟩, ⟨bb_ HB.out⟩⟩
  clear HI HN B3 HB HL; obtain ⟨i, rfl, HA, HK2, HN, B3, HL, HB⟩ := hrel; cases gk with
  | zero => exact absurd HA.out (by simp [laws_FnRequests.l1])
  | succ k2 =>
   have h := HA.out; clear HA; simp only [laws_FnRequests.l1] at h; by_cases c1 : i < (l.length : Int)
   rotate_left
   ·have c1d : decide (i < (l.length : Int)) = false := decide_eq_false c1; clear c1 h; go_wp2; go_roundg k1
    case measure => have := HK1.out; omega
    case rel => exact ⟨_, rfl, HO, ⟨by have := HK1.out; omega⟩, HN, ⟨bq_ B3.out⟩, ⟨bb_ HB.out⟩⟩
   rw [if_pos c1] at h; by_cases c2 : 0 ≤ i
   rotate_left
   ·rw [if_neg c2] at h; cases h
   rw [if_pos c2] at h; obtain ⟨t, e1, h⟩ := Option.bind_eq_some_iff.1 h; by_cases c3 : t = a
   rotate_left
   ·rw [if_neg c3] at h; cases h
   subst c3; rw [if_pos rfl] at h; obtain ⟨u, e2, h⟩ := Option.bind_eq_some_iff.1 h; by_cases c3 : u = true
   rotate_left
   ·rw [if_neg c3] at h; cases h
   subst c3; rw [if_pos rfl] at h; obtain ⟨v, e3, h⟩ := Option.bind_eq_some_iff.1 h; by_cases c3 : v = true
   rotate_left
   ·rw [if_neg c3] at h; cases h
   subst c3; rw [if_pos rfl] at h; have E1 := am e1; have E2 := am e2; have E3 := am e3; clear e1 e2 e3; obtain ⟨y, hy⟩ : ∃ y_, y_ = rd l i := ⟨_, rfl⟩; rw [← hy] at E1 E2 E3 h; have HY := am hy; clear hy
   have P1 := am c1; have P2 := am c2; have c1d : decide (i < (l.length : Int)) = true := decide_eq_true c1; clear c1 c2; go_upto_region 15 with fail; clear c1d
   replace HN := am HN.out.drew; replace B3 := am (bq_ B3.out : wr.drew.heap[g3]? = _); replace HB := am (bb_ HB.out : Below w.heap.size w wr.drew); replace HL := am (Kd.R_drew HL.out); have HQ := am (Below.refl wr.drew.heap.size wr.drew)
   obtain ⟨ad, ea, xi⟩ := Kd.at_int (Kd.R_reads' HL.out).2.2 i P2.out P1.out; rw [← HY.out] at xi; subst ea; have XX : Aside0 (∀ W, Below wr.drew.heap.size wr.drew W → W.cell? (ad.add i.toNat) = some (.int .i64 y)) := ⟨fun W hW => (hW.cell (World.block_lt_of_cell? _ _ xi)).trans xi⟩; clear xi
   by_cases c4 : i > 0
   rotate_left
   ·rw [if_neg c4] at h; have HI := am h; have d1 : decide (i > 0) = false := decide_eq_false c4; clear h c4
    have c1 := eq_true P1.out; have c2 := eq_true P2.out
    refine start_ (n := 48) (S := fun w' => w'.cell? ⟨g3, 0, none⟩ = some (.int .i64 n1) ∧ w'.cell? ⟨g3, 1, none⟩ = some (.int .i64 n2) ∧ w'.cell? ⟨g3, 2, none⟩ = some (.slice X2 n3.length d2_) ∧ w'.cell? ⟨g3, 3, none⟩ = some (.slice X3 n4.length d3_) ∧ w'.cell? ⟨g3, 4, none⟩ = some (.slice X4 n5.length d4_) ∧ w'.cell? ⟨g3, 5, none⟩ = some (.slice X5 n6.length d5) ∧ w'.cell? ⟨g3, 6, none⟩ = some (.slice X6 n7.length d6) ∧ w'.cell? ⟨g3, 7, none⟩ = some (.slice X7 n8.length d7) ∧ w'.cell? ⟨g3, 8, none⟩ = some (.slice X8 n9.length d8) ∧ w'.cell? ⟨g3, 9, none⟩ = some (.slice X9 n10.length d9) ∧ w'.cell? ⟨g3, 10, none⟩ = some (.int .i64 (n11)) ∧ w'.cell? (ad.add i.toNat) = some (.int .i64 y)) (ds := []) #[false, false, false, false, false, false, false, false, false, false, false, false, false, false, false, false, false, false, false, false, false, false, false, false, false, false, false, false, false, false, false, false, false, false, false, false, false, false, false, false, false, false, false, false, false, false, false, false] (by kernel_rfl) rfl rfl ⟨(blk_cell (bq_ B3.out) 0).trans rfl, (blk_cell (bq_ B3.out) 1).trans rfl, (blk_cell (bq_ B3.out) 2).trans rfl, (blk_cell (bq_ B3.out) 3).trans rfl, (blk_cell (bq_ B3.out) 4).trans rfl, (blk_cell (bq_ B3.out) 5).trans rfl, (blk_cell (bq_ B3.out) 6).trans rfl, (blk_cell (bq_ B3.out) 7).trans rfl, (blk_cell (bq_ B3.out) 8).trans rfl, (blk_cell (bq_ B3.out) 9).trans rfl, (blk_cell (bq_ B3.out) 10).trans rfl, XX.out _ HQ.out⟩ (fun hHeld => ?_); generalize wr.drew = wa at *
    refine tk_ (v := .agg #[.int .i64 n1, .int .i64 n2, (.slice X2 n3.length d2_), (.slice X3 n4.length d3_), (.slice X4 n5.length d4_), (.slice X5 n6.length d5), (.slice X6 n7.length d6), (.slice X7 n8.length d7), (.slice X8 n9.length d8), (.slice X9 n10.length d9), .int .i64 n11]) 0 50 (bt_ 48 1) hHeld ?_ (hy := by rintro w' ⟨s0, s1, s2, s3, s4, s5, s6, s7, s8, s9, s10, s11⟩; go_simp)
    refine pk_ 1 51 (bt_ 48 3) ?_
    refine pk_ 2 52 (bt_ 48 7) ?_
    refine pk_ 3 53 (bt_ 48 15) ?_
    refine pk_ 4 54 (bt_ 48 31) ?_
    refine tk_ (v := .int .i64 y) 5 55 (bt_ 48 63) hHeld ?_ (hy := by rintro w' ⟨s0, s1, s2, s3, s4, s5, s6, s7, s8, s9, s10, s11⟩; go_simp)
    refine pk_ 7 57 (bt_ 48 191) ?_
    refine one_ (i := 6) (N := some 56) (bt_ 48 255) rfl rfl (by kernel_rfl) (by decide) (fun K hK => ?_)
    refine gs_ Try.func10 #[.agg #[.int .i64 n1, .int .i64 n2, (.slice X2 n3.length d2_), (.slice X3 n4.length d3_), (.slice X4 n5.length d4_), (.slice X5 n6.length d5), (.slice X6 n7.length d6), (.slice X7 n8.length d7), (.slice X8 n9.length d8), (.slice X9 n10.length d9), .int .i64 n11], .int .i64 nd, .int .i64 y] ?_
    with_reducible refine (impl_WantedPort.calls k2 n1 n2 _ _ n3 _ _ n4 _ _ n5 _ _ n6 _ _ n7 _ _ n8 _ _ n9 _ _ n10 n11 nd y t _ (Kd.R_reads' HN.out.h2).2.2 (Kd.R_reads' HN.out.h2).2.1 (Kd.R_reads' HN.out.h3).2.2 (Kd.R_reads' HN.out.h3).2.1 (Kd.R_reads' HN.out.h4).2.2 (Kd.R_reads' HN.out.h4).2.1 (Kd.S_reads' HN.out.h5).2.2 (Kd.S_reads' HN.out.h5).2.1 (Kd.R_reads' HN.out.h6).2.2 (Kd.R_reads' HN.out.h6).2.1 (Kd.R_reads' HN.out.h7).2.2 (Kd.R_reads' HN.out.h7).2.1 (Kd.S_reads' HN.out.h8).2.2 (Kd.S_reads' HN.out.h8).2.1 (Kd.S_reads' HN.out.h9).2.2 (Kd.S_reads' HN.out.h9).2.1 E1.out).mono ?_; rintro e wd ⟨rfl, hb⟩; refine ⟨_, rfl, ?_⟩; replace HN := am (HN.out.below hb); replace B3 := kb_ B3 hb; replace HB := h9_ HB hb; replace HL := am (Kd.R_below HL.out hb); replace HQ := am (bs_ HQ.out hb); clear hb; refine hK.out _ _ ⟨(blk_cell (bq_ B3.out) 0).trans rfl, (blk_cell (bq_ B3.out) 1).trans rfl, (blk_cell (bq_ B3.out) 2).trans rfl, (blk_cell (bq_ B3.out) 3).trans rfl, (blk_cell (bq_ B3.out) 4).trans rfl, (blk_cell (bq_ B3.out) 5).trans rfl, (blk_cell (bq_ B3.out) 6).trans rfl, (blk_cell (bq_ B3.out) 7).trans rfl, (blk_cell (bq_ B3.out) 8).trans rfl, (blk_cell (bq_ B3.out) 9).trans rfl, (blk_cell (bq_ B3.out) 10).trans rfl, XX.out _ HQ.out⟩ (fun hHeld => ?_)
    clear hK K
    refine nm_ 56 ?_
    refine pk_ 8 58 (bt_ 48 511) ?_
    refine pk_ 9 59 (bt_ 48 1023) ?_
    refine tk_ (v := .agg #[.int .i64 n1, .int .i64 n2, (.slice X2 n3.length d2_), (.slice X3 n4.length d3_), (.slice X4 n5.length d4_), (.slice X5 n6.length d5), (.slice X6 n7.length d6), (.slice X7 n8.length d7), (.slice X8 n9.length d8), (.slice X9 n10.length d9), .int .i64 n11]) 10 60 (bt_ 48 2047) hHeld ?_ (hy := by rintro w' ⟨s0, s1, s2, s3, s4, s5, s6, s7, s8, s9, s10, s11⟩; go_simp)
    refine pk_ 11 61 (bt_ 48 4095) ?_
    refine pk_ 12 62 (bt_ 48 8191) ?_
    refine pk_ 13 63 (bt_ 48 16383) ?_
    refine pk_ 14 64 (bt_ 48 32767) ?_
    refine pk_ 15 65 (bt_ 48 65535) ?_
    refine tk_ (v := .int .i64 y) 16 66 (bt_ 48 131071) hHeld ?_ (hy := by rintro w' ⟨s0, s1, s2, s3, s4, s5, s6, s7, s8, s9, s10, s11⟩; go_simp)
    refine pk_ 17 67 (bt_ 48 262143) ?_
    refine one_ (i := 18) (N := some 68) (bt_ 48 524287) rfl rfl (by kernel_rfl) (by decide) (fun K hK => ?_)
    refine gs_ Try.func11 #[.agg #[.int .i64 n1, .int .i64 n2, (.slice X2 n3.length d2_), (.slice X3 n4.length d3_), (.slice X4 n5.length d4_), (.slice X5 n6.length d5), (.slice X6 n7.length d6), (.slice X7 n8.length d7), (.slice X8 n9.length d8), (.slice X9 n10.length d9), .int .i64 n11], .int .i64 nd, .int .i64 t, .int .i64 (Int.tmod y 2)] ?_
    with_reducible refine (impl_HasRoom.calls k2 n1 n2 _ _ n3 _ _ n4 _ _ n5 _ _ n6 _ _ n7 _ _ n8 _ _ n9 _ _ n10 n11 nd t (Int.tmod y 2) true _ (Kd.R_reads' HN.out.h2).2.2 (Kd.R_reads' HN.out.h2).2.1 (Kd.R_reads' HN.out.h3).2.2 (Kd.R_reads' HN.out.h3).2.1 (Kd.R_reads' HN.out.h4).2.2 (Kd.R_reads' HN.out.h4).2.1 (Kd.S_reads' HN.out.h5).2.2 (Kd.S_reads' HN.out.h5).2.1 (Kd.R_reads' HN.out.h6).2.2 (Kd.R_reads' HN.out.h6).2.1 (Kd.R_reads' HN.out.h7).2.2 (Kd.R_reads' HN.out.h7).2.1 (Kd.S_reads' HN.out.h8).2.2 (Kd.S_reads' HN.out.h8).2.1 (Kd.S_reads' HN.out.h9).2.2 (Kd.S_reads' HN.out.h9).2.1 E2.out).mono ?_; rintro e we ⟨rfl, hb⟩; refine ⟨_, rfl, ?_⟩; replace HN := am (HN.out.below hb); replace B3 := kb_ B3 hb; replace HB := h9_ HB hb; replace HL := am (Kd.R_below HL.out hb); replace HQ := am (bs_ HQ.out hb); clear hb; refine hK.out _ _ ⟨(blk_cell (bq_ B3.out) 0).trans rfl, (blk_cell (bq_ B3.out) 1).trans rfl, (blk_cell (bq_ B3.out) 2).trans rfl, (blk_cell (bq_ B3.out) 3).trans rfl, (blk_cell (bq_ B3.out) 4).trans rfl, (blk_cell (bq_ B3.out) 5).trans rfl, (blk_cell (bq_ B3.out) 6).trans rfl, (blk_cell (bq_ B3.out) 7).trans rfl, (blk_cell (bq_ B3.out) 8).trans rfl, (blk_cell (bq_ B3.out) 9).trans rfl, (blk_cell (bq_ B3.out) 10).trans rfl, XX.out _ HQ.out⟩ (fun hHeld => ?_)
    clear hK K
    refine nm_ 68 ?_
    refine pk_ 19 69 (bt_ 48 1048575) ?_
    refine pk_ 20 70 (bt_ 48 2097151) ?_
    refine pk_ 21 71 (bt_ 48 4194303) ?_
    refine tk_ (v := .agg #[.int .i64 n1, .int .i64 n2, (.slice X2 n3.length d2_), (.slice X3 n4.length d3_), (.slice X4 n5.length d4_), (.slice X5 n6.length d5), (.slice X6 n7.length d6), (.slice X7 n8.length d7), (.slice X8 n9.length d8), (.slice X9 n10.length d9), .int .i64 n11]) 22 72 (bt_ 48 8388607) hHeld ?_ (hy := by rintro w' ⟨s0, s1, s2, s3, s4, s5, s6, s7, s8, s9, s10, s11⟩; go_simp)
    refine pk_ 23 73 (bt_ 48 16777215) ?_
    refine pk_ 24 74 (bt_ 48 33554431) ?_
    refine pk_ 25 75 (bt_ 48 67108863) ?_
    refine pk_ 26 76 (bt_ 48 134217727) ?_
    refine tk_ (v := .int .i64 y) 27 77 (bt_ 48 268435455) hHeld ?_ (hy := by rintro w' ⟨s0, s1, s2, s3, s4, s5, s6, s7, s8, s9, s10, s11⟩; go_simp)
    refine pk_ 28 78 (bt_ 48 536870911) ?_
    refine one_ (i := 29) (N := some 79) (bt_ 48 1073741823) rfl rfl (by kernel_rfl) (by decide) (fun K hK => ?_)
    refine gs_ Try.func12 #[.agg #[.int .i64 n1, .int .i64 n2, (.slice X2 n3.length d2_), (.slice X3 n4.length d3_), (.slice X4 n5.length d4_), (.slice X5 n6.length d5), (.slice X6 n7.length d6), (.slice X7 n8.length d7), (.slice X8 n9.length d8), (.slice X9 n10.length d9), .int .i64 n11], .int .i64 nd, .int .i64 y, .int .i64 t] ?_
    with_reducible refine (impl_IsRequest.calls k2 n1 n2 _ _ n3 _ _ n4 _ _ n5 _ _ n6 _ _ n7 _ _ n8 _ _ n9 _ _ n10 n11 nd y t true _ (Kd.R_reads' HN.out.h2).2.2 (Kd.R_reads' HN.out.h2).2.1 (Kd.R_reads' HN.out.h3).2.2 (Kd.R_reads' HN.out.h3).2.1 (Kd.R_reads' HN.out.h4).2.2 (Kd.R_reads' HN.out.h4).2.1 (Kd.S_reads' HN.out.h5).2.2 (Kd.S_reads' HN.out.h5).2.1 (Kd.R_reads' HN.out.h6).2.2 (Kd.R_reads' HN.out.h6).2.1 (Kd.R_reads' HN.out.h7).2.2 (Kd.R_reads' HN.out.h7).2.1 (Kd.S_reads' HN.out.h8).2.2 (Kd.S_reads' HN.out.h8).2.1 (Kd.S_reads' HN.out.h9).2.2 (Kd.S_reads' HN.out.h9).2.1 E3.out).mono ?_; rintro e wf ⟨rfl, hb⟩; refine ⟨_, rfl, ?_⟩; replace HN := am (HN.out.below hb); replace B3 := kb_ B3 hb; replace HB := h9_ HB hb; replace HL := am (Kd.R_below HL.out hb); replace HQ := am (bs_ HQ.out hb); clear hb; refine hK.out _ _ ⟨(blk_cell (bq_ B3.out) 0).trans rfl, (blk_cell (bq_ B3.out) 1).trans rfl, (blk_cell (bq_ B3.out) 2).trans rfl, (blk_cell (bq_ B3.out) 3).trans rfl, (blk_cell (bq_ B3.out) 4).trans rfl, (blk_cell (bq_ B3.out) 5).trans rfl, (blk_cell (bq_ B3.out) 6).trans rfl, (blk_cell (bq_ B3.out) 7).trans rfl, (blk_cell (bq_ B3.out) 8).trans rfl, (blk_cell (bq_ B3.out) 9).trans rfl, (blk_cell (bq_ B3.out) 10).trans rfl, XX.out _ HQ.out⟩ (fun hHeld => ?_)
    clear hK K
    refine nm_ 79 ?_
    refine pk_ 30 80 (bt_ 48 2147483647) ?_
    refine pk_ 31 81 (bt_ 48 4294967295) ?_
    refine pk_ 32 82 (bt_ 48 8589934591) ?_
    refine pk_ 33 83 (bt_ 48 17179869183) ?_
    refine pk_ 34 84 (bt_ 48 34359738367) ?_
    refine pk_ 35 85 (bt_ 48 68719476735) ?_
    refine uk_ 36 86 (bt_ 48 137438953471) ?_
    refine uk_ 37 87 (bt_ 48 274877906943) ?_
    refine uk_ 38 88 (bt_ 48 549755813887) ?_
    refine uk_ 39 89 (bt_ 48 1099511627775) ?_
    refine uk_ 40 90 (bt_ 48 2199023255551) ?_
    refine uk_ 41 91 (bt_ 48 4398046511103) ?_
    refine uk_ 42 92 (bt_ 48 8796093022207) ?_
    refine uk_ 43 93 (bt_ 48 17592186044415) ?_
    refine uk_ 44 94 (bt_ 48 35184372088831) ?_
    refine uk_ 45 95 (bt_ 48 70368744177663) ?_
    refine pk_ 46 96 (bt_ 48 140737488355327) ?_
    refine pk_ 47 97 (bt_ 48 281474976710655) ?_
    refine done_ (by kernel_rfl) ?_; clear hHeld c1 c2
    exact laws_FnRequests.e0
   rw [if_pos c4] at h; by_cases c5 : 0 ≤ wrap64 (i - 1) ∧ wrap64 (i - 1) < (l.length : Int) ∧ ¬ y ≤ rd l (wrap64 (i - 1))
   rotate_left
   ·rw [if_neg c5] at h; cases h
   rw [if_pos c5] at h; have HI := am h; clear h
   obtain ⟨ad', ea, xj⟩ := Kd.at_int (Kd.R_reads' HL.out).2.2 (wrap64 (i - 1)) c5.1 c5.2.1; obtain rfl : ad = ad' := (by injection ea); clear ea; obtain ⟨x, hx⟩ : ∃ x_, x_ = rd l (wrap64 (i - 1)) := ⟨_, rfl⟩; rw [← hx] at xj c5; clear hx; have YY : Aside0 (∀ W, Below wr.drew.heap.size wr.drew W → W.cell? (ad.add (wrap64 (i - 1)).toNat) = some (.int .i64 x)) := ⟨fun W hW => (hW.cell (World.block_lt_of_cell? _ _ xj)).trans xj⟩; clear xj
   have d1 : decide (i > 0) = true := decide_eq_true c4; have d2 : decide (y ≤ x) = false := decide_eq_false c5.2.2; have d3 := eq_true c5.1; have d4 := eq_true c5.2.1; clear c4 c5
   have c1 := eq_true P1.out; have c2 := eq_true P2.out
   refine start_ (n := 48) (S := fun w' => w'.cell? ⟨g3, 0, none⟩ = some (.int .i64 n1) ∧ w'.cell? ⟨g3, 1, none⟩ = some (.int .i64 n2) ∧ w'.cell? ⟨g3, 2, none⟩ = some (.slice X2 n3.length d2_) ∧ w'.cell? ⟨g3, 3, none⟩ = some (.slice X3 n4.length d3_) ∧ w'.cell? ⟨g3, 4, none⟩ = some (.slice X4 n5.length d4_) ∧ w'.cell? ⟨g3, 5, none⟩ = some (.slice X5 n6.length d5) ∧ w'.cell? ⟨g3, 6, none⟩ = some (.slice X6 n7.length d6) ∧ w'.cell? ⟨g3, 7, none⟩ = some (.slice X7 n8.length d7) ∧ w'.cell? ⟨g3, 8, none⟩ = some (.slice X8 n9.length d8) ∧ w'.cell? ⟨g3, 9, none⟩ = some (.slice X9 n10.length d9) ∧ w'.cell? ⟨g3, 10, none⟩ = some (.int .i64 (n11)) ∧ w'.cell? (ad.add i.toNat) = some (.int .i64 y) ∧ w'.cell? (ad.add (wrap64 (i - 1)).toNat) = some (.int .i64 x)) (ds := []) #[false, false, false, false, false, false, false, false, false, false, false, false, false, false, false, false, false, false, false, false, false, false, false, false, false, false, false, false, false, false, false, false, false, false, false, false, false, false, false, false, false, false, false, false, false, false, false, false] (by kernel_rfl) rfl rfl ⟨(blk_cell (bq_ B3.out) 0).trans rfl, (blk_cell (bq_ B3.out) 1).trans rfl, (blk_cell (bq_ B3.out) 2).trans rfl, (blk_cell (bq_ B3.out) 3).trans rfl, (blk_cell (bq_ B3.out) 4).trans rfl, (blk_cell (bq_ B3.out) 5).trans rfl, (blk_cell (bq_ B3.out) 6).trans rfl, (blk_cell (bq_ B3.out) 7).trans rfl, (blk_cell (bq_ B3.out) 8).trans rfl, (blk_cell (bq_ B3.out) 9).trans rfl, (blk_cell (bq_ B3.out) 10).trans rfl, XX.out _ HQ.out, YY.out _ HQ.out⟩ (fun hHeld => ?_); generalize wr.drew = wa at *
   refine tk_ (v := .agg #[.int .i64 n1, .int .i64 n2, (.slice X2 n3.length d2_), (.slice X3 n4.length d3_), (.slice X4 n5.length d4_), (.slice X5 n6.length d5), (.slice X6 n7.length d6), (.slice X7 n8.length d7), (.slice X8 n9.length d8), (.slice X9 n10.length d9), .int .i64 n11]) 0 50 (bt_ 48 1) hHeld ?_ (hy := by rintro w' ⟨s0, s1, s2, s3, s4, s5, s6, s7, s8, s9, s10, s11, s12⟩; go_simp)
   refine pk_ 1 51 (bt_ 48 3) ?_
   refine pk_ 2 52 (bt_ 48 7) ?_
   refine pk_ 3 53 (bt_ 48 15) ?_
   refine pk_ 4 54 (bt_ 48 31) ?_
   refine tk_ (v := .int .i64 y) 5 55 (bt_ 48 63) hHeld ?_ (hy := by rintro w' ⟨s0, s1, s2, s3, s4, s5, s6, s7, s8, s9, s10, s11, s12⟩; go_simp)
   refine pk_ 7 57 (bt_ 48 191) ?_
   refine one_ (i := 6) (N := some 56) (bt_ 48 255) rfl rfl (by kernel_rfl) (by decide) (fun K hK => ?_)
   refine gs_ Try.func10 #[.agg #[.int .i64 n1, .int .i64 n2, (.slice X2 n3.length d2_), (.slice X3 n4.length d3_), (.slice X4 n5.length d4_), (.slice X5 n6.length d5), (.slice X6 n7.length d6), (.slice X7 n8.length d7), (.slice X8 n9.length d8), (.slice X9 n10.length d9), .int .i64 n11], .int .i64 nd, .int .i64 y] ?_
   with_reducible refine (impl_WantedPort.calls k2 n1 n2 _ _ n3 _ _ n4 _ _ n5 _ _ n6 _ _ n7 _ _ n8 _ _ n9 _ _ n10 n11 nd y t _ (Kd.R_reads' HN.out.h2).2.2 (Kd.R_reads' HN.out.h2).2.1 (Kd.R_reads' HN.out.h3).2.2 (Kd.R_reads' HN.out.h3).2.1 (Kd.R_reads' HN.out.h4).2.2 (Kd.R_reads' HN.out.h4).2.1 (Kd.S_reads' HN.out.h5).2.2 (Kd.S_reads' HN.out.h5).2.1 (Kd.R_reads' HN.out.h6).2.2 (Kd.R_reads' HN.out.h6).2.1 (Kd.R_reads' HN.out.h7).2.2 (Kd.R_reads' HN.out.h7).2.1 (Kd.S_reads' HN.out.h8).2.2 (Kd.S_reads' HN.out.h8).2.1 (Kd.S_reads' HN.out.h9).2.2 (Kd.S_reads' HN.out.h9).2.1 E1.out).mono ?_; rintro e wd ⟨rfl, hb⟩; refine ⟨_, rfl, ?_⟩; replace HN := am (HN.out.below hb); replace B3 := kb_ B3 hb; replace HB := h9_ HB hb; replace HL := am (Kd.R_below HL.out hb); replace HQ := am (bs_ HQ.out hb); clear hb; refine hK.out _ _ ⟨(blk_cell (bq_ B3.out) 0).trans rfl, (blk_cell (bq_ B3.out) 1).trans rfl, (blk_cell (bq_ B3.out) 2).trans rfl, (blk_cell (bq_ B3.out) 3).trans rfl, (blk_cell (bq_ B3.out) 4).trans rfl, (blk_cell (bq_ B3.out) 5).trans rfl, (blk_cell (bq_ B3.out) 6).trans rfl, (blk_cell (bq_ B3.out) 7).trans rfl, (blk_cell (bq_ B3.out) 8).trans rfl, (blk_cell (bq_ B3.out) 9).trans rfl, (blk_cell (bq_ B3.out) 10).trans rfl, XX.out _ HQ.out, YY.out _ HQ.out⟩ (fun hHeld => ?_)
   clear hK K
   refine nm_ 56 ?_
   refine pk_ 8 58 (bt_ 48 511) ?_
   refine pk_ 9 59 (bt_ 48 1023) ?_
   refine tk_ (v := .agg #[.int .i64 n1, .int .i64 n2, (.slice X2 n3.length d2_), (.slice X3 n4.length d3_), (.slice X4 n5.length d4_), (.slice X5 n6.length d5), (.slice X6 n7.length d6), (.slice X7 n8.length d7), (.slice X8 n9.length d8), (.slice X9 n10.length d9), .int .i64 n11]) 10 60 (bt_ 48 2047) hHeld ?_ (hy := by rintro w' ⟨s0, s1, s2, s3, s4, s5, s6, s7, s8, s9, s10, s11, s12⟩; go_simp)
   refine pk_ 11 61 (bt_ 48 4095) ?_
   refine pk_ 12 62 (bt_ 48 8191) ?_
   refine pk_ 13 63 (bt_ 48 16383) ?_
   refine pk_ 14 64 (bt_ 48 32767) ?_
   refine pk_ 15 65 (bt_ 48 65535) ?_
   refine tk_ (v := .int .i64 y) 16 66 (bt_ 48 131071) hHeld ?_ (hy := by rintro w' ⟨s0, s1, s2, s3, s4, s5, s6, s7, s8, s9, s10, s11, s12⟩; go_simp)
   refine pk_ 17 67 (bt_ 48 262143) ?_
   refine one_ (i := 18) (N := some 68) (bt_ 48 524287) rfl rfl (by kernel_rfl) (by decide) (fun K hK => ?_)
   refine gs_ Try.func11 #[.agg #[.int .i64 n1, .int .i64 n2, (.slice X2 n3.length d2_), (.slice X3 n4.length d3_), (.slice X4 n5.length d4_), (.slice X5 n6.length d5), (.slice X6 n7.length d6), (.slice X7 n8.length d7), (.slice X8 n9.length d8), (.slice X9 n10.length d9), .int .i64 n11], .int .i64 nd, .int .i64 t, .int .i64 (Int.tmod y 2)] ?_
   with_reducible refine (impl_HasRoom.calls k2 n1 n2 _ _ n3 _ _ n4 _ _ n5 _ _ n6 _ _ n7 _ _ n8 _ _ n9 _ _ n10 n11 nd t (Int.tmod y 2) true _ (Kd.R_reads' HN.out.h2).2.2 (Kd.R_reads' HN.out.h2).2.1 (Kd.R_reads' HN.out.h3).2.2 (Kd.R_reads' HN.out.h3).2.1 (Kd.R_reads' HN.out.h4).2.2 (Kd.R_reads' HN.out.h4).2.1 (Kd.S_reads' HN.out.h5).2.2 (Kd.S_reads' HN.out.h5).2.1 (Kd.R_reads' HN.out.h6).2.2 (Kd.R_reads' HN.out.h6).2.1 (Kd.R_reads' HN.out.h7).2.2 (Kd.R_reads' HN.out.h7).2.1 (Kd.S_reads' HN.out.h8).2.2 (Kd.S_reads' HN.out.h8).2.1 (Kd.S_reads' HN.out.h9).2.2 (Kd.S_reads' HN.out.h9).2.1 E2.out).mono ?_; rintro e we ⟨rfl, hb⟩; refine ⟨_, rfl, ?_⟩; replace HN := am (HN.out.below hb); replace B3 := kb_ B3 hb; replace HB := h9_ HB hb; replace HL := am (Kd.R_below HL.out hb); replace HQ := am (bs_ HQ.out hb); clear hb; refine hK.out _ _ ⟨(blk_cell (bq_ B3.out) 0).trans rfl, (blk_cell (bq_ B3.out) 1).trans rfl, (blk_cell (bq_ B3.out) 2).trans rfl, (blk_cell (bq_ B3.out) 3).trans rfl, (blk_cell (bq_ B3.out) 4).trans rfl, (blk_cell (bq_ B3.out) 5).trans rfl, (blk_cell (bq_ B3.out) 6).trans rfl, (blk_cell (bq_ B3.out) 7).trans rfl, (blk_cell (bq_ B3.out) 8).trans rfl, (blk_cell (bq_ B3.out) 9).trans rfl, (blk_cell (bq_ B3.out) 10).trans rfl, XX.out _ HQ.out, YY.out _ HQ.out⟩ (fun hHeld => ?_)
   clear hK K
   refine nm_ 68 ?_
   refine pk_ 19 69 (bt_ 48 1048575) ?_
   refine pk_ 20 70 (bt_ 48 2097151) ?_
   refine pk_ 21 71 (bt_ 48 4194303) ?_
   refine tk_ (v := .agg #[.int .i64 n1, .int .i64 n2, (.slice X2 n3.length d2_), (.slice X3 n4.length d3_), (.slice X4 n5.length d4_), (.slice X5 n6.length d5), (.slice X6 n7.length d6), (.slice X7 n8.length d7), (.slice X8 n9.length d8), (.slice X9 n10.length d9), .int .i64 n11]) 22 72 (bt_ 48 8388607) hHeld ?_ (hy := by rintro w' ⟨s0, s1, s2, s3, s4, s5, s6, s7, s8, s9, s10, s11, s12⟩; go_simp)
   refine pk_ 23 73 (bt_ 48 16777215) ?_
   refine pk_ 24 74 (bt_ 48 33554431) ?_
   refine pk_ 25 75 (bt_ 48 67108863) ?_
   refine pk_ 26 76 (bt_ 48 134217727) ?_
   refine tk_ (v := .int .i64 y) 27 77 (bt_ 48 268435455) hHeld ?_ (hy := by rintro w' ⟨s0, s1, s2, s3, s4, s5, s6, s7, s8, s9, s10, s11, s12⟩; go_simp)
   refine pk_ 28 78 (bt_ 48 536870911) ?_
   refine one_ (i := 29) (N := some 79) (bt_ 48 1073741823) rfl rfl (by kernel_rfl) (by decide) (fun K hK => ?_)
   refine gs_ Try.func12 #[.agg #[.int .i64 n1, .int .i64 n2, (.slice X2 n3.length d2_), (.slice X3 n4.length d3_), (.slice X4 n5.length d4_), (.slice X5 n6.length d5), (.slice X6 n7.length d6), (.slice X7 n8.length d7), (.slice X8 n9.length d8), (.slice X9 n10.length d9), .int .i64 n11], .int .i64 nd, .int .i64 y, .int .i64 t] ?_
   with_reducible refine (impl_IsRequest.calls k2 n1 n2 _ _ n3 _ _ n4 _ _ n5 _ _ n6 _ _ n7 _ _ n8 _ _ n9 _ _ n10 n11 nd y t true _ (Kd.R_reads' HN.out.h2).2.2 (Kd.R_reads' HN.out.h2).2.1 (Kd.R_reads' HN.out.h3).2.2 (Kd.R_reads' HN.out.h3).2.1 (Kd.R_reads' HN.out.h4).2.2 (Kd.R_reads' HN.out.h4).2.1 (Kd.S_reads' HN.out.h5).2.2 (Kd.S_reads' HN.out.h5).2.1 (Kd.R_reads' HN.out.h6).2.2 (Kd.R_reads' HN.out.h6).2.1 (Kd.R_reads' HN.out.h7).2.2 (Kd.R_reads' HN.out.h7).2.1 (Kd.S_reads' HN.out.h8).2.2 (Kd.S_reads' HN.out.h8).2.1 (Kd.S_reads' HN.out.h9).2.2 (Kd.S_reads' HN.out.h9).2.1 E3.out).mono ?_; rintro e wf ⟨rfl, hb⟩; refine ⟨_, rfl, ?_⟩; replace HN := am (HN.out.below hb); replace B3 := kb_ B3 hb; replace HB := h9_ HB hb; replace HL := am (Kd.R_below HL.out hb); replace HQ := am (bs_ HQ.out hb); clear hb; refine hK.out _ _ ⟨(blk_cell (bq_ B3.out) 0).trans rfl, (blk_cell (bq_ B3.out) 1).trans rfl, (blk_cell (bq_ B3.out) 2).trans rfl, (blk_cell (bq_ B3.out) 3).trans rfl, (blk_cell (bq_ B3.out) 4).trans rfl, (blk_cell (bq_ B3.out) 5).trans rfl, (blk_cell (bq_ B3.out) 6).trans rfl, (blk_cell (bq_ B3.out) 7).trans rfl, (blk_cell (bq_ B3.out) 8).trans rfl, (blk_cell (bq_ B3.out) 9).trans rfl, (blk_cell (bq_ B3.out) 10).trans rfl, XX.out _ HQ.out, YY.out _ HQ.out⟩ (fun hHeld => ?_)
   clear hK K
   refine nm_ 79 ?_
   refine pk_ 30 80 (bt_ 48 2147483647) ?_
   refine pk_ 31 81 (bt_ 48 4294967295) ?_
   refine pk_ 32 82 (bt_ 48 8589934591) ?_
   refine pk_ 33 83 (bt_ 48 17179869183) ?_
   refine pk_ 34 84 (bt_ 48 34359738367) ?_
   refine pk_ 35 85 (bt_ 48 68719476735) ?_
   refine pk_ 36 86 (bt_ 48 137438953471) ?_
   refine pk_ 37 87 (bt_ 48 274877906943) ?_
   refine pk_ 38 88 (bt_ 48 549755813887) ?_
   refine tk_ (v := .int .i64 y) 39 89 (bt_ 48 1099511627775) hHeld ?_ (hy := by rintro w' ⟨s0, s1, s2, s3, s4, s5, s6, s7, s8, s9, s10, s11, s12⟩; go_simp)
   refine pk_ 40 90 (bt_ 48 2199023255551) ?_
   refine pk_ 41 91 (bt_ 48 4398046511103) ?_
   refine pk_ 42 92 (bt_ 48 8796093022207) ?_
   refine pk_ 43 93 (bt_ 48 17592186044415) ?_
   refine tk_ (v := .int .i64 x) 44 94 (bt_ 48 35184372088831) hHeld ?_ (hy := by rintro w' ⟨s0, s1, s2, s3, s4, s5, s6, s7, s8, s9, s10, s11, s12⟩; go_simp)
   refine pk_ 45 95 (bt_ 48 70368744177663) ?_
   refine pk_ 46 96 (bt_ 48 140737488355327) ?_
   refine pk_ 47 97 (bt_ 48 281474976710655) ?_
   refine done_ (by kernel_rfl) ?_; clear hHeld c1 c2
   exact laws_FnRequests.e0
end Go.Proofs.Yteiemoooelpdaaa.PFnRequests
-- thin
