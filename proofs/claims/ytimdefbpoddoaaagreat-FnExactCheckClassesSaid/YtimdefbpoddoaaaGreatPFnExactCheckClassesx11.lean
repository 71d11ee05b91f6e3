/- The law's functions as plain functions, and their calls. No condition. -/
import Derived.Test.YtimdefbpoddoaaaGreatPFnExactCheckClassesx0
import Derived.Test.YtimdefbpoddoaaaGreatPFnExactCheckClassesx8
import Derived.Test.YtimdefbpoddoaaaGreatPFnExactCheckClassesx10
namespace Go.Proofs.YtimdefbpoddoaaaGreat.PFnExactCheckClasses
open Go.RowKit Go.Proofs.YtimdefbpoddoaaaGreatW.PrintWords Go.Proofs.YtimdefbpoddoaaaGreatW.PrintLast Go.Proofs.YtimdefbpoddoaaaGreatW.PrintMore
attribute [local go_sem] max2_int min2_int max_two min_two max_three min_three max_four min_four
set_option linter.unusedVariables false
set_option maxHeartbeats 8000000
set_option maxRecDepth 100000
set_option linter.unusedSimpArgs false

/-! ### spec_OrderOf: function 29 -/
mutual
def spec_OrderOf.l0 : Nat → List (S98) → List Int → Int → Option (List Int × Bool)
 | 0, _, _, _ => none
 | k + 1, x0, x4, x5 => if x5 < 128 then (if x4.length < 17592186044416 then (spec_OrderOf.l0 k x0 (x4 ++ [(-1)]) (wrap64 (x5 + 1))) else (none)) else (spec_OrderOf.l1 k x0 x4 0)
def spec_OrderOf.l1 : Nat → List (S98) → List Int → Int → Option (List Int × Bool)
 | 0, _, _, _ => none
 | k + 1, x0, x4, x6 => if x6 < 128 then (spec_OrderOf.l2 k x0 x4 x6 (-1) 0) else (some (x4, true))
def spec_OrderOf.l2 : Nat → List (S98) → List Int → Int → Int → Int → Option (List Int × Bool)
 | 0, _, _, _, _, _ => none
 | k + 1, x0, x4, x6, x7, x8 => if x8 < 128 then (spec_OrderOf.j3 k x0 x4 x6 x7 x8 (decide (x7 < 0))) else (spec_OrderOf.j3 k x0 x4 x6 x7 x8 false)
def spec_OrderOf.j3 : Nat → List (S98) → List Int → Int → Int → Int → Bool → Option (List Int × Bool)
 | 0, _, _, _, _, _, _ => none
 | k + 1, x0, x4, x6, x7, x8, x30 => if x30 = true then (if 0 ≤ x8 then (if x8 < (x4.length : Int) then (if (rd x4 x8) < 0 then ((spec_l09Free.f k x0 x4 x8).bind fun t307 => (if t307 = true then (spec_OrderOf.l2 k x0 x4 x6 x8 (wrap64 (x8 + 1))) else (spec_OrderOf.l2 k x0 x4 x6 x7 (wrap64 (x8 + 1))))) else (spec_OrderOf.l2 k x0 x4 x6 x7 (wrap64 (x8 + 1)))) else (none)) else (none)) else (if x7 < 0 then (some ((([] : List Int)), false)) else (if 0 ≤ x7 then (if x7 < (x4.length : Int) then (spec_OrderOf.l1 k x0 (x4.set (x7 : Int).toNat x6) (wrap64 (x6 + 1))) else (none)) else (none)))
end
def spec_OrderOf.f (k : Nat) (l0 : List (S98)) : Option (List Int × Bool) := (some (([] : List Int) : List Int)).bind fun y299 => ((spec_DependsOk.f k l0).bind fun t302 => (if t302 = true then (spec_OrderOf.l0 k l0 y299 0) else (some (y299, false))))
theorem spec_OrderOf.mono_l : ∀ k, (∀ y0 y1 y2, LeO (spec_OrderOf.l0 k y0 y1 y2) (spec_OrderOf.l0 (k + 1) y0 y1 y2)) ∧ (∀ y0 y1 y2, LeO (spec_OrderOf.l1 k y0 y1 y2) (spec_OrderOf.l1 (k + 1) y0 y1 y2)) ∧ (∀ y0 y1 y2 y3 y4, LeO (spec_OrderOf.l2 k y0 y1 y2 y3 y4) (spec_OrderOf.l2 (k + 1) y0 y1 y2 y3 y4)) ∧ (∀ y0 y1 y2 y3 y4 y5, LeO (spec_OrderOf.j3 k y0 y1 y2 y3 y4 y5) (spec_OrderOf.j3 (k + 1) y0 y1 y2 y3 y4 y5))
 | 0 => ⟨fun _ _ _ r h => by simp [spec_OrderOf.l0] at h, fun _ _ _ r h => by simp [spec_OrderOf.l1] at h, fun _ _ _ _ _ r h => by simp [spec_OrderOf.l2] at h, fun _ _ _ _ _ _ r h => by simp [spec_OrderOf.j3] at h⟩
 | k + 1 => by
  obtain ⟨ih0, ih1, ih2, ih3⟩ := spec_OrderOf.mono_l k
  refine ⟨?_, ?_, ?_, ?_⟩
  ·intro y0 y1 y2
   unfold spec_OrderOf.l0
   repeat' (with_reducible first | exact ih0 .. | exact ih1 .. | exact ih2 .. | exact ih3 .. | exact spec_DependsOk.mono .. | exact spec_l09Free.mono .. | exact LeO.refl .. | exact LeO.none .. | refine LeO.ite ?_ ?_ | refine LeO.bind ?_ (fun _ => ?_))
  ·intro y0 y1 y2
   unfold spec_OrderOf.l1
   repeat' (with_reducible first | exact ih0 .. | exact ih1 .. | exact ih2 .. | exact ih3 .. | exact spec_DependsOk.mono .. | exact spec_l09Free.mono .. | exact LeO.refl .. | exact LeO.none .. | refine LeO.ite ?_ ?_ | refine LeO.bind ?_ (fun _ => ?_))
  ·intro y0 y1 y2 y3 y4
   unfold spec_OrderOf.l2
   repeat' (with_reducible first | exact ih0 .. | exact ih1 .. | exact ih2 .. | exact ih3 .. | exact spec_DependsOk.mono .. | exact spec_l09Free.mono .. | exact LeO.refl .. | exact LeO.none .. | refine LeO.ite ?_ ?_ | refine LeO.bind ?_ (fun _ => ?_))
  ·intro y0 y1 y2 y3 y4 y5
   unfold spec_OrderOf.j3
   repeat' (with_reducible first | exact ih0 .. | exact ih1 .. | exact ih2 .. | exact ih3 .. | exact spec_DependsOk.mono .. | exact spec_l09Free.mono .. | exact LeO.refl .. | exact LeO.none .. | refine LeO.ite ?_ ?_ | refine LeO.bind ?_ (fun _ => ?_))
theorem spec_OrderOf.mono : ∀ a0 k, LeO (spec_OrderOf.f k a0) (spec_OrderOf.f (k + 1) a0) := by
 intro a0 k
 obtain ⟨ih0, ih1, ih2, ih3⟩ := spec_OrderOf.mono_l k
 unfold spec_OrderOf.f
 repeat' (with_reducible first | exact ih0 .. | exact ih1 .. | exact ih2 .. | exact ih3 .. | exact spec_DependsOk.mono .. | exact spec_l09Free.mono .. | exact LeO.refl .. | exact LeO.none .. | refine LeO.ite ?_ ?_ | refine LeO.bind ?_ (fun _ => ?_))
theorem spec_OrderOf.e0 {P : Prop} (h : P := by
 go_wp2_with (first | (go_at_call 61; (with_reducible refine (spec_l09Free.calls kj10 _ _ l0 _ _ x4_2 x8_3 _ _ ?side1 HC0.out ?side3 ?side4 A17.out).mono ?_); (case side1 => exact cb_ HR0.out HB.out); (case side3 => exact rr_ HO_4); (case side4 => exact (Kd.R_reads' HO_4.out).2.1); rintro e w' ⟨rfl, ⟨nd, rfl⟩⟩))
 go_roundg kj10
 case measure => have := HK1.out; have := HK2.out; have := HK3.out; have := HJ10.out; omega
 case rel => exact ⟨(x7_3), (wrap64 (x8_3 + 1)), ef_, ef_, H', ⟨by have := HK1.out; have := HK2.out; have := HK3.out; have := HJ10.out; omega⟩, ⟨ra_ HO_4.out⟩, ⟨bb_ HB.out⟩⟩) : P := h
theorem spec_OrderOf.calls (k : Nat) (A0 : Option Addr) (c0 : Nat) (l0 : List (S98)) (r1 : List Int) (r2 : Bool) (w : World) (hr0 : Kd.C k98 w A0 l0.length l0) (hc0 : l0.length ≤ c0) (h : spec_OrderOf.f k l0 = some (r1, r2)) :
  Calls Tryz.prog 29 #[.slice A0 l0.length c0] w fun e w' => ∃ v0_ : Value, e = .returned (.tuple #[v0_, .bool r2]) ∧ Kd.R (Kd.int .i64) 3 w' w.heap.size (fun _ => True) v0_ r1 ∧ Below w.heap.size w w' := by
 have HR0 := Aside0.mk hr0
 have HC0 := Aside0.mk hc0
 clear hr0 hc0
 have HB := Aside0.mk (Below.refl w.heap.size w)
 have H : ((some (([] : List Int) : List Int)).bind fun y299 => ((spec_DependsOk.f k l0).bind fun t302 => (if t302 = true then (spec_OrderOf.l0 k l0 y299 0) else (some (y299, false))))) = some (r1, r2) := h
 clear h
 obtain ⟨y299, Ny299, H⟩ := bo_ H
 obtain ⟨t302, A2, H⟩ := bi_ H
 by_cases c3 : t302 = true
 ·subst c3
  rw [if_pos rfl] at H
  have H' := Aside0.mk H
  clear H
  go_enter Tryz.func29, Tryz.ntmps29
  go_wp2_with (first | ((with_reducible refine gate_dst (N := 9) rfl ?_); refine Kd.R_lit (Kd.int .i64) _ 3 ?hg (N := 9) ?hd (xs := ([] : List Int)) (inner := []) (ok := fun _ => True) (okp := fun _ => True) ?hr ?hp (fun _ hk => hk) trivial (Below.refl _ _) (Nat.le_refl _) (by simp) ?_; (case hd => rfl); (case hg => rfl); (case hr => first | (go_simp; done) | (go_simp; rfl)); (case hp => exact (Reps.none _ _)); intro v300 w4 ho5 hb hg_ hnew_; clear hg_ hnew_; (first | rw [← Ny299.out] at ho5 | (simp only [Int.reduceToNat] at ho5; rw [← Ny299.out] at ho5)); have HO301 := Aside0.mk (Kd.R_lower ho5 (bz_ HB.out)); replace HB := hs_ HB hb; clear hb ho5) | ((with_reducible refine gate_callee (f := 60) rfl ?_); refine gm_ (some 11) Tryz.func60 #[.slice A0 l0.length c0] rfl ?_; (with_reducible refine (spec_DependsOk.calls k _ _ l0 true _ ?side1 HC0.out A2.out).mono ?_); (case side1 => exact cb_ HR0.out HB.out); rintro e w6 ⟨rfl, hb⟩; refine ⟨_, rfl, ?_⟩; replace HO301 := rb_ HO301 hb; replace HB := hs_ HB hb; (try clear hb)))
  go_loopg [4, 5] k (fun kq v4 v5 w' => ∃ (x4_1 : List Int) (x5_1 : Int), v5 = .int .i64 x5_1 ∧ Aside0 (spec_OrderOf.l0 kq l0 x4_1 x5_1 = some (r1, r2)) ∧ Aside0 (kq ≤ k) ∧ Aside0 (Kd.R (Kd.int .i64) 3 w' w.heap.size (fun _ => True) v4 x4_1) ∧ Aside0 (Below w.heap.size w w'))
  case atStart => exact ⟨(y299), (0), ef_, H', ⟨Nat.le_refl _⟩, ⟨ra_ HO301.out⟩, ⟨bb_ HB.out⟩⟩
  clear H'
  try clear c3
  obtain ⟨x4_1, x5_1, rfl, HA, HK1, HO_4, HB⟩ := hrel
  obtain _ | k1 := gk
  ·exact absurd HA.out (by simp [spec_OrderOf.l0])
  have H := HA.out
  clear HA
  simp only [spec_OrderOf.l0] at H
  by_cases c7 : x5_1 < 128
  ·rw [if_pos c7] at H
   have c7b0 : decide (x5_1 < 128) = true := decide_eq_true c7
   clear c7
   by_cases c8 : x4_1.length < 17592186044416
   rotate_left
   ·rw [if_neg c8] at H
    exact absurd H (by simp)
   rw [if_pos c8] at H
   have LMc8 := Aside0.mk c8
   clear c8
   obtain ⟨y303, hy303⟩ : ∃ y_ : List Int, y_ = (x4_1 ++ [(-1)]) := ⟨_, rfl⟩
   replace H : (spec_OrderOf.l0 k1 l0 y303 (wrap64 (x5_1 + 1))) = some (r1, r2) := by first | (rw [hy303]; with_reducible exact H) | (have H2_ := (Option.bind_some _ _).symm.trans H; rw [hy303]; with_reducible exact H2_) | (have H2_ := (Option.bind_some _ _).symm.trans H; with_reducible exact H2_) | with_reducible exact H | (rw [hy303]; exact H) | exact H
   have Ny303 := Aside0.mk hy303
   clear hy303
   have H' := Aside0.mk H
   clear H
   go_wp2_with (first | ((with_reducible refine gate_builtin (b := .append) (xs := #[.tmp 18, .tmp 19]) rfl ?_); at_builtin; refine Kd.R_append (Kd.int .i64) (w0 := w) w.heap.size rfl (.tmp 18) (.tmp 19) 24 3 (.int .i64 0) 8 rfl Tryz.underlying24 info3 rfl (by decide) (by omega) u4 x4_1 (-1) [.int .i64 (-1)] (fun _ => True) (fun _ => False) rfl rfl ?aP (fun _ hk => hk.elim) ?aF ?aO ?aB ?aS ?aL ?_; (case aP => exact rfl); (case aB => exact (by repeat (first | (with_reducible first | exact HB.out | apply below_alloc | apply pw_below_drewN | apply below_drew1) | exact HB.out))); (case aF => exact (fun _ _ => trivial)); (case aO => exact (ra_ HO_4.out)); (case aS => exact (bz_ HB.out)); (case aL => have := LMc8.out; omega); intro v304 w9 ho hb hg hat; rw [← Ny303.out] at ho; have n0_ := Aside0.mk (hb); have n1_ := Aside0.mk (ho); clear HB; clear HO_4; have HB := n0_; have HO305 := n1_; clear n0_ n1_; clear ho hb hg hat))
   go_roundg k1
   case measure => have := HK1.out; omega
   case rel => exact ⟨(y303), (wrap64 (x5_1 + 1)), ef_, H', ⟨by have := HK1.out; omega⟩, ⟨ra_ HO305.out⟩, ⟨bb_ HB.out⟩⟩
  rw [if_neg c7] at H
  have c7b0 : decide (x5_1 < 128) = false := decide_eq_false c7
  clear c7
  have H' := Aside0.mk H
  clear H
  go_wp2
  go_loopg [6] k1 (fun kq v6 w' => ∃ (x4_2 : List Int) (x6_2 : Int), v6 = .int .i64 x6_2 ∧ Aside0 (spec_OrderOf.l1 kq l0 x4_2 x6_2 = some (r1, r2)) ∧ Aside0 (kq ≤ k1) ∧ Aside0 (Kd.R (Kd.int .i64) 3 w' w.heap.size (fun _ => True) u4 x4_2) ∧ Aside0 (Below w.heap.size w w'))
  case atStart => exact ⟨(x4_1), (0), ef_, H', ⟨Nat.le_refl _⟩, ⟨ra_ HO_4.out⟩, ⟨bb_ HB.out⟩⟩
  clear H'
  try clear c3
  try clear c7
  try clear c7b0
  obtain ⟨x4_2, x6_2, rfl, HA, HK2, HO_4, HB⟩ := hrel
  obtain _ | k2 := gk
  ·exact absurd HA.out (by simp [spec_OrderOf.l1])
  have H := HA.out
  clear HA
  simp only [spec_OrderOf.l1] at H
  by_cases c10 : x6_2 < 128
  rotate_left
  ·rw [if_neg c10] at H
   have c10b0 : decide (x6_2 < 128) = false := decide_eq_false c10
   clear c10
   simp only [Option.some.injEq, Prod.mk.injEq] at H
   obtain ⟨rfl, rfl⟩ := H
   go_wp2
   go_ret2
   exact ⟨_, fin_, ra_ HO_4.out, bb_ HB.out⟩
  rw [if_pos c10] at H
  have c10b0 : decide (x6_2 < 128) = true := decide_eq_true c10
  clear c10
  have H' := Aside0.mk H
  clear H
  go_wp2
  go_loopg [7, 8] k2 (fun kq v7 v8 w' => ∃ (x7_3 : Int) (x8_3 : Int), v7 = .int .i64 x7_3 ∧ v8 = .int .i64 x8_3 ∧ Aside0 (spec_OrderOf.l2 kq l0 x4_2 x6_2 x7_3 x8_3 = some (r1, r2)) ∧ Aside0 (kq ≤ k2) ∧ Aside0 (Kd.R (Kd.int .i64) 3 w' w.heap.size (fun _ => True) u4 x4_2) ∧ Aside0 (Below w.heap.size w w'))
  case atStart => exact ⟨((-1)), (0), ef_, ef_, H', ⟨Nat.le_refl _⟩, ⟨ra_ HO_4.out⟩, ⟨bb_ HB.out⟩⟩
  clear H'
  try clear c3
  try clear c7
  try clear c7b0
  try clear c10
  try clear c10b0
  obtain ⟨x7_3, x8_3, rfl, rfl, HA, HK3, HO_4, HB⟩ := hrel
  obtain _ | k3 := gk
  ·exact absurd HA.out (by simp [spec_OrderOf.l2])
  have H := HA.out
  clear HA
  simp only [spec_OrderOf.l2] at H
  have HC11 := Aside0.mk H
  clear H
  go_upto_region 13 with (fail)
  go_cut [30] (fun v30 wc => ∃ (kq : Nat) (x30_10 : Bool), v30 = .bool x30_10 ∧ Aside0 (spec_OrderOf.j3 kq l0 x4_2 x6_2 x7_3 x8_3 x30_10 = some (r1, r2)) ∧ Aside0 (kq ≤ k3) ∧ Aside0 (Kd.R (Kd.int .i64) 3 wc w.heap.size (fun _ => True) u4 x4_2) ∧ Aside0 (Below w.heap.size w wc))
  case first =>
   have H := HC11.out
   clear HC11
   by_cases c12 : x8_3 < 128
   rotate_left
   ·rw [if_neg c12] at H
    have c12b0 : decide (x8_3 < 128) = false := decide_eq_false c12
    clear c12
    (first | rw [c12b0] | (simp only [i64_w, i32_w]; rw [c12b0]) | skip)
    have H' := Aside0.mk H
    clear H
    go_wp2
    go_meet
    case rel => exact ⟨_, (false), ef_, H', ⟨by have := HK1.out; have := HK2.out; have := HK3.out; first | omega | exact Nat.le_refl _⟩, ⟨ra_ HO_4.out⟩, ⟨bb_ HB.out⟩⟩
   rw [if_pos c12] at H
   have c12b0 : decide (x8_3 < 128) = true := decide_eq_true c12
   clear c12
   (first | rw [c12b0] | (simp only [i64_w, i32_w]; rw [c12b0]) | skip)
   have H' := Aside0.mk H
   clear H
   go_wp2
   go_meet
   case rel => exact ⟨_, (decide (x7_3 < 0)), ef_, H', ⟨by have := HK1.out; have := HK2.out; have := HK3.out; first | omega | exact Nat.le_refl _⟩, ⟨ra_ HO_4.out⟩, ⟨bb_ HB.out⟩⟩
  case rest =>
   clear HC11
   try clear c3
   try clear c7
   try clear c7b0
   try clear c10
   try clear c10b0
   obtain ⟨kq, x30_10, rfl, HA, HJ10, HO_4, HB⟩ := hcut
   cases kq with
   | zero => exact absurd HA.out (by simp [spec_OrderOf.j3])
   | succ kj10 =>
    have H := HA.out
    clear HA
    simp only [spec_OrderOf.j3] at H
    by_cases c13 : x30_10 = true
    ·subst c13
     rw [if_pos rfl] at H
     by_cases c14 : 0 ≤ x8_3
     rotate_left
     ·rw [if_neg c14] at H
      exact absurd H (by simp)
     rw [if_pos c14] at H
     have c14b0 : decide (0 ≤ x8_3) = true := decide_eq_true c14
     clear c14
     by_cases c15 : x8_3 < (x4_2.length : Int)
     rotate_left
     ·rw [if_neg c15] at H
      exact absurd H (by simp)
     rw [if_pos c15] at H
     have c15b0 : decide (x8_3 < (x4_2.length : Int)) = true := decide_eq_true c15
     clear c15
     by_cases c16 : (rd x4_2 x8_3) < 0
     rotate_left
     ·rw [if_neg c16] at H
      have c16b0 : decide ((rd x4_2 x8_3) < 0) = false := decide_eq_false c16
      clear c16
      have H' := Aside0.mk H
      clear H
      obtain ⟨Ao21, co21, eo21⟩ := Kd.R_slice HO_4.out
      subst eo21
      have p306 : 0 ≤ (x8_3 : Int) := of_decide_eq_true dg_
      have q306 : x8_3 < (x4_2.length : Int) := of_decide_eq_true dg_
      obtain ⟨ad306, e306, hx306_0⟩ := Kd.at_int (Kd.R_reads' HO_4.out).2.2 x8_3 p306 q306
      cases e306
      replace p306 := eq_true p306
      replace q306 := eq_true q306
      exact spec_OrderOf.e0
     rw [if_pos c16] at H
     have c16b0 : decide ((rd x4_2 x8_3) < 0) = true := decide_eq_true c16
     clear c16
     obtain ⟨t307, A17, H⟩ := bi_ H
     by_cases c18 : t307 = true
     rotate_left
     ·replace c18 := Bool.eq_false_iff.mpr c18
      subst c18
      rw [if_neg (show ¬ (false = true) by decide)] at H
      have H' := Aside0.mk H
      clear H
      obtain ⟨Ao20, co20, eo20⟩ := Kd.R_slice HO_4.out
      subst eo20
      have p306 : 0 ≤ (x8_3 : Int) := of_decide_eq_true dg_
      have q306 : x8_3 < (x4_2.length : Int) := of_decide_eq_true dg_
      obtain ⟨ad306, e306, hx306_0⟩ := Kd.at_int (Kd.R_reads' HO_4.out).2.2 x8_3 p306 q306
      cases e306
      replace p306 := eq_true p306
      replace q306 := eq_true q306
      exact spec_OrderOf.e0
     subst c18
     rw [if_pos rfl] at H
     have H' := Aside0.mk H
     clear H
     obtain ⟨Ao19, co19, eo19⟩ := Kd.R_slice HO_4.out
     subst eo19
     have p306 : 0 ≤ (x8_3 : Int) := of_decide_eq_true dg_
     have q306 : x8_3 < (x4_2.length : Int) := of_decide_eq_true dg_
     obtain ⟨ad306, e306, hx306_0⟩ := Kd.at_int (Kd.R_reads' HO_4.out).2.2 x8_3 p306 q306
     cases e306
     replace p306 := eq_true p306
     replace q306 := eq_true q306
     go_wp2_with (first | (go_at_call 61; (with_reducible refine (spec_l09Free.calls kj10 _ _ l0 _ _ x4_2 x8_3 true _ ?side1 HC0.out ?side3 ?side4 A17.out).mono ?_); (case side1 => exact cb_ HR0.out HB.out); (case side3 => exact rr_ HO_4); (case side4 => exact (Kd.R_reads' HO_4.out).2.1); rintro e w' ⟨rfl, ⟨nd, rfl⟩⟩))
     go_roundg kj10
     case measure => have := HK1.out; have := HK2.out; have := HK3.out; have := HJ10.out; omega
     case rel => exact ⟨(x8_3), (wrap64 (x8_3 + 1)), ef_, ef_, H', ⟨by have := HK1.out; have := HK2.out; have := HK3.out; have := HJ10.out; omega⟩, ⟨ra_ HO_4.out⟩, ⟨bb_ HB.out⟩⟩
    replace c13 := Bool.eq_false_iff.mpr c13
    subst c13
    rw [if_neg (show ¬ (false = true) by decide)] at H
    by_cases c22 : x7_3 < 0
    ·rw [if_pos c22] at H
     have c22b0 : decide (x7_3 < 0) = true := decide_eq_true c22
     clear c22
     obtain ⟨y308, hy308⟩ : ∃ y_ : List Int, y_ = (([] : List Int)) := ⟨_, rfl⟩
     replace H : (some (y308, false)) = some (r1, r2) := by first | (rw [hy308]; with_reducible exact H) | (have H2_ := (Option.bind_some _ _).symm.trans H; rw [hy308]; with_reducible exact H2_) | (have H2_ := (Option.bind_some _ _).symm.trans H; with_reducible exact H2_) | with_reducible exact H | (rw [hy308]; exact H) | exact H
     have Ny308 := Aside0.mk hy308
     clear hy308
     simp only [Option.some.injEq, Prod.mk.injEq] at H
     obtain ⟨rfl, rfl⟩ := H
     go_wp2_with (first | ((with_reducible refine gate_dst (N := 47) rfl ?_); refine Kd.R_lit (Kd.int .i64) _ 3 ?hg (N := 47) ?hd (xs := ([] : List Int)) (inner := []) (ok := fun _ => True) (okp := fun _ => True) ?hr ?hp (fun _ hk => hk) trivial (Below.refl _ _) (Nat.le_refl _) (by simp) ?_; (case hd => rfl); (case hg => rfl); (case hr => first | (go_simp; done) | (go_simp; rfl)); (case hp => exact (Reps.none _ _)); intro v309 w23 ho24 hb hg_ hnew_; clear hg_ hnew_; (first | rw [← Ny308.out] at ho24 | (simp only [Int.reduceToNat] at ho24; rw [← Ny308.out] at ho24)); have HO310 := Aside0.mk (Kd.R_lower (Kd.R_new' ho24 (rl_ HO_4.out)) (bz_ HB.out)); replace HO_4 := re_ HO_4 ho24 hb; replace HB := hs_ HB hb; clear hb ho24))
     go_ret2
     exact ⟨_, fin_, by (with_reducible repeat (first | apply Kd.R_alloc | apply Kd.R_drewN | apply Kd.R_drew)); exact Kd.R_mono HO310.out (fun _ hk => trivial), bb_ HB.out⟩
    rw [if_neg c22] at H
    have c22b0 : decide (x7_3 < 0) = false := decide_eq_false c22
    clear c22
    by_cases c25 : 0 ≤ x7_3
    rotate_left
    ·rw [if_neg c25] at H
     exact absurd H (by simp)
    rw [if_pos c25] at H
    have c25b0 : decide (0 ≤ x7_3) = true := decide_eq_true c25
    clear c25
    by_cases c26 : x7_3 < (x4_2.length : Int)
    rotate_left
    ·rw [if_neg c26] at H
     exact absurd H (by simp)
    rw [if_pos c26] at H
    have c26b0 : decide (x7_3 < (x4_2.length : Int)) = true := decide_eq_true c26
    clear c26
    obtain ⟨y311, hy311⟩ : ∃ y_ : List Int, y_ = (x4_2.set (x7_3 : Int).toNat x6_2) := ⟨_, rfl⟩
    replace H : (spec_OrderOf.l1 kj10 l0 y311 (wrap64 (x6_2 + 1))) = some (r1, r2) := by first | (rw [hy311]; with_reducible exact H) | (have H2_ := (Option.bind_some _ _).symm.trans H; rw [hy311]; with_reducible exact H2_) | (have H2_ := (Option.bind_some _ _).symm.trans H; with_reducible exact H2_) | with_reducible exact H | (rw [hy311]; exact H) | exact H
    have Ny311 := Aside0.mk hy311
    clear hy311
    have H' := Aside0.mk H
    clear H
    have p27 : 0 ≤ (x7_3 : Int) := of_decide_eq_true dg_
    have q27 : (x7_3 : Int) < ((x4_2.length : Int) : Int) := of_decide_eq_true dg_
    obtain ⟨go27, co27, eo27, gb27, gl27, cl27, HG27⟩ := Kd.R_form HO_4.out (by omega)
    (first | cases eo27 | (injection eo27 with ea_ en_ ec_; (first | subst ea_ | (injection ea_ with ea_; subst ea_)); subst ec_; clear en_))
    have GB27 := Aside0.mk gb27
    have GG27 := Aside0.mk HG27
    clear gb27 gl27 HG27
    obtain ⟨hx27_0, hf27_0⟩ := Kd.R_celln 0 HO_4.out (x7_3 : Int) p27 q27
    replace p27 := eq_true p27
    replace q27 := eq_true q27
    have HP28 := Kd.R_putg HO_4.out (x7_3 : Int) x6_2
    go_wp2_with (first | ((with_reducible refine gate_store (t := 3) (p := 51) rfl ?_); refine store_event (t := 3) (p := 51) (v := ?vo_w29) (w1 := (wc.setCell ⟨go27, (x7_3 : Int).toNat, none⟩ (.int .i64 x6_2))) ?hg ?ho ?hn ?hr ?_; (case ho => rfl); (case hg => rfl); (case hn => rfl); (case hr => first | (go_simp; done) | (go_simp; rfl)); intro w29 hw; have hg : wc.grownBy w29 (some go27) := (by rw [hw]; exact HP28.2); have hp_ : Kd.R (Kd.int .i64) 3 w29 w.heap.size (fun _ => True) (.slice (some ⟨go27, 0, none⟩) x4_2.length co27) y311 := (by rw [hw, Ny311.out]; exact HP28.1); clear HP28; replace HO_4 := Aside0.mk (hp_); replace HB := Aside0.mk ((by rw [hw]; exact below_set (HB.out) GB27.out : Below w.heap.size w w29)); clear hg hw hp_))
    go_roundg kj10
    case measure => have := HK1.out; have := HK2.out; have := HK3.out; have := HJ10.out; omega
    case rel => exact ⟨(y311), (wrap64 (x6_2 + 1)), ef_, H', ⟨by have := HK1.out; have := HK2.out; have := HK3.out; have := HJ10.out; omega⟩, ⟨ra_ HO_4.out⟩, ⟨bb_ HB.out⟩⟩
 ·replace c3 := Bool.eq_false_iff.mpr c3
  subst c3
  rw [if_neg (show ¬ (false = true) by decide)] at H
  simp only [Option.some.injEq, Prod.mk.injEq] at H
  obtain ⟨rfl, rfl⟩ := H
  go_enter Tryz.func29, Tryz.ntmps29
  go_wp2_with (first | ((with_reducible refine gate_dst (N := 9) rfl ?_); refine Kd.R_lit (Kd.int .i64) _ 3 ?hg (N := 9) ?hd (xs := ([] : List Int)) (inner := []) (ok := fun _ => True) (okp := fun _ => True) ?hr ?hp (fun _ hk => hk) trivial (Below.refl _ _) (Nat.le_refl _) (by simp) ?_; (case hd => rfl); (case hg => rfl); (case hr => first | (go_simp; done) | (go_simp; rfl)); (case hp => exact (Reps.none _ _)); intro v300 w30 ho31 hb hg_ hnew_; clear hg_ hnew_; (first | rw [← Ny299.out] at ho31 | (simp only [Int.reduceToNat] at ho31; rw [← Ny299.out] at ho31)); have HO301 := Aside0.mk (Kd.R_lower ho31 (bz_ HB.out)); replace HB := hs_ HB hb; clear hb ho31) | ((with_reducible refine gate_callee (f := 60) rfl ?_); refine gm_ (some 11) Tryz.func60 #[.slice A0 l0.length c0] rfl ?_; (with_reducible refine (spec_DependsOk.calls k _ _ l0 false _ ?side1 HC0.out A2.out).mono ?_); (case side1 => exact cb_ HR0.out HB.out); rintro e w32 ⟨rfl, hb⟩; refine ⟨_, rfl, ?_⟩; replace HO301 := rb_ HO301 hb; replace HB := hs_ HB hb; (try clear hb)))
  go_ret2
  exact ⟨_, fin_, ra_ HO301.out, bb_ HB.out⟩

/-! ### spec_SuccessorsOf: function 62 -/
def spec_SuccessorsOf.l0 : Nat → List (S98) → Int → List Int → Int → Option (List Int)
 | 0, _, _, _, _ => none
 | k + 1, x0, x1, x5, x6 => if x6 < (x0.length : Int) then (if 0 ≤ x6 then (if ((rd_T98 x0 x6).f0) = x1 then (if x5.length < 17592186044416 then (spec_SuccessorsOf.l0 k x0 x1 (x5 ++ [(rd_T98 x0 x6).f1]) (wrap64 (x6 + 1))) else (none)) else (spec_SuccessorsOf.l0 k x0 x1 x5 (wrap64 (x6 + 1)))) else (none)) else (some x5)
def spec_SuccessorsOf.f (k : Nat) (l0 : List (S98)) (a1 : Int) : Option (List Int) := spec_SuccessorsOf.l0 k l0 a1 (([] : List Int)) 0
theorem spec_SuccessorsOf.mono_l : ∀ k, (∀ y0 y1 y2 y3, LeO (spec_SuccessorsOf.l0 k y0 y1 y2 y3) (spec_SuccessorsOf.l0 (k + 1) y0 y1 y2 y3))
 | 0 => fun _ _ _ _ r h => by simp [spec_SuccessorsOf.l0] at h
 | k + 1 => by
  have ih0 := spec_SuccessorsOf.mono_l k
  ·intro y0 y1 y2 y3
   unfold spec_SuccessorsOf.l0
   repeat' (with_reducible first | exact ih0 .. | exact LeO.refl .. | exact LeO.none .. | refine LeO.ite ?_ ?_ | refine LeO.bind ?_ (fun _ => ?_))
theorem spec_SuccessorsOf.mono : ∀ a0 a1 k, LeO (spec_SuccessorsOf.f k a0 a1) (spec_SuccessorsOf.f (k + 1) a0 a1) := by
 intro a0 a1 k
 have ih0 := spec_SuccessorsOf.mono_l k
 unfold spec_SuccessorsOf.f
 repeat' (with_reducible first | exact ih0 .. | exact LeO.refl .. | exact LeO.none .. | refine LeO.ite ?_ ?_ | refine LeO.bind ?_ (fun _ => ?_))
theorem spec_SuccessorsOf.calls (k : Nat) (A0 : Option Addr) (c0 : Nat) (l0 : List (S98)) (a1 : Int) (r : List Int) (w : World) (hr0 : Kd.C k98 w A0 l0.length l0) (hc0 : l0.length ≤ c0) (h : spec_SuccessorsOf.f k l0 a1 = some r) :
  Calls Tryz.prog 62 #[.slice A0 l0.length c0, .int .i64 a1] w fun e w' => ∃ v0_ : Value, e = .returned (v0_) ∧ Kd.R (Kd.int .i64) 3 w' w.heap.size (fun _ => True) v0_ r ∧ Below w.heap.size w w' := by
 have HR0 := Aside0.mk hr0
 have HC0 := Aside0.mk hc0
 clear hr0 hc0
 have HB := Aside0.mk (Below.refl w.heap.size w)
 have H : (spec_SuccessorsOf.l0 k l0 a1 (([] : List Int)) 0) = some r := h
 clear h
 obtain ⟨y312, hy312⟩ : ∃ y_ : List Int, y_ = (([] : List Int)) := ⟨_, rfl⟩
 replace H : (spec_SuccessorsOf.l0 k l0 a1 y312 0) = some r := by first | (rw [hy312]; with_reducible exact H) | (have H2_ := (Option.bind_some _ _).symm.trans H; rw [hy312]; with_reducible exact H2_) | (have H2_ := (Option.bind_some _ _).symm.trans H; with_reducible exact H2_) | with_reducible exact H | (rw [hy312]; exact H) | exact H
 have Ny312 := Aside0.mk hy312
 clear hy312
 have H' := Aside0.mk H
 clear H
 go_enter Tryz.func62, Tryz.ntmps62
 go_wp2_with (first | ((with_reducible refine gate_dst (N := 7) rfl ?_); refine Kd.R_lit (Kd.int .i64) _ 3 ?hg (N := 7) ?hd (xs := ([] : List Int)) (inner := []) (ok := fun _ => True) (okp := fun _ => True) ?hr ?hp (fun _ hk => hk) trivial (Below.refl _ _) (Nat.le_refl _) (by simp) ?_; (case hd => rfl); (case hg => rfl); (case hr => first | (go_simp; done) | (go_simp; rfl)); (case hp => exact (Reps.none _ _)); intro v313 w3 ho4 hb hg_ hnew_; clear hg_ hnew_; (first | rw [← Ny312.out] at ho4 | (simp only [Int.reduceToNat] at ho4; rw [← Ny312.out] at ho4)); have HO314 := Aside0.mk (Kd.R_lower ho4 (bz_ HB.out)); replace HB := hs_ HB hb; clear hb ho4))
 go_loopg [5, 6] k (fun kq v5 v6 w' => ∃ (x5_1 : List Int) (x6_1 : Int), v6 = .int .i64 x6_1 ∧ Aside0 (spec_SuccessorsOf.l0 kq l0 a1 x5_1 x6_1 = some r) ∧ Aside0 (kq ≤ k) ∧ Aside0 (Kd.R (Kd.int .i64) 3 w' w.heap.size (fun _ => True) v5 x5_1) ∧ Aside0 (Below w.heap.size w w'))
 case atStart => exact ⟨(y312), (0), ef_, H', ⟨Nat.le_refl _⟩, ⟨ra_ HO314.out⟩, ⟨bb_ HB.out⟩⟩
 clear H'
 obtain ⟨x5_1, x6_1, rfl, HA, HK1, HO_5, HB⟩ := hrel
 obtain _ | k1 := gk
 ·exact absurd HA.out (by simp [spec_SuccessorsOf.l0])
 have H := HA.out
 clear HA
 simp only [spec_SuccessorsOf.l0] at H
 by_cases c5 : x6_1 < (l0.length : Int)
 rotate_left
 ·rw [if_neg c5] at H
  have c5b0 : decide (x6_1 < (l0.length : Int)) = false := decide_eq_false c5
  clear c5
  obtain rfl := Option.some.inj H
  go_wp2
  go_ret
  exact ⟨_, fin_, ra_ HO_5.out, bb_ HB.out⟩
 rw [if_pos c5] at H
 have c5b0 : decide (x6_1 < (l0.length : Int)) = true := decide_eq_true c5
 clear c5
 by_cases c6 : 0 ≤ x6_1
 rotate_left
 ·rw [if_neg c6] at H
  exact absurd H (by simp)
 rw [if_pos c6] at H
 have c6b0 : decide (0 ≤ x6_1) = true := decide_eq_true c6
 clear c6
 by_cases c7 : ((rd_T98 l0 x6_1).f0) = a1
 rotate_left
 ·rw [if_neg c7] at H
  have c7b0 : (((rd_T98 l0 x6_1).f0) == a1) = false := beq_eq_false_iff_ne.mpr c7
  have c7b1 : (((rd_T98 l0 x6_1).f0) != a1) = true := bne_iff_ne.mpr c7
  have H' := Aside0.mk H
  clear H
  have p315 : 0 ≤ (x6_1 : Int) := of_decide_eq_true dg_
  have q315 : x6_1 < (l0.length : Int) := of_decide_eq_true dg_
  obtain ⟨ad315, e315, hx315_0, hx315_1⟩ := at_T98 HR0.out x6_1 p315 q315
  cases e315
  replace hx315_0 := hc_ HB hx315_0
  replace hx315_1 := hc_ HB hx315_1
  replace p315 := eq_true p315
  replace q315 := eq_true q315
  go_wp2
  go_roundg k1
  case measure => have := HK1.out; omega
  case rel => exact ⟨(x5_1), (wrap64 (x6_1 + 1)), ef_, H', ⟨by have := HK1.out; omega⟩, ⟨ra_ HO_5.out⟩, ⟨bb_ HB.out⟩⟩
 rw [if_pos c7] at H
 have c7b0 : (((rd_T98 l0 x6_1).f0) == a1) = true := beq_iff_eq.mpr c7
 have c7b1 : (((rd_T98 l0 x6_1).f0) != a1) = false := bne_eq_false_iff_eq.mpr c7
 clear c7
 by_cases c8 : x5_1.length < 17592186044416
 rotate_left
 ·rw [if_neg c8] at H
  exact absurd H (by simp)
 rw [if_pos c8] at H
 have LMc8 := Aside0.mk c8
 clear c8
 obtain ⟨y317, hy317⟩ : ∃ y_ : List Int, y_ = (x5_1 ++ [(rd_T98 l0 x6_1).f1]) := ⟨_, rfl⟩
 replace H : (spec_SuccessorsOf.l0 k1 l0 a1 y317 (wrap64 (x6_1 + 1))) = some r := by first | (rw [hy317]; with_reducible exact H) | (have H2_ := (Option.bind_some _ _).symm.trans H; rw [hy317]; with_reducible exact H2_) | (have H2_ := (Option.bind_some _ _).symm.trans H; with_reducible exact H2_) | with_reducible exact H | (rw [hy317]; exact H) | exact H
 have Ny317 := Aside0.mk hy317
 clear hy317
 have H' := Aside0.mk H
 clear H
 have p315 : 0 ≤ (x6_1 : Int) := of_decide_eq_true dg_
 have q315 : x6_1 < (l0.length : Int) := of_decide_eq_true dg_
 obtain ⟨ad315, e315, hx315_0, hx315_1⟩ := at_T98 HR0.out x6_1 p315 q315
 cases e315
 replace hx315_0 := hc_ HB hx315_0
 replace hx315_1 := hc_ HB hx315_1
 replace p315 := eq_true p315
 replace q315 := eq_true q315
 have p316 : 0 ≤ (x6_1 : Int) := of_decide_eq_true dg_
 have q316 : x6_1 < (l0.length : Int) := of_decide_eq_true dg_
 obtain ⟨ad316, e316, hx316_0, hx316_1⟩ := at_T98 HR0.out x6_1 p316 q316
 obtain rfl : ad315 = ad316 := (by injection e316)
 replace hx316_0 := hc_ HB hx316_0
 replace hx316_1 := hc_ HB hx316_1
 replace p316 := eq_true p316
 replace q316 := eq_true q316
 go_wp2_with (first | ((with_reducible refine gate_builtin (b := .append) (xs := #[.tmp 21, .tmp 27]) rfl ?_); at_builtin; refine Kd.R_append (Kd.int .i64) (w0 := w) w.heap.size rfl (.tmp 21) (.tmp 27) 24 3 (.int .i64 0) 8 rfl Tryz.underlying24 info3 rfl (by decide) (by omega) u5 x5_1 ((rd_T98 l0 x6_1).f1) [.int .i64 ((rd_T98 l0 x6_1).f1)] (fun _ => True) (fun _ => False) rfl rfl ?aP (fun _ hk => hk.elim) ?aF ?aO ?aB ?aS ?aL ?_; (case aP => exact rfl); (case aB => exact (by repeat (first | (with_reducible first | exact HB.out | apply below_alloc | apply pw_below_drewN | apply below_drew1) | exact HB.out))); (case aF => exact (fun _ _ => trivial)); (case aO => exact (ra_ HO_5.out)); (case aS => exact (bz_ HB.out)); (case aL => have := LMc8.out; omega); intro v318 w9 ho hb hg hat; rw [← Ny317.out] at ho; have n0_ := Aside0.mk (hb); have n1_ := Aside0.mk (ho); clear HB; clear HO_5; have HB := n0_; have HO319 := n1_; clear n0_ n1_; clear ho hb hg hat))
 go_roundg k1
 case measure => have := HK1.out; omega
 case rel => exact ⟨(y317), (wrap64 (x6_1 + 1)), ef_, H', ⟨by have := HK1.out; omega⟩, ⟨ra_ HO319.out⟩, ⟨bb_ HB.out⟩⟩

end Go.Proofs.YtimdefbpoddoaaaGreat.PFnExactCheckClasses
-- thin
