/- The law's functions as plain functions, and their calls. No condition. -/
import Derived.Test.YtimdefbpoddoaaaGreatPFnExactCheckClassesx0
import Derived.Test.YtimdefbpoddoaaaGreatPFnExactCheckClassesx2
import Derived.Test.YtimdefbpoddoaaaGreatPFnExactCheckClassesx6
import Derived.Test.YtimdefbpoddoaaaGreatPFnExactCheckClassesx8
namespace Go.Proofs.YtimdefbpoddoaaaGreat.PFnExactCheckClasses
open Go.RowKit Go.Proofs.YtimdefbpoddoaaaGreatW.PrintWords Go.Proofs.YtimdefbpoddoaaaGreatW.PrintLast Go.Proofs.YtimdefbpoddoaaaGreatW.PrintMore
attribute [local go_sem] max2_int min2_int max_two min_two max_three min_three max_four min_four
set_option linter.unusedVariables false
set_option maxHeartbeats 8000000
set_option maxRecDepth 100000
set_option linter.unusedSimpArgs false

/-! ### spec_MergeDepends: function 58 -/
mutual
def spec_MergeDepends.j0 : Nat → List (S98) → List (S98) → Bool → Option ((List (S98)))
 | 0, _, _, _ => none
 | k + 1, x1, x5, x17 => if x17 = true then (some (([] : List (S98)))) else (spec_MergeDepends.l0 k x1 x5 0)
def spec_MergeDepends.l0 : Nat → List (S98) → List (S98) → Int → Option ((List (S98)))
 | 0, _, _, _ => none
 | k + 1, x1, x5, x6 => if x6 < (x1.length : Int) then (if 0 ≤ x6 then ((spec_l08Put.f k x5 ((rd_T98 x1 x6).f0) ((rd_T98 x1 x6).f1)).bind fun t261 => (spec_MergeDepends.l0 k x1 t261 (wrap64 (x6 + 1)))) else (none)) else (some x5)
end
def spec_MergeDepends.f (k : Nat) (l0 : List (S98)) (l1 : List (S98)) : Option ((List (S98))) := (some (([] : List (S98)) : List (S98))).bind fun y249 => (if y249.length + l0.length < 8796093022208 then ((some (y249 ++ l0 : List (S98))).bind fun y252 => ((spec_DependsOk.f k l0).bind fun t255 => (if t255 = true then ((spec_DependsOk.f k l1).bind fun t256 => (spec_MergeDepends.j0 k l1 y252 (!t256))) else (spec_MergeDepends.j0 k l1 y252 true)))) else (none))
theorem spec_MergeDepends.mono_l : ∀ k, (∀ y0 y1 y2, LeO (spec_MergeDepends.j0 k y0 y1 y2) (spec_MergeDepends.j0 (k + 1) y0 y1 y2)) ∧ (∀ y0 y1 y2, LeO (spec_MergeDepends.l0 k y0 y1 y2) (spec_MergeDepends.l0 (k + 1) y0 y1 y2))
 | 0 => ⟨fun _ _ _ r h => by simp [spec_MergeDepends.j0] at h, fun _ _ _ r h => by simp [spec_MergeDepends.l0] at h⟩
 | k + 1 => by
  obtain ⟨ih0, ih1⟩ := spec_MergeDepends.mono_l k
  refine ⟨?_, ?_⟩
  ·intro y0 y1 y2
   unfold spec_MergeDepends.j0
   repeat' (with_reducible first | exact ih0 .. | exact ih1 .. | exact spec_DependsOk.mono .. | exact spec_l08Put.mono .. | exact LeO.refl .. | exact LeO.none .. | refine LeO.ite ?_ ?_ | refine LeO.bind ?_ (fun _ => ?_))
  ·intro y0 y1 y2
   unfold spec_MergeDepends.l0
   repeat' (with_reducible first | exact ih0 .. | exact ih1 .. | exact spec_DependsOk.mono .. | exact spec_l08Put.mono .. | exact LeO.refl .. | exact LeO.none .. | refine LeO.ite ?_ ?_ | refine LeO.bind ?_ (fun _ => ?_))
theorem spec_MergeDepends.mono : ∀ a0 a1 k, LeO (spec_MergeDepends.f k a0 a1) (spec_MergeDepends.f (k + 1) a0 a1) := by
 intro a0 a1 k
 obtain ⟨ih0, ih1⟩ := spec_MergeDepends.mono_l k
 unfold spec_MergeDepends.f
 repeat' (with_reducible first | exact ih0 .. | exact ih1 .. | exact spec_DependsOk.mono .. | exact spec_l08Put.mono .. | exact LeO.refl .. | exact LeO.none .. | refine LeO.ite ?_ ?_ | refine LeO.bind ?_ (fun _ => ?_))
theorem spec_MergeDepends.calls (k : Nat) (A0 : Option Addr) (c0 : Nat) (l0 : List (S98)) (A1 : Option Addr) (c1 : Nat) (l1 : List (S98)) (r : List (S98)) (w : World) (hr0 : Kd.C k98 w A0 l0.length l0) (hc0 : l0.length ≤ c0) (hr1 : Kd.C k98 w A1 l1.length l1) (hc1 : l1.length ≤ c1) (h : spec_MergeDepends.f k l0 l1 = some r) :
  Calls Tryz.prog 58 #[.slice A0 l0.length c0, .slice A1 l1.length c1] w fun e w' => ∃ v0_ : Value, e = .returned (v0_) ∧ Kd.R k98 98 w' w.heap.size (fun _ => True) v0_ r ∧ Below w.heap.size w w' := by
 have hu98 := Tryz.underlying98
 have HR0 := Aside0.mk hr0
 have HC0 := Aside0.mk hc0
 clear hr0 hc0
 have HR1 := Aside0.mk hr1
 have HC1 := Aside0.mk hc1
 clear hr1 hc1
 have HB := Aside0.mk (Below.refl w.heap.size w)
 have H : ((some (([] : List (S98)) : List (S98))).bind fun y249 => (if y249.length + l0.length < 8796093022208 then ((some (y249 ++ l0 : List (S98))).bind fun y252 => ((spec_DependsOk.f k l0).bind fun t255 => (if t255 = true then ((spec_DependsOk.f k l1).bind fun t256 => (spec_MergeDepends.j0 k l1 y252 (!t256))) else (spec_MergeDepends.j0 k l1 y252 true)))) else (none))) = some r := h
 clear h
 obtain ⟨y249, Ny249, H⟩ := bo_ H
 by_cases c3 : y249.length + l0.length < 8796093022208
 ·rw [if_pos c3] at H
  have LMc3 := Aside0.mk c3
  clear c3
  obtain ⟨y252, Ny252, H⟩ := bo_ H
  have HC4 := Aside0.mk H
  clear H
  go_enter Tryz.func58, Tryz.ntmps58
  go_upto_region 2 with (first | ((with_reducible refine gate_dst (N := 7) rfl ?_); refine Kd.R_lit k98 _ 98 ?hg (N := 7) ?hd (xs := ([] : List (S98))) (inner := []) (ok := fun _ => True) (okp := fun _ => True) ?hr ?hp (fun _ hk => hk) trivial (Below.refl _ _) (Nat.le_refl _) (by simp) ?_; (case hd => rfl); (case hg => rfl); (case hr => first | (go_simp; done) | (go_simp; rfl)); (case hp => exact (Reps.none _ _)); intro v250 w5 ho6 hb hg_ hnew_; clear hg_ hnew_; (first | rw [← Ny249.out] at ho6 | (simp only [Int.reduceToNat] at ho6; rw [← Ny249.out] at ho6)); have HO251 := Aside0.mk (Kd.R_lower ho6 (bz_ HB.out)); replace HB := hs_ HB hb; clear hb ho6) | ((with_reducible refine gate_builtin (b := .append) (xs := #[.tmp 7, .tmp 8]) rfl ?_); at_builtin; refine Kd.R_append_rows k98 (w0 := w) w.heap.size rfl (.tmp 7) (.tmp 8) 62 98 (.agg #[(.int .i64 0), (.int .i64 0)]) 16 rfl Tryz.underlying62 info98 rfl (by decide) (by omega) v250 y249 l0 _ _ _ (fun _ => True) (fun _ => False) rfl rfl ?aO ?aR (fun _ _ h => h) (fun _ h => h.elim) ?aF ?aB ?aS ?aL ?_; (case aR => exact cb_ HR0.out HB.out); (case aB => exact (by repeat (first | (with_reducible first | exact HB.out | apply below_alloc | apply pw_below_drewN | apply below_drew1) | exact HB.out))); (case aF => exact (fun _ _ => trivial)); (case aO => exact (ra_ HO251.out)); (case aS => exact (bz_ HB.out)); (case aL => have := LMc3.out; omega); intro v253 w7 ho hb hg hat; rw [← Ny252.out] at ho; have n0_ := Aside0.mk (hb); have n1_ := Aside0.mk (ho); clear HB; clear HO251; have HB := n0_; have HO254 := n1_; clear n0_ n1_; clear ho hb hg hat))
  (try simp only [Act.put, List.setIfInBounds_toArray, List.set_cons_zero, List.set_cons_succ])
  go_cut [17] (fun v17 wc => ∃ (kq : Nat) (x17_3 : Bool), v17 = .bool x17_3 ∧ Aside0 (spec_MergeDepends.j0 kq l1 y252 x17_3 = some r) ∧ Aside0 (kq ≤ k) ∧ Aside0 (Kd.R k98 98 wc w.heap.size (fun _ => True) v253 y252) ∧ Aside0 (Below w.heap.size w wc))
  case first =>
   have H := HC4.out
   clear HC4
   obtain ⟨t255, A8, H⟩ := bi_ H
   by_cases c9 : t255 = true
   rotate_left
   ·replace c9 := Bool.eq_false_iff.mpr c9
    subst c9
    rw [if_neg (show ¬ (false = true) by decide)] at H
    have H' := Aside0.mk H
    clear H
    go_wp2_with (first | ((with_reducible refine gate_callee (f := 60) rfl ?_); refine gm_ (some 11) Tryz.func60 #[.slice A0 l0.length c0] rfl ?_; (with_reducible refine (spec_DependsOk.calls k _ _ l0 false _ ?side1 HC0.out A8.out).mono ?_); (case side1 => exact cb_ HR0.out HB.out); rintro e w13 ⟨rfl, hb⟩; refine ⟨_, rfl, ?_⟩; replace HO254 := rb_ HO254 hb; replace HB := hs_ HB hb; (try clear hb)))
    go_meet
    case rel => exact ⟨_, (true), ef_, H', ⟨kq_⟩, ⟨ra_ HO254.out⟩, ⟨bb_ HB.out⟩⟩
   subst c9
   rw [if_pos rfl] at H
   obtain ⟨t256, A10, H⟩ := bi_ H
   have H' := Aside0.mk H
   clear H
   go_wp2_with (first | ((with_reducible refine gate_callee (f := 60) rfl ?_); refine gm_ (some 11) Tryz.func60 #[.slice A0 l0.length c0] rfl ?_; (with_reducible refine (spec_DependsOk.calls k _ _ l0 true _ ?side1 HC0.out A8.out).mono ?_); (case side1 => exact cb_ HR0.out HB.out); rintro e w11 ⟨rfl, hb⟩; refine ⟨_, rfl, ?_⟩; replace HO254 := rb_ HO254 hb; replace HB := hs_ HB hb; (try clear hb)) | (go_at_call 60; (with_reducible refine (spec_DependsOk.calls k _ _ l1 t256 _ ?side1 HC1.out A10.out).mono ?_); (case side1 => exact cb_ HR1.out HB.out); rintro e w12 ⟨rfl, hb⟩; replace HO254 := rb_ HO254 hb; replace HB := hs_ HB hb; (try clear hb)))
   go_meet
   case rel => exact ⟨_, (!t256), ef_, H', ⟨kq_⟩, ⟨ra_ HO254.out⟩, ⟨bb_ HB.out⟩⟩
  case rest =>
   clear HC4
   try clear c3
   obtain ⟨kq, x17_3, rfl, HA, HJ3, HO_5, HB⟩ := hcut
   cases kq with
   | zero => exact absurd HA.out (by simp [spec_MergeDepends.j0])
   | succ kj3 =>
    have H := HA.out
    clear HA
    simp only [spec_MergeDepends.j0] at H
    by_cases c14 : x17_3 = true
    ·subst c14
     rw [if_pos rfl] at H
     obtain ⟨y257, hy257⟩ : ∃ y_ : List (S98), y_ = (([] : List (S98))) := ⟨_, rfl⟩
     replace H : (some y257) = some r := by first | (rw [hy257]; with_reducible exact H) | (have H2_ := (Option.bind_some _ _).symm.trans H; rw [hy257]; with_reducible exact H2_) | (have H2_ := (Option.bind_some _ _).symm.trans H; with_reducible exact H2_) | with_reducible exact H | (rw [hy257]; exact H) | exact H
     have Ny257 := Aside0.mk hy257
     clear hy257
     obtain rfl := Option.some.inj H
     go_wp2_with (first | ((with_reducible refine gate_dst (N := 18) rfl ?_); refine Kd.R_lit k98 _ 98 ?hg (N := 18) ?hd (xs := ([] : List (S98))) (inner := []) (ok := fun _ => True) (okp := fun _ => True) ?hr ?hp (fun _ hk => hk) trivial (Below.refl _ _) (Nat.le_refl _) (by simp) ?_; (case hd => rfl); (case hg => rfl); (case hr => first | (go_simp; done) | (go_simp; rfl)); (case hp => exact (Reps.none _ _)); intro v258 w15 ho16 hb hg_ hnew_; clear hg_ hnew_; (first | rw [← Ny257.out] at ho16 | (simp only [Int.reduceToNat] at ho16; rw [← Ny257.out] at ho16)); have HO259 := Aside0.mk (Kd.R_lower (Kd.R_new' ho16 (rl_ HO_5.out)) (bz_ HB.out)); replace HO_5 := re_ HO_5 ho16 hb; replace HB := hs_ HB hb; clear hb ho16))
     go_ret
     exact ⟨_, fin_, by (with_reducible repeat (first | apply Kd.R_alloc | apply Kd.R_drewN | apply Kd.R_drew)); exact Kd.R_mono HO259.out (fun _ hk => trivial), bb_ HB.out⟩
    replace c14 := Bool.eq_false_iff.mpr c14
    subst c14
    rw [if_neg (show ¬ (false = true) by decide)] at H
    have H' := Aside0.mk H
    clear H
    go_wp2
    go_loopg [5, 6] kj3 (fun kq v5 v6 w' => ∃ (x5_2 : List (S98)) (x6_2 : Int), v6 = .int .i64 x6_2 ∧ Aside0 (spec_MergeDepends.l0 kq l1 x5_2 x6_2 = some r) ∧ Aside0 (kq ≤ kj3) ∧ Aside0 (Kd.R k98 98 w' w.heap.size (fun _ => True) v5 x5_2) ∧ Aside0 (Below w.heap.size w w'))
    case atStart => exact ⟨(y252), (0), ef_, H', ⟨Nat.le_refl _⟩, ⟨ra_ HO_5.out⟩, ⟨bb_ HB.out⟩⟩
    clear H'
    try clear c3
    try clear c14
    obtain ⟨x5_2, x6_2, rfl, HA, HK2, HO_5, HB⟩ := hrel
    obtain _ | k2 := gk
    ·exact absurd HA.out (by simp [spec_MergeDepends.l0])
    have H := HA.out
    clear HA
    simp only [spec_MergeDepends.l0] at H
    by_cases c17 : x6_2 < (l1.length : Int)
    rotate_left
    ·rw [if_neg c17] at H
     have c17b0 : decide (x6_2 < (l1.length : Int)) = false := decide_eq_false c17
     clear c17
     obtain rfl := Option.some.inj H
     go_wp2
     go_ret
     exact ⟨_, fin_, ra_ HO_5.out, bb_ HB.out⟩
    rw [if_pos c17] at H
    have c17b0 : decide (x6_2 < (l1.length : Int)) = true := decide_eq_true c17
    clear c17
    by_cases c18 : 0 ≤ x6_2
    rotate_left
    ·rw [if_neg c18] at H
     exact absurd H (by simp)
    rw [if_pos c18] at H
    have c18b0 : decide (0 ≤ x6_2) = true := decide_eq_true c18
    clear c18
    obtain ⟨t261, A19, H⟩ := bi_ H
    have H' := Aside0.mk H
    clear H
    have p260 : 0 ≤ (x6_2 : Int) := of_decide_eq_true dg_
    have q260 : x6_2 < (l1.length : Int) := of_decide_eq_true dg_
    obtain ⟨ad260, e260, hx260_0, hx260_1⟩ := at_T98 HR1.out x6_2 p260 q260
    cases e260
    replace hx260_0 := hc_ HB hx260_0
    replace hx260_1 := hc_ HB hx260_1
    replace p260 := eq_true p260
    replace q260 := eq_true q260
    obtain ⟨Ao20, co20, eo20⟩ := Kd.R_slice HO_5.out
    subst eo20
    go_wp2_with (first | ((with_reducible refine gate_callee (f := 82) rfl ?_); refine gm_ (some 30) Tryz.func82 #[.slice Ao20 x5_2.length co20, .agg #[.int .i64 ((rd_T98 l1 x6_2).f0), .int .i64 ((rd_T98 l1 x6_2).f1)]] rfl ?_; (with_reducible refine (spec_l08Put.calls k2 (fun k_ => some k_ = (.slice Ao20 x5_2.length co20 : Value).ownBlock) (.slice Ao20 x5_2.length co20) x5_2 ((rd_T98 l1 x6_2).f0) ((rd_T98 l1 x6_2).f1) t261 w _ ?side1 ?side2 A19.out).mono ?_); (case side1 => repeat (first | (with_reducible first | exact HB.out | apply below_alloc | apply pw_below_drewN | apply below_drew1) | exact HB.out)); (case side2 => exact Kd.R_tight rfl HO_5.out); rintro e w21 ⟨v262, rfl, ho0, hb, hkp⟩; refine ⟨_, rfl, ?_⟩; have n0_ := Aside0.mk (Kd.R_mono (ok' := fun k_ => True) ho0 (fun k_ hk_ => trivial)); have n1_ := Aside0.mk (hb); clear HB; clear HO_5; have HO263 := n0_; have HB := n1_; clear n0_ n1_; (try clear hb); (try clear hkp); (try clear ho0)))
    go_roundg k2
    case measure => have := HJ3.out; have := HK2.out; omega
    case rel => exact ⟨(t261), (wrap64 (x6_2 + 1)), ef_, H', ⟨by have := HJ3.out; have := HK2.out; omega⟩, ⟨ra_ HO263.out⟩, ⟨bb_ HB.out⟩⟩
 ·rw [if_neg c3] at H
  exact absurd H (by simp)

/-! ### spec_ShiftDepends: function 59 -/
mutual
def spec_ShiftDepends.j0 : Nat → List (S98) → Int → List (S98) → Bool → Option ((List (S98)))
 | 0, _, _, _, _ => none
 | k + 1, x0, x1, x5, x15 => if x15 = true then (some x5) else (spec_ShiftDepends.l0 k x0 x1 x5 0)
def spec_ShiftDepends.l0 : Nat → List (S98) → Int → List (S98) → Int → Option ((List (S98)))
 | 0, _, _, _, _ => none
 | k + 1, x0, x1, x5, x6 => if x6 < (x0.length : Int) then (if 0 ≤ x6 then (if x5.length < 8796093022208 then (spec_ShiftDepends.l0 k x0 x1 (x5 ++ [(⟨wrap64 (((rd_T98 x0 x6).f0) + x1), wrap64 (((rd_T98 x0 x6).f1) + x1)⟩ : S98)]) (wrap64 (x6 + 1))) else (none)) else (none)) else ((spec_DependsOk.f k x5).bind fun t274 => (if t274 = true then (some x5) else (some (([] : List (S98))))))
end
def spec_ShiftDepends.f (k : Nat) (l0 : List (S98)) (a1 : Int) : Option ((List (S98))) := (some (([] : List (S98)) : List (S98))).bind fun y264 => ((spec_DependsOk.f k l0).bind fun t267 => (if t267 = true then ((spec_l01In.f a1 (-1000) 1000).bind fun t268 => (spec_ShiftDepends.j0 k l0 a1 y264 (!t268))) else (spec_ShiftDepends.j0 k l0 a1 y264 true)))
theorem spec_ShiftDepends.mono_l : ∀ k, (∀ y0 y1 y2 y3, LeO (spec_ShiftDepends.j0 k y0 y1 y2 y3) (spec_ShiftDepends.j0 (k + 1) y0 y1 y2 y3)) ∧ (∀ y0 y1 y2 y3, LeO (spec_ShiftDepends.l0 k y0 y1 y2 y3) (spec_ShiftDepends.l0 (k + 1) y0 y1 y2 y3))
 | 0 => ⟨fun _ _ _ _ r h => by simp [spec_ShiftDepends.j0] at h, fun _ _ _ _ r h => by simp [spec_ShiftDepends.l0] at h⟩
 | k + 1 => by
  obtain ⟨ih0, ih1⟩ := spec_ShiftDepends.mono_l k
  refine ⟨?_, ?_⟩
  ·intro y0 y1 y2 y3
   unfold spec_ShiftDepends.j0
   repeat' (with_reducible first | exact ih0 .. | exact ih1 .. | exact spec_DependsOk.mono .. | exact LeO.refl .. | exact LeO.none .. | refine LeO.ite ?_ ?_ | refine LeO.bind ?_ (fun _ => ?_))
  ·intro y0 y1 y2 y3
   unfold spec_ShiftDepends.l0
   repeat' (with_reducible first | exact ih0 .. | exact ih1 .. | exact spec_DependsOk.mono .. | exact LeO.refl .. | exact LeO.none .. | refine LeO.ite ?_ ?_ | refine LeO.bind ?_ (fun _ => ?_))
theorem spec_ShiftDepends.mono : ∀ a0 a1 k, LeO (spec_ShiftDepends.f k a0 a1) (spec_ShiftDepends.f (k + 1) a0 a1) := by
 intro a0 a1 k
 obtain ⟨ih0, ih1⟩ := spec_ShiftDepends.mono_l k
 unfold spec_ShiftDepends.f
 repeat' (with_reducible first | exact ih0 .. | exact ih1 .. | exact spec_DependsOk.mono .. | exact LeO.refl .. | exact LeO.none .. | refine LeO.ite ?_ ?_ | refine LeO.bind ?_ (fun _ => ?_))
def spec_ShiftDepends.T7 : Bool × List (List Nat × List Nat) := (true, [([], []), ([], []), ([], []), ([1, 2], [1, 2]), ([3], [3]), ([4], [4]), ([], []), ([5, 6], [5, 6]), ([], []), ([], []), ([8, 9], [8, 9]), ([10], [10]), ([11], [11]), ([], []), ([12, 13], [12, 13]), ([7, 14], [7, 14]), ([15], [15]), ([0, 16], [0, 16]), ([17, 17, 0, 1, 2, 3, 4, 5, 6, 7, 8, 9, 10, 11, 12, 13, 14, 15, 16, 17], [0, 17])])
def spec_ShiftDepends.B7 : List Nat := [0, 0, 0, 6, 14, 30, 0, 126, 0, 0, 768, 1792, 3840, 0, 16128, 32766, 65534, 131071, 262143]
theorem spec_ShiftDepends.tab7 : rtab .any (opsOf Tryz.f59 7) = spec_ShiftDepends.T7 := by kernel_rfl
theorem spec_ShiftDepends.bits7 : waitsOk spec_ShiftDepends.T7.2 spec_ShiftDepends.B7 = true := by kernel_rfl
theorem spec_ShiftDepends.e0 {P : Prop} (h : P := by
 go_wp2_with (first | ((with_reducible refine gate_callee (f := 60) rfl ?_); refine gm_ (some 42) Tryz.func60 #[.slice Ao19 x5_2.length co19] rfl ?_; (with_reducible refine (spec_DependsOk.calls k2 _ _ x5_2 _ _ ?side1 ?side2 A17.out).mono ?_); (case side1 => exact rr_ HO_5); (case side2 => exact (Kd.R_reads' HO_5.out).2.1); rintro e w_0 ⟨rfl, hb⟩; refine ⟨_, rfl, ?_⟩; replace HO_5 := rb_ HO_5 hb; replace HB := hs_ HB hb; (try clear hb)))
 go_ret
 exact ⟨_, fin_, ra_ HO_5.out, bb_ HB.out⟩) : P := h
theorem spec_ShiftDepends.calls (k : Nat) (A0 : Option Addr) (c0 : Nat) (l0 : List (S98)) (a1 : Int) (r : List (S98)) (w : World) (hr0 : Kd.C k98 w A0 l0.length l0) (hc0 : l0.length ≤ c0) (h : spec_ShiftDepends.f k l0 a1 = some r) :
  Calls Tryz.prog 59 #[.slice A0 l0.length c0, .int .i64 a1] w fun e w' => ∃ v0_ : Value, e = .returned (v0_) ∧ Kd.R k98 98 w' w.heap.size (fun _ => True) v0_ r ∧ Below w.heap.size w w' := by
 have hu98 := Tryz.underlying98
 have HR0 := Aside0.mk hr0
 have HC0 := Aside0.mk hc0
 clear hr0 hc0
 have HB := Aside0.mk (Below.refl w.heap.size w)
 have H : ((some (([] : List (S98)) : List (S98))).bind fun y264 => ((spec_DependsOk.f k l0).bind fun t267 => (if t267 = true then ((spec_l01In.f a1 (-1000) 1000).bind fun t268 => (spec_ShiftDepends.j0 k l0 a1 y264 (!t268))) else (spec_ShiftDepends.j0 k l0 a1 y264 true)))) = some r := h
 clear h
 obtain ⟨y264, Ny264, H⟩ := bo_ H
 have HC3 := Aside0.mk H
 clear H
 go_enter Tryz.func59, Tryz.ntmps59
 go_upto_region 2 with (first | ((with_reducible refine gate_dst (N := 7) rfl ?_); refine Kd.R_lit k98 _ 98 ?hg (N := 7) ?hd (xs := ([] : List (S98))) (inner := []) (ok := fun _ => True) (okp := fun _ => True) ?hr ?hp (fun _ hk => hk) trivial (Below.refl _ _) (Nat.le_refl _) (by simp) ?_; (case hd => rfl); (case hg => rfl); (case hr => first | (go_simp; done) | (go_simp; rfl)); (case hp => exact (Reps.none _ _)); intro v265 w4 ho5 hb hg_ hnew_; clear hg_ hnew_; (first | rw [← Ny264.out] at ho5 | (simp only [Int.reduceToNat] at ho5; rw [← Ny264.out] at ho5)); have HO266 := Aside0.mk (Kd.R_lower ho5 (bz_ HB.out)); replace HB := hs_ HB hb; clear hb ho5))
 (try simp only [Act.put, List.setIfInBounds_toArray, List.set_cons_zero, List.set_cons_succ])
 go_cut [15] (fun v15 wc => ∃ (kq : Nat) (x15_2 : Bool), v15 = .bool x15_2 ∧ Aside0 (spec_ShiftDepends.j0 kq l0 a1 y264 x15_2 = some r) ∧ Aside0 (kq ≤ k) ∧ Aside0 (Kd.R k98 98 wc w.heap.size (fun _ => True) v265 y264) ∧ Aside0 (Below w.heap.size w wc))
 case first =>
  have H := HC3.out
  clear HC3
  obtain ⟨t267, A6, H⟩ := bi_ H
  by_cases c7 : t267 = true
  rotate_left
  ·replace c7 := Bool.eq_false_iff.mpr c7
   subst c7
   rw [if_neg (show ¬ (false = true) by decide)] at H
   have H' := Aside0.mk H
   clear H
   go_wp2_with (first | ((with_reducible refine gate_callee (f := 60) rfl ?_); refine gm_ (some 9) Tryz.func60 #[.slice A0 l0.length c0] rfl ?_; (with_reducible refine (spec_DependsOk.calls k _ _ l0 false _ ?side1 HC0.out A6.out).mono ?_); (case side1 => exact cb_ HR0.out HB.out); rintro e w10 ⟨rfl, hb⟩; refine ⟨_, rfl, ?_⟩; replace HO266 := rb_ HO266 hb; replace HB := hs_ HB hb; (try clear hb)))
   go_meet
   case rel => exact ⟨_, (true), ef_, H', ⟨kq_⟩, ⟨ra_ HO266.out⟩, ⟨bb_ HB.out⟩⟩
  subst c7
  rw [if_pos rfl] at H
  obtain ⟨t268, A8, H⟩ := bi_ H
  have H' := Aside0.mk H
  clear H
  go_wp2_with (first | ((with_reducible refine gate_callee (f := 60) rfl ?_); refine gm_ (some 9) Tryz.func60 #[.slice A0 l0.length c0] rfl ?_; (with_reducible refine (spec_DependsOk.calls k _ _ l0 true _ ?side1 HC0.out A6.out).mono ?_); (case side1 => exact cb_ HR0.out HB.out); rintro e w9 ⟨rfl, hb⟩; refine ⟨_, rfl, ?_⟩; replace HO266 := rb_ HO266 hb; replace HB := hs_ HB hb; (try clear hb)) | (go_at_call 91; (with_reducible refine (spec_l01In.calls a1 (-1000) 1000 t268 _ A8.out).mono ?_); rintro e w' ⟨rfl, ⟨nd, rfl⟩⟩))
  go_meet
  case rel => exact ⟨_, (!t268), ef_, H', ⟨kq_⟩, ⟨ra_ HO266.out⟩, ⟨bb_ HB.out⟩⟩
 case rest =>
  clear HC3
  obtain ⟨kq, x15_2, rfl, HA, HJ2, HO_5, HB⟩ := hcut
  cases kq with
  | zero => exact absurd HA.out (by simp [spec_ShiftDepends.j0])
  | succ kj2 =>
   have H := HA.out
   clear HA
   simp only [spec_ShiftDepends.j0] at H
   by_cases c11 : x15_2 = true
   ·subst c11
    rw [if_pos rfl] at H
    obtain rfl := Option.some.inj H
    exact spec_ShiftDepends.e0
   ·replace c11 := Bool.eq_false_iff.mpr c11
    subst c11
    rw [if_neg (show ¬ (false = true) by decide)] at H
    have H' := Aside0.mk H
    clear H
    go_wp2
    go_loopg [5, 6] kj2 (fun kq v5 v6 w' => ∃ (x5_2 : List (S98)) (x6_2 : Int), v6 = .int .i64 x6_2 ∧ Aside0 (spec_ShiftDepends.l0 kq l0 a1 x5_2 x6_2 = some r) ∧ Aside0 (kq ≤ kj2) ∧ Aside0 (Kd.R k98 98 w' w.heap.size (fun _ => True) v5 x5_2) ∧ Aside0 (Below w.heap.size w w'))
    case atStart => exact ⟨(y264), (0), ef_, H', ⟨Nat.le_refl _⟩, ⟨ra_ HO_5.out⟩, ⟨bb_ HB.out⟩⟩
    clear H'
    try clear c11
    obtain ⟨x5_2, x6_2, rfl, HA, HK2, HO_5, HB⟩ := hrel
    obtain _ | k2 := gk
    ·exact absurd HA.out (by simp [spec_ShiftDepends.l0])
    have H := HA.out
    clear HA
    simp only [spec_ShiftDepends.l0] at H
    by_cases c12 : x6_2 < (l0.length : Int)
    rotate_left
    ·rw [if_neg c12] at H
     have c12b0 : decide (x6_2 < (l0.length : Int)) = false := decide_eq_false c12
     clear c12
     obtain ⟨t274, A17, H⟩ := bi_ H
     by_cases c18 : t274 = true
     ·subst c18
      rw [if_pos rfl] at H
      obtain rfl := Option.some.inj H
      obtain ⟨Ao19, co19, eo19⟩ := Kd.R_slice HO_5.out
      subst eo19
      exact spec_ShiftDepends.e0
     replace c18 := Bool.eq_false_iff.mpr c18
     subst c18
     rw [if_neg (show ¬ (false = true) by decide)] at H
     obtain ⟨y275, hy275⟩ : ∃ y_ : List (S98), y_ = (([] : List (S98))) := ⟨_, rfl⟩
     replace H : (some y275) = some r := by first | (rw [hy275]; with_reducible exact H) | (have H2_ := (Option.bind_some _ _).symm.trans H; rw [hy275]; with_reducible exact H2_) | (have H2_ := (Option.bind_some _ _).symm.trans H; with_reducible exact H2_) | with_reducible exact H | (rw [hy275]; exact H) | exact H
     have Ny275 := Aside0.mk hy275
     clear hy275
     obtain rfl := Option.some.inj H
     obtain ⟨Ao21, co21, eo21⟩ := Kd.R_slice HO_5.out
     subst eo21
     go_wp2_with (first | ((with_reducible refine gate_callee (f := 60) rfl ?_); refine gm_ (some 42) Tryz.func60 #[.slice Ao21 x5_2.length co21] rfl ?_; (with_reducible refine (spec_DependsOk.calls k2 _ _ x5_2 false _ ?side1 ?side2 A17.out).mono ?_); (case side1 => exact rr_ HO_5); (case side2 => exact (Kd.R_reads' HO_5.out).2.1); rintro e w22 ⟨rfl, hb⟩; refine ⟨_, rfl, ?_⟩; replace HO_5 := rb_ HO_5 hb; replace HB := hs_ HB hb; (try clear hb)) | ((with_reducible refine gate_dst (N := 44) rfl ?_); refine Kd.R_lit k98 _ 98 ?hg (N := 44) ?hd (xs := ([] : List (S98))) (inner := []) (ok := fun _ => True) (okp := fun _ => True) ?hr ?hp (fun _ hk => hk) trivial (Below.refl _ _) (Nat.le_refl _) (by simp) ?_; (case hd => rfl); (case hg => rfl); (case hr => first | (go_simp; done) | (go_simp; rfl)); (case hp => exact (Reps.none _ _)); intro v276 w23 ho24 hb hg_ hnew_; clear hg_ hnew_; (first | rw [← Ny275.out] at ho24 | (simp only [Int.reduceToNat] at ho24; rw [← Ny275.out] at ho24)); have HO277 := Aside0.mk (Kd.R_lower (Kd.R_new' ho24 (rl_ HO_5.out)) (bz_ HB.out)); replace HO_5 := re_ HO_5 ho24 hb; replace HB := hs_ HB hb; clear hb ho24))
     go_ret
     exact ⟨_, fin_, by (with_reducible repeat (first | apply Kd.R_alloc | apply Kd.R_drewN | apply Kd.R_drew)); exact Kd.R_mono HO277.out (fun _ hk => trivial), bb_ HB.out⟩
    rw [if_pos c12] at H
    have c12b0 : decide (x6_2 < (l0.length : Int)) = true := decide_eq_true c12
    clear c12
    by_cases c13 : 0 ≤ x6_2
    rotate_left
    ·rw [if_neg c13] at H
     exact absurd H (by simp)
    rw [if_pos c13] at H
    have c13b0 : decide (0 ≤ x6_2) = true := decide_eq_true c13
    clear c13
    by_cases c14 : x5_2.length < 8796093022208
    rotate_left
    ·rw [if_neg c14] at H
     exact absurd H (by simp)
    rw [if_pos c14] at H
    have LMc14 := Aside0.mk c14
    clear c14
    obtain ⟨y271, hy271⟩ : ∃ y_ : List (S98), y_ = (x5_2 ++ [(⟨wrap64 (((rd_T98 l0 x6_2).f0) + a1), wrap64 (((rd_T98 l0 x6_2).f1) + a1)⟩ : S98)]) := ⟨_, rfl⟩
    replace H : (spec_ShiftDepends.l0 k2 l0 a1 y271 (wrap64 (x6_2 + 1))) = some r := by first | (rw [hy271]; with_reducible exact H) | (have H2_ := (Option.bind_some _ _).symm.trans H; rw [hy271]; with_reducible exact H2_) | (have H2_ := (Option.bind_some _ _).symm.trans H; with_reducible exact H2_) | with_reducible exact H | (rw [hy271]; exact H) | exact H
    have Ny271 := Aside0.mk hy271
    clear hy271
    have H' := Aside0.mk H
    clear H
    try go_wp2
    replace HO_5 := Aside0.mk (Kd.R_drew HO_5.out)
    replace HB := Aside0.mk (below_drew1 HB.out)
    have p269 : 0 ≤ (x6_2 : Int) := of_decide_eq_true dg_
    have q269 : x6_2 < (l0.length : Int) := of_decide_eq_true dg_
    obtain ⟨ad269, e269, hx269_0, hx269_1⟩ := at_T98 HR0.out x6_2 p269 q269
    have hw269_1 := hx269_1
    have hw269_0 := hx269_0
    cases e269
    replace hx269_0 := hc_ HB hx269_0
    replace hx269_1 := hc_ HB hx269_1
    replace p269 := eq_true p269
    replace q269 := eq_true q269
    have p270 : 0 ≤ (x6_2 : Int) := of_decide_eq_true dg_
    have q270 : x6_2 < (l0.length : Int) := of_decide_eq_true dg_
    obtain ⟨ad270, e270, hx270_0, hx270_1⟩ := at_T98 HR0.out x6_2 p270 q270
    have hw270_1 := hx270_1
    have hw270_0 := hx270_0
    obtain rfl : ad269 = ad270 := (by injection e270)
    replace hx270_0 := hc_ HB hx270_0
    replace hx270_1 := hc_ HB hx270_1
    replace p270 := eq_true p270
    replace q270 := eq_true q270
    refine start_ (n := 19) (S := fun w' => w'.cell? (ad269.add ((x6_2).toNat * 2)) = some (.int .i64 ((rd_T98 l0 x6_2).f0)) ∧ w'.cell? ⟨(ad269.add ((x6_2).toNat * 2)).block, (ad269.add ((x6_2).toNat * 2)).off + 1, none⟩ = some (.int .i64 ((rd_T98 l0 x6_2).f1)) ∧ w'.cell? (ad269.add ((x6_2).toNat * 2)) = some (.int .i64 ((rd_T98 l0 x6_2).f0)) ∧ w'.cell? ⟨(ad269.add ((x6_2).toNat * 2)).block, (ad269.add ((x6_2).toNat * 2)).off + 1, none⟩ = some (.int .i64 ((rd_T98 l0 x6_2).f1))) (ds := []) #[false, false, false, false, false, false, false, false, false, false, false, false, false, false, false, false, false, false, false] (by kernel_rfl) rfl rfl ⟨(hc_ HB hw269_0 :), (hc_ HB hw269_1 :), (hc_ HB hw270_0 :), (hc_ HB hw270_1 :)⟩ (fun hHeld => ?_); refine with_tabW spec_ShiftDepends.tab7 spec_ShiftDepends.bits7 (fun HT_ HW_ => ?_)
    generalize wr.drew = w15 at HO_5 HB hx269_0 hx269_1 hx270_0 hx270_1 hHeld ⊢
    refine pu_ 0 23 (bt_ 19 1) HT_ ?_
    refine pu_ 1 24 (bt_ 19 3) HT_ ?_
    refine pu_ 2 25 (bt_ 19 7) HT_ ?_
    refine pu_ 3 26 (bt_ 19 15) HT_ ?_
    refine pu_ 4 27 (bt_ 19 31) HT_ ?_
    refine pu_ 6 29 (bt_ 19 95) HT_ ?_
    refine pu_ 8 31 (bt_ 19 351) HT_ ?_
    refine pu_ 9 32 (bt_ 19 863) HT_ ?_
    refine pu_ 10 33 (bt_ 19 1887) HT_ ?_
    refine pu_ 11 34 (bt_ 19 3935) HT_ ?_
    refine pu_ 13 36 (bt_ 19 12127) HT_ ?_
    refine take_ (i := 5) (N := some 28) (v := ?_) (a' := ?_) (bt_ 19 12159) rfl rfl (take_ofW HT_.out HW_.out (by kernel_rfl)) (fun _ _ _ h => h) (Or.inl ⟨by rfl, ?_⟩) hHeld ?_ ?_
    rotate_left
    ·rintro w' ⟨s0, s1, s2, s3⟩
     go_simp
     with_reducible rfl
    rotate_left
    ·simp only [Act.put, List.setIfInBounds_toArray, List.set_cons_zero, List.set_cons_succ, i64_w, i32_w]
     rfl
    refine pu_ 7 30 (bt_ 19 12287) HT_ ?_
    refine take_ (i := 12) (N := some 35) (v := ?_) (a' := ?_) (bt_ 19 16383) rfl rfl (take_ofW HT_.out HW_.out (by kernel_rfl)) (fun _ _ _ h => h) (Or.inl ⟨by rfl, ?_⟩) hHeld ?_ ?_
    rotate_left
    ·rintro w' ⟨s0, s1, s2, s3⟩
     go_simp
     with_reducible rfl
    rotate_left
    ·simp only [Act.put, List.setIfInBounds_toArray, List.set_cons_zero, List.set_cons_succ, i64_w, i32_w]
     rfl
    refine pu_ 14 37 (bt_ 19 32767) HT_ ?_
    refine pu_ 15 38 (bt_ 19 65535) HT_ ?_
    refine one_ (i := 16) (N := some 39) (bt_ 19 131071) rfl rfl (one_of HT_.out (by kernel_rfl)) (by decide) (fun K hK => ?_)
    refine value_ (w1 := ?_) (v := ?_) (by rfl) rfl ?_ ?_
    rotate_left 2
    ·go_simp
     constructor
     ·rfl
     ·rfl
    refine hK.out _ _ ⟨(World.cell?_alloc_lt _ _ _ (World.block_lt_of_cell? _ _ ((hc_ HB hw269_0 :)))).trans ((hc_ HB hw269_0 :)), (World.cell?_alloc_lt _ _ _ (World.block_lt_of_cell? _ _ ((hc_ HB hw269_1 :)))).trans ((hc_ HB hw269_1 :)), (World.cell?_alloc_lt _ _ _ (World.block_lt_of_cell? _ _ ((hc_ HB hw270_0 :)))).trans ((hc_ HB hw270_0 :)), (World.cell?_alloc_lt _ _ _ (World.block_lt_of_cell? _ _ ((hc_ HB hw270_1 :)))).trans ((hc_ HB hw270_1 :))⟩ (fun hHeld => ?_)
    clear hK K
    refine norm_ (a' := ?_) ?_ ?_
    rotate_left
    ·show Act.put _ (some 39) _ = _
     simp only [Act.put, List.setIfInBounds_toArray, List.set_cons_zero, List.set_cons_succ, i64_w, i32_w]
     rfl
    refine one_ (i := 17) (N := some 40) (bt_ 19 262143) rfl rfl (one_of HT_.out (by kernel_rfl)) (by decide) (fun K hK => ?_)
    refine Kd.R_append_step k98 (w0 := w) w.heap.size (by rfl) (.tmp 23) (.tmp 39) 62 98 (.agg #[(.int .i64 0), (.int .i64 0)]) 16 rfl Tryz.underlying62 info98 rfl (by decide) (by omega) u5 x5_2 (⟨wrap64 (((rd_T98 l0 x6_2).f0) + a1), wrap64 (((rd_T98 l0 x6_2).f1) + a1)⟩ : S98) [.int .i64 (wrap64 (((rd_T98 l0 x6_2).f0) + a1)), .int .i64 (wrap64 (((rd_T98 l0 x6_2).f1) + a1))] (fun _ => True) (fun _ => False) rfl rfl ?aP (fun _ hk => hk.elim) ?aF ?aO ?aB ?aS ?aL ?_
    (case aP => exact k98_mkM _ _ _ (⟨wrap64 (((rd_T98 l0 x6_2).f0) + a1), wrap64 (((rd_T98 l0 x6_2).f1) + a1)⟩ : S98))
    (case aB => exact (by repeat (first | (with_reducible first | exact HB.out | apply below_alloc | apply pw_below_drewN | apply below_drew1) | exact HB.out)))
    (case aF => exact (fun _ _ => trivial))
    (case aO => exact (ra_ HO_5.out))
    (case aS => exact (bz_ HB.out))
    (case aL => have := LMc14.out; omega)
    intro v272 w16 ho hb hg hat
    rw [← Ny271.out] at ho
    have n0_ := Aside0.mk (hb)
    have n1_ := Aside0.mk (ho)
    clear HB HO_5
    have HB := n0_
    have HO273 := n1_
    clear n0_ n1_ ho hb hg hat
    refine hK.out _ _ ⟨(hc_ HB hw269_0 :), (hc_ HB hw269_1 :), (hc_ HB hw270_0 :), (hc_ HB hw270_1 :)⟩ (fun hHeld => ?_)
    clear hK K
    refine norm_ (a' := ?_) ?_ ?_
    rotate_left
    ·show Act.put _ (some 40) _ = _
     simp only [Act.put, List.setIfInBounds_toArray, List.set_cons_zero, List.set_cons_succ, i64_w, i32_w]
     rfl
    refine pu_ 18 5 (bt_ 19 524287) HT_ ?_
    refine done_ (done_of HT_.out (by kernel_rfl)) ?_
    try go_wp2
    go_roundg k2
    case measure => have := HJ2.out; have := HK2.out; omega
    case rel => exact ⟨(y271), (wrap64 (x6_2 + 1)), ef_, H', ⟨by have := HJ2.out; have := HK2.out; omega⟩, ⟨ra_ HO273.out⟩, ⟨bb_ HB.out⟩⟩

end Go.Proofs.YtimdefbpoddoaaaGreat.PFnExactCheckClasses
-- thin
