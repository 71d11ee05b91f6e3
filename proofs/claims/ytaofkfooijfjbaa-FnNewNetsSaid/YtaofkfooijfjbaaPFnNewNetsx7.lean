/- The law's functions as plain functions, and their calls. No condition. -/
import Derived.Test.YtaofkfooijfjbaaPFnNewNetsx0
import Derived.Test.YtaofkfooijfjbaaPFnNewNetsx1
import Derived.Test.YtaofkfooijfjbaaPFnNewNetsx2
import Derived.Test.YtaofkfooijfjbaaPFnNewNetsx3
namespace Go.Proofs.Ytaofkfooijfjbaa.PFnNewNets
open Go.RowKit Go.Proofs.YtaofkfooijfjbaaW.PrintWords Go.Proofs.YtaofkfooijfjbaaW.PrintLast Go.Proofs.YtaofkfooijfjbaaW.PrintMore
attribute [local go_sem] max2_int min2_int max_two min_two max_three min_three max_four min_four
set_option linter.unusedVariables false
set_option maxHeartbeats 8000000
set_option maxRecDepth 100000
set_option linter.unusedSimpArgs false

/-! ### spec_DrawPlaces: function 11 -/
def spec_DrawPlaces.l0 : Nat → List Int → Int → List Int → Int → Int → Option (List Int)
 | 0, _, _, _, _, _ => none
 | k + 1, x4, x5, x314000, x314001, x314002 => if x5 < 12 then ((spec_l01Below.f x314000 x314001 x314002 10000).bind fun bt317 => (if x4.length < 17592186044416 then (spec_DrawPlaces.l0 k (x4 ++ [bt317.1]) (wrap64 (x5 + 1)) x314000 bt317.2.1 bt317.2.2) else (none))) else (some x4)
def spec_DrawPlaces.f (k : Nat) (l0 : List Int) : Option (List Int) := (spec_l01New.f k l0).bind fun bt310 => (spec_DrawPlaces.l0 k (([] : List Int)) 0 bt310.1 bt310.2.1 bt310.2.2)
theorem spec_DrawPlaces.mono_l : ∀ k, (∀ y0 y1 y2 y3 y4, LeO (spec_DrawPlaces.l0 k y0 y1 y2 y3 y4) (spec_DrawPlaces.l0 (k + 1) y0 y1 y2 y3 y4))
 | 0 => fun _ _ _ _ _ r h => by simp [spec_DrawPlaces.l0] at h
 | k + 1 => by
  have ih0 := spec_DrawPlaces.mono_l k
  ·intro y0 y1 y2 y3 y4
   unfold spec_DrawPlaces.l0
   repeat' (with_reducible first | exact ih0 .. | exact spec_l01New.mono .. | exact LeO.refl .. | exact LeO.none .. | refine LeO.ite ?_ ?_ | refine LeO.bind ?_ (fun _ => ?_))
theorem spec_DrawPlaces.mono : ∀ a0 k, LeO (spec_DrawPlaces.f k a0) (spec_DrawPlaces.f (k + 1) a0) := by
 intro a0 k
 have ih0 := spec_DrawPlaces.mono_l k
 unfold spec_DrawPlaces.f
 repeat' (with_reducible first | exact ih0 .. | exact spec_l01New.mono .. | exact LeO.refl .. | exact LeO.none .. | refine LeO.ite ?_ ?_ | refine LeO.bind ?_ (fun _ => ?_))
theorem spec_DrawPlaces.calls (k : Nat) (A0 : Option Addr) (c0 : Nat) (l0 : List Int) (r : List Int) (w : World) (hr0 : Kd.C (Kd.int .u8) w A0 l0.length l0) (hc0 : l0.length ≤ c0) (h : spec_DrawPlaces.f k l0 = some r) :
  Calls Try.prog 11 #[.slice A0 l0.length c0] w fun e w' => ∃ v0_ : Value, e = .returned (v0_) ∧ Kd.R (Kd.int .i64) 3 w' w.heap.size (fun _ => True) v0_ r ∧ Below w.heap.size w w' := by
 have HR0 := Aside0.mk hr0
 have HC0 := Aside0.mk hc0
 clear hr0 hc0
 have HB := Aside0.mk (Below.refl w.heap.size w)
 have H : ((spec_l01New.f k l0).bind fun bt310 => (spec_DrawPlaces.l0 k (([] : List Int)) 0 bt310.1 bt310.2.1 bt310.2.2)) = some r := h
 clear h
 obtain ⟨⟨t310, t311, t312⟩, A2, H⟩ := bi_ H
 try dsimp only at H
 obtain ⟨y314, hy314⟩ : ∃ y_ : List Int, y_ = (([] : List Int)) := ⟨_, rfl⟩
 replace H : (spec_DrawPlaces.l0 k y314 0 t310 t311 t312) = some r := by first | (rw [hy314]; with_reducible exact H) | (have H2_ := (Option.bind_some _ _).symm.trans H; rw [hy314]; with_reducible exact H2_) | (have H2_ := (Option.bind_some _ _).symm.trans H; with_reducible exact H2_) | with_reducible exact H | (rw [hy314]; exact H) | exact H
 have Ny314 := Aside0.mk hy314
 clear hy314
 have H' := Aside0.mk H
 clear H
 go_enter Try.func11, Try.ntmps11
 go_wp2_with (first | ((with_reducible refine gate_callee (f := 40) rfl ?_); refine gm_ (some 7) Try.func40 #[.slice A0 l0.length c0] rfl ?_; (with_reducible refine (spec_l01New.calls k _ _ l0 t310 t311 t312 w _ ?side1 ?side2 HC0.out A2.out).mono ?_); (case side1 => repeat (first | (with_reducible first | exact HB.out | apply below_alloc | apply pw_below_drewN | apply below_drew1) | exact HB.out)); (case side2 => exact HR0.out); rintro e w3 ⟨g313, rfl, hi, hb, hb2⟩; refine ⟨_, rfl, ?_⟩; replace HB := Aside0.mk (hb); have HI313 := Aside0.mk (hi); (try clear hb)) | ((with_reducible refine gate_dst (N := 8) rfl ?_); refine Kd.R_lit (Kd.int .i64) _ 3 ?hg (N := 8) ?hd (xs := ([] : List Int)) (inner := []) (ok := fun _ => True) (okp := fun _ => True) ?hr ?hp (fun _ hk => hk) trivial (Below.refl _ _) (Nat.le_refl _) (by simp) ?_; (case hd => rfl); (case hg => rfl); (case hr => first | (go_simp; done) | (go_simp; rfl)); (case hp => exact (Reps.none _ _)); intro v315 w4 ho5 hb hg_ hnew_; clear hg_ hnew_; (first | rw [← Ny314.out] at ho5 | (simp only [Int.reduceToNat] at ho5; rw [← Ny314.out] at ho5)); have HO316 := Aside0.mk (Kd.R_lower ho5 (below_size (by repeat (first | (with_reducible first | exact HB.out | apply below_alloc | apply pw_below_drewN | apply below_drew1 | refine below_set ?_ (IsS106.ge HI313.out)) | exact HB.out)))); replace HB := Aside0.mk (below_step (by repeat (first | (with_reducible first | exact HB.out | apply below_alloc | apply pw_below_drewN | apply below_drew1 | refine below_set ?_ (IsS106.ge HI313.out)) | exact HB.out)) hb); replace HI313 := Aside0.mk (IsS106.below (by repeat (first | (with_reducible first | exact HI313.out | apply IsS106.alloc | apply IsS106.drewN | apply IsS106.drew | apply IsS106.set_1 | apply IsS106.set_2) | exact HI313.out)) hb); clear hb ho5))
 go_loopg [4, 5] k (fun kq v4 v5 w' => ∃ (x4_1 : List Int) (x5_1 : Int) (x314001_1 : Int) (x314002_1 : Int), v5 = .int .i64 x5_1 ∧ Aside0 (spec_DrawPlaces.l0 kq x4_1 x5_1 t310 x314001_1 x314002_1 = some r) ∧ Aside0 (kq ≤ k) ∧ Aside0 (Kd.R (Kd.int .i64) 3 w' w.heap.size (fun _ => True) v4 x4_1) ∧ Aside0 (IsS106 w w' g313 t310 x314001_1 x314002_1) ∧ Aside0 (Below w.heap.size w w'))
 case atStart => exact ⟨(y314), (0), (t311), (t312), ef_, H', ⟨Nat.le_refl _⟩, ⟨ra_ HO316.out⟩, ⟨by repeat (first | (with_reducible first | exact HI313.out | apply IsS106.alloc | apply IsS106.drewN | apply IsS106.drew | apply IsS106.set_1 | apply IsS106.set_2) | exact HI313.out)⟩, ⟨by repeat (first | (with_reducible first | exact HB.out | apply below_alloc | apply pw_below_drewN | apply below_drew1 | refine below_set ?_ (IsS106.ge HI313.out)) | exact HB.out)⟩⟩
 clear H'
 obtain ⟨x4_1, x5_1, x314001_1, x314002_1, rfl, HA, HK1, HO_4, HI313, HB⟩ := hrel
 obtain _ | k1 := gk
 ·exact absurd HA.out (by simp [spec_DrawPlaces.l0])
 have H := HA.out
 clear HA
 simp only [spec_DrawPlaces.l0] at H
 by_cases c6 : x5_1 < 12
 rotate_left
 ·rw [if_neg c6] at H
  have c6b0 : decide (x5_1 < 12) = false := decide_eq_false c6
  clear c6
  obtain rfl := Option.some.inj H
  go_wp2
  go_ret
  exact ⟨_, fin_, ra_ HO_4.out, by repeat (first | (with_reducible first | exact HB.out | apply below_alloc | apply pw_below_drewN | apply below_drew1 | refine below_set ?_ (IsS106.ge HI313.out)) | exact HB.out)⟩
 rw [if_pos c6] at H
 have c6b0 : decide (x5_1 < 12) = true := decide_eq_true c6
 clear c6
 obtain ⟨⟨t317, t318, t319⟩, A7, H⟩ := bi_ H
 try dsimp only at H
 by_cases c8 : x4_1.length < 17592186044416
 rotate_left
 ·rw [if_neg c8] at H
  exact absurd H (by simp)
 rw [if_pos c8] at H
 have LMc8 := Aside0.mk c8
 clear c8
 obtain ⟨y320, hy320⟩ : ∃ y_ : List Int, y_ = (x4_1 ++ [t317]) := ⟨_, rfl⟩
 replace H : (spec_DrawPlaces.l0 k1 y320 (wrap64 (x5_1 + 1)) t310 t318 t319) = some r := by first | (rw [hy320]; with_reducible exact H) | (have H2_ := (Option.bind_some _ _).symm.trans H; rw [hy320]; with_reducible exact H2_) | (have H2_ := (Option.bind_some _ _).symm.trans H; with_reducible exact H2_) | with_reducible exact H | (rw [hy320]; exact H) | exact H
 have Ny320 := Aside0.mk hy320
 clear hy320
 have H' := Aside0.mk H
 clear H
 go_wp2_with (first | ((with_reducible refine gate_callee (f := 45) rfl ?_); refine gm_ (some 15) Try.func45 #[.pointer (some ⟨g313, 0, none⟩), .int .i64 10000] rfl ?_; (with_reducible refine (spec_l01Below.calls g313 t310 x314001_1 x314002_1 10000 t317 t318 t319 w _ ?side1 ?side2 A7.out).mono ?_); (case side1 => repeat (first | (with_reducible first | exact HI313.out | apply IsS106.alloc | apply IsS106.drewN | apply IsS106.drew | apply IsS106.set_1 | apply IsS106.set_2) | exact HI313.out)); (case side2 => repeat (first | (with_reducible first | exact HB.out | apply below_alloc | apply pw_below_drewN | apply below_drew1 | refine below_set ?_ (IsS106.ge HI313.out)) | exact HB.out)); rintro e w9 ⟨rfl, hi, hb, hk⟩; refine ⟨_, rfl, ?_⟩; replace HO_4 := Aside0.mk (Kd.R_mono (Kd.R_keep (IsS106.apart (show IsS106 w _ g313 t310 x314001_1 x314002_1 from by repeat (first | (with_reducible first | exact HI313.out | apply IsS106.alloc | apply IsS106.drewN | apply IsS106.drew | apply IsS106.set_1 | apply IsS106.set_2) | exact HI313.out)) (ra_ HO_4.out) (by decide)) hk (fun _ h => h.2)) (fun _ h => h.1)); replace HB := Aside0.mk (hb); replace HI313 := Aside0.mk (hi); (try clear hb)) | ((with_reducible refine gate_builtin (b := .append) (xs := #[.tmp 13, .tmp 16]) rfl ?_); at_builtin; refine Kd.R_append (Kd.int .i64) (w0 := w) w.heap.size rfl (.tmp 13) (.tmp 16) 26 3 (.int .i64 0) 8 rfl Try.underlying26 info3 rfl (by decide) (by omega) u4 x4_1 t317 [.int .i64 t317] (fun _ => True) (fun _ => False) rfl rfl ?aP (fun _ hk => hk.elim) ?aF ?aO ?aB ?aS ?aL ?_; (case aP => exact rfl); (case aB => exact (by repeat (first | (with_reducible first | exact HB.out | apply below_alloc | apply pw_below_drewN | apply below_drew1 | refine below_set ?_ (IsS106.ge HI313.out)) | exact HB.out))); (case aF => exact (fun _ _ => trivial)); (case aO => exact (ra_ HO_4.out)); (case aS => exact (below_size (by repeat (first | (with_reducible first | exact HB.out | apply below_alloc | apply pw_below_drewN | apply below_drew1 | refine below_set ?_ (IsS106.ge HI313.out)) | exact HB.out)))); (case aL => have := LMc8.out; omega); intro v321 w10 ho hb hg hat; rw [← Ny320.out] at ho; have n0_ := Aside0.mk (IsS106.grown (by repeat (first | (with_reducible first | exact HI313.out | apply IsS106.alloc | apply IsS106.drewN | apply IsS106.drew | apply IsS106.set_1 | apply IsS106.set_2) | exact HI313.out)) hg (IsS106.own_ne HI313.out HO_4.out (by decide))); have n1_ := Aside0.mk (hb); have n2_ := Aside0.mk (ho); clear HI313; clear HB; clear HO_4; have HI313 := n0_; have HB := n1_; have HO322 := n2_; clear n0_ n1_ n2_; clear ho hb hg hat))
 go_roundg k1
 case measure => have := HK1.out; omega
 case rel => exact ⟨(y320), (wrap64 (x5_1 + 1)), (t318), (t319), ef_, H', ⟨by have := HK1.out; omega⟩, ⟨ra_ HO322.out⟩, ⟨by repeat (first | (with_reducible first | exact HI313.out | apply IsS106.alloc | apply IsS106.drewN | apply IsS106.drew | apply IsS106.set_1 | apply IsS106.set_2) | exact HI313.out)⟩, ⟨by repeat (first | (with_reducible first | exact HB.out | apply below_alloc | apply pw_below_drewN | apply below_drew1 | refine below_set ?_ (IsS106.ge HI313.out)) | exact HB.out)⟩⟩

/-! ### impl_ClassOnly: function 46 -/
def impl_ClassOnly.l0 : Nat → Int → List (S112) → List (S112) → Int → Int → Option ((List (S112)))
 | 0, _, _, _, _, _ => none
 | k + 1, x1, x5, x9, x10, x11 => if x11 < x10 then (if 0 ≤ x11 then (if x11 < (x9.length : Int) then (if ((rd_T112 x9 x11).f2) = x1 then (if x5.length < 4398046511104 then (impl_ClassOnly.l0 k x1 (x5 ++ [(⟨(rd_T112 x9 x11).f0, (rd_T112 x9 x11).f1, (rd_T112 x9 x11).f2, (rd_T112 x9 x11).f3, (rd_T112 x9 x11).f4⟩ : S112)]) x9 x10 (wrap64 (x11 + 1))) else (none)) else (impl_ClassOnly.l0 k x1 x5 x9 x10 (wrap64 (x11 + 1)))) else (none)) else (none)) else (some x5)
def impl_ClassOnly.f (k : Nat) (l0 : List (S112)) (a1 : Int) : Option ((List (S112))) := impl_ClassOnly.l0 k a1 (([] : List (S112))) l0 (l0.length : Int) 0
theorem impl_ClassOnly.mono_l : ∀ k, (∀ y0 y1 y2 y3 y4, LeO (impl_ClassOnly.l0 k y0 y1 y2 y3 y4) (impl_ClassOnly.l0 (k + 1) y0 y1 y2 y3 y4))
 | 0 => fun _ _ _ _ _ r h => by simp [impl_ClassOnly.l0] at h
 | k + 1 => by
  have ih0 := impl_ClassOnly.mono_l k
  ·intro y0 y1 y2 y3 y4
   unfold impl_ClassOnly.l0
   repeat' (with_reducible first | exact ih0 .. | exact LeO.refl .. | exact LeO.none .. | refine LeO.ite ?_ ?_ | refine LeO.bind ?_ (fun _ => ?_))
theorem impl_ClassOnly.mono : ∀ a0 a1 k, LeO (impl_ClassOnly.f k a0 a1) (impl_ClassOnly.f (k + 1) a0 a1) := by
 intro a0 a1 k
 have ih0 := impl_ClassOnly.mono_l k
 unfold impl_ClassOnly.f
 repeat' (with_reducible first | exact ih0 .. | exact LeO.refl .. | exact LeO.none .. | refine LeO.ite ?_ ?_ | refine LeO.bind ?_ (fun _ => ?_))
theorem impl_ClassOnly.calls (k : Nat) (A0 : Option Addr) (c0 : Nat) (l0 : List (S112)) (a1 : Int) (r : List (S112)) (w : World) (hr0 : Kd.C k112 w A0 l0.length l0) (hc0 : l0.length ≤ c0) (h : impl_ClassOnly.f k l0 a1 = some r) :
  Calls Try.prog 46 #[.slice A0 l0.length c0, .int .i64 a1] w fun e w' => ∃ v0_ : Value, e = .returned (v0_) ∧ Kd.R k112 112 w' w.heap.size (fun _ => True) v0_ r ∧ Below w.heap.size w w' := by
 have hu112 := Try.underlying112
 have HR0 := Aside0.mk hr0
 have HC0 := Aside0.mk hc0
 clear hr0 hc0
 have HB := Aside0.mk (Below.refl w.heap.size w)
 have H : (impl_ClassOnly.l0 k a1 (([] : List (S112))) l0 (l0.length : Int) 0) = some r := h
 clear h
 obtain ⟨y323, hy323⟩ : ∃ y_ : List (S112), y_ = (([] : List (S112))) := ⟨_, rfl⟩
 replace H : (impl_ClassOnly.l0 k a1 y323 l0 (l0.length : Int) 0) = some r := by first | (rw [hy323]; with_reducible exact H) | (have H2_ := (Option.bind_some _ _).symm.trans H; rw [hy323]; with_reducible exact H2_) | (have H2_ := (Option.bind_some _ _).symm.trans H; with_reducible exact H2_) | with_reducible exact H | (rw [hy323]; exact H) | exact H
 have Ny323 := Aside0.mk hy323
 clear hy323
 have H' := Aside0.mk H
 clear H
 go_enter Try.func46, Try.ntmps46
 go_wp2_with (first | ((with_reducible refine gate_dst (N := 8) rfl ?_); refine Kd.R_lit k112 _ 112 ?hg (N := 8) ?hd (xs := ([] : List (S112))) (inner := []) (ok := fun _ => True) (okp := fun _ => True) ?hr ?hp (fun _ hk => hk) trivial (Below.refl _ _) (Nat.le_refl _) (by simp) ?_; (case hd => rfl); (case hg => rfl); (case hr => first | (go_simp; done) | (go_simp; rfl)); (case hp => exact (Reps.none _ _)); intro v324 w3 ho4 hb hg_ hnew_; clear hg_ hnew_; (first | rw [← Ny323.out] at ho4 | (simp only [Int.reduceToNat] at ho4; rw [← Ny323.out] at ho4)); have HO325 := Aside0.mk (Kd.R_lower ho4 (bz_ HB.out)); replace HB := hs_ HB hb; clear hb ho4))
 go_loopg [5, 11] k (fun kq v5 v11 w' => ∃ (x5_1 : List (S112)) (x11_1 : Int), v11 = .int .i64 x11_1 ∧ Aside0 (impl_ClassOnly.l0 kq a1 x5_1 l0 (l0.length : Int) x11_1 = some r) ∧ Aside0 (kq ≤ k) ∧ Aside0 (Kd.R k112 112 w' w.heap.size (fun _ => True) v5 x5_1) ∧ Aside0 (Below w.heap.size w w'))
 case atStart => exact ⟨(y323), (0), ef_, H', ⟨Nat.le_refl _⟩, ⟨ra_ HO325.out⟩, ⟨bb_ HB.out⟩⟩
 clear H'
 obtain ⟨x5_1, x11_1, rfl, HA, HK1, HO_5, HB⟩ := hrel
 obtain _ | k1 := gk
 ·exact absurd HA.out (by simp [impl_ClassOnly.l0])
 have H := HA.out
 clear HA
 simp only [impl_ClassOnly.l0] at H
 by_cases c5 : x11_1 < (l0.length : Int)
 rotate_left
 ·rw [if_neg c5] at H
  have c5b0 : decide (x11_1 < (l0.length : Int)) = false := decide_eq_false c5
  clear c5
  obtain rfl := Option.some.inj H
  go_wp2
  go_ret
  exact ⟨_, fin_, ra_ HO_5.out, bb_ HB.out⟩
 rw [if_pos c5] at H
 have c5b0 : decide (x11_1 < (l0.length : Int)) = true := decide_eq_true c5
 clear c5
 by_cases c6 : 0 ≤ x11_1
 rotate_left
 ·rw [if_neg c6] at H
  exact absurd H (by simp)
 rw [if_pos c6] at H
 have c6b0 : decide (0 ≤ x11_1) = true := decide_eq_true c6
 clear c6
 by_cases c7 : x11_1 < (l0.length : Int)
 rotate_left
 ·rw [if_neg c7] at H
  exact absurd H (by simp)
 rw [if_pos c7] at H
 have c7b0 : decide (x11_1 < (l0.length : Int)) = true := decide_eq_true c7
 clear c7
 by_cases c8 : ((rd_T112 l0 x11_1).f2) = a1
 rotate_left
 ·rw [if_neg c8] at H
  have c8b0 : (((rd_T112 l0 x11_1).f2) == a1) = false := beq_eq_false_iff_ne.mpr c8
  have c8b1 : (((rd_T112 l0 x11_1).f2) != a1) = true := bne_iff_ne.mpr c8
  have H' := Aside0.mk H
  clear H
  have p326 : 0 ≤ (x11_1 : Int) := of_decide_eq_true dg_
  have q326 : x11_1 < (l0.length : Int) := of_decide_eq_true dg_
  obtain ⟨ad326, e326, hx326_0, hx326_1, hx326_2, hx326_3, hx326_4⟩ := at_T112 HR0.out x11_1 p326 q326
  cases e326
  replace hx326_0 := hc_ HB hx326_0
  replace hx326_1 := hc_ HB hx326_1
  replace hx326_2 := hc_ HB hx326_2
  replace hx326_3 := hc_ HB hx326_3
  replace hx326_4 := hc_ HB hx326_4
  replace p326 := eq_true p326
  replace q326 := eq_true q326
  go_wp2_with (first | ((with_reducible refine gate_dst (N := 7) rfl ?_); refine box_event ?hg (N := 7) ?hd (cs := #[.int .i64 0, .int .i64 0, .int .i64 0, .bool false, .bool false]) (t := 112) ?hr ?_; (case hd => rfl); (case hg => rfl); (case hr => first | (go_simp; done) | (go_simp; rfl)); intro gb327 hg w13 hbox hb; replace HO_5 := Aside0.mk (Kd.R_below (Kd.R_elderB (ra_ HO_5.out) gb327 (Nat.le_of_eq hg.symm)) hb); have BK327 := Aside0.mk (hbox); have GW327 := gw_ hg HB; replace HB := hs_ HB hb; clear hb hbox hg; obtain ⟨hcz14_0, hcz14_1, hcz14_2, hcz14_3, hcz14_4, hfz14_0, hfz14_1, hfz14_2, hfz14_3, hfz14_4⟩ := cz5_ BK327.out))
  go_roundg k1
  case measure => have := HK1.out; omega
  case rel => exact ⟨(x5_1), (wrap64 (x11_1 + 1)), ef_, H', ⟨by have := HK1.out; omega⟩, ⟨rm_ (Kd.R_mono HO_5.out (fun k_ hk => (⟨hk, hk.2⟩ : _ ∧ k_ ≠ gb327))) (fun _ hk => trivial)⟩, ⟨bb_ HB.out⟩⟩
 rw [if_pos c8] at H
 have c8b0 : (((rd_T112 l0 x11_1).f2) == a1) = true := beq_iff_eq.mpr c8
 have c8b1 : (((rd_T112 l0 x11_1).f2) != a1) = false := bne_eq_false_iff_eq.mpr c8
 clear c8
 by_cases c9 : x5_1.length < 4398046511104
 rotate_left
 ·rw [if_neg c9] at H
  exact absurd H (by simp)
 rw [if_pos c9] at H
 have LMc9 := Aside0.mk c9
 clear c9
 obtain ⟨y328, hy328⟩ : ∃ y_ : List (S112), y_ = (x5_1 ++ [(⟨(rd_T112 l0 x11_1).f0, (rd_T112 l0 x11_1).f1, (rd_T112 l0 x11_1).f2, (rd_T112 l0 x11_1).f3, (rd_T112 l0 x11_1).f4⟩ : S112)]) := ⟨_, rfl⟩
 replace H : (impl_ClassOnly.l0 k1 a1 y328 l0 (l0.length : Int) (wrap64 (x11_1 + 1))) = some r := by first | (rw [hy328]; with_reducible exact H) | (have H2_ := (Option.bind_some _ _).symm.trans H; rw [hy328]; with_reducible exact H2_) | (have H2_ := (Option.bind_some _ _).symm.trans H; with_reducible exact H2_) | with_reducible exact H | (rw [hy328]; exact H) | exact H
 have Ny328 := Aside0.mk hy328
 clear hy328
 have H' := Aside0.mk H
 clear H
 have p326 : 0 ≤ (x11_1 : Int) := of_decide_eq_true dg_
 have q326 : x11_1 < (l0.length : Int) := of_decide_eq_true dg_
 obtain ⟨ad326, e326, hx326_0, hx326_1, hx326_2, hx326_3, hx326_4⟩ := at_T112 HR0.out x11_1 p326 q326
 cases e326
 replace hx326_0 := hc_ HB hx326_0
 replace hx326_1 := hc_ HB hx326_1
 replace hx326_2 := hc_ HB hx326_2
 replace hx326_3 := hc_ HB hx326_3
 replace hx326_4 := hc_ HB hx326_4
 replace p326 := eq_true p326
 replace q326 := eq_true q326
 go_wp2_with (first | ((with_reducible refine gate_dst (N := 7) rfl ?_); refine box_event ?hg (N := 7) ?hd (cs := #[.int .i64 0, .int .i64 0, .int .i64 0, .bool false, .bool false]) (t := 112) ?hr ?_; (case hd => rfl); (case hg => rfl); (case hr => first | (go_simp; done) | (go_simp; rfl)); intro gb327 hg w10 hbox hb; replace HO_5 := Aside0.mk (Kd.R_below (Kd.R_elderB (ra_ HO_5.out) gb327 (Nat.le_of_eq hg.symm)) hb); have BK327 := Aside0.mk (hbox); have GW327 := gw_ hg HB; replace HB := hs_ HB hb; clear hb hbox hg; obtain ⟨hcz11_0, hcz11_1, hcz11_2, hcz11_3, hcz11_4, hfz11_0, hfz11_1, hfz11_2, hfz11_3, hfz11_4⟩ := cz5_ BK327.out) | ((with_reducible refine gate_builtin (b := .append) (xs := #[.tmp 19, .tmp 21]) rfl ?_); at_builtin; refine Kd.R_append k112 (w0 := w) w.heap.size rfl (.tmp 19) (.tmp 21) 81 112 (.agg #[(.int .i64 0), (.int .i64 0), (.int .i64 0), (.bool false), (.bool false)]) 32 rfl Try.underlying81 info112 rfl (by decide) (by omega) u5 x5_1 (⟨(rd_T112 l0 x11_1).f0, (rd_T112 l0 x11_1).f1, (rd_T112 l0 x11_1).f2, (rd_T112 l0 x11_1).f3, (rd_T112 l0 x11_1).f4⟩ : S112) [.int .i64 ((rd_T112 l0 x11_1).f0), .int .i64 ((rd_T112 l0 x11_1).f1), .int .i64 ((rd_T112 l0 x11_1).f2), .bool ((rd_T112 l0 x11_1).f3), .bool ((rd_T112 l0 x11_1).f4)] (fun k_ => k_ ≠ gb327) (fun _ => False) rfl (by first | (go_simp; done) | (go_simp; rfl)) ?aP (fun _ hk => hk.elim) ?aF ?aO ?aB ?aS ?aL ?_; (case aP => exact k112_mkM _ _ _ (⟨(rd_T112 l0 x11_1).f0, (rd_T112 l0 x11_1).f1, (rd_T112 l0 x11_1).f2, (rd_T112 l0 x11_1).f3, (rd_T112 l0 x11_1).f4⟩ : S112)); (case aB => exact (by repeat (first | (with_reducible first | exact HB.out | apply below_alloc | apply pw_below_drewN | apply below_drew1 | refine below_set ?_ GW327.out) | exact HB.out))); (case aF => exact (fun k_ hk => Kd.freshB (g := gb327) (o := .cells #[.int .i64 ((rd_T112 l0 x11_1).f0), .int .i64 ((rd_T112 l0 x11_1).f1), .int .i64 ((rd_T112 l0 x11_1).f2), .bool ((rd_T112 l0 x11_1).f3), .bool ((rd_T112 l0 x11_1).f4)] 112 (0, 0)) (by (with_reducible repeat (first | refine blk_drewN ?_ _ | refine blk_drew ?_ | refine blk_alloc ?_ _)); refine blk_put (cs := #[.int .i64 ((rd_T112 l0 x11_1).f0), .int .i64 ((rd_T112 l0 x11_1).f1), .int .i64 ((rd_T112 l0 x11_1).f2), .bool ((rd_T112 l0 x11_1).f3), .bool false]) ?_ 4 _ rfl; (with_reducible repeat (first | refine blk_drewN ?_ _ | refine blk_drew ?_ | refine blk_alloc ?_ _)); refine blk_put (cs := #[.int .i64 ((rd_T112 l0 x11_1).f0), .int .i64 ((rd_T112 l0 x11_1).f1), .int .i64 ((rd_T112 l0 x11_1).f2), .bool false, .bool false]) ?_ 3 _ rfl; (with_reducible repeat (first | refine blk_drewN ?_ _ | refine blk_drew ?_ | refine blk_alloc ?_ _)); refine blk_put (cs := #[.int .i64 ((rd_T112 l0 x11_1).f0), .int .i64 ((rd_T112 l0 x11_1).f1), .int .i64 0, .bool false, .bool false]) ?_ 2 _ rfl; (with_reducible repeat (first | refine blk_drewN ?_ _ | refine blk_drew ?_ | refine blk_alloc ?_ _)); refine blk_put (cs := #[.int .i64 ((rd_T112 l0 x11_1).f0), .int .i64 0, .int .i64 0, .bool false, .bool false]) ?_ 1 _ rfl; (with_reducible repeat (first | refine blk_drewN ?_ _ | refine blk_drew ?_ | refine blk_alloc ?_ _)); refine blk_put (cs := #[.int .i64 0, .int .i64 0, .int .i64 0, .bool false, .bool false]) ?_ 0 _ rfl; (with_reducible repeat (first | refine blk_drewN ?_ _ | refine blk_drew ?_ | refine blk_alloc ?_ _)); exact BK327.out) k_ hk)); (case aO => exact (rm_ (Kd.R_mono HO_5.out (fun k_ hk => (⟨hk, hk.2⟩ : _ ∧ k_ ≠ gb327))) (fun _ hk => hk.1.2))); (case aS => exact (bz_ HB.out)); (case aL => have := LMc9.out; omega); intro v329 w12 ho hb hg hat; rw [← Ny328.out] at ho; have n0_ := Aside0.mk (blk_grown (g := gb327) (o := .cells #[.int .i64 ((rd_T112 l0 x11_1).f0), .int .i64 ((rd_T112 l0 x11_1).f1), .int .i64 ((rd_T112 l0 x11_1).f2), .bool ((rd_T112 l0 x11_1).f3), .bool ((rd_T112 l0 x11_1).f4)] 112 (0, 0)) (by (with_reducible repeat (first | refine blk_drewN ?_ _ | refine blk_drew ?_ | refine blk_alloc ?_ _)); refine blk_put (cs := #[.int .i64 ((rd_T112 l0 x11_1).f0), .int .i64 ((rd_T112 l0 x11_1).f1), .int .i64 ((rd_T112 l0 x11_1).f2), .bool ((rd_T112 l0 x11_1).f3), .bool false]) ?_ 4 _ rfl; (with_reducible repeat (first | refine blk_drewN ?_ _ | refine blk_drew ?_ | refine blk_alloc ?_ _)); refine blk_put (cs := #[.int .i64 ((rd_T112 l0 x11_1).f0), .int .i64 ((rd_T112 l0 x11_1).f1), .int .i64 ((rd_T112 l0 x11_1).f2), .bool false, .bool false]) ?_ 3 _ rfl; (with_reducible repeat (first | refine blk_drewN ?_ _ | refine blk_drew ?_ | refine blk_alloc ?_ _)); refine blk_put (cs := #[.int .i64 ((rd_T112 l0 x11_1).f0), .int .i64 ((rd_T112 l0 x11_1).f1), .int .i64 0, .bool false, .bool false]) ?_ 2 _ rfl; (with_reducible repeat (first | refine blk_drewN ?_ _ | refine blk_drew ?_ | refine blk_alloc ?_ _)); refine blk_put (cs := #[.int .i64 ((rd_T112 l0 x11_1).f0), .int .i64 0, .int .i64 0, .bool false, .bool false]) ?_ 1 _ rfl; (with_reducible repeat (first | refine blk_drewN ?_ _ | refine blk_drew ?_ | refine blk_alloc ?_ _)); refine blk_put (cs := #[.int .i64 0, .int .i64 0, .int .i64 0, .bool false, .bool false]) ?_ 0 _ rfl; (with_reducible repeat (first | refine blk_drewN ?_ _ | refine blk_drew ?_ | refine blk_alloc ?_ _)); exact BK327.out) hg (Kd.R_away HO_5.out (fun _ hk => hk.2))); have n1_ := Aside0.mk (hb); have n2_ := Aside0.mk (ho); clear BK327; clear HB; clear HO_5; have BK327 := n0_; have HB := n1_; have HO330 := n2_; clear n0_ n1_ n2_; clear ho hb hg hat))
 go_roundg k1
 case measure => have := HK1.out; omega
 case rel => exact ⟨(y328), (wrap64 (x11_1 + 1)), ef_, H', ⟨by have := HK1.out; omega⟩, ⟨by (with_reducible repeat (first | apply Kd.R_alloc | apply Kd.R_drewN | apply Kd.R_drew)); exact Kd.R_mono HO330.out (fun _ hk => trivial)⟩, ⟨bb_ HB.out⟩⟩

/-! ### impl_areFlits: function 47 -/
def impl_areFlits.l0 : Nat → List (S112) → Int → Int → Int → Int → Option (Bool)
 | 0, _, _, _, _, _ => none
 | k + 1, x7, x8, x9, x332000, x332001 => if x9 < x8 then (if 0 ≤ x9 then (if x9 < (x7.length : Int) then ((impl_isNode.f x332000 x332001 ((rd_T112 x7 x9).f1)).bind fun t334 => (if t334 = true then ((impl_inside.f ((rd_T112 x7 x9).f2) 0 1).bind fun t335 => (if t335 = true then (impl_areFlits.l0 k x7 x8 (wrap64 (x9 + 1)) x332000 x332001) else (some false))) else (some false))) else (none)) else (none)) else (some true)
def impl_areFlits.f (k : Nat) (a0_0 : Int) (a0_1 : Int) (l1 : List (S112)) : Option (Bool) := impl_areFlits.l0 k l1 (l1.length : Int) 0 a0_0 a0_1
theorem impl_areFlits.mono_l : ∀ k, (∀ y0 y1 y2 y3 y4, LeO (impl_areFlits.l0 k y0 y1 y2 y3 y4) (impl_areFlits.l0 (k + 1) y0 y1 y2 y3 y4))
 | 0 => fun _ _ _ _ _ r h => by simp [impl_areFlits.l0] at h
 | k + 1 => by
  have ih0 := impl_areFlits.mono_l k
  ·intro y0 y1 y2 y3 y4
   unfold impl_areFlits.l0
   repeat' (with_reducible first | exact ih0 .. | exact LeO.refl .. | exact LeO.none .. | refine LeO.ite ?_ ?_ | refine LeO.bind ?_ (fun _ => ?_))
theorem impl_areFlits.mono : ∀ a0 a1 a2 k, LeO (impl_areFlits.f k a0 a1 a2) (impl_areFlits.f (k + 1) a0 a1 a2) := by
 intro a0 a1 a2 k
 have ih0 := impl_areFlits.mono_l k
 unfold impl_areFlits.f
 repeat' (with_reducible first | exact ih0 .. | exact LeO.refl .. | exact LeO.none .. | refine LeO.ite ?_ ?_ | refine LeO.bind ?_ (fun _ => ?_))
theorem impl_areFlits.e0 {P : Prop} (h : P := by
 go_wp2_with (first | ((with_reducible refine gate_dst (N := 6) rfl ?_); refine box_event ?hg (N := 6) ?hd (cs := #[.int .i64 0, .int .i64 0, .int .i64 0, .bool false, .bool false]) (t := 112) ?hr ?_; (case hd => rfl); (case hg => rfl); (case hr => first | (go_simp; done) | (go_simp; rfl)); intro gb333 hg w_0 hbox hb; have BK333 := Aside0.mk (hbox); have GW333 := gw_ hg HB; replace HB := hs_ HB hb; have NB331_333 := nl_ hg BK331; have NB333_331 := ng_ hg BK331; replace BK331 := kb_ BK331 hb; clear hb hbox hg; have hnb_ := NB333_331.out; have hnc_ := NB331_333.out; obtain ⟨hcz_0, hcz_1, hcz_2, hcz_3, hcz_4, hfz_0, hfz_1, hfz_2, hfz_3, hfz_4⟩ := cz5_ BK333.out; obtain ⟨hcz__0, hcz__1, hfz__0, hfz__1⟩ := cz2_ BK331.out) | ((with_reducible refine gate_callee (f := 86) rfl ?_); refine gm_ (some 16) Try.func86 #[.agg #[.int .i64 a0_0, .int .i64 a0_1], .int .i64 ((rd_T112 l1 x9_1).f1)] rfl ?_; (with_reducible refine (impl_isNode.calls a0_0 a0_1 ((rd_T112 l1 x9_1).f1) _ _ A7.out).mono ?_); rintro e w_0 ⟨rfl, hb⟩; refine ⟨_, rfl, ?_⟩; replace BK331 := Aside0.mk (blk_below (bf_ BK331.out) hb); replace BK333 := Aside0.mk (blk_below (g := gb333) (o := .cells #[.int .i64 ((rd_T112 l1 x9_1).f0), .int .i64 ((rd_T112 l1 x9_1).f1), .int .i64 ((rd_T112 l1 x9_1).f2), .bool ((rd_T112 l1 x9_1).f3), .bool ((rd_T112 l1 x9_1).f4)] 112 (0, 0)) (by (with_reducible repeat (first | refine blk_drewN ?_ _ | refine blk_drew ?_ | refine blk_alloc ?_ _)); refine blk_put (cs := #[.int .i64 ((rd_T112 l1 x9_1).f0), .int .i64 ((rd_T112 l1 x9_1).f1), .int .i64 ((rd_T112 l1 x9_1).f2), .bool ((rd_T112 l1 x9_1).f3), .bool false]) ?_ 4 _ rfl; (with_reducible repeat (first | refine blk_drewN ?_ _ | refine blk_drew ?_ | refine blk_alloc ?_ _)); refine blk_put (cs := #[.int .i64 ((rd_T112 l1 x9_1).f0), .int .i64 ((rd_T112 l1 x9_1).f1), .int .i64 ((rd_T112 l1 x9_1).f2), .bool false, .bool false]) ?_ 3 _ rfl; (with_reducible repeat (first | refine blk_drewN ?_ _ | refine blk_drew ?_ | refine blk_alloc ?_ _)); refine blk_put (cs := #[.int .i64 ((rd_T112 l1 x9_1).f0), .int .i64 ((rd_T112 l1 x9_1).f1), .int .i64 0, .bool false, .bool false]) ?_ 2 _ rfl; (with_reducible repeat (first | refine blk_drewN ?_ _ | refine blk_drew ?_ | refine blk_alloc ?_ _)); refine blk_put (cs := #[.int .i64 ((rd_T112 l1 x9_1).f0), .int .i64 0, .int .i64 0, .bool false, .bool false]) ?_ 1 _ rfl; (with_reducible repeat (first | refine blk_drewN ?_ _ | refine blk_drew ?_ | refine blk_alloc ?_ _)); refine blk_put (cs := #[.int .i64 0, .int .i64 0, .int .i64 0, .bool false, .bool false]) ?_ 0 _ rfl; (with_reducible repeat (first | refine blk_drewN ?_ _ | refine blk_drew ?_ | refine blk_alloc ?_ _)); exact BK333.out) hb); replace HB := hs_ HB hb; (try clear hb); obtain ⟨hcz_0, hcz_1, hcz_2, hcz_3, hcz_4, hfz_0, hfz_1, hfz_2, hfz_3, hfz_4⟩ := cz5_ BK333.out) | (go_at_call 49; (with_reducible refine (impl_inside.calls ((rd_T112 l1 x9_1).f2) 0 1 _ _ A9.out).mono ?_); rintro e w' ⟨rfl, ⟨nd, rfl⟩⟩))
 go_ret
 exact ⟨fin_, bb_ HB.out⟩) : P := h
theorem impl_areFlits.calls (k : Nat) (a0_0 : Int) (a0_1 : Int) (A1 : Option Addr) (c1 : Nat) (l1 : List (S112)) (r : Bool) (w : World) (hr1 : Kd.C k112 w A1 l1.length l1) (hc1 : l1.length ≤ c1) (h : impl_areFlits.f k a0_0 a0_1 l1 = some r) :
  Calls Try.prog 47 #[.agg #[.int .i64 a0_0, .int .i64 a0_1], .slice A1 l1.length c1] w fun e w' => e = .returned (.bool r) ∧ Below w.heap.size w w' := by
 have hu25 := Try.underlying25
 have hu112 := Try.underlying112
 have HR1 := Aside0.mk hr1
 have HC1 := Aside0.mk hc1
 clear hr1 hc1
 have HB := Aside0.mk (Below.refl w.heap.size w)
 have H : (impl_areFlits.l0 k l1 (l1.length : Int) 0 a0_0 a0_1) = some r := h
 clear h
 have H' := Aside0.mk H
 clear H
 go_enter Try.func47, Try.ntmps47
 go_wp2_with (first | ((with_reducible refine gate_dst (N := 2) rfl ?_); refine box_event ?hg (N := 2) ?hd (cs := #[.int .i64 a0_0, .int .i64 a0_1]) (t := 25) ?hr ?_; (case hd => rfl); (case hg => rfl); (case hr => first | (go_simp; done) | (go_simp; rfl)); intro gb331 hg w3 hbox hb; have BK331 := Aside0.mk (hbox); have GW331 := gw_ hg HB; replace HB := hs_ HB hb; clear hb hbox hg))
 go_loopg [9] k (fun kq v9 w' => ∃ (x9_1 : Int), v9 = .int .i64 x9_1 ∧ Aside0 (impl_areFlits.l0 kq l1 (l1.length : Int) x9_1 a0_0 a0_1 = some r) ∧ Aside0 (kq ≤ k) ∧ Aside0 (w'.heap[gb331]? = some (.cells #[.int .i64 a0_0, .int .i64 a0_1] 25 (0, 0))) ∧ Aside0 (Below w.heap.size w w'))
 case atStart => exact ⟨(0), ef_, H', ⟨Nat.le_refl _⟩, ⟨bq_ BK331.out⟩, ⟨bb_ HB.out⟩⟩
 clear H'
 obtain ⟨x9_1, rfl, HA, HK1, BK331, HB⟩ := hrel
 obtain _ | k1 := gk
 ·exact absurd HA.out (by simp [impl_areFlits.l0])
 have H := HA.out
 clear HA
 simp only [impl_areFlits.l0] at H
 by_cases c4 : x9_1 < (l1.length : Int)
 rotate_left
 ·rw [if_neg c4] at H
  have c4b0 : decide (x9_1 < (l1.length : Int)) = false := decide_eq_false c4
  clear c4
  obtain rfl := Option.some.inj H
  exact impl_areFlits.e0
 rw [if_pos c4] at H
 have c4b0 : decide (x9_1 < (l1.length : Int)) = true := decide_eq_true c4
 clear c4
 by_cases c5 : 0 ≤ x9_1
 rotate_left
 ·rw [if_neg c5] at H
  exact absurd H (by simp)
 rw [if_pos c5] at H
 have c5b0 : decide (0 ≤ x9_1) = true := decide_eq_true c5
 clear c5
 by_cases c6 : x9_1 < (l1.length : Int)
 rotate_left
 ·rw [if_neg c6] at H
  exact absurd H (by simp)
 rw [if_pos c6] at H
 have c6b0 : decide (x9_1 < (l1.length : Int)) = true := decide_eq_true c6
 clear c6
 obtain ⟨t334, A7, H⟩ := bi_ H
 by_cases c8 : t334 = true
 rotate_left
 ·replace c8 := Bool.eq_false_iff.mpr c8
  subst c8
  rw [if_neg (show ¬ (false = true) by decide)] at H
  obtain rfl := Option.some.inj H
  have p332 : 0 ≤ (x9_1 : Int) := of_decide_eq_true dg_
  have q332 : x9_1 < (l1.length : Int) := of_decide_eq_true dg_
  obtain ⟨ad332, e332, hx332_0, hx332_1, hx332_2, hx332_3, hx332_4⟩ := at_T112 HR1.out x9_1 p332 q332
  cases e332
  replace hx332_0 := hc_ HB hx332_0
  replace hx332_1 := hc_ HB hx332_1
  replace hx332_2 := hc_ HB hx332_2
  replace hx332_3 := hc_ HB hx332_3
  replace hx332_4 := hc_ HB hx332_4
  replace p332 := eq_true p332
  replace q332 := eq_true q332
  exact impl_areFlits.e0
 subst c8
 rw [if_pos rfl] at H
 obtain ⟨t335, A9, H⟩ := bi_ H
 by_cases c10 : t335 = true
 rotate_left
 ·replace c10 := Bool.eq_false_iff.mpr c10
  subst c10
  rw [if_neg (show ¬ (false = true) by decide)] at H
  obtain rfl := Option.some.inj H
  have p332 : 0 ≤ (x9_1 : Int) := of_decide_eq_true dg_
  have q332 : x9_1 < (l1.length : Int) := of_decide_eq_true dg_
  obtain ⟨ad332, e332, hx332_0, hx332_1, hx332_2, hx332_3, hx332_4⟩ := at_T112 HR1.out x9_1 p332 q332
  cases e332
  replace hx332_0 := hc_ HB hx332_0
  replace hx332_1 := hc_ HB hx332_1
  replace hx332_2 := hc_ HB hx332_2
  replace hx332_3 := hc_ HB hx332_3
  replace hx332_4 := hc_ HB hx332_4
  replace p332 := eq_true p332
  replace q332 := eq_true q332
  exact impl_areFlits.e0
 subst c10
 rw [if_pos rfl] at H
 have H' := Aside0.mk H
 clear H
 have p332 : 0 ≤ (x9_1 : Int) := of_decide_eq_true dg_
 have q332 : x9_1 < (l1.length : Int) := of_decide_eq_true dg_
 obtain ⟨ad332, e332, hx332_0, hx332_1, hx332_2, hx332_3, hx332_4⟩ := at_T112 HR1.out x9_1 p332 q332
 cases e332
 replace hx332_0 := hc_ HB hx332_0
 replace hx332_1 := hc_ HB hx332_1
 replace hx332_2 := hc_ HB hx332_2
 replace hx332_3 := hc_ HB hx332_3
 replace hx332_4 := hc_ HB hx332_4
 replace p332 := eq_true p332
 replace q332 := eq_true q332
 go_wp2_with (first | ((with_reducible refine gate_dst (N := 6) rfl ?_); refine box_event ?hg (N := 6) ?hd (cs := #[.int .i64 0, .int .i64 0, .int .i64 0, .bool false, .bool false]) (t := 112) ?hr ?_; (case hd => rfl); (case hg => rfl); (case hr => first | (go_simp; done) | (go_simp; rfl)); intro gb333 hg w11 hbox hb; have BK333 := Aside0.mk (hbox); have GW333 := gw_ hg HB; replace HB := hs_ HB hb; have NB331_333 := nl_ hg BK331; have NB333_331 := ng_ hg BK331; replace BK331 := kb_ BK331 hb; clear hb hbox hg; have hnb12 := NB333_331.out; have hnc12 := NB331_333.out; obtain ⟨hcz13_0, hcz13_1, hcz13_2, hcz13_3, hcz13_4, hfz13_0, hfz13_1, hfz13_2, hfz13_3, hfz13_4⟩ := cz5_ BK333.out; obtain ⟨hcz14_0, hcz14_1, hfz14_0, hfz14_1⟩ := cz2_ BK331.out) | ((with_reducible refine gate_callee (f := 86) rfl ?_); refine gm_ (some 16) Try.func86 #[.agg #[.int .i64 a0_0, .int .i64 a0_1], .int .i64 ((rd_T112 l1 x9_1).f1)] rfl ?_; (with_reducible refine (impl_isNode.calls a0_0 a0_1 ((rd_T112 l1 x9_1).f1) true _ A7.out).mono ?_); rintro e w15 ⟨rfl, hb⟩; refine ⟨_, rfl, ?_⟩; replace BK331 := Aside0.mk (blk_below (bf_ BK331.out) hb); replace BK333 := Aside0.mk (blk_below (g := gb333) (o := .cells #[.int .i64 ((rd_T112 l1 x9_1).f0), .int .i64 ((rd_T112 l1 x9_1).f1), .int .i64 ((rd_T112 l1 x9_1).f2), .bool ((rd_T112 l1 x9_1).f3), .bool ((rd_T112 l1 x9_1).f4)] 112 (0, 0)) (by (with_reducible repeat (first | refine blk_drewN ?_ _ | refine blk_drew ?_ | refine blk_alloc ?_ _)); refine blk_put (cs := #[.int .i64 ((rd_T112 l1 x9_1).f0), .int .i64 ((rd_T112 l1 x9_1).f1), .int .i64 ((rd_T112 l1 x9_1).f2), .bool ((rd_T112 l1 x9_1).f3), .bool false]) ?_ 4 _ rfl; (with_reducible repeat (first | refine blk_drewN ?_ _ | refine blk_drew ?_ | refine blk_alloc ?_ _)); refine blk_put (cs := #[.int .i64 ((rd_T112 l1 x9_1).f0), .int .i64 ((rd_T112 l1 x9_1).f1), .int .i64 ((rd_T112 l1 x9_1).f2), .bool false, .bool false]) ?_ 3 _ rfl; (with_reducible repeat (first | refine blk_drewN ?_ _ | refine blk_drew ?_ | refine blk_alloc ?_ _)); refine blk_put (cs := #[.int .i64 ((rd_T112 l1 x9_1).f0), .int .i64 ((rd_T112 l1 x9_1).f1), .int .i64 0, .bool false, .bool false]) ?_ 2 _ rfl; (with_reducible repeat (first | refine blk_drewN ?_ _ | refine blk_drew ?_ | refine blk_alloc ?_ _)); refine blk_put (cs := #[.int .i64 ((rd_T112 l1 x9_1).f0), .int .i64 0, .int .i64 0, .bool false, .bool false]) ?_ 1 _ rfl; (with_reducible repeat (first | refine blk_drewN ?_ _ | refine blk_drew ?_ | refine blk_alloc ?_ _)); refine blk_put (cs := #[.int .i64 0, .int .i64 0, .int .i64 0, .bool false, .bool false]) ?_ 0 _ rfl; (with_reducible repeat (first | refine blk_drewN ?_ _ | refine blk_drew ?_ | refine blk_alloc ?_ _)); exact BK333.out) hb); replace HB := hs_ HB hb; (try clear hb); obtain ⟨hcz16_0, hcz16_1, hcz16_2, hcz16_3, hcz16_4, hfz16_0, hfz16_1, hfz16_2, hfz16_3, hfz16_4⟩ := cz5_ BK333.out) | (go_at_call 49; (with_reducible refine (impl_inside.calls ((rd_T112 l1 x9_1).f2) 0 1 true _ A9.out).mono ?_); rintro e w' ⟨rfl, ⟨nd, rfl⟩⟩))
 go_roundg k1
 case measure => have := HK1.out; omega
 case rel => exact ⟨(wrap64 (x9_1 + 1)), ef_, H', ⟨by have := HK1.out; omega⟩, ⟨bq_ BK331.out⟩, ⟨bb_ HB.out⟩⟩

/-! ### impl_areInside: function 48 -/
def impl_areInside.l0 : Nat → Int → Int → List Int → Int → Int → Option (Bool)
 | 0, _, _, _, _, _ => none
 | k + 1, x1, x2, x9, x10, x11 => if x11 < x10 then (if 0 ≤ x11 then (if x11 < (x9.length : Int) then ((impl_inside.f (rd x9 x11) x1 x2).bind fun t337 => (if t337 = true then (impl_areInside.l0 k x1 x2 x9 x10 (wrap64 (x11 + 1))) else (some false))) else (none)) else (none)) else (some true)
def impl_areInside.f (k : Nat) (l0 : List Int) (a1 : Int) (a2 : Int) : Option (Bool) := impl_areInside.l0 k a1 a2 l0 (l0.length : Int) 0
theorem impl_areInside.mono_l : ∀ k, (∀ y0 y1 y2 y3 y4, LeO (impl_areInside.l0 k y0 y1 y2 y3 y4) (impl_areInside.l0 (k + 1) y0 y1 y2 y3 y4))
 | 0 => fun _ _ _ _ _ r h => by simp [impl_areInside.l0] at h
 | k + 1 => by
  have ih0 := impl_areInside.mono_l k
  ·intro y0 y1 y2 y3 y4
   unfold impl_areInside.l0
   repeat' (with_reducible first | exact ih0 .. | exact LeO.refl .. | exact LeO.none .. | refine LeO.ite ?_ ?_ | refine LeO.bind ?_ (fun _ => ?_))
theorem impl_areInside.mono : ∀ a0 a1 a2 k, LeO (impl_areInside.f k a0 a1 a2) (impl_areInside.f (k + 1) a0 a1 a2) := by
 intro a0 a1 a2 k
 have ih0 := impl_areInside.mono_l k
 unfold impl_areInside.f
 repeat' (with_reducible first | exact ih0 .. | exact LeO.refl .. | exact LeO.none .. | refine LeO.ite ?_ ?_ | refine LeO.bind ?_ (fun _ => ?_))
theorem impl_areInside.calls (k : Nat) (A0 : Option Addr) (c0 : Nat) (l0 : List Int) (a1 : Int) (a2 : Int) (r : Bool) (w : World) (hr0 : Kd.C (Kd.int .i64) w A0 l0.length l0) (hc0 : l0.length ≤ c0) (h : impl_areInside.f k l0 a1 a2 = some r) :
  Calls Try.prog 48 #[.slice A0 l0.length c0, .int .i64 a1, .int .i64 a2] w fun e w' => e = .returned (.bool r) ∧ Drawn0 w w' := by
 have HR0 := Aside0.mk hr0
 have HC0 := Aside0.mk hc0
 clear hr0 hc0
 have H : (impl_areInside.l0 k a1 a2 l0 (l0.length : Int) 0) = some r := h
 clear h
 have H' := Aside0.mk H
 clear H
 go_enter Try.func48, Try.ntmps48
 go_wp2
 go_loopg [11] k (fun kq v11 w' => ∃ (x11_1 : Int), v11 = .int .i64 x11_1 ∧ Aside0 (impl_areInside.l0 kq a1 a2 l0 (l0.length : Int) x11_1 = some r) ∧ Aside0 (kq ≤ k) ∧ Drawn0 w w')
 case atStart => exact ⟨(0), ef_, H', ⟨Nat.le_refl _⟩, by repeat (first | exact Drawn0.refl _ | apply Drawn0.step)⟩
 clear H'
 obtain ⟨x11_1, rfl, HA, HK1, ⟨m1, rfl⟩⟩ := hrel
 obtain _ | k1 := gk
 ·exact absurd HA.out (by simp [impl_areInside.l0])
 have H := HA.out
 clear HA
 simp only [impl_areInside.l0] at H
 by_cases c4 : x11_1 < (l0.length : Int)
 rotate_left
 ·rw [if_neg c4] at H
  have c4b0 : decide (x11_1 < (l0.length : Int)) = false := decide_eq_false c4
  clear c4
  obtain rfl := Option.some.inj H
  go_wp2
  go_ret
  exact ⟨by first | rfl | (simp; done) | (simp [*]; done), by repeat (first | exact Drawn0.refl _ | apply Drawn0.step)⟩
 rw [if_pos c4] at H
 have c4b0 : decide (x11_1 < (l0.length : Int)) = true := decide_eq_true c4
 clear c4
 by_cases c5 : 0 ≤ x11_1
 rotate_left
 ·rw [if_neg c5] at H
  exact absurd H (by simp)
 rw [if_pos c5] at H
 have c5b0 : decide (0 ≤ x11_1) = true := decide_eq_true c5
 clear c5
 by_cases c6 : x11_1 < (l0.length : Int)
 rotate_left
 ·rw [if_neg c6] at H
  exact absurd H (by simp)
 rw [if_pos c6] at H
 have c6b0 : decide (x11_1 < (l0.length : Int)) = true := decide_eq_true c6
 clear c6
 obtain ⟨t337, A7, H⟩ := bi_ H
 by_cases c8 : t337 = true
 ·subst c8
  rw [if_pos rfl] at H
  have H' := Aside0.mk H
  clear H
  have p336 : 0 ≤ (x11_1 : Int) := of_decide_eq_true dg_
  have q336 : x11_1 < (l0.length : Int) := of_decide_eq_true dg_
  obtain ⟨ad336, e336, hx336_0⟩ := Kd.at_int HR0.out x11_1 p336 q336
  cases e336
  replace p336 := eq_true p336
  replace q336 := eq_true q336
  go_wp2_with (first | ((with_reducible refine gate_callee (f := 49) rfl ?_); refine gm_ (some 18) Try.func49 #[.int .i64 (rd l0 x11_1), .int .i64 a1, .int .i64 a2] rfl ?_; (with_reducible refine (impl_inside.calls (rd l0 x11_1) a1 a2 true _ A7.out).mono ?_); rintro e w' ⟨rfl, ⟨nd, rfl⟩⟩; refine ⟨_, rfl, ?_⟩))
  go_roundg k1
  case measure => have := HK1.out; omega
  case rel => exact ⟨(wrap64 (x11_1 + 1)), ef_, H', ⟨by have := HK1.out; omega⟩, by repeat (first | exact Drawn0.refl _ | apply Drawn0.step)⟩
 replace c8 := Bool.eq_false_iff.mpr c8
 subst c8
 rw [if_neg (show ¬ (false = true) by decide)] at H
 obtain rfl := Option.some.inj H
 have p336 : 0 ≤ (x11_1 : Int) := of_decide_eq_true dg_
 have q336 : x11_1 < (l0.length : Int) := of_decide_eq_true dg_
 obtain ⟨ad336, e336, hx336_0⟩ := Kd.at_int HR0.out x11_1 p336 q336
 cases e336
 replace p336 := eq_true p336
 replace q336 := eq_true q336
 go_wp2_with (first | ((with_reducible refine gate_callee (f := 49) rfl ?_); refine gm_ (some 18) Try.func49 #[.int .i64 (rd l0 x11_1), .int .i64 a1, .int .i64 a2] rfl ?_; (with_reducible refine (impl_inside.calls (rd l0 x11_1) a1 a2 false _ A7.out).mono ?_); rintro e w' ⟨rfl, ⟨nd, rfl⟩⟩; refine ⟨_, rfl, ?_⟩))
 go_ret
 exact ⟨by first | rfl | (simp; done) | (simp [*]; done), by repeat (first | exact Drawn0.refl _ | apply Drawn0.step)⟩

end Go.Proofs.Ytaofkfooijfjbaa.PFnNewNets
-- thin
