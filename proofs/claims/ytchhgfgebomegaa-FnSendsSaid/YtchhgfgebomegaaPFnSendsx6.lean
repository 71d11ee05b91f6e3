/- The law's functions as plain functions, and their calls. No condition. -/
import Derived.Test.YtchhgfgebomegaaPFnSendsx0
import Derived.Test.YtchhgfgebomegaaPFnSendsx4
import Derived.Test.YtchhgfgebomegaaPFnSendsx5
namespace Go.Proofs.Ytchhgfgebomegaa.PFnSends
open Go.RowKit Go.Proofs.YtchhgfgebomegaaW.PrintWords Go.Proofs.YtchhgfgebomegaaW.PrintLast Go.Proofs.YtchhgfgebomegaaW.PrintMore
attribute [local go_sem] max2_int min2_int max_two min_two max_three min_three max_four min_four
set_option linter.unusedVariables false
set_option maxHeartbeats 8000000
set_option maxRecDepth 100000
set_option linter.unusedSimpArgs false

/-! ### impl_TableOk: function 34 -/
/-- One pair of nodes: is there a walk? -/
def impl_TableOk.v (k : Nat) (a0 a1 : Int) (l2 l3 : List Int) (x y : Int) : Option Bool := (impl_WalkTable.f k a0 a1 l2 l3 x y).bind fun ws => some (decide ((ws.length : Int) > 0))
theorem impl_TableOk.v_mono (k : Nat) (a0 a1 : Int) (l2 l3 : List Int) (x y : Int) : LeO (impl_TableOk.v k a0 a1 l2 l3 x y) (impl_TableOk.v (k + 1) a0 a1 l2 l3 x y) := by
 unfold impl_TableOk.v
 exact LeO.bind (impl_WalkTable.mono _ _ _ _ _ _ _) (fun _ => LeO.refl _)
mutual
def impl_TableOk.l1 : Nat → Int → Int → List Int → List Int → Int → Int → Option Bool
 | 0, _, _, _, _, _, _ => none
 | k + 1, a0, a1, l2, l3, n, x => if x < n then (impl_TableOk.l2 k a0 a1 l2 l3 n x 0) else (some true)
def impl_TableOk.l2 : Nat → Int → Int → List Int → List Int → Int → Int → Int → Option Bool
 | 0, _, _, _, _, _, _, _ => none
 | k + 1, a0, a1, l2, l3, n, x, y => if y < n then (if x = y then (impl_TableOk.l2 k a0 a1 l2 l3 n x (wrap64 (y + 1))) else ((impl_TableOk.v k a0 a1 l2 l3 x y).bind fun b => (if b = true then (impl_TableOk.l2 k a0 a1 l2 l3 n x (wrap64 (y + 1))) else (some false)))) else (impl_TableOk.l1 k a0 a1 l2 l3 n (wrap64 (x + 1)))
end
/-- The function 'pairs' at the function's own literal. -/
def impl_TableOk.ps (k : Nat) (a0 a1 : Int) (l2 l3 : List Int) : Option Bool := (impl_NodeCount.f a0 a1).bind fun n => impl_TableOk.l1 k a0 a1 l2 l3 n 0
def impl_TableOk.l0 : Nat → Int → Int → List Int → List Int → Int → Int → Option Bool
 | 0, _, _, _, _, _, _ => none
 | k + 1, a0, a1, l2, l3, n, x => if x < n then (if 0 ≤ wrap64 (wrap64 (x * n) + x) then (if wrap64 (wrap64 (x * n) + x) < (l3.length : Int) then (if rd l3 (wrap64 (wrap64 (x * n) + x)) = 4 then (impl_TableOk.l0 k a0 a1 l2 l3 n (wrap64 (x + 1))) else (some false)) else none) else none) else (impl_TableOk.ps k a0 a1 l2 l3)
def impl_TableOk.f (k : Nat) (a0 a1 : Int) (l2 l3 : List Int) : Option Bool := (impl_NodeCount.f a0 a1).bind fun n => (impl_MeshOk.f k a0 a1 l2).bind fun ok => (if ok = true then (if (l3.length : Int) = wrap64 (n * n) then (impl_TableOk.l0 k a0 a1 l2 l3 n 0) else (some false)) else (some false))
theorem impl_TableOk.mono_l : ∀ k, (∀ a0 a1 l2 l3 n x, LeO (impl_TableOk.l1 k a0 a1 l2 l3 n x) (impl_TableOk.l1 (k + 1) a0 a1 l2 l3 n x)) ∧ (∀ a0 a1 l2 l3 n x y, LeO (impl_TableOk.l2 k a0 a1 l2 l3 n x y) (impl_TableOk.l2 (k + 1) a0 a1 l2 l3 n x y))
 | 0 => ⟨fun _ _ _ _ _ _ r h => by simp [impl_TableOk.l1] at h, fun _ _ _ _ _ _ _ r h => by simp [impl_TableOk.l2] at h⟩
 | k + 1 => by
  obtain ⟨ih1, ih2⟩ := impl_TableOk.mono_l k
  refine ⟨fun a0 a1 l2 l3 n x => ?_, fun a0 a1 l2 l3 n x y => ?_⟩
  ·unfold impl_TableOk.l1
   exact LeO.ite (ih2 _ _ _ _ _ _ _) (LeO.refl _)
  ·unfold impl_TableOk.l2
   exact LeO.ite (LeO.ite (ih2 _ _ _ _ _ _ _) (LeO.bind (impl_TableOk.v_mono _ _ _ _ _ _ _) (fun _ => LeO.ite (ih2 _ _ _ _ _ _ _) (LeO.refl _)))) (ih1 _ _ _ _ _ _)
theorem impl_TableOk.ps_mono (k : Nat) (a0 a1 : Int) (l2 l3 : List Int) : LeO (impl_TableOk.ps k a0 a1 l2 l3) (impl_TableOk.ps (k + 1) a0 a1 l2 l3) := by
 unfold impl_TableOk.ps
 exact LeO.bind (LeO.refl _) (fun _ => (impl_TableOk.mono_l k).1 _ _ _ _ _ _)
theorem impl_TableOk.mono_0 : ∀ k a0 a1 l2 l3 n x, LeO (impl_TableOk.l0 k a0 a1 l2 l3 n x) (impl_TableOk.l0 (k + 1) a0 a1 l2 l3 n x)
 | 0, _, _, _, _, _, _ => fun r h => by simp [impl_TableOk.l0] at h
 | k + 1, a0, a1, l2, l3, n, x => by
  have ih := impl_TableOk.mono_0 k
  unfold impl_TableOk.l0
  exact LeO.ite (LeO.ite (LeO.ite (LeO.ite (ih _ _ _ _ _ _) (LeO.refl _)) (LeO.refl _)) (LeO.refl _)) (impl_TableOk.ps_mono _ _ _ _ _)
theorem impl_TableOk.mono (a0 a1 : Int) (l2 l3 : List Int) : ∀ k, LeO (impl_TableOk.f k a0 a1 l2 l3) (impl_TableOk.f (k + 1) a0 a1 l2 l3) := by
 intro k
 unfold impl_TableOk.f
 exact LeO.bind (LeO.refl _) (fun _ => LeO.bind (impl_MeshOk.mono _ _ _ _) (fun _ => LeO.ite (LeO.ite (impl_TableOk.mono_0 _ _ _ _ _ _ _) (LeO.refl _)) (LeO.refl _)))
theorem impl_TableOk.mkf (fn : Fn) (first cap : Array Value) (w : World) : (Instr.makeFunc fn first cap).run Try.prog w = .ok (.func fn first cap) w := rfl
set_option maxHeartbeats 2000000 in
/-- The function literal, at the two captured variables. -/
theorem impl_TableOk.clo (k : Nat) (a0 a1 : Int) (A2 : Option Addr) (c2 : Nat) (l2 : List Int) (A3 : Option Addr) (c3 : Nat) (l3 : List Int) (x y : Int) (r : Bool) (gm gt : Nat) (w : World)
  (hr2 : Kd.C (Kd.int .i64) w A2 l2.length l2) (hc2 : l2.length ≤ c2) (hr3 : Kd.C (Kd.int .i64) w A3 l3.length l3) (hc3 : l3.length ≤ c3)
  (hm0 : w.cell? ⟨gm, 0, none⟩ = some (.int .i64 a0)) (hm1 : w.cell? ⟨gm, 1, none⟩ = some (.int .i64 a1)) (hm2 : w.cell? ⟨gm, 2, none⟩ = some (.slice A2 l2.length c2)) (ht0 : w.cell? ⟨gt, 0, none⟩ = some (.slice A3 l3.length c3))
  (h : impl_TableOk.v k a0 a1 l2 l3 x y = some r) :
  Calls Try.prog 46 #[.int .i64 x, .int .i64 y, .pointer (some ⟨gm, 0, none⟩), .pointer (some ⟨gt, 0, none⟩)] w fun e w' => e = .returned (.bool r) ∧ Below w.heap.size w w' := by
 obtain ⟨ws, hw, hv⟩ := Option.bind_eq_some_iff.1 h
 obtain rfl := Option.some.inj hv
 have HR2 := Aside0.mk hr2
 have HC2 := Aside0.mk hc2
 have HR3 := Aside0.mk hr3
 have HC3 := Aside0.mk hc3
 have HW := Aside0.mk hw
 clear hr2 hc2 hr3 hc3 hw h hv
 go_enter Try.func46, Try.ntmps46
 go_wp2_with (first | (go_at_call 47; (with_reducible refine (impl_WalkTable.calls k a0 a1 A2 c2 l2 A3 c3 l3 x y ws _ ?side1 HC2.out ?side3 HC3.out HW.out).mono ?_); (case side1 => repeat (first | exact HR2.out | (with_reducible refine Kd.C_alloc ?_ _) | (with_reducible refine Kd.C_drewN ?_ _) | (with_reducible refine Kd.C_drew ?_))); (case side3 => repeat (first | exact HR3.out | (with_reducible refine Kd.C_alloc ?_ _) | (with_reducible refine Kd.C_drewN ?_ _) | (with_reducible refine Kd.C_drew ?_))); rintro e w' ⟨v, rfl, ho, hb⟩; obtain ⟨A, c, rfl⟩ := Kd.R_slice ho; have HB := Aside0.mk hb; clear ho hb))
 go_ret
 exact ⟨by first | rfl | (simp; done), HB.out⟩
set_option maxHeartbeats 2000000 in
/-- 'pairs' at the function literal, the captured variables in two blocks. -/
theorem impl_TableOk.prs (k : Nat) (a0 a1 : Int) (A2 : Option Addr) (c2 : Nat) (l2 : List Int) (A3 : Option Addr) (c3 : Nat) (l3 : List Int) (r : Bool) (gm gt : Nat) (w : World)
  (hr2 : Kd.C (Kd.int .i64) w A2 l2.length l2) (hc2 : l2.length ≤ c2) (hr3 : Kd.C (Kd.int .i64) w A3 l3.length l3) (hc3 : l3.length ≤ c3)
  (hm0 : w.cell? ⟨gm, 0, none⟩ = some (.int .i64 a0)) (hm1 : w.cell? ⟨gm, 1, none⟩ = some (.int .i64 a1)) (hm2 : w.cell? ⟨gm, 2, none⟩ = some (.slice A2 l2.length c2)) (ht0 : w.cell? ⟨gt, 0, none⟩ = some (.slice A3 l3.length c3))
  (h : impl_TableOk.ps k a0 a1 l2 l3 = some r) :
  Calls Try.prog 45 #[.agg #[.int .i64 a0, .int .i64 a1], .func (.func 46) #[] #[.pointer (some ⟨gm, 0, none⟩), .pointer (some ⟨gt, 0, none⟩)]] w fun e w' => e = .returned (.bool r) ∧ Below w.heap.size w w' := by
 obtain ⟨n, hn, h1⟩ := Option.bind_eq_some_iff.1 h
 have HR2 := Aside0.mk hr2
 have HC2 := Aside0.mk hc2
 have HR3 := Aside0.mk hr3
 have HC3 := Aside0.mk hc3
 have HM0 := Aside0.mk hm0
 have HM1 := Aside0.mk hm1
 have HM2 := Aside0.mk hm2
 have HT0 := Aside0.mk ht0
 have HN := Aside0.mk hn
 have H' := Aside0.mk h1
 clear hr2 hc2 hr3 hc3 hm0 hm1 hm2 ht0 hn h1 h
 have HB := Aside0.mk (Below.refl w.heap.size w)
 go_enter Try.func45, Try.ntmps45
 go_wp2_with (first | (go_at_call 19; (with_reducible refine (impl_NodeCount.calls a0 a1 n _ HN.out).mono ?_); rintro e w' ⟨rfl, hb⟩; have HB1 := Aside0.mk (bs_ HB.out hb); clear HB hb; have HB := HB1; clear HB1))
 go_loopg [11] k (fun kq v11 w' => ∃ x : Int, v11 = .int .i64 x ∧ Aside0 (impl_TableOk.l1 kq a0 a1 l2 l3 n x = some r) ∧ Aside0 (kq ≤ k) ∧ Aside0 (Below w.heap.size w w'))
 case atStart => exact ⟨0, (by first | rfl | (simp; done)), H', ⟨Nat.le_refl _⟩, ⟨bb_ HB.out⟩⟩
 clear H' HB
 obtain ⟨x, rfl, HA, HK1, HB⟩ := hrel
 obtain _ | k1 := gk
 ·exact absurd HA.out (by simp [impl_TableOk.l1])
 have H := HA.out
 clear HA
 simp only [impl_TableOk.l1] at H
 by_cases c1 : x < n
 rotate_left
 ·rw [if_neg c1] at H
  have c1b : decide (x < n) = false := decide_eq_false c1
  clear c1
  obtain rfl := Option.some.inj H
  go_wp2
  go_ret
  exact ⟨by first | rfl | (simp; done), HB.out⟩
 rw [if_pos c1] at H
 have c1b : decide (x < n) = true := decide_eq_true c1
 clear c1
 have H' := Aside0.mk H
 clear H
 go_wp2
 go_loopg [15] k1 (fun kq v15 w' => ∃ y : Int, v15 = .int .i64 y ∧ Aside0 (impl_TableOk.l2 kq a0 a1 l2 l3 n x y = some r) ∧ Aside0 (kq ≤ k1) ∧ Aside0 (Below w.heap.size w w'))
 case atStart => exact ⟨0, (by first | rfl | (simp; done)), H', ⟨Nat.le_refl _⟩, ⟨bb_ HB.out⟩⟩
 clear H' HB c1b
 obtain ⟨y, rfl, HA, HK2, HB⟩ := hrel
 obtain _ | k2 := gk
 ·exact absurd HA.out (by simp [impl_TableOk.l2])
 have H := HA.out
 clear HA
 simp only [impl_TableOk.l2] at H
 by_cases c2 : y < n
 rotate_left
 ·rw [if_neg c2] at H
  have c2b : decide (y < n) = false := decide_eq_false c2
  clear c2
  have H' := Aside0.mk H
  clear H
  go_wp2
  go_roundg k2
  case measure => have := HK1.out; have := HK2.out; omega
  case rel => exact ⟨wrap64 (x + 1), (by first | rfl | (simp; done)), H', ⟨by have := HK1.out; have := HK2.out; omega⟩, HB⟩
 rw [if_pos c2] at H
 have c2b : decide (y < n) = true := decide_eq_true c2
 clear c2
 by_cases c3 : x = y
 ·rw [if_pos c3] at H
  have c3b : (x == y) = true := beq_iff_eq.mpr c3
  have c3c : (x != y) = false := bne_eq_false_iff_eq.mpr c3
  clear c3
  have H' := Aside0.mk H
  clear H
  go_wp2
  go_roundg k2
  case measure => have := HK2.out; omega
  case rel => exact ⟨wrap64 (y + 1), (by first | rfl | (simp; done)), H', ⟨by have := HK2.out; omega⟩, HB⟩
 rw [if_neg c3] at H
 have c3b : (x == y) = false := beq_eq_false_iff_ne.mpr c3
 have c3c : (x != y) = true := bne_iff_ne.mpr c3
 clear c3
 obtain ⟨b, hb0, H2⟩ := Option.bind_eq_some_iff.1 H
 clear H
 have HV := Aside0.mk hb0
 clear hb0
 cases b with
 | true =>
  have H3 : impl_TableOk.l2 k2 a0 a1 l2 l3 n x (wrap64 (y + 1)) = some r := H2
  clear H2
  have H' := Aside0.mk H3
  clear H3
  go_wp2_with fail
  refine (impl_TableOk.clo k2 a0 a1 A2 c2 l2 A3 c3 l3 x y true gm gt _ (Kd.C_below HR2.out HB.out) HC2.out (Kd.C_below HR3.out HB.out) HC3.out (pw_cell_below HB.out HM0.out) (pw_cell_below HB.out HM1.out) (pw_cell_below HB.out HM2.out) (pw_cell_below HB.out HT0.out) HV.out).mono ?_
  rintro e w' ⟨rfl, hb⟩
  have HB1 := Aside0.mk (below_step HB.out hb)
  clear HB hb
  have HB := HB1
  clear HB1
  go_wp2
  go_roundg k2
  case measure => have := HK2.out; omega
  case rel => exact ⟨wrap64 (y + 1), (by first | rfl | (simp; done)), H', ⟨by have := HK2.out; omega⟩, HB⟩
 | false =>
  have H3 : some false = some r := H2
  clear H2
  obtain rfl := Option.some.inj H3
  clear H3
  go_wp2_with fail
  refine (impl_TableOk.clo k2 a0 a1 A2 c2 l2 A3 c3 l3 x y false gm gt _ (Kd.C_below HR2.out HB.out) HC2.out (Kd.C_below HR3.out HB.out) HC3.out (pw_cell_below HB.out HM0.out) (pw_cell_below HB.out HM1.out) (pw_cell_below HB.out HM2.out) (pw_cell_below HB.out HT0.out) HV.out).mono ?_
  rintro e w' ⟨rfl, hb⟩
  have HB1 := Aside0.mk (below_step HB.out hb)
  clear HB hb
  have HB := HB1
  clear HB1
  go_wp2
  go_ret
  exact ⟨by first | rfl | (simp; done), HB.out⟩
set_option maxHeartbeats 4000000 in
theorem impl_TableOk.calls (k : Nat) (a0_0 : Int) (a0_1 : Int) (A0_2 : Option Addr) (c0_2 : Nat) (l0_2 : List Int) (A1_0 : Option Addr) (c1_0 : Nat) (l1_0 : List Int) (r : Bool) (w : World) (hr0_2 : Kd.C (Kd.int .i64) w A0_2 l0_2.length l0_2) (hc0_2 : l0_2.length ≤ c0_2) (hr1_0 : Kd.C (Kd.int .i64) w A1_0 l1_0.length l1_0) (hc1_0 : l1_0.length ≤ c1_0) (h : impl_TableOk.f k a0_0 a0_1 l0_2 l1_0 = some r) :
  Calls Try.prog 34 #[.agg #[.int .i64 a0_0, .int .i64 a0_1, .slice A0_2 l0_2.length c0_2], .agg #[.slice A1_0 l1_0.length c1_0]] w fun e w' => e = .returned (.bool r) ∧ Below w.heap.size w w' := by
 have hmf := impl_TableOk.mkf
 obtain ⟨n, hn, h1⟩ := Option.bind_eq_some_iff.1 h
 obtain ⟨ok, ho, h2⟩ := Option.bind_eq_some_iff.1 h1
 have HR2 := Aside0.mk hr0_2
 have HC2 := Aside0.mk hc0_2
 have HR3 := Aside0.mk hr1_0
 have HC3 := Aside0.mk hc1_0
 have HN := Aside0.mk hn
 have HO := Aside0.mk ho
 have H2 := Aside0.mk h2
 clear hr0_2 hc0_2 hr1_0 hc1_0 hn ho h h1 h2
 go_enter Try.func34, Try.ntmps34
 go_wp2_with (first | ((with_reducible refine gate_dst (N := 2) rfl ?_); refine box_event ?hg (N := 2) ?hd (cs := #[.int .i64 a0_0, .int .i64 a0_1, .slice A0_2 l0_2.length c0_2]) (t := 28) ?hr ?_; (case hd => rfl); (case hg => rfl); (case hr => first | (go_simp; done) | (go_simp; rfl)); intro gm hgm w1 hbx1 hb1; clear hgm; have HB1 := Aside0.mk hb1; have BX1 := Aside0.mk hbx1; clear hb1 hbx1) | ((with_reducible refine gate_dst (N := 3) rfl ?_); refine box_event ?hg (N := 3) ?hd (cs := #[.slice A1_0 l1_0.length c1_0]) (t := 30) ?hr ?_; (case hd => rfl); (case hg => rfl); (case hr => first | (go_simp; done) | (go_simp; rfl)); intro gt hgt w2 hbx2 hb2; clear hgt; have HB2 := Aside0.mk (below_step HB1.out hb2); have BX2 := Aside0.mk hbx2; have hm0 : w2.cell? ⟨gm, 0, none⟩ = some (.int .i64 a0_0) := pw_cell_below hb2 ((blk_cell BX1.out 0).trans rfl); have hm1 : w2.cell? ⟨gm, 1, none⟩ = some (.int .i64 a0_1) := pw_cell_below hb2 ((blk_cell BX1.out 1).trans rfl); have hm2 : w2.cell? ⟨gm, 2, none⟩ = some (.slice A0_2 l0_2.length c0_2) := pw_cell_below hb2 ((blk_cell BX1.out 2).trans rfl); have ht0 : w2.cell? ⟨gt, 0, none⟩ = some (.slice A1_0 l1_0.length c1_0) := (blk_cell BX2.out 0).trans rfl; clear hb2 hbx2))
 refine (impl_NodeCount.calls a0_0 a0_1 n _ HN.out).mono ?_
 rintro e w3 ⟨rfl, hb3⟩
 replace hm0 := pw_cell_below hb3 hm0
 replace hm1 := pw_cell_below hb3 hm1
 replace hm2 := pw_cell_below hb3 hm2
 replace ht0 := pw_cell_below hb3 ht0
 have HB3 := Aside0.mk (below_step HB2.out hb3)
 clear hb3
 go_wp2_with fail
 refine (impl_MeshOk.calls k a0_0 a0_1 A0_2 c0_2 l0_2 ok _ (Kd.C_below HR2.out HB3.out) HC2.out HO.out).mono ?_
 rintro e w4 ⟨rfl, hb4⟩
 replace hm0 := pw_cell_below hb4 hm0
 replace hm1 := pw_cell_below hb4 hm1
 replace hm2 := pw_cell_below hb4 hm2
 replace ht0 := pw_cell_below hb4 ht0
 have HB4 := Aside0.mk (below_step HB3.out hb4)
 clear hb4
 cases ok with
 | false =>
  have h3 : some false = some r := H2.out
  obtain rfl := Option.some.inj h3
  clear h3 H2
  go_wp2
  go_ret
  exact ⟨by first | rfl | (simp; done), HB4.out⟩
 | true =>
  have h3 : (if (l1_0.length : Int) = wrap64 (n * n) then (impl_TableOk.l0 k a0_0 a0_1 l0_2 l1_0 n 0) else (some false)) = some r := H2.out
  clear H2
  by_cases cl : (l1_0.length : Int) = wrap64 (n * n)
  ·rw [if_pos cl] at h3
   have clb : ((l1_0.length : Int) == wrap64 (n * n)) = true := beq_iff_eq.mpr cl
   have clc : ((l1_0.length : Int) != wrap64 (n * n)) = false := bne_eq_false_iff_eq.mpr cl
   clear cl
   have H' := Aside0.mk h3
   clear h3
   go_wp2
   go_loopg [23] k (fun kq v23 w' => ∃ x : Int, v23 = .int .i64 x ∧ Aside0 (impl_TableOk.l0 kq a0_0 a0_1 l0_2 l1_0 n x = some r) ∧ Aside0 (kq ≤ k) ∧ w' = w4)
   case atStart => exact ⟨0, (by first | rfl | (simp; done)), H', ⟨Nat.le_refl _⟩, rfl⟩
   clear H' clb clc
   obtain ⟨x, rfl, HA, HK1, rfl⟩ := hrel
   obtain _ | k1 := gk
   ·exact absurd HA.out (by simp [impl_TableOk.l0])
   have H := HA.out
   clear HA
   simp only [impl_TableOk.l0] at H
   by_cases c1 : x < n
   rotate_left
   ·rw [if_neg c1] at H
    have c1b : decide (x < n) = false := decide_eq_false c1
    clear c1
    have HP := Aside0.mk H
    clear H
    go_wp2_with fail
    refine (impl_TableOk.prs k1 a0_0 a0_1 A0_2 c0_2 l0_2 A1_0 c1_0 l1_0 r gm gt _ (Kd.C_below HR2.out HB4.out) HC2.out (Kd.C_below HR3.out HB4.out) HC3.out hm0 hm1 hm2 ht0 HP.out).mono ?_
    rintro e w5 ⟨rfl, hb5⟩
    have HB5 := Aside0.mk (below_step HB4.out hb5)
    clear hb5 hm0 hm1 hm2 ht0
    go_wp2
    go_ret
    exact ⟨by first | rfl | (simp; done), HB5.out⟩
   rw [if_pos c1] at H
   have c1b : decide (x < n) = true := decide_eq_true c1
   clear c1
   by_cases c2 : 0 ≤ wrap64 (wrap64 (x * n) + x)
   rotate_left
   ·rw [if_neg c2] at H
    exact absurd H (by simp)
   rw [if_pos c2] at H
   by_cases c3 : wrap64 (wrap64 (x * n) + x) < (l1_0.length : Int)
   rotate_left
   ·rw [if_neg c3] at H
    exact absurd H (by simp)
   rw [if_pos c3] at H
   obtain ⟨ad, ea, hx⟩ := Kd.at_int (Kd.C_below HR3.out HB4.out) (wrap64 (wrap64 (x * n) + x)) c2 c3
   cases ea
   have c2b : decide (0 ≤ wrap64 (wrap64 (x * n) + x)) = true := decide_eq_true c2
   have c3b : decide (wrap64 (wrap64 (x * n) + x) < (l1_0.length : Int)) = true := decide_eq_true c3
   replace c2 := eq_true c2
   replace c3 := eq_true c3
   by_cases c4 : rd l1_0 (wrap64 (wrap64 (x * n) + x)) = 4
   rotate_left
   ·rw [if_neg c4] at H
    have c4b : (rd l1_0 (wrap64 (wrap64 (x * n) + x)) == 4) = false := beq_eq_false_iff_ne.mpr c4
    have c4c : (rd l1_0 (wrap64 (wrap64 (x * n) + x)) != 4) = true := bne_iff_ne.mpr c4
    clear c4
    obtain rfl := Option.some.inj H
    go_wp2
    go_ret
    exact ⟨by first | rfl | (simp; done), HB4.out⟩
   rw [if_pos c4] at H
   have c4b : (rd l1_0 (wrap64 (wrap64 (x * n) + x)) == 4) = true := beq_iff_eq.mpr c4
   have c4c : (rd l1_0 (wrap64 (wrap64 (x * n) + x)) != 4) = false := bne_eq_false_iff_eq.mpr c4
   clear c4
   have H' := Aside0.mk H
   clear H
   go_wp2
   go_roundg k1
   case measure => have := HK1.out; omega
   case rel => exact ⟨wrap64 (x + 1), (by first | rfl | (simp; done)), H', ⟨by have := HK1.out; omega⟩, rfl⟩
  ·rw [if_neg cl] at h3
   have clb : ((l1_0.length : Int) == wrap64 (n * n)) = false := beq_eq_false_iff_ne.mpr cl
   have clc : ((l1_0.length : Int) != wrap64 (n * n)) = true := bne_iff_ne.mpr cl
   clear cl
   obtain rfl := Option.some.inj h3
   clear h3
   go_wp2
   go_ret
   exact ⟨by first | rfl | (simp; done), HB4.out⟩

/-! ### impl_ClassesOk: function 18 -/
def impl_ClassesOk.f (k : Nat) (a0_0 : Int) (a0_1 : Int) (l0_2 : List Int) (l1_0 : List Int) (l1_1 : List Int) : Option (Bool) := (impl_TableOk.f k a0_0 a0_1 l0_2 l1_0).bind fun t282 => (if t282 = true then ((impl_TableOk.f k a0_0 a0_1 l0_2 l1_1).bind fun t283 => (some t283)) else (some false))
theorem impl_ClassesOk.mono : ∀ a0 a1 a2 a3 a4 k, LeO (impl_ClassesOk.f k a0 a1 a2 a3 a4) (impl_ClassesOk.f (k + 1) a0 a1 a2 a3 a4) := by
 intro a0 a1 a2 a3 a4 k
 unfold impl_ClassesOk.f
 repeat' (with_reducible first | exact impl_TableOk.mono .. | exact LeO.refl .. | exact LeO.none .. | refine LeO.ite ?_ ?_ | refine LeO.bind ?_ (fun _ => ?_))
theorem impl_ClassesOk.e0 {P : Prop} (h : P := by
 go_enter Try.func18, Try.ntmps18
 go_wp2_with (first | ((with_reducible refine gate_dst (N := 2) rfl ?_); refine box_event ?hg (N := 2) ?hd (cs := #[.int .i64 a0_0, .int .i64 a0_1, .slice A0_2 l0_2.length c0_2]) (t := 28) ?hr ?_; (case hd => rfl); (case hg => rfl); (case hr => first | (go_simp; done) | (go_simp; rfl)); intro gb280 hg w_0 hbox hb; have BK280 := Aside0.mk (hbox); have GW280 := gw_ hg HB; have GE280 := gw_ hg HB; replace HB := hs_ HB hb; clear hb hbox hg) | ((with_reducible refine gate_dst (N := 3) rfl ?_); refine box_event ?hg (N := 3) ?hd (cs := #[.slice A1_0 l1_0.length c1_0, .slice A1_1 l1_1.length c1_1]) (t := 32) ?hr ?_; (case hd => rfl); (case hg => rfl); (case hr => first | (go_simp; done) | (go_simp; rfl)); intro gb281 hg w_0 hbox hb; have BK281 := Aside0.mk (hbox); have GW281 := gw_ hg HB; have GE281 := gw_ hg HB; replace HB := hs_ HB hb; have NB280_281 := nl_ hg BK280; have NB281_280 := ng_ hg BK280; replace BK280 := kb_ BK280 hb; clear hb hbox hg; have hnb_ := NB280_281.out; have hnc_ := NB281_280.out; obtain ⟨hcz_0, hcz_1, hcz_2, hfz_0, hfz_1, hfz_2⟩ := cz3_ BK280.out; obtain ⟨hcz__0, hcz__1, hfz__0, hfz__1⟩ := cz2_ BK281.out) | ((with_reducible refine gate_callee (f := 34) rfl ?_); refine gm_ (some 8) Try.func34 #[.agg #[.int .i64 a0_0, .int .i64 a0_1, .slice A0_2 l0_2.length c0_2], .agg #[.slice A1_0 l1_0.length c1_0]] rfl ?_; (with_reducible refine (impl_TableOk.calls k a0_0 a0_1 _ _ l0_2 _ _ l1_0 _ _ ?side1 HC0_2.out ?side3 HC1_0.out A3.out).mono ?_); (case side1 => exact cb_ HR0_2.out HB.out); (case side3 => exact cb_ HR1_0.out HB.out); rintro e w_0 ⟨rfl, hb⟩; refine ⟨_, rfl, ?_⟩; replace BK280 := kb_ BK280 hb; replace BK281 := kb_ BK281 hb; replace HB := hs_ HB hb; (try clear hb); obtain ⟨hcz_0, hcz_1, hcz_2, hfz_0, hfz_1, hfz_2⟩ := cz3_ BK280.out; obtain ⟨hcz__0, hcz__1, hfz__0, hfz__1⟩ := cz2_ BK281.out) | (go_at_call 34; (with_reducible refine (impl_TableOk.calls k a0_0 a0_1 _ _ l0_2 _ _ l1_1 t283 _ ?side1 HC0_2.out ?side3 HC1_1.out A5.out).mono ?_); (case side1 => exact cb_ HR0_2.out HB.out); (case side3 => exact cb_ HR1_1.out HB.out); rintro e w_0 ⟨rfl, hb⟩; replace BK280 := kb_ BK280 hb; replace BK281 := kb_ BK281 hb; replace HB := hs_ HB hb; (try clear hb)))
 go_ret
 exact ⟨fin_, bb_ HB.out⟩) : P := h
theorem impl_ClassesOk.calls (k : Nat) (a0_0 : Int) (a0_1 : Int) (A0_2 : Option Addr) (c0_2 : Nat) (l0_2 : List Int) (A1_0 : Option Addr) (c1_0 : Nat) (l1_0 : List Int) (A1_1 : Option Addr) (c1_1 : Nat) (l1_1 : List Int) (r : Bool) (w : World) (hr0_2 : Kd.C (Kd.int .i64) w A0_2 l0_2.length l0_2) (hc0_2 : l0_2.length ≤ c0_2) (hr1_0 : Kd.C (Kd.int .i64) w A1_0 l1_0.length l1_0) (hc1_0 : l1_0.length ≤ c1_0) (hr1_1 : Kd.C (Kd.int .i64) w A1_1 l1_1.length l1_1) (hc1_1 : l1_1.length ≤ c1_1) (h : impl_ClassesOk.f k a0_0 a0_1 l0_2 l1_0 l1_1 = some r) :
  Calls Try.prog 18 #[.agg #[.int .i64 a0_0, .int .i64 a0_1, .slice A0_2 l0_2.length c0_2], .agg #[.slice A1_0 l1_0.length c1_0, .slice A1_1 l1_1.length c1_1]] w fun e w' => e = .returned (.bool r) ∧ Below w.heap.size w w' := by
 have hu28 := Try.underlying28
 have hu32 := Try.underlying32
 have hu30 := Try.underlying30
 have HR0_2 := Aside0.mk hr0_2
 have HC0_2 := Aside0.mk hc0_2
 clear hr0_2 hc0_2
 have HR1_0 := Aside0.mk hr1_0
 have HC1_0 := Aside0.mk hc1_0
 clear hr1_0 hc1_0
 have HR1_1 := Aside0.mk hr1_1
 have HC1_1 := Aside0.mk hc1_1
 clear hr1_1 hc1_1
 have HB := Aside0.mk (Below.refl w.heap.size w)
 have H : ((impl_TableOk.f k a0_0 a0_1 l0_2 l1_0).bind fun t282 => (if t282 = true then ((impl_TableOk.f k a0_0 a0_1 l0_2 l1_1).bind fun t283 => (some t283)) else (some false))) = some r := h
 clear h
 obtain ⟨t282, A3, H⟩ := bi_ H
 by_cases c4 : t282 = true
 ·subst c4
  rw [if_pos rfl] at H
  obtain ⟨t283, A5, H⟩ := bi_ H
  obtain rfl := Option.some.inj H
  exact impl_ClassesOk.e0
 ·replace c4 := Bool.eq_false_iff.mpr c4
  subst c4
  rw [if_neg (show ¬ (false = true) by decide)] at H
  obtain rfl := Option.some.inj H
  exact impl_ClassesOk.e0

/-! ### impl_copyMesh: function 20 -/
def impl_copyMesh.f (a0_0 : Int) (a0_1 : Int) (l0_2 : List Int) : Option (Int × Int × List Int) := (some (([] : List Int) : List Int)).bind fun y286 => (if y286.length + l0_2.length < 17592186044416 then (some (a0_0, a0_1, (y286 ++ l0_2))) else (none))
def impl_copyMesh.T1 : Bool × List (List Nat × List Nat) := (true, [([], []), ([0], [0]), ([], []), ([], []), ([3], [3]), ([2, 4], [2, 4]), ([1, 5], [1, 5]), ([6, 5, 0, 1, 2, 3, 4, 5, 6], [6])])
def impl_copyMesh.B1 : List Nat := [0, 1, 0, 0, 8, 28, 63, 127]
theorem impl_copyMesh.tab1 : rtab .any (opsOf Try.f20 1) = impl_copyMesh.T1 := by kernel_rfl
theorem impl_copyMesh.bits1 : waitsOk impl_copyMesh.T1.2 impl_copyMesh.B1 = true := by kernel_rfl
theorem impl_copyMesh.calls (a0_0 : Int) (a0_1 : Int) (A0_2 : Option Addr) (c0_2 : Nat) (l0_2 : List Int) (r1 : Int) (r2 : Int) (r3 : List Int) (w : World) (hr0_2 : Kd.C (Kd.int .i64) w A0_2 l0_2.length l0_2) (hc0_2 : l0_2.length ≤ c0_2) (h : impl_copyMesh.f a0_0 a0_1 l0_2 = some (r1, r2, r3)) :
  Calls Try.prog 20 #[.agg #[.int .i64 a0_0, .int .i64 a0_1, .slice A0_2 l0_2.length c0_2]] w fun e w' => ∃ v2_ : Value, e = .returned (.agg #[.int .i64 r1, .int .i64 r2, v2_]) ∧ Kd.R (Kd.int .i64) 3 w' w.heap.size (fun _ => True) v2_ r3 ∧ Below w.heap.size w w' := by
 have hu28 := Try.underlying28
 have hu25 := Try.underlying25
 have HR0_2 := Aside0.mk hr0_2
 have HC0_2 := Aside0.mk hc0_2
 clear hr0_2 hc0_2
 have HB := Aside0.mk (Below.refl w.heap.size w)
 have H : ((some (([] : List Int) : List Int)).bind fun y286 => (if y286.length + l0_2.length < 17592186044416 then (some (a0_0, a0_1, (y286 ++ l0_2))) else (none))) = some (r1, r2, r3) := h
 clear h
 obtain ⟨y286, Ny286, H⟩ := bo_ H
 by_cases c2 : y286.length + l0_2.length < 17592186044416
 ·rw [if_pos c2] at H
  have LMc2 := Aside0.mk c2
  clear c2
  obtain ⟨y289, hy289⟩ : ∃ y_ : List Int, y_ = (y286 ++ l0_2) := ⟨_, rfl⟩
  replace H : (some (a0_0, a0_1, y289)) = some (r1, r2, r3) := by first | (rw [hy289]; with_reducible exact H) | (have H2_ := (Option.bind_some _ _).symm.trans H; rw [hy289]; with_reducible exact H2_) | (have H2_ := (Option.bind_some _ _).symm.trans H; with_reducible exact H2_) | with_reducible exact H | (rw [hy289]; exact H) | exact H
  have Ny289 := Aside0.mk hy289
  clear hy289
  simp only [Option.some.injEq, Prod.mk.injEq] at H
  obtain ⟨rfl, rfl, rfl⟩ := H
  go_enter Try.func20, Try.ntmps20
  try go_wp2_with (first | ((with_reducible refine gate_dst (N := 1) rfl ?_); refine box_event ?hg (N := 1) ?hd (cs := #[.int .i64 a0_0, .int .i64 a0_1, .slice A0_2 l0_2.length c0_2]) (t := 28) ?hr ?_; (case hd => rfl); (case hg => rfl); (case hr => first | (go_simp; done) | (go_simp; rfl)); intro gb284 hg w3 hbox hb; have BK284 := Aside0.mk (hbox); have GW284 := gw_ hg HB; have GE284 := gw_ hg HB; replace HB := hs_ HB hb; clear hb hbox hg) | ((with_reducible refine gate_dst (N := 2) rfl ?_); refine box_event ?hg (N := 2) ?hd (cs := #[.int .i64 0, .int .i64 0, .slice none 0 0]) (t := 28) ?hr ?_; (case hd => rfl); (case hg => rfl); (case hr => first | (go_simp; done) | (go_simp; rfl)); intro gb285 hg w4 hbox hb; have BK285 := Aside0.mk (hbox); have GW285 := gw_ hg HB; have GE285 := gw_ hg HB; replace HB := hs_ HB hb; have NB284_285 := nl_ hg BK284; have NB285_284 := ng_ hg BK284; replace BK284 := kb_ BK284 hb; clear hb hbox hg))
  replace BK284 := Aside0.mk (blk_drew BK284.out)
  replace BK285 := Aside0.mk (blk_drew BK285.out)
  replace HB := Aside0.mk (below_drew1 HB.out)
  refine start_ (n := 8) (S := fun w' => w'.cell? ⟨gb284, 0, none⟩ = some (.int .i64 a0_0) ∧ w'.cell? ⟨gb284, 1, none⟩ = some (.int .i64 a0_1) ∧ w'.cell? ⟨gb284, 2, none⟩ = some (.slice A0_2 l0_2.length c0_2)) (ds := []) #[false, false, false, false, false, false, false, false] (by kernel_rfl) rfl rfl ⟨(blk_cell BK284.out 0).trans rfl, (blk_cell BK284.out 1).trans rfl, (blk_cell BK284.out 2).trans rfl⟩ (fun hHeld => ?_); refine with_tabW impl_copyMesh.tab1 impl_copyMesh.bits1 (fun HT_ HW_ => ?_)
  generalize w4.drew = w5 at BK284 BK285 HB hHeld ⊢
  refine pu_ 0 3 (bt_ 8 1) HT_ ?_
  refine pu_ 3 6 (bt_ 8 9) HT_ ?_
  refine take_ (i := 1) (N := some 4) (v := ?_) (a' := ?_) (bt_ 8 11) rfl rfl (take_ofW HT_.out HW_.out (by kernel_rfl)) (fun _ _ _ h => h) (Or.inl ⟨by rfl, ?_⟩) hHeld ?_ ?_
  rotate_left
  ·rintro w' ⟨s0, s1, s2⟩
   go_simp
   with_reducible rfl
  rotate_left
  ·simp only [Act.put, List.setIfInBounds_toArray, List.set_cons_zero, List.set_cons_succ, i64_w, i32_w]
   rfl
  refine take_ (i := 4) (N := some 7) (v := ?_) (a' := ?_) (bt_ 8 27) rfl rfl (take_ofW HT_.out HW_.out (by kernel_rfl)) (fun _ _ _ h => h) (Or.inl ⟨by rfl, ?_⟩) hHeld ?_ ?_
  rotate_left
  ·rintro w' ⟨s0, s1, s2⟩
   go_simp
   with_reducible rfl
  rotate_left
  ·simp only [Act.put, List.setIfInBounds_toArray, List.set_cons_zero, List.set_cons_succ, i64_w, i32_w]
   rfl
  refine one_ (i := 2) (N := some 5) (bt_ 8 31) rfl rfl (one_of HT_.out (by kernel_rfl)) (by decide) (fun K hK => ?_)
  refine Kd.R_lit_step (Kd.int .i64) _ 3 ?hg (N := 5) ?hd (xs := ([] : List Int)) (inner := []) (ok := fun _ => True) (okp := fun _ => True) ?hr ?hp (fun _ hk => hk) trivial (Below.refl _ _) (Nat.le_refl _) (by simp) ?_; (case hd => rfl); (case hg => rfl); (case hr => first | (go_simp; done) | (go_simp; rfl)); (case hp => exact (Reps.none _ _))
  intro v287 w6 ho7 hb hg_ hnew_
  clear hg_ hnew_
  (first | rw [← Ny286.out] at ho7 | (simp only [Int.reduceToNat] at ho7; rw [← Ny286.out] at ho7))
  have n0_ := Aside0.mk (Kd.R_lower ho7 (bz_ HB.out))
  have n1_ := Aside0.mk (bk_ BK284.out hb)
  have n2_ := Aside0.mk (bk_ BK285.out hb)
  have n3_ := Aside0.mk (bs_ HB.out hb)
  clear BK284 BK285 HB
  have HO288 := n0_
  have BK284 := n1_
  have BK285 := n2_
  have HB := n3_
  clear n0_ n1_ n2_ n3_ hb ho7
  refine hK.out _ _ ⟨(blk_cell BK284.out 0).trans rfl, (blk_cell BK284.out 1).trans rfl, (blk_cell BK284.out 2).trans rfl⟩ (fun hHeld => ?_)
  clear hK K
  refine norm_ (a' := ?_) ?_ ?_
  rotate_left
  ·show Act.put _ (some 5) _ = _
   simp only [Act.put, List.setIfInBounds_toArray, List.set_cons_zero, List.set_cons_succ, i64_w, i32_w]
   rfl
  refine one_ (i := 5) (N := some 8) (bt_ 8 63) rfl rfl (one_of HT_.out (by kernel_rfl)) (by decide) (fun K hK => ?_)
  refine Kd.R_append_rows_step (Kd.int .i64) (w0 := w) w.heap.size (by rfl) (.tmp 5) (.tmp 7) 26 3 (.int .i64 0) 8 rfl Try.underlying26 info3 rfl (by decide) (by omega) v287 y286 l0_2 _ _ _ (fun _ => True) (fun _ => False) rfl rfl ?aO ?aR (fun _ _ h => h) (fun _ h => h.elim) ?aF ?aB ?aS ?aL ?_
  (case aR => exact cb_ HR0_2.out HB.out)
  (case aB => exact (by repeat (first | (with_reducible first | exact HB.out | apply below_alloc | apply pw_below_drewN | apply below_drew1 | refine below_set ?_ GE284.out | refine below_set ?_ GE285.out) | exact HB.out)))
  (case aF => exact (fun _ _ => trivial))
  (case aO => exact (ra_ HO288.out))
  (case aS => exact (bz_ HB.out))
  (case aL => have := LMc2.out; omega)
  intro v290 w8 ho hb hg hat
  rw [← Ny289.out] at ho
  have n0_ := Aside0.mk (blk_grown (g := gb284) (o := .cells #[.int .i64 a0_0, .int .i64 a0_1, .slice A0_2 l0_2.length c0_2] 28 (0, 0)) (by (with_reducible repeat (first | refine blk_drewN ?_ _ | refine blk_drew ?_ | refine blk_alloc ?_ _)); exact BK284.out) hg (Kd.R_ne HO288.out BK284.out (by decide)))
  have n1_ := Aside0.mk (blk_grown (g := gb285) (o := .cells #[.int .i64 0, .int .i64 0, .slice none 0 0] 28 (0, 0)) (by (with_reducible repeat (first | refine blk_drewN ?_ _ | refine blk_drew ?_ | refine blk_alloc ?_ _)); exact BK285.out) hg (Kd.R_ne HO288.out BK285.out (by decide)))
  have n2_ := Aside0.mk (hb)
  have n3_ := Aside0.mk (ho)
  clear BK284 BK285 HB HO288
  have BK284 := n0_
  have BK285 := n1_
  have HB := n2_
  have HO291 := n3_
  clear n0_ n1_ n2_ n3_ ho hb hg hat
  obtain ⟨Ao9, co9, eo9⟩ := Kd.R_slice HO291.out
  (first | subst eo9 | (injection eo9 with f1_ f2_ f3_; have f4_ := f1_.symm; have f5_ := f3_.symm; clear f1_ f2_ f3_; subst f4_; subst f5_))
  refine hK.out _ _ ⟨(blk_cell BK284.out 0).trans rfl, (blk_cell BK284.out 1).trans rfl, (blk_cell BK284.out 2).trans rfl⟩ (fun hHeld => ?_)
  clear hK K
  refine norm_ (a' := ?_) ?_ ?_
  rotate_left
  ·show Act.put _ (some 8) _ = _
   simp only [Act.put, List.setIfInBounds_toArray, List.set_cons_zero, List.set_cons_succ, i64_w, i32_w]
   rfl
  refine pu_ 6 9 (bt_ 8 127) HT_ ?_
  refine one_ (i := 7) (N := none) (bt_ 8 255) rfl rfl (one_of HT_.out (by kernel_rfl)) (by decide) (fun K hK => ?_)
  have hs10 : w8.cell? ⟨gb285, 0, none⟩ = some (.int .i64 0) := (blk_cell BK285.out 0).trans rfl
  have hfs10 := blk_frozen BK285.out 0
  have hns10_0 := NB284_285.out
  have hms10_0 := NB285_284.out
  have hs11 : w8.cell? ⟨gb285, 1, none⟩ = some (.int .i64 0) := (blk_cell BK285.out 1).trans rfl
  have hfs11 := blk_frozen BK285.out 1
  have hns11_0 := NB284_285.out
  have hms11_0 := NB285_284.out
  have hs12 : w8.cell? ⟨gb285, 2, none⟩ = some (.slice none 0 0) := (blk_cell BK285.out 2).trans rfl
  have hfs12 := blk_frozen BK285.out 2
  have hns12_0 := NB284_285.out
  have hms12_0 := NB285_284.out
  refine skip_ (w1 := ?_) (by rfl) rfl ?_ ?_
  rotate_left
  ·go_simp
   rfl
  refine hK.out _ _ ⟨((cell_far (p := ⟨gb285, _, none⟩) NB284_285.out _).trans (((cell_far (p := ⟨gb285, _, none⟩) NB284_285.out _).trans (((cell_far (p := ⟨gb285, _, none⟩) NB284_285.out _).trans (hHeld.1)))))), ((cell_far (p := ⟨gb285, _, none⟩) NB284_285.out _).trans (((cell_far (p := ⟨gb285, _, none⟩) NB284_285.out _).trans (((cell_far (p := ⟨gb285, _, none⟩) NB284_285.out _).trans (hHeld.2.1)))))), ((cell_far (p := ⟨gb285, _, none⟩) NB284_285.out _).trans (((cell_far (p := ⟨gb285, _, none⟩) NB284_285.out _).trans (((cell_far (p := ⟨gb285, _, none⟩) NB284_285.out _).trans (hHeld.2.2))))))⟩ (fun hHeld => ?_)
  clear hK K
  refine done_ (done_of HT_.out (by kernel_rfl)) ?_
  try go_wp2
  refine bodyPost_ret (results_cell_row rfl _ _ gb285 28 #[.int .i64 a0_0, .int .i64 a0_1, .slice Ao9 y289.length co9] (0, 0) _ rfl (by (with_reducible repeat (first | refine blk_drewN ?_ _ | refine blk_drew ?_ | refine blk_alloc ?_ _)); refine blk_put (cs := #[.int .i64 a0_0, .int .i64 a0_1, .slice none 0 0]) ?_ 2 _ rfl; (with_reducible repeat (first | refine blk_drewN ?_ _ | refine blk_drew ?_ | refine blk_alloc ?_ _)); refine blk_put (cs := #[.int .i64 a0_0, .int .i64 0, .slice none 0 0]) ?_ 1 _ rfl; (with_reducible repeat (first | refine blk_drewN ?_ _ | refine blk_drew ?_ | refine blk_alloc ?_ _)); refine blk_put (cs := #[.int .i64 0, .int .i64 0, .slice none 0 0]) ?_ 0 _ rfl; (with_reducible repeat (first | refine blk_drewN ?_ _ | refine blk_drew ?_ | refine blk_alloc ?_ _)); exact BK285.out) Try.underlying28 rfl (by kernel_rfl)) rfl ?_
  exact ⟨_, fin_, rm_ (Kd.R_types HO291.out BK285.out (by decide)) (fun _ hk => trivial), bb_ HB.out⟩
 ·rw [if_neg c2] at H
  exact absurd H (by simp)

/-! ### impl_copyTable: function 36 -/
def impl_copyTable.f (l0_0 : List Int) : Option (List Int) := (some (([] : List Int) : List Int)).bind fun y294 => (if y294.length + l0_0.length < 17592186044416 then (some (y294 ++ l0_0)) else (none))
theorem impl_copyTable.calls (A0_0 : Option Addr) (c0_0 : Nat) (l0_0 : List Int) (r : List Int) (w : World) (hr0_0 : Kd.C (Kd.int .i64) w A0_0 l0_0.length l0_0) (hc0_0 : l0_0.length ≤ c0_0) (h : impl_copyTable.f l0_0 = some r) :
  Calls Try.prog 36 #[.agg #[.slice A0_0 l0_0.length c0_0]] w fun e w' => ∃ v0_ : Value, e = .returned (.agg #[v0_]) ∧ Kd.R (Kd.int .i64) 3 w' w.heap.size (fun _ => True) v0_ r ∧ Below w.heap.size w w' := by
 have hu30 := Try.underlying30
 have HR0_0 := Aside0.mk hr0_0
 have HC0_0 := Aside0.mk hc0_0
 clear hr0_0 hc0_0
 have HB := Aside0.mk (Below.refl w.heap.size w)
 have H : ((some (([] : List Int) : List Int)).bind fun y294 => (if y294.length + l0_0.length < 17592186044416 then (some (y294 ++ l0_0)) else (none))) = some r := h
 clear h
 obtain ⟨y294, Ny294, H⟩ := bo_ H
 by_cases c2 : y294.length + l0_0.length < 17592186044416
 ·rw [if_pos c2] at H
  have LMc2 := Aside0.mk c2
  clear c2
  obtain ⟨y297, hy297⟩ : ∃ y_ : List Int, y_ = (y294 ++ l0_0) := ⟨_, rfl⟩
  replace H : (some y297) = some r := by first | (rw [hy297]; with_reducible exact H) | (have H2_ := (Option.bind_some _ _).symm.trans H; rw [hy297]; with_reducible exact H2_) | (have H2_ := (Option.bind_some _ _).symm.trans H; with_reducible exact H2_) | with_reducible exact H | (rw [hy297]; exact H) | exact H
  have Ny297 := Aside0.mk hy297
  clear hy297
  obtain rfl := Option.some.inj H
  go_enter Try.func36, Try.ntmps36
  go_wp2_with (first | ((with_reducible refine gate_dst (N := 1) rfl ?_); refine box_event ?hg (N := 1) ?hd (cs := #[.slice A0_0 l0_0.length c0_0]) (t := 30) ?hr ?_; (case hd => rfl); (case hg => rfl); (case hr => first | (go_simp; done) | (go_simp; rfl)); intro gb292 hg w3 hbox hb; have BK292 := Aside0.mk (hbox); have GW292 := gw_ hg HB; have GE292 := gw_ hg HB; replace HB := hs_ HB hb; clear hb hbox hg) | ((with_reducible refine gate_dst (N := 2) rfl ?_); refine box_event ?hg (N := 2) ?hd (cs := #[.slice none 0 0]) (t := 30) ?hr ?_; (case hd => rfl); (case hg => rfl); (case hr => first | (go_simp; done) | (go_simp; rfl)); intro gb293 hg w4 hbox hb; have BK293 := Aside0.mk (hbox); have GW293 := gw_ hg HB; have GE293 := gw_ hg HB; replace HB := hs_ HB hb; have NB292_293 := nl_ hg BK292; have NB293_292 := ng_ hg BK292; replace BK292 := kb_ BK292 hb; clear hb hbox hg) | ((with_reducible refine gate_dst (N := 3) rfl ?_); refine Kd.R_lit (Kd.int .i64) _ 3 ?hg (N := 3) ?hd (xs := ([] : List Int)) (inner := []) (ok := fun _ => True) (okp := fun _ => True) ?hr ?hp (fun _ hk => hk) trivial (Below.refl _ _) (Nat.le_refl _) (by simp) ?_; (case hd => rfl); (case hg => rfl); (case hr => first | (go_simp; done) | (go_simp; rfl)); (case hp => exact (Reps.none _ _)); intro v295 w5 ho6 hb hg_ hnew_; clear hg_ hnew_; (first | rw [← Ny294.out] at ho6 | (simp only [Int.reduceToNat] at ho6; rw [← Ny294.out] at ho6)); have HO296 := Aside0.mk (Kd.R_lower ho6 (bz_ HB.out)); replace BK292 := kb_ BK292 hb; replace BK293 := kb_ BK293 hb; replace HB := hs_ HB hb; clear hb ho6; have hnb7 := NB292_293.out; have hnc7 := NB293_292.out; obtain ⟨hcz8_0, hfz8_0⟩ := cz1_ BK292.out) | ((with_reducible refine gate_builtin (b := .append) (xs := #[.tmp 3, .tmp 5]) rfl ?_); at_builtin; refine Kd.R_append_rows (Kd.int .i64) (w0 := w) w.heap.size rfl (.tmp 3) (.tmp 5) 26 3 (.int .i64 0) 8 rfl Try.underlying26 info3 rfl (by decide) (by omega) v295 y294 l0_0 _ _ _ (fun _ => True) (fun _ => False) rfl rfl ?aO ?aR (fun _ _ h => h) (fun _ h => h.elim) ?aF ?aB ?aS ?aL ?_; (case aR => exact cb_ HR0_0.out HB.out); (case aB => exact (by repeat (first | (with_reducible first | exact HB.out | apply below_alloc | apply pw_below_drewN | apply below_drew1 | refine below_set ?_ GE292.out | refine below_set ?_ GE293.out) | exact HB.out))); (case aF => exact (fun _ _ => trivial)); (case aO => exact (ra_ HO296.out)); (case aS => exact (bz_ HB.out)); (case aL => have := LMc2.out; omega); intro v298 w9 ho hb hg hat; rw [← Ny297.out] at ho; have n0_ := Aside0.mk (blk_grown (g := gb292) (o := .cells #[.slice A0_0 l0_0.length c0_0] 30 (0, 0)) (by (with_reducible repeat (first | refine blk_drewN ?_ _ | refine blk_drew ?_ | refine blk_alloc ?_ _)); exact BK292.out) hg (Kd.R_ne HO296.out BK292.out (by decide))); have n1_ := Aside0.mk (blk_grown (g := gb293) (o := .cells #[.slice none 0 0] 30 (0, 0)) (by (with_reducible repeat (first | refine blk_drewN ?_ _ | refine blk_drew ?_ | refine blk_alloc ?_ _)); exact BK293.out) hg (Kd.R_ne HO296.out BK293.out (by decide))); have n2_ := Aside0.mk (hb); have n3_ := Aside0.mk (ho); clear BK292; clear BK293; clear HB; clear HO296; have BK292 := n0_; have BK293 := n1_; have HB := n2_; have HO299 := n3_; clear n0_ n1_ n2_ n3_; clear ho hb hg hat; obtain ⟨Ao10, co10, eo10⟩ := Kd.R_slice HO299.out; subst eo10; obtain ⟨hcz11_0, hfz11_0⟩ := cz1_ BK293.out))
  refine bodyPost_ret (results_cell_row rfl _ _ gb293 30 #[.slice Ao10 y297.length co10] (0, 0) _ rfl (by (with_reducible repeat (first | refine blk_drewN ?_ _ | refine blk_drew ?_ | refine blk_alloc ?_ _)); refine blk_put (cs := #[.slice none 0 0]) ?_ 0 _ rfl; (with_reducible repeat (first | refine blk_drewN ?_ _ | refine blk_drew ?_ | refine blk_alloc ?_ _)); exact BK293.out) Try.underlying30 rfl (by kernel_rfl)) rfl ?_
  exact ⟨_, fin_, rm_ (Kd.R_types HO299.out BK293.out (by decide)) (fun _ hk => trivial), bb_ HB.out⟩
 ·rw [if_neg c2] at H
  exact absurd H (by simp)

/-! ### impl_copyClasses: function 21 -/
def impl_copyClasses.f (l0_0 : List Int) (l0_1 : List Int) : Option (List Int × List Int) := (impl_copyTable.f l0_0).bind fun t302 => ((impl_copyTable.f l0_1).bind fun t305 => (some (t302, t305)))
def impl_copyClasses.T1 : Bool × List (List Nat × List Nat) := (true, [([], []), ([0], [0]), ([1], [1]), ([], []), ([3], [3]), ([4, 2], [4]), ([2, 5], [2, 5]), ([6, 5, 0, 1, 2, 3, 4, 5, 6], [6])])
def impl_copyClasses.B1 : List Nat := [0, 1, 3, 0, 8, 31, 63, 127]
theorem impl_copyClasses.tab1 : rtab .any (opsOf Try.f21 1) = impl_copyClasses.T1 := by kernel_rfl
theorem impl_copyClasses.bits1 : waitsOk impl_copyClasses.T1.2 impl_copyClasses.B1 = true := by kernel_rfl
theorem impl_copyClasses.calls (A0_0 : Option Addr) (c0_0 : Nat) (l0_0 : List Int) (A0_1 : Option Addr) (c0_1 : Nat) (l0_1 : List Int) (r1 : List Int) (r2 : List Int) (w : World) (hr0_0 : Kd.C (Kd.int .i64) w A0_0 l0_0.length l0_0) (hc0_0 : l0_0.length ≤ c0_0) (hr0_1 : Kd.C (Kd.int .i64) w A0_1 l0_1.length l0_1) (hc0_1 : l0_1.length ≤ c0_1) (h : impl_copyClasses.f l0_0 l0_1 = some (r1, r2)) :
  Calls Try.prog 21 #[.agg #[.slice A0_0 l0_0.length c0_0, .slice A0_1 l0_1.length c0_1]] w fun e w' => ∃ v0_ v1_ : Value, e = .returned (.agg #[v0_, v1_]) ∧ Kd.R (Kd.int .i64) 3 w' w.heap.size (fun k_ => some k_ ≠ (v1_ : Value).ownBlock) v0_ r1 ∧ Kd.R (Kd.int .i64) 3 w' w.heap.size (fun k_ => some k_ ≠ (v0_ : Value).ownBlock) v1_ r2 ∧ Below w.heap.size w w' := by
 have hu32 := Try.underlying32
 have hu30 := Try.underlying30
 have HR0_0 := Aside0.mk hr0_0
 have HC0_0 := Aside0.mk hc0_0
 clear hr0_0 hc0_0
 have HR0_1 := Aside0.mk hr0_1
 have HC0_1 := Aside0.mk hc0_1
 clear hr0_1 hc0_1
 have HB := Aside0.mk (Below.refl w.heap.size w)
 have H : ((impl_copyTable.f l0_0).bind fun t302 => ((impl_copyTable.f l0_1).bind fun t305 => (some (t302, t305)))) = some (r1, r2) := h
 clear h
 obtain ⟨t302, A2, H⟩ := bi_ H
 obtain ⟨t305, A3, H⟩ := bi_ H
 simp only [Option.some.injEq, Prod.mk.injEq] at H
 obtain ⟨rfl, rfl⟩ := H
 go_enter Try.func21, Try.ntmps21
 try go_wp2_with (first | ((with_reducible refine gate_dst (N := 1) rfl ?_); refine box_event ?hg (N := 1) ?hd (cs := #[.slice A0_0 l0_0.length c0_0, .slice A0_1 l0_1.length c0_1]) (t := 32) ?hr ?_; (case hd => rfl); (case hg => rfl); (case hr => first | (go_simp; done) | (go_simp; rfl)); intro gb300 hg w4 hbox hb; have BK300 := Aside0.mk (hbox); have GW300 := gw_ hg HB; have GE300 := gw_ hg HB; replace HB := hs_ HB hb; clear hb hbox hg) | ((with_reducible refine gate_dst (N := 2) rfl ?_); refine box_event ?hg (N := 2) ?hd (cs := #[.slice none 0 0, .slice none 0 0]) (t := 32) ?hr ?_; (case hd => rfl); (case hg => rfl); (case hr => first | (go_simp; done) | (go_simp; rfl)); intro gb301 hg w5 hbox hb; have BK301 := Aside0.mk (hbox); have GW301 := gw_ hg HB; have GE301 := gw_ hg HB; replace HB := hs_ HB hb; have NB300_301 := nl_ hg BK300; have NB301_300 := ng_ hg BK300; replace BK300 := kb_ BK300 hb; clear hb hbox hg))
 replace BK300 := Aside0.mk (blk_drew BK300.out)
 replace BK301 := Aside0.mk (blk_drew BK301.out)
 replace HB := Aside0.mk (below_drew1 HB.out)
 refine start_ (n := 8) (S := fun w' => w'.cell? ⟨gb300, 0, none⟩ = some (.slice A0_0 l0_0.length c0_0) ∧ w'.cell? ⟨gb300, 1, none⟩ = some (.slice A0_1 l0_1.length c0_1)) (ds := []) #[false, false, false, false, false, false, false, false] (by kernel_rfl) rfl rfl ⟨(blk_cell BK300.out 0).trans rfl, (blk_cell BK300.out 1).trans rfl⟩ (fun hHeld => ?_); refine with_tabW impl_copyClasses.tab1 impl_copyClasses.bits1 (fun HT_ HW_ => ?_)
 generalize w5.drew = w6 at BK300 BK301 HB hHeld ⊢
 refine pu_ 0 3 (bt_ 8 1) HT_ ?_
 refine pu_ 3 6 (bt_ 8 9) HT_ ?_
 refine take_ (i := 1) (N := some 4) (v := ?_) (a' := ?_) (bt_ 8 11) rfl rfl (take_ofW HT_.out HW_.out (by kernel_rfl)) (fun _ _ _ h => h) (Or.inl ⟨by rfl, ?_⟩) hHeld ?_ ?_
 rotate_left
 ·rintro w' ⟨s0, s1⟩
  go_simp
  with_reducible rfl
 rotate_left
 ·simp only [Act.put, List.setIfInBounds_toArray, List.set_cons_zero, List.set_cons_succ, i64_w, i32_w]
  rfl
 refine take_ (i := 4) (N := some 7) (v := ?_) (a' := ?_) (bt_ 8 27) rfl rfl (take_ofW HT_.out HW_.out (by kernel_rfl)) (fun _ _ _ h => h) (Or.inl ⟨by rfl, ?_⟩) hHeld ?_ ?_
 rotate_left
 ·rintro w' ⟨s0, s1⟩
  go_simp
  with_reducible rfl
 rotate_left
 ·simp only [Act.put, List.setIfInBounds_toArray, List.set_cons_zero, List.set_cons_succ, i64_w, i32_w]
  rfl
 refine one_ (i := 2) (N := some 5) (bt_ 8 31) rfl rfl (one_of HT_.out (by kernel_rfl)) (by decide) (fun K hK => ?_)
 refine goes_ Try.func36 (by kernel_rfl) rfl #[.agg #[.slice A0_0 l0_0.length c0_0]] (by rfl) rfl rfl (by (try simp only [List.map_toArray, List.map_cons, List.map_nil]); first | done | rfl | (simp only [List.length_drop, List.length_take]; rfl)) ?_
 with_reducible refine (impl_copyTable.calls _ _ l0_0 t302 _ ?side1 ?side2 A2.out).mono ?_
 (case side1 => exact cb_ HR0_0.out HB.out)
 (case side2 => exact HC0_0.out)
 rintro e w7 ⟨v303, rfl, ho0, hb⟩
 refine ⟨_, rfl, ?_⟩
 have HO304 := Aside0.mk (Kd.R_lower ho0 (bz_ HB.out))
 replace BK300 := kb_ BK300 hb
 replace BK301 := kb_ BK301 hb
 replace HB := hs_ HB hb
 (try clear hb)
 (try clear hk)
 (try clear ho0)
 refine hK.out _ _ ⟨(blk_cell BK300.out 0).trans rfl, (blk_cell BK300.out 1).trans rfl⟩ (fun hHeld => ?_)
 clear hK K
 refine norm_ (a' := ?_) ?_ ?_
 rotate_left
 ·show Act.put _ (some 5) _ = _
  simp only [Act.put, List.setIfInBounds_toArray, List.set_cons_zero, List.set_cons_succ, i64_w, i32_w]
  rfl
 refine one_ (i := 5) (N := some 8) (bt_ 8 63) rfl rfl (one_of HT_.out (by kernel_rfl)) (by decide) (fun K hK => ?_)
 refine goes_ Try.func36 (by kernel_rfl) rfl #[.agg #[.slice A0_1 l0_1.length c0_1]] (by rfl) rfl rfl (by (try simp only [List.map_toArray, List.map_cons, List.map_nil]); first | done | rfl | (simp only [List.length_drop, List.length_take]; rfl)) ?_
 with_reducible refine (impl_copyTable.calls _ _ l0_1 t305 _ ?side1 ?side2 A3.out).mono ?_
 (case side1 => exact cb_ HR0_1.out HB.out)
 (case side2 => exact HC0_1.out)
 rintro e w8 ⟨v306, rfl, ho0, hb⟩
 refine ⟨_, rfl, ?_⟩
 have HO307 := Aside0.mk (Kd.R_lower (Kd.R_new' ho0 (rl_ HO304.out)) (bz_ HB.out))
 replace HO304 := re_ HO304 ho0 hb
 replace BK300 := kb_ BK300 hb
 replace BK301 := kb_ BK301 hb
 replace HB := hs_ HB hb
 (try clear hb)
 (try clear hk)
 (try clear ho0)
 obtain ⟨Ao9, co9, eo9⟩ := Kd.R_slice HO307.out
 (first | subst eo9 | (injection eo9 with f1_ f2_ f3_; have f4_ := f1_.symm; have f5_ := f3_.symm; clear f1_ f2_ f3_; subst f4_; subst f5_))
 obtain ⟨Ao10, co10, eo10⟩ := Kd.R_slice HO304.out
 (first | subst eo10 | (injection eo10 with f1_ f2_ f3_; have f4_ := f1_.symm; have f5_ := f3_.symm; clear f1_ f2_ f3_; subst f4_; subst f5_))
 refine hK.out _ _ ⟨(blk_cell BK300.out 0).trans rfl, (blk_cell BK300.out 1).trans rfl⟩ (fun hHeld => ?_)
 clear hK K
 refine norm_ (a' := ?_) ?_ ?_
 rotate_left
 ·show Act.put _ (some 8) _ = _
  simp only [Act.put, List.setIfInBounds_toArray, List.set_cons_zero, List.set_cons_succ, i64_w, i32_w]
  rfl
 refine pu_ 6 9 (bt_ 8 127) HT_ ?_
 refine one_ (i := 7) (N := none) (bt_ 8 255) rfl rfl (one_of HT_.out (by kernel_rfl)) (by decide) (fun K hK => ?_)
 have hs11 : w8.cell? ⟨gb301, 0, none⟩ = some (.slice none 0 0) := (blk_cell BK301.out 0).trans rfl
 have hfs11 := blk_frozen BK301.out 0
 have hns11_0 := NB300_301.out
 have hms11_0 := NB301_300.out
 have hs12 : w8.cell? ⟨gb301, 1, none⟩ = some (.slice none 0 0) := (blk_cell BK301.out 1).trans rfl
 have hfs12 := blk_frozen BK301.out 1
 have hns12_0 := NB300_301.out
 have hms12_0 := NB301_300.out
 refine skip_ (w1 := ?_) (by rfl) rfl ?_ ?_
 rotate_left
 ·go_simp
  rfl
 refine hK.out _ _ ⟨((cell_far (p := ⟨gb301, _, none⟩) NB300_301.out _).trans (((cell_far (p := ⟨gb301, _, none⟩) NB300_301.out _).trans (hHeld.1)))), ((cell_far (p := ⟨gb301, _, none⟩) NB300_301.out _).trans (((cell_far (p := ⟨gb301, _, none⟩) NB300_301.out _).trans (hHeld.2))))⟩ (fun hHeld => ?_)
 clear hK K
 refine done_ (done_of HT_.out (by kernel_rfl)) ?_
 try go_wp2
 refine bodyPost_ret (results_cell_row rfl _ _ gb301 32 #[.slice Ao10 t302.length co10, .slice Ao9 t305.length co9] (0, 0) _ rfl (by (with_reducible repeat (first | refine blk_drewN ?_ _ | refine blk_drew ?_ | refine blk_alloc ?_ _)); refine blk_put (cs := #[.slice Ao10 t302.length co10, .slice none 0 0]) ?_ 1 _ rfl; (with_reducible repeat (first | refine blk_drewN ?_ _ | refine blk_drew ?_ | refine blk_alloc ?_ _)); refine blk_put (cs := #[.slice none 0 0, .slice none 0 0]) ?_ 0 _ rfl; (with_reducible repeat (first | refine blk_drewN ?_ _ | refine blk_drew ?_ | refine blk_alloc ?_ _)); exact BK301.out) Try.underlying32 rfl (by kernel_rfl)) rfl ?_
 exact ⟨_, _, fin_, rm_ (Kd.R_types HO304.out BK301.out (by decide)) (fun _ hk => hk.1.2), rm_ (Kd.R_types HO307.out BK301.out (by decide)) (fun _ hk => hk.1.2), bb_ HB.out⟩

end Go.Proofs.Ytchhgfgebomegaa.PFnSends
-- thin
