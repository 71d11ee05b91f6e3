/- The law's functions as plain functions, and their calls. No condition. -/
import Derived.Test.YtimdefbpoddoaaaPFnExactCheckTablex0
import Derived.Test.YtimdefbpoddoaaaPFnExactCheckTablex11
import Derived.Test.YtimdefbpoddoaaaPFnExactCheckTablex12
import Derived.Test.YtimdefbpoddoaaaPFnExactCheckTablex13
namespace Go.Proofs.Ytimdefbpoddoaaa.PFnExactCheckTable
open Go.RowKit Go.Proofs.YtimdefbpoddoaaaW.PrintWords Go.Proofs.YtimdefbpoddoaaaW.PrintLast Go.Proofs.YtimdefbpoddoaaaW.PrintMore
attribute [local go_sem] max2_int min2_int max_two min_two max_three min_three max_four min_four
set_option linter.unusedVariables false
set_option maxHeartbeats 8000000
set_option maxRecDepth 100000
set_option linter.unusedSimpArgs false

/-! ### impl_TableOk: function 78 -/
/-- One pair of nodes: is there a walk? -/
def impl_TableOk.v (k : Nat) (a0 a1 : Int) (l2 l3 : List Int) (x y : Int) : Option Bool := (impl_WalkTable.f k a0 a1 l2 l3 x y).bind fun ws => some (decide ((ws.length : Int) > 0))
theorem impl_TableOk.v_mono (k : Nat) (a0 a1 : Int) (l2 l3 : List Int) (x y : Int) : LeO (impl_TableOk.v k a0 a1 l2 l3 x y) (impl_TableOk.v (k + 1) a0 a1 l2 l3 x y) := by
 unfold impl_TableOk.v
 exact LeO.bind (impl_WalkTable.mono _ _ _ _ _ _ _) (fun _ => LeO.refl _)
mutual
def impl_TableOk.l1 : Nat → Int → Int → List Int → List Int → Int → Int → Option Bool
 | 0, _, _, _, _, _, _ => none
 | k + 1, a0, a1, l2, l3, n, x => if x < n then (impl_TableOk.l2 k a0 a1 l2 l3 n x 0) else (some true)
def impl_TableOk.l2 : Nat → Int → Int → List Int → List Int → Int → Int → Int → Option Bool
 | 0, _, _, _, _, _, _, _ => none
 | k + 1, a0, a1, l2, l3, n, x, y => if y < n then (if x = y then (impl_TableOk.l2 k a0 a1 l2 l3 n x (wrap64 (y + 1))) else ((impl_TableOk.v k a0 a1 l2 l3 x y).bind fun b => (if b = true then (impl_TableOk.l2 k a0 a1 l2 l3 n x (wrap64 (y + 1))) else (some false)))) else (impl_TableOk.l1 k a0 a1 l2 l3 n (wrap64 (x + 1)))
end
/-- The function 'pairs' at the function's own literal. -/
def impl_TableOk.ps (k : Nat) (a0 a1 : Int) (l2 l3 : List Int) : Option Bool := (impl_NodeCount.f a0 a1).bind fun n => impl_TableOk.l1 k a0 a1 l2 l3 n 0
def impl_TableOk.l0 : Nat → Int → Int → List Int → List Int → Int → Int → Option Bool
 | 0, _, _, _, _, _, _ => none
 | k + 1, a0, a1, l2, l3, n, x => if x < n then (if 0 ≤ wrap64 (wrap64 (x * n) + x) then (if wrap64 (wrap64 (x * n) + x) < (l3.length : Int) then (if rd l3 (wrap64 (wrap64 (x * n) + x)) = 4 then (impl_TableOk.l0 k a0 a1 l2 l3 n (wrap64 (x + 1))) else (some false)) else none) else none) else (impl_TableOk.ps k a0 a1 l2 l3)
def impl_TableOk.f (k : Nat) (a0 a1 : Int) (l2 l3 : List Int) : Option Bool := (impl_NodeCount.f a0 a1).bind fun n => (impl_MeshOk.f k a0 a1 l2).bind fun ok => (if ok = true then (if (l3.length : Int) = wrap64 (n * n) then (impl_TableOk.l0 k a0 a1 l2 l3 n 0) else (some false)) else (some false))
theorem impl_TableOk.mono_l : ∀ k, (∀ a0 a1 l2 l3 n x, LeO (impl_TableOk.l1 k a0 a1 l2 l3 n x) (impl_TableOk.l1 (k + 1) a0 a1 l2 l3 n x)) ∧ (∀ a0 a1 l2 l3 n x y, LeO (impl_TableOk.l2 k a0 a1 l2 l3 n x y) (impl_TableOk.l2 (k + 1) a0 a1 l2 l3 n x y))
 | 0 => ⟨fun _ _ _ _ _ _ r h => by simp [impl_TableOk.l1] at h, fun _ _ _ _ _ _ _ r h => by simp [impl_TableOk.l2] at h⟩
 | k + 1 => by
  obtain ⟨ih1, ih2⟩ := impl_TableOk.mono_l k
  refine ⟨fun a0 a1 l2 l3 n x => ?_, fun a0 a1 l2 l3 n x y => ?_⟩
  ·unfold impl_TableOk.l1
   exact LeO.ite (ih2 _ _ _ _ _ _ _) (LeO.refl _)
  ·unfold impl_TableOk.l2
   exact LeO.ite (LeO.ite (ih2 _ _ _ _ _ _ _) (LeO.bind (impl_TableOk.v_mono _ _ _ _ _ _ _) (fun _ => LeO.ite (ih2 _ _ _ _ _ _ _) (LeO.refl _)))) (ih1 _ _ _ _ _ _)
theorem impl_TableOk.ps_mono (k : Nat) (a0 a1 : Int) (l2 l3 : List Int) : LeO (impl_TableOk.ps k a0 a1 l2 l3) (impl_TableOk.ps (k + 1) a0 a1 l2 l3) := by
 unfold impl_TableOk.ps
 exact LeO.bind (LeO.refl _) (fun _ => (impl_TableOk.mono_l k).1 _ _ _ _ _ _)
theorem impl_TableOk.mono_0 : ∀ k a0 a1 l2 l3 n x, LeO (impl_TableOk.l0 k a0 a1 l2 l3 n x) (impl_TableOk.l0 (k + 1) a0 a1 l2 l3 n x)
 | 0, _, _, _, _, _, _ => fun r h => by simp [impl_TableOk.l0] at h
 | k + 1, a0, a1, l2, l3, n, x => by
  have ih := impl_TableOk.mono_0 k
  unfold impl_TableOk.l0
  exact LeO.ite (LeO.ite (LeO.ite (LeO.ite (ih _ _ _ _ _ _) (LeO.refl _)) (LeO.refl _)) (LeO.refl _)) (impl_TableOk.ps_mono _ _ _ _ _)
theorem impl_TableOk.mono (a0 a1 : Int) (l2 l3 : List Int) : ∀ k, LeO (impl_TableOk.f k a0 a1 l2 l3) (impl_TableOk.f (k + 1) a0 a1 l2 l3) := by
 intro k
 unfold impl_TableOk.f
 exact LeO.bind (LeO.refl _) (fun _ => LeO.bind (impl_MeshOk.mono _ _ _ _) (fun _ => LeO.ite (LeO.ite (impl_TableOk.mono_0 _ _ _ _ _ _ _) (LeO.refl _)) (LeO.refl _)))
theorem impl_TableOk.mkf (fn : Fn) (first cap : Array Value) (w : World) : (Instr.makeFunc fn first cap).run Try.prog w = .ok (.func fn first cap) w := rfl
set_option maxHeartbeats 2000000 in
/-- The function literal, at the two captured variables. -/
theorem impl_TableOk.clo (k : Nat) (a0 a1 : Int) (A2 : Option Addr) (c2 : Nat) (l2 : List Int) (A3 : Option Addr) (c3 : Nat) (l3 : List Int) (x y : Int) (r : Bool) (gm gt : Nat) (w : World)
  (hr2 : Kd.C (Kd.int .i64) w A2 l2.length l2) (hc2 : l2.length ≤ c2) (hr3 : Kd.C (Kd.int .i64) w A3 l3.length l3) (hc3 : l3.length ≤ c3)
  (hm0 : w.cell? ⟨gm, 0, none⟩ = some (.int .i64 a0)) (hm1 : w.cell? ⟨gm, 1, none⟩ = some (.int .i64 a1)) (hm2 : w.cell? ⟨gm, 2, none⟩ = some (.slice A2 l2.length c2)) (ht0 : w.cell? ⟨gt, 0, none⟩ = some (.slice A3 l3.length c3))
  (h : impl_TableOk.v k a0 a1 l2 l3 x y = some r) :
  Calls Try.prog 118 #[.int .i64 x, .int .i64 y, .pointer (some ⟨gm, 0, none⟩), .pointer (some ⟨gt, 0, none⟩)] w fun e w' => e = .returned (.bool r) ∧ Below w.heap.size w w' := by
 obtain ⟨ws, hw, hv⟩ := Option.bind_eq_some_iff.1 h
 obtain rfl := Option.some.inj hv
 have HR2 := Aside0.mk hr2
 have HC2 := Aside0.mk hc2
 have HR3 := Aside0.mk hr3
 have HC3 := Aside0.mk hc3
 have HW := Aside0.mk hw
 clear hr2 hc2 hr3 hc3 hw h hv
 go_enter Try.func118, Try.ntmps118
 go_wp2_with (first | (go_at_call 119; (with_reducible refine (impl_WalkTable.calls k a0 a1 A2 c2 l2 A3 c3 l3 x y ws _ ?side1 HC2.out ?side3 HC3.out HW.out).mono ?_); (case side1 => repeat (first | exact HR2.out | (with_reducible refine Kd.C_alloc ?_ _) | (with_reducible refine Kd.C_drewN ?_ _) | (with_reducible refine Kd.C_drew ?_))); (case side3 => repeat (first | exact HR3.out | (with_reducible refine Kd.C_alloc ?_ _) | (with_reducible refine Kd.C_drewN ?_ _) | (with_reducible refine Kd.C_drew ?_))); rintro e w' ⟨v, rfl, ho, hb⟩; obtain ⟨A, c, rfl⟩ := Kd.R_slice ho; have HB := Aside0.mk hb; clear ho hb))
 go_ret
 exact ⟨by first | rfl | (simp; done), HB.out⟩
set_option maxHeartbeats 2000000 in
/-- 'pairs' at the function literal, the captured variables in two blocks. -/
theorem impl_TableOk.prs (k : Nat) (a0 a1 : Int) (A2 : Option Addr) (c2 : Nat) (l2 : List Int) (A3 : Option Addr) (c3 : Nat) (l3 : List Int) (r : Bool) (gm gt : Nat) (w : World)
  (hr2 : Kd.C (Kd.int .i64) w A2 l2.length l2) (hc2 : l2.length ≤ c2) (hr3 : Kd.C (Kd.int .i64) w A3 l3.length l3) (hc3 : l3.length ≤ c3)
  (hm0 : w.cell? ⟨gm, 0, none⟩ = some (.int .i64 a0)) (hm1 : w.cell? ⟨gm, 1, none⟩ = some (.int .i64 a1)) (hm2 : w.cell? ⟨gm, 2, none⟩ = some (.slice A2 l2.length c2)) (ht0 : w.cell? ⟨gt, 0, none⟩ = some (.slice A3 l3.length c3))
  (h : impl_TableOk.ps k a0 a1 l2 l3 = some r) :
  Calls Try.prog 117 #[.agg #[.int .i64 a0, .int .i64 a1], .func (.func 118) #[] #[.pointer (some ⟨gm, 0, none⟩), .pointer (some ⟨gt, 0, none⟩)]] w fun e w' => e = .returned (.bool r) ∧ Below w.heap.size w w' := by
 obtain ⟨n, hn, h1⟩ := Option.bind_eq_some_iff.1 h
 have HR2 := Aside0.mk hr2
 have HC2 := Aside0.mk hc2
 have HR3 := Aside0.mk hr3
 have HC3 := Aside0.mk hc3
 have HM0 := Aside0.mk hm0
 have HM1 := Aside0.mk hm1
 have HM2 := Aside0.mk hm2
 have HT0 := Aside0.mk ht0
 have HN := Aside0.mk hn
 have H' := Aside0.mk h1
 clear hr2 hc2 hr3 hc3 hm0 hm1 hm2 ht0 hn h1 h
 have HB := Aside0.mk (Below.refl w.heap.size w)
 go_enter Try.func117, Try.ntmps117
 go_wp2_with (first | (go_at_call 95; (with_reducible refine (impl_NodeCount.calls a0 a1 n _ HN.out).mono ?_); rintro e w' ⟨rfl, hb⟩; have HB1 := Aside0.mk (bs_ HB.out hb); clear HB hb; have HB := HB1; clear HB1))
 go_loopg [11] k (fun kq v11 w' => ∃ x : Int, v11 = .int .i64 x ∧ Aside0 (impl_TableOk.l1 kq a0 a1 l2 l3 n x = some r) ∧ Aside0 (kq ≤ k) ∧ Aside0 (Below w.heap.size w w'))
 case atStart => exact ⟨0, (by first | rfl | (simp; done)), H', ⟨Nat.le_refl _⟩, ⟨bb_ HB.out⟩⟩
 clear H' HB
 obtain ⟨x, rfl, HA, HK1, HB⟩ := hrel
 obtain _ | k1 := gk
 ·exact absurd HA.out (by simp [impl_TableOk.l1])
 have H := HA.out
 clear HA
 simp only [impl_TableOk.l1] at H
 by_cases c1 : x < n
 rotate_left
 ·rw [if_neg c1] at H
  have c1b : decide (x < n) = false := decide_eq_false c1
  clear c1
  obtain rfl := Option.some.inj H
  go_wp2
  go_ret
  exact ⟨by first | rfl | (simp; done), HB.out⟩
 rw [if_pos c1] at H
 have c1b : decide (x < n) = true := decide_eq_true c1
 clear c1
 have H' := Aside0.mk H
 clear H
 go_wp2
 go_loopg [15] k1 (fun kq v15 w' => ∃ y : Int, v15 = .int .i64 y ∧ Aside0 (impl_TableOk.l2 kq a0 a1 l2 l3 n x y = some r) ∧ Aside0 (kq ≤ k1) ∧ Aside0 (Below w.heap.size w w'))
 case atStart => exact ⟨0, (by first | rfl | (simp; done)), H', ⟨Nat.le_refl _⟩, ⟨bb_ HB.out⟩⟩
 clear H' HB c1b
 obtain ⟨y, rfl, HA, HK2, HB⟩ := hrel
 obtain _ | k2 := gk
 ·exact absurd HA.out (by simp [impl_TableOk.l2])
 have H := HA.out
 clear HA
 simp only [impl_TableOk.l2] at H
 by_cases c2 : y < n
 rotate_left
 ·rw [if_neg c2] at H
  have c2b : decide (y < n) = false := decide_eq_false c2
  clear c2
  have H' := Aside0.mk H
  clear H
  go_wp2
  go_roundg k2
  case measure => have := HK1.out; have := HK2.out; omega
  case rel => exact ⟨wrap64 (x + 1), (by first | rfl | (simp; done)), H', ⟨by have := HK1.out; have := HK2.out; omega⟩, HB⟩
 rw [if_pos c2] at H
 have c2b : decide (y < n) = true := decide_eq_true c2
 clear c2
 by_cases c3 : x = y
 ·rw [if_pos c3] at H
  have c3b : (x == y) = true := beq_iff_eq.mpr c3
  have c3c : (x != y) = false := bne_eq_false_iff_eq.mpr c3
  clear c3
  have H' := Aside0.mk H
  clear H
  go_wp2
  go_roundg k2
  case measure => have := HK2.out; omega
  case rel => exact ⟨wrap64 (y + 1), (by first | rfl | (simp; done)), H', ⟨by have := HK2.out; omega⟩, HB⟩
 rw [if_neg c3] at H
 have c3b : (x == y) = false := beq_eq_false_iff_ne.mpr c3
 have c3c : (x != y) = true := bne_iff_ne.mpr c3
 clear c3
 obtain ⟨b, hb0, H2⟩ := Option.bind_eq_some_iff.1 H
 clear H
 have HV := Aside0.mk hb0
 clear hb0
 cases b with
 | true =>
  have H3 : impl_TableOk.l2 k2 a0 a1 l2 l3 n x (wrap64 (y + 1)) = some r := H2
  clear H2
  have H' := Aside0.mk H3
  clear H3
  go_wp2_with fail
  refine (impl_TableOk.clo k2 a0 a1 A2 c2 l2 A3 c3 l3 x y true gm gt _ (Kd.C_below HR2.out HB.out) HC2.out (Kd.C_below HR3.out HB.out) HC3.out (pw_cell_below HB.out HM0.out) (pw_cell_below HB.out HM1.out) (pw_cell_below HB.out HM2.out) (pw_cell_below HB.out HT0.out) HV.out).mono ?_
  rintro e w' ⟨rfl, hb⟩
  have HB1 := Aside0.mk (below_step HB.out hb)
  clear HB hb
  have HB := HB1
  clear HB1
  go_wp2
  go_roundg k2
  case measure => have := HK2.out; omega
  case rel => exact ⟨wrap64 (y + 1), (by first | rfl | (simp; done)), H', ⟨by have := HK2.out; omega⟩, HB⟩
 | false =>
  have H3 : some false = some r := H2
  clear H2
  obtain rfl := Option.some.inj H3
  clear H3
  go_wp2_with fail
  refine (impl_TableOk.clo k2 a0 a1 A2 c2 l2 A3 c3 l3 x y false gm gt _ (Kd.C_below HR2.out HB.out) HC2.out (Kd.C_below HR3.out HB.out) HC3.out (pw_cell_below HB.out HM0.out) (pw_cell_below HB.out HM1.out) (pw_cell_below HB.out HM2.out) (pw_cell_below HB.out HT0.out) HV.out).mono ?_
  rintro e w' ⟨rfl, hb⟩
  have HB1 := Aside0.mk (below_step HB.out hb)
  clear HB hb
  have HB := HB1
  clear HB1
  go_wp2
  go_ret
  exact ⟨by first | rfl | (simp; done), HB.out⟩
set_option maxHeartbeats 4000000 in
theorem impl_TableOk.calls (k : Nat) (a0_0 : Int) (a0_1 : Int) (A0_2 : Option Addr) (c0_2 : Nat) (l0_2 : List Int) (A1_0 : Option Addr) (c1_0 : Nat) (l1_0 : List Int) (r : Bool) (w : World) (hr0_2 : Kd.C (Kd.int .i64) w A0_2 l0_2.length l0_2) (hc0_2 : l0_2.length ≤ c0_2) (hr1_0 : Kd.C (Kd.int .i64) w A1_0 l1_0.length l1_0) (hc1_0 : l1_0.length ≤ c1_0) (h : impl_TableOk.f k a0_0 a0_1 l0_2 l1_0 = some r) :
  Calls Try.prog 78 #[.agg #[.int .i64 a0_0, .int .i64 a0_1, .slice A0_2 l0_2.length c0_2], .agg #[.slice A1_0 l1_0.length c1_0]] w fun e w' => e = .returned (.bool r) ∧ Below w.heap.size w w' := by
 have hmf := impl_TableOk.mkf
 obtain ⟨n, hn, h1⟩ := Option.bind_eq_some_iff.1 h
 obtain ⟨ok, ho, h2⟩ := Option.bind_eq_some_iff.1 h1
 have HR2 := Aside0.mk hr0_2
 have HC2 := Aside0.mk hc0_2
 have HR3 := Aside0.mk hr1_0
 have HC3 := Aside0.mk hc1_0
 have HN := Aside0.mk hn
 have HO := Aside0.mk ho
 have H2 := Aside0.mk h2
 clear hr0_2 hc0_2 hr1_0 hc1_0 hn ho h h1 h2
 go_enter Try.func78, Try.ntmps78
 go_wp2_with (first | ((with_reducible refine gate_dst (N := 2) rfl ?_); refine box_event ?hg (N := 2) ?hd (cs := #[.int .i64 a0_0, .int .i64 a0_1, .slice A0_2 l0_2.length c0_2]) (t := 44) ?hr ?_; (case hd => rfl); (case hg => rfl); (case hr => first | (go_simp; done) | (go_simp; rfl)); intro gm hgm w1 hbx1 hb1; clear hgm; have HB1 := Aside0.mk hb1; have BX1 := Aside0.mk hbx1; clear hb1 hbx1) | ((with_reducible refine gate_dst (N := 3) rfl ?_); refine box_event ?hg (N := 3) ?hd (cs := #[.slice A1_0 l1_0.length c1_0]) (t := 46) ?hr ?_; (case hd => rfl); (case hg => rfl); (case hr => first | (go_simp; done) | (go_simp; rfl)); intro gt hgt w2 hbx2 hb2; clear hgt; have HB2 := Aside0.mk (below_step HB1.out hb2); have BX2 := Aside0.mk hbx2; have hm0 : w2.cell? ⟨gm, 0, none⟩ = some (.int .i64 a0_0) := pw_cell_below hb2 ((blk_cell BX1.out 0).trans rfl); have hm1 : w2.cell? ⟨gm, 1, none⟩ = some (.int .i64 a0_1) := pw_cell_below hb2 ((blk_cell BX1.out 1).trans rfl); have hm2 : w2.cell? ⟨gm, 2, none⟩ = some (.slice A0_2 l0_2.length c0_2) := pw_cell_below hb2 ((blk_cell BX1.out 2).trans rfl); have ht0 : w2.cell? ⟨gt, 0, none⟩ = some (.slice A1_0 l1_0.length c1_0) := (blk_cell BX2.out 0).trans rfl; clear hb2 hbx2))
 refine (impl_NodeCount.calls a0_0 a0_1 n _ HN.out).mono ?_
 rintro e w3 ⟨rfl, hb3⟩
 replace hm0 := pw_cell_below hb3 hm0
 replace hm1 := pw_cell_below hb3 hm1
 replace hm2 := pw_cell_below hb3 hm2
 replace ht0 := pw_cell_below hb3 ht0
 have HB3 := Aside0.mk (below_step HB2.out hb3)
 clear hb3
 go_wp2_with fail
 refine (impl_MeshOk.calls k a0_0 a0_1 A0_2 c0_2 l0_2 ok _ (Kd.C_below HR2.out HB3.out) HC2.out HO.out).mono ?_
 rintro e w4 ⟨rfl, hb4⟩
 replace hm0 := pw_cell_below hb4 hm0
 replace hm1 := pw_cell_below hb4 hm1
 replace hm2 := pw_cell_below hb4 hm2
 replace ht0 := pw_cell_below hb4 ht0
 have HB4 := Aside0.mk (below_step HB3.out hb4)
 clear hb4
 cases ok with
 | false =>
  have h3 : some false = some r := H2.out
  obtain rfl := Option.some.inj h3
  clear h3 H2
  go_wp2
  go_ret
  exact ⟨by first | rfl | (simp; done), HB4.out⟩
 | true =>
  have h3 : (if (l1_0.length : Int) = wrap64 (n * n) then (impl_TableOk.l0 k a0_0 a0_1 l0_2 l1_0 n 0) else (some false)) = some r := H2.out
  clear H2
  by_cases cl : (l1_0.length : Int) = wrap64 (n * n)
  ·rw [if_pos cl] at h3
   have clb : ((l1_0.length : Int) == wrap64 (n * n)) = true := beq_iff_eq.mpr cl
   have clc : ((l1_0.length : Int) != wrap64 (n * n)) = false := bne_eq_false_iff_eq.mpr cl
   clear cl
   have H' := Aside0.mk h3
   clear h3
   go_wp2
   go_loopg [23] k (fun kq v23 w' => ∃ x : Int, v23 = .int .i64 x ∧ Aside0 (impl_TableOk.l0 kq a0_0 a0_1 l0_2 l1_0 n x = some r) ∧ Aside0 (kq ≤ k) ∧ w' = w4)
   case atStart => exact ⟨0, (by first | rfl | (simp; done)), H', ⟨Nat.le_refl _⟩, rfl⟩
   clear H' clb clc
   obtain ⟨x, rfl, HA, HK1, rfl⟩ := hrel
   obtain _ | k1 := gk
   ·exact absurd HA.out (by simp [impl_TableOk.l0])
   have H := HA.out
   clear HA
   simp only [impl_TableOk.l0] at H
   by_cases c1 : x < n
   rotate_left
   ·rw [if_neg c1] at H
    have c1b : decide (x < n) = false := decide_eq_false c1
    clear c1
    have HP := Aside0.mk H
    clear H
    go_wp2_with fail
    refine (impl_TableOk.prs k1 a0_0 a0_1 A0_2 c0_2 l0_2 A1_0 c1_0 l1_0 r gm gt _ (Kd.C_below HR2.out HB4.out) HC2.out (Kd.C_below HR3.out HB4.out) HC3.out hm0 hm1 hm2 ht0 HP.out).mono ?_
    rintro e w5 ⟨rfl, hb5⟩
    have HB5 := Aside0.mk (below_step HB4.out hb5)
    clear hb5 hm0 hm1 hm2 ht0
    go_wp2
    go_ret
    exact ⟨by first | rfl | (simp; done), HB5.out⟩
   rw [if_pos c1] at H
   have c1b : decide (x < n) = true := decide_eq_true c1
   clear c1
   by_cases c2 : 0 ≤ wrap64 (wrap64 (x * n) + x)
   rotate_left
   ·rw [if_neg c2] at H
    exact absurd H (by simp)
   rw [if_pos c2] at H
   by_cases c3 : wrap64 (wrap64 (x * n) + x) < (l1_0.length : Int)
   rotate_left
   ·rw [if_neg c3] at H
    exact absurd H (by simp)
   rw [if_pos c3] at H
   obtain ⟨ad, ea, hx⟩ := Kd.at_int (Kd.C_below HR3.out HB4.out) (wrap64 (wrap64 (x * n) + x)) c2 c3
   cases ea
   have c2b : decide (0 ≤ wrap64 (wrap64 (x * n) + x)) = true := decide_eq_true c2
   have c3b : decide (wrap64 (wrap64 (x * n) + x) < (l1_0.length : Int)) = true := decide_eq_true c3
   replace c2 := eq_true c2
   replace c3 := eq_true c3
   by_cases c4 : rd l1_0 (wrap64 (wrap64 (x * n) + x)) = 4
   rotate_left
   ·rw [if_neg c4] at H
    have c4b : (rd l1_0 (wrap64 (wrap64 (x * n) + x)) == 4) = false := beq_eq_false_iff_ne.mpr c4
    have c4c : (rd l1_0 (wrap64 (wrap64 (x * n) + x)) != 4) = true := bne_iff_ne.mpr c4
    clear c4
    obtain rfl := Option.some.inj H
    go_wp2
    go_ret
    exact ⟨by first | rfl | (simp; done), HB4.out⟩
   rw [if_pos c4] at H
   have c4b : (rd l1_0 (wrap64 (wrap64 (x * n) + x)) == 4) = true := beq_iff_eq.mpr c4
   have c4c : (rd l1_0 (wrap64 (wrap64 (x * n) + x)) != 4) = false := bne_eq_false_iff_eq.mpr c4
   clear c4
   have H' := Aside0.mk H
   clear H
   go_wp2
   go_roundg k1
   case measure => have := HK1.out; omega
   case rel => exact ⟨wrap64 (x + 1), (by first | rfl | (simp; done)), H', ⟨by have := HK1.out; omega⟩, rfl⟩
  ·rw [if_neg cl] at h3
   have clb : ((l1_0.length : Int) == wrap64 (n * n)) = false := beq_eq_false_iff_ne.mpr cl
   have clc : ((l1_0.length : Int) != wrap64 (n * n)) = true := bne_iff_ne.mpr cl
   clear cl
   obtain rfl := Option.some.inj h3
   clear h3
   go_wp2
   go_ret
   exact ⟨by first | rfl | (simp; done), HB4.out⟩

/-! ### impl_DependsOf: function 60 -/
/-- The dependencies along one walk, put behind what there is. -/
def impl_DependsOf.l3 : Nat → List Int → Int → List S94 → Option (List S94)
 | 0, _, _, _ => none
 | k + 1, ws, i, o => if i < (ws.length : Int) then (if 0 ≤ wrap64 (i - 1) then (if wrap64 (i - 1) < (ws.length : Int) then (if 0 ≤ i then (if o.length < 8796093022208 then (impl_DependsOf.l3 k ws (wrap64 (i + 1)) (o ++ [(⟨rd ws (wrap64 (i - 1)), rd ws i⟩ : S94)])) else none) else none) else none) else none) else (some o)
def impl_DependsOf.v (k : Nat) (a0 a1 : Int) (l2 l3 : List Int) (x y : Int) (o : List S94) : Option (List S94) := (impl_WalkTable.f k a0 a1 l2 l3 x y).bind fun ws => impl_DependsOf.l3 k ws 1 o
mutual
def impl_DependsOf.l1 : Nat → Int → Int → List Int → List Int → Int → Int → List S94 → Option (List S94)
 | 0, _, _, _, _, _, _, _ => none
 | k + 1, a0, a1, l2, l3, n, x, o => if x < n then (impl_DependsOf.l2 k a0 a1 l2 l3 n x 0 o) else (some o)
def impl_DependsOf.l2 : Nat → Int → Int → List Int → List Int → Int → Int → Int → List S94 → Option (List S94)
 | 0, _, _, _, _, _, _, _, _ => none
 | k + 1, a0, a1, l2, l3, n, x, y, o => if y < n then (if x = y then (impl_DependsOf.l2 k a0 a1 l2 l3 n x (wrap64 (y + 1)) o) else ((impl_DependsOf.v k a0 a1 l2 l3 x y o).bind fun o' => impl_DependsOf.l2 k a0 a1 l2 l3 n x (wrap64 (y + 1)) o')) else (impl_DependsOf.l1 k a0 a1 l2 l3 n (wrap64 (x + 1)) o)
end
def impl_DependsOf.ps (k : Nat) (a0 a1 : Int) (l2 l3 : List Int) (o : List S94) : Option (List S94) := (impl_NodeCount.f a0 a1).bind fun n => impl_DependsOf.l1 k a0 a1 l2 l3 n 0 o
def impl_DependsOf.f (k : Nat) (a0 a1 : Int) (l2 l3 : List Int) : Option (List S94) := (impl_TableOk.f k a0 a1 l2 l3).bind fun ok => (if ok = true then ((impl_DependsOf.ps k a0 a1 l2 l3 []).bind fun o => impl_arranged.f o) else (some []))
theorem impl_DependsOf.mono_l3 : ∀ k ws i o, LeO (impl_DependsOf.l3 k ws i o) (impl_DependsOf.l3 (k + 1) ws i o)
 | 0, _, _, _ => fun r h => by simp [impl_DependsOf.l3] at h
 | k + 1, ws, i, o => by
  have ih := impl_DependsOf.mono_l3 k
  unfold impl_DependsOf.l3
  exact LeO.ite (LeO.ite (LeO.ite (LeO.ite (LeO.ite (ih _ _ _) (LeO.refl _)) (LeO.refl _)) (LeO.refl _)) (LeO.refl _)) (LeO.refl _)
theorem impl_DependsOf.v_mono (k : Nat) (a0 a1 : Int) (l2 l3 : List Int) (x y : Int) (o : List S94) : LeO (impl_DependsOf.v k a0 a1 l2 l3 x y o) (impl_DependsOf.v (k + 1) a0 a1 l2 l3 x y o) := by
 unfold impl_DependsOf.v
 exact LeO.bind (impl_WalkTable.mono _ _ _ _ _ _ _) (fun _ => impl_DependsOf.mono_l3 _ _ _ _)
theorem impl_DependsOf.mono_l : ∀ k, (∀ a0 a1 l2 l3 n x o, LeO (impl_DependsOf.l1 k a0 a1 l2 l3 n x o) (impl_DependsOf.l1 (k + 1) a0 a1 l2 l3 n x o)) ∧ (∀ a0 a1 l2 l3 n x y o, LeO (impl_DependsOf.l2 k a0 a1 l2 l3 n x y o) (impl_DependsOf.l2 (k + 1) a0 a1 l2 l3 n x y o))
 | 0 => ⟨fun _ _ _ _ _ _ _ r h => by simp [impl_DependsOf.l1] at h, fun _ _ _ _ _ _ _ _ r h => by simp [impl_DependsOf.l2] at h⟩
 | k + 1 => by
  obtain ⟨ih1, ih2⟩ := impl_DependsOf.mono_l k
  refine ⟨fun a0 a1 l2 l3 n x o => ?_, fun a0 a1 l2 l3 n x y o => ?_⟩
  ·unfold impl_DependsOf.l1
   exact LeO.ite (ih2 _ _ _ _ _ _ _ _) (LeO.refl _)
  ·unfold impl_DependsOf.l2
   exact LeO.ite (LeO.ite (ih2 _ _ _ _ _ _ _ _) (LeO.bind (impl_DependsOf.v_mono _ _ _ _ _ _ _ _) (fun _ => ih2 _ _ _ _ _ _ _ _))) (ih1 _ _ _ _ _ _ _)
theorem impl_DependsOf.ps_mono (k : Nat) (a0 a1 : Int) (l2 l3 : List Int) (o : List S94) : LeO (impl_DependsOf.ps k a0 a1 l2 l3 o) (impl_DependsOf.ps (k + 1) a0 a1 l2 l3 o) := by
 unfold impl_DependsOf.ps
 exact LeO.bind (LeO.refl _) (fun _ => (impl_DependsOf.mono_l k).1 _ _ _ _ _ _ _)
theorem impl_DependsOf.mono (a0 a1 : Int) (l2 l3 : List Int) : ∀ k, LeO (impl_DependsOf.f k a0 a1 l2 l3) (impl_DependsOf.f (k + 1) a0 a1 l2 l3) := by
 intro k
 unfold impl_DependsOf.f
 exact LeO.bind (impl_TableOk.mono _ _ _ _ _) (fun _ => LeO.ite (LeO.bind (impl_DependsOf.ps_mono _ _ _ _ _ _) (fun _ => LeO.refl _)) (LeO.refl _))
/-- What a call beneath may write: the box g, and rows of dependencies. -/
def impl_DependsOf.St (g : Nat) (w W : World) : Prop := w.heap.size ≤ W.heap.size ∧ ∀ k, k < w.heap.size → k ≠ g → (∀ cs, w.heap[k]? ≠ some (.cells cs 94 (0, 0))) → W.heap[k]? = w.heap[k]?
theorem impl_DependsOf.St.trans {g : Nat} {w V W : World} (h1 : impl_DependsOf.St g w V) (h2 : impl_DependsOf.St g V W) : impl_DependsOf.St g w W := ⟨Nat.le_trans h1.1 h2.1, fun k hk hg hc => by
 have e := h1.2 k hk hg hc
 rw [h2.2 k (Nat.lt_of_lt_of_le hk h1.1) hg (by rw [e]; exact hc), e]⟩
theorem impl_DependsOf.St.of_below {g : Nat} {w W : World} (h : Below w.heap.size w W) : impl_DependsOf.St g w W := ⟨h.size, fun k hk _ _ => h.block k hk⟩
theorem impl_DependsOf.St.blk {g gb : Nat} {w W : World} {t : TypeId} {cs : Array Value} (h : impl_DependsOf.St g w W) (hb : w.heap[gb]? = some (.cells cs t (0, 0))) (hg : gb ≠ g) (ht : t ≠ 94) : W.heap[gb]? = some (.cells cs t (0, 0)) := (h.2 gb (blk_lt hb) hg (fun cs' e => by
 rw [hb] at e
 injection e with e
 injection e with _ e _
 exact ht e)).trans hb
theorem impl_DependsOf.St.grown {g base : Nat} {ok : Nat → Prop} {W w1 : World} {v : Value} {o : List S94} (hg : W.grownBy w1 v.ownBlock) (hR : Kd.R k94 94 W base ok v o) : impl_DependsOf.St g W w1 := ⟨hg.size, fun k hk _ hc => hg.block k hk (fun e => by
 obtain ⟨cells, h⟩ := Kd.R_typed hR k e.symm
 exact hc cells h)⟩
theorem impl_DependsOf.St.set (g : Nat) (w : World) (u : Value) : impl_DependsOf.St g w (w.setCell ⟨g, 0, none⟩ u) := ⟨((Below.refl 0 w).setCell (p := ⟨g, 0, none⟩) (Nat.zero_le _) u).size, fun k _ hg _ => Below.heap_setCell w ⟨g, 0, none⟩ u k hg⟩
theorem impl_DependsOf.St.ri {g base : Nat} {ok : Nat → Prop} {w W : World} {v u : Value} {xs : List Int} (h : impl_DependsOf.St g w W) (hgo : w.heap[g]? = some (.cells #[u] 22 (0, 0))) (hR : Kd.R (Kd.int .i64) 3 w base ok v xs) : Kd.R (Kd.int .i64) 3 W base ok v xs :=
 Kd.R_mono (Kd.R_move (Kd.R_bound hR) (fun k hk => by
  obtain ⟨_, _, hlt, q, hq, cells, hc⟩ := hk
  have hq : q ∈ [3] := hq
  rw [List.mem_singleton] at hq
  subst hq
  refine h.2 k hlt (fun e => ?_) (fun cs e => ?_)
  ·rw [e, hgo] at hc
   injection hc with hc
   injection hc with _ hc _
   exact absurd hc (by decide)
  ·rw [hc] at e
   injection e with e
   injection e with _ e _
   exact absurd e (by decide))) (fun _ hk => hk.1)
theorem impl_DependsOf.inf : (Try.prog.info? 94).map (fun i => (i.zero, i.size, i.bytes)) = some (some (.agg #[(.int .i64 0), (.int .i64 0)]), 2, 16) := by kernel_rfl
/-- The list so far, in its box. -/
def impl_DependsOf.Ok (w0 : World) (g : Nat) (w : World) (o : List S94) : Prop := Below w0.heap.size w0 w ∧ w0.heap.size ≤ g ∧ ∃ v, w.heap[g]? = some (.cells #[v] 22 (0, 0)) ∧ Kd.R k94 94 w w0.heap.size (fun _ => True) v o
theorem impl_DependsOf.Ok.below {w0 w W : World} {g : Nat} {o : List S94} (h : impl_DependsOf.Ok w0 g w o) (hb : Below w.heap.size w W) : impl_DependsOf.Ok w0 g W o := by
 obtain ⟨h1, h2, v, h3, h4⟩ := h
 exact ⟨below_step h1 hb, h2, v, blk_below h3 hb, Kd.R_below h4 hb⟩
set_option maxHeartbeats 2000000 in
/-- The function literal: one dependency more. -/
theorem impl_DependsOf.vis (g : Nat) (x y : Int) (o : List S94) (w0 w : World) (hok : impl_DependsOf.Ok w0 g w o) (hl : o.length < 8796093022208) :
  Calls Try.prog 101 #[.int .i64 x, .int .i64 y, .pointer (some ⟨g, 0, none⟩)] w fun e w' => e = .returned (.tuple #[]) ∧ impl_DependsOf.Ok w0 g w' (o ++ [(⟨x, y⟩ : S94)]) ∧ impl_DependsOf.St g w w' := by
 obtain ⟨hB, hg, v, hb, hR⟩ := hok
 obtain ⟨hcz, hfz⟩ := cz1_ hb
 have HBK := Aside0.mk hb
 have HR := Aside0.mk hR
 have HB := Aside0.mk hB
 have HG := Aside0.mk hg
 have HL := Aside0.mk hl
 have HS := Aside0.mk (Below.refl w.heap.size w)
 have HNE := Aside0.mk (show some g ≠ v.ownBlock from fun e => by
  obtain ⟨cells, hc⟩ := Kd.R_typed hR g e.symm
  rw [hb] at hc
  injection hc with hc
  injection hc with _ hc _
  exact absurd hc (by decide))
 clear hb hR hB hg hl
 go_enter Try.func101, Try.ntmps101
 go_wp2_with (first | ((with_reducible refine gate_builtin (b := .append) (xs := #[.tmp 5, .tmp 9]) rfl ?_); at_builtin; refine Kd.R_append k94 (w0 := w0) w0.heap.size rfl (.tmp 5) (.tmp 9) 22 94 (.agg #[(.int .i64 0), (.int .i64 0)]) 16 rfl Try.underlying22 impl_DependsOf.inf rfl (by decide) (by omega) v o (⟨x, y⟩ : S94) [.int .i64 x, .int .i64 y] (fun _ => True) (fun _ => False) rfl rfl ?aP (fun _ hk => hk.elim) ?aF ?aO ?aB ?aS ?aL ?_; (case aP => exact k94_mkM _ _ _ (⟨x, y⟩ : S94)); (case aF => exact fun _ _ => trivial); (case aO => exact (ra_ HR.out)); (case aB => exact bb_ HB.out); (case aS => exact bz_ HB.out); (case aL => have := HL.out; omega); intro v1 w1 ho hb1 hg1 hat; (generalize hq : o ++ [(⟨x, y⟩ : S94)] = q at ho); have HQ := Aside0.mk hq; clear hq; obtain ⟨Ao, co, rfl⟩ := Kd.R_slice ho; have HO := Aside0.mk ho; have HB1 := Aside0.mk hb1; have HS1 := Aside0.mk (impl_DependsOf.St.trans (g := g) (impl_DependsOf.St.of_below (bb_ HS.out)) (impl_DependsOf.St.grown hg1 (ra_ HR.out))); have HBK1 := Aside0.mk (blk_grown (bq_ HBK.out) hg1 HNE.out); clear ho hb1 hg1 hat hcz hfz; obtain ⟨hcz, hfz⟩ := cz1_ HBK1.out))
 go_end0
 rw [HQ.out]
 exact ⟨by first | rfl | (simp; done), ⟨HB1.out.setCell HG.out _, HG.out, _, blk_put HBK1.out 0 _ rfl, Kd.R_set HO.out HBK1.out (by decide) 0 _⟩, impl_DependsOf.St.trans HS1.out (impl_DependsOf.St.set g _ _)⟩
set_option maxHeartbeats 4000000 in
/-- The function literal of 'adjacent': the walk between two nodes, hop by hop. -/
theorem impl_DependsOf.adj1 (k : Nat) (a0 a1 : Int) (A2 : Option Addr) (c2 : Nat) (l2 : List Int) (A3 : Option Addr) (c3 : Nat) (l3 : List Int) (x y : Int) (o r : List S94) (gm gt gv g : Nat) (w0 w : World)
  (hr2 : Kd.C (Kd.int .i64) w0 A2 l2.length l2) (hc2 : l2.length ≤ c2) (hr3 : Kd.C (Kd.int .i64) w0 A3 l3.length l3) (hc3 : l3.length ≤ c3)
  (bm : w.heap[gm]? = some (.cells #[.int .i64 a0, .int .i64 a1, .slice A2 l2.length c2] 44 (0, 0))) (bt : w.heap[gt]? = some (.cells #[.slice A3 l3.length c3] 46 (0, 0)))
  (bv : w.heap[gv]? = some (.cells #[.func (.func 101) #[] #[.pointer (some ⟨g, 0, none⟩)]] 121 (0, 0)))
  (hok : impl_DependsOf.Ok w0 g w o) (h : impl_DependsOf.v k a0 a1 l2 l3 x y o = some r) :
  Calls Try.prog 134 #[.int .i64 x, .int .i64 y, .pointer (some ⟨gm, 0, none⟩), .pointer (some ⟨gt, 0, none⟩), .pointer (some ⟨gv, 0, none⟩)] w fun e w' => e = .returned (.bool true) ∧ impl_DependsOf.Ok w0 g w' r ∧ impl_DependsOf.St g w w' := by
 obtain ⟨ws, hw, hv⟩ := Option.bind_eq_some_iff.1 h
 obtain ⟨hm0, hm1, hm2, fm0, fm1, fm2⟩ := cz3_ bm
 obtain ⟨ht0, ft0⟩ := cz1_ bt
 have HR2 := Aside0.mk (Kd.C_below hr2 hok.1)
 have HR3 := Aside0.mk (Kd.C_below hr3 hok.1)
 have HC2 := Aside0.mk hc2
 have HC3 := Aside0.mk hc3
 have HW := Aside0.mk hw
 have HV := Aside0.mk hv
 have HGV := Aside0.mk (show gv ≠ g from by
  obtain ⟨_, _, v, hb, _⟩ := hok
  exact blk_ne bv hb (by decide))
 have HBV := Aside0.mk bv
 have HO := Aside0.mk hok
 have HS := Aside0.mk (Below.refl w.heap.size w)
 clear hr2 hr3 hc2 hc3 hw hv h bm bt bv hok
 go_enter Try.func134, Try.ntmps134
 go_wp2_with (first | (go_at_call 119; (with_reducible refine (impl_WalkTable.calls k a0 a1 A2 c2 l2 A3 c3 l3 x y ws _ ?side1 HC2.out ?side2 HC3.out HW.out).mono ?_); (case side1 => exact cb_ HR2.out HS.out); (case side2 => exact cb_ HR3.out HS.out); rintro e w1 ⟨v, rfl, hR, hb⟩; obtain ⟨Aw, cw, rfl⟩ := Kd.R_slice hR; have HS1 := Aside0.mk (bs_ HS.out hb); have HWK := Aside0.mk (Kd.R_lower hR (bz_ HO.out.1)); clear hR hb hm0 hm1 hm2 fm0 fm1 fm2 ht0 ft0))
 go_loopg [9] k (fun kq v9 w' => ∃ (i : Int) (q : List S94), v9 = .int .i64 i ∧ Aside0 (impl_DependsOf.l3 kq ws i q = some r) ∧ Aside0 (kq ≤ k) ∧ Aside0 (impl_DependsOf.Ok w0 g w' q) ∧ Aside0 (impl_DependsOf.St g w w') ∧ Aside0 (Kd.R (Kd.int .i64) 3 w' w0.heap.size (fun _ => True) (.slice Aw ws.length cw) ws))
 case atStart => exact ⟨1, o, ef_, HV, ⟨Nat.le_refl _⟩, ⟨impl_DependsOf.Ok.below HO.out (bb_ HS1.out)⟩, ⟨impl_DependsOf.St.of_below (bb_ HS1.out)⟩, ⟨ra_ HWK.out⟩⟩
 clear HV
 obtain ⟨i, q, rfl, HA, HK1, HO1, HST, HWK1⟩ := hrel
 obtain _ | k1 := gk
 ·exact absurd HA.out (by simp [impl_DependsOf.l3])
 have H := HA.out
 clear HA
 simp only [impl_DependsOf.l3] at H
 by_cases c1 : i < (ws.length : Int)
 rotate_left
 ·rw [if_neg c1] at H
  have c1b : decide (i < (ws.length : Int)) = false := decide_eq_false c1
  clear c1
  obtain rfl := Option.some.inj H
  go_wp2
  go_ret
  exact ⟨by first | rfl | (simp; done), impl_DependsOf.Ok.below HO1.out (bb_ (Below.refl _ _)), impl_DependsOf.St.trans HST.out (impl_DependsOf.St.of_below (bb_ (Below.refl _ _)))⟩
 rw [if_pos c1] at H
 have c1b : decide (i < (ws.length : Int)) = true := decide_eq_true c1
 obtain ⟨j, hj⟩ : ∃ j : Int, wrap64 (i - 1) = j := ⟨_, rfl⟩
 rw [hj] at H
 have hjw : (IntKind.i64.wrap (i - 1)) = j := (i64_w _).trans hj
 by_cases c2 : 0 ≤ j
 rotate_left
 ·rw [if_neg c2] at H
  exact absurd H (by simp)
 rw [if_pos c2] at H
 by_cases c3 : j < (ws.length : Int)
 rotate_left
 ·rw [if_neg c3] at H
  exact absurd H (by simp)
 rw [if_pos c3] at H
 by_cases c4 : 0 ≤ i
 rotate_left
 ·rw [if_neg c4] at H
  exact absurd H (by simp)
 rw [if_pos c4] at H
 by_cases c5 : q.length < 8796093022208
 rotate_left
 ·rw [if_neg c5] at H
  exact absurd H (by simp)
 rw [if_pos c5] at H
 have H' := Aside0.mk H
 have C5 := Aside0.mk c5
 have hbv := impl_DependsOf.St.blk HST.out HBV.out HGV.out (by decide)
 obtain ⟨hv0, fv0⟩ := cz1_ hbv
 obtain ⟨ad0, e0, hx0⟩ := Kd.at_int (Kd.R_reads' HWK1.out).2.2 j c2 c3
 obtain ⟨ad1, e1, hx1⟩ := Kd.at_int (Kd.R_reads' HWK1.out).2.2 i c4 c1
 cases e0
 cases e1
 have c2b : decide (0 ≤ j) = true := decide_eq_true c2
 have c3b : decide (j < (ws.length : Int)) = true := decide_eq_true c3
 have c4b : decide (0 ≤ i) = true := decide_eq_true c4
 replace c1 := eq_true c1
 replace c2 := eq_true c2
 replace c3 := eq_true c3
 replace c4 := eq_true c4
 have HBV1 := Aside0.mk hbv
 have HG1 := Aside0.mk HO1.out.2.2
 have HC := Aside0.mk (And.intro (And.intro c1 c2) (And.intro c3 c4))
 clear H c5 hbv
 go_wp2_with fail
 go_region_held3 (fun w' => w'.cell? ⟨gv, 0, none⟩ = some (.func (.func 101) #[] #[.pointer (some ⟨g, 0, none⟩)]) ∧ w'.cell? (ad0.add j.toNat) = some (.int .i64 (rd ws j)) ∧ w'.cell? (ad0.add i.toNat) = some (.int .i64 (rd ws i)))
  (first | exact ⟨hv0, hx0, hx1⟩ | exact ⟨m0, m1, m2⟩)
  (first
   | (go_at_call 101; refine (impl_DependsOf.vis g (rd ws j) (rd ws i) q w0 _ (impl_DependsOf.Ok.below HO1.out (bb_ (Below.refl _ _))) C5.out).mono ?_; rintro e w2 ⟨rfl, hok2, hst2⟩; have m0 := (cz1_ (impl_DependsOf.St.blk hst2 (bq_ HBV1.out) HGV.out (by decide))).1; obtain ⟨v1, hg1, _⟩ := HG1.out; have HWK2 := Aside0.mk (impl_DependsOf.St.ri hst2 (bq_ hg1) (ra_ HWK1.out)); obtain ⟨_, e_, m1⟩ := Kd.at_int (Kd.R_reads' HWK2.out).2.2 j (of_eq_true HC.out.1.2) (of_eq_true HC.out.2.1); cases e_; obtain ⟨_, e_, m2⟩ := Kd.at_int (Kd.R_reads' HWK2.out).2.2 i (of_eq_true HC.out.2.2) (of_eq_true HC.out.1.1); cases e_; have HO2 := Aside0.mk hok2; have HS2 := Aside0.mk (impl_DependsOf.St.trans (impl_DependsOf.St.trans HST.out (impl_DependsOf.St.of_below (bb_ (Below.refl _ _)))) hst2); clear hok2 hst2 hg1))
 go_wp2
 go_roundg k1
 case measure => have := HK1.out; omega
 case rel => exact ⟨wrap64 (i + 1), _, (by first | rfl | (simp; done)), H', ⟨by have := HK1.out; omega⟩, ⟨impl_DependsOf.Ok.below HO2.out (bb_ (Below.refl _ _))⟩, ⟨impl_DependsOf.St.trans HS2.out (impl_DependsOf.St.of_below (bb_ (Below.refl _ _)))⟩, ⟨ra_ HWK2.out⟩⟩
set_option maxHeartbeats 2000000 in
/-- 'pairs' at the function literal of 'adjacent'. -/
theorem impl_DependsOf.prs (k : Nat) (a0 a1 : Int) (A2 : Option Addr) (c2 : Nat) (l2 : List Int) (A3 : Option Addr) (c3 : Nat) (l3 : List Int) (o r : List S94) (gm gt gv g : Nat) (w0 w : World)
  (hr2 : Kd.C (Kd.int .i64) w0 A2 l2.length l2) (hc2 : l2.length ≤ c2) (hr3 : Kd.C (Kd.int .i64) w0 A3 l3.length l3) (hc3 : l3.length ≤ c3)
  (bm : w.heap[gm]? = some (.cells #[.int .i64 a0, .int .i64 a1, .slice A2 l2.length c2] 44 (0, 0))) (bt : w.heap[gt]? = some (.cells #[.slice A3 l3.length c3] 46 (0, 0)))
  (bv : w.heap[gv]? = some (.cells #[.func (.func 101) #[] #[.pointer (some ⟨g, 0, none⟩)]] 121 (0, 0)))
  (hok : impl_DependsOf.Ok w0 g w o) (h : impl_DependsOf.ps k a0 a1 l2 l3 o = some r) :
  Calls Try.prog 117 #[.agg #[.int .i64 a0, .int .i64 a1], .func (.func 134) #[] #[.pointer (some ⟨gm, 0, none⟩), .pointer (some ⟨gt, 0, none⟩), .pointer (some ⟨gv, 0, none⟩)]] w fun e w' => e = .returned (.bool true) ∧ impl_DependsOf.Ok w0 g w' r ∧ impl_DependsOf.St g w w' := by
 obtain ⟨n, hn, h1⟩ := Option.bind_eq_some_iff.1 h
 have HBX := Aside0.mk (show gm ≠ g ∧ gt ≠ g ∧ gv ≠ g from by
  obtain ⟨_, _, v, hb, _⟩ := hok
  exact ⟨blk_ne bm hb (by decide), blk_ne bt hb (by decide), blk_ne bv hb (by decide)⟩)
 have HR2 := Aside0.mk hr2
 have HC2 := Aside0.mk hc2
 have HR3 := Aside0.mk hr3
 have HC3 := Aside0.mk hc3
 have BM := Aside0.mk bm
 have BT := Aside0.mk bt
 have BV := Aside0.mk bv
 have HN := Aside0.mk hn
 have H' := Aside0.mk h1
 have HO := Aside0.mk hok
 clear hr2 hc2 hr3 hc3 bm bt bv hn h1 h hok
 have HB := Aside0.mk (Below.refl w.heap.size w)
 go_enter Try.func117, Try.ntmps117
 go_wp2_with (first | (go_at_call 95; (with_reducible refine (impl_NodeCount.calls a0 a1 n _ HN.out).mono ?_); rintro e w' ⟨rfl, hb⟩; have HB1 := Aside0.mk (bs_ HB.out hb); clear HB hb; have HB := HB1; clear HB1))
 go_loopg [11] k (fun kq v11 w' => ∃ (x : Int) (q : List S94), v11 = .int .i64 x ∧ Aside0 (impl_DependsOf.l1 kq a0 a1 l2 l3 n x q = some r) ∧ Aside0 (kq ≤ k) ∧ Aside0 (impl_DependsOf.Ok w0 g w' q) ∧ Aside0 (impl_DependsOf.St g w w'))
 case atStart => exact ⟨0, o, (by first | rfl | (simp; done)), H', ⟨Nat.le_refl _⟩, ⟨impl_DependsOf.Ok.below HO.out (bb_ HB.out)⟩, ⟨impl_DependsOf.St.of_below (bb_ HB.out)⟩⟩
 clear H' HB HO
 obtain ⟨x, q, rfl, HA, HK1, HO, HS⟩ := hrel
 obtain _ | k1 := gk
 ·exact absurd HA.out (by simp [impl_DependsOf.l1])
 have H := HA.out
 clear HA
 simp only [impl_DependsOf.l1] at H
 by_cases c1 : x < n
 rotate_left
 ·rw [if_neg c1] at H
  have c1b : decide (x < n) = false := decide_eq_false c1
  clear c1
  obtain rfl := Option.some.inj H
  go_wp2
  go_ret
  exact ⟨by first | rfl | (simp; done), impl_DependsOf.Ok.below HO.out (bb_ (Below.refl _ _)), impl_DependsOf.St.trans HS.out (impl_DependsOf.St.of_below (bb_ (Below.refl _ _)))⟩
 rw [if_pos c1] at H
 have c1b : decide (x < n) = true := decide_eq_true c1
 clear c1
 have H' := Aside0.mk H
 clear H
 go_wp2
 go_loopg [15] k1 (fun kq v15 w' => ∃ (y : Int) (q : List S94), v15 = .int .i64 y ∧ Aside0 (impl_DependsOf.l2 kq a0 a1 l2 l3 n x y q = some r) ∧ Aside0 (kq ≤ k1) ∧ Aside0 (impl_DependsOf.Ok w0 g w' q) ∧ Aside0 (impl_DependsOf.St g w w'))
 case atStart => exact ⟨0, q, (by first | rfl | (simp; done)), H', ⟨Nat.le_refl _⟩, ⟨impl_DependsOf.Ok.below HO.out (bb_ (Below.refl _ _))⟩, ⟨impl_DependsOf.St.trans HS.out (impl_DependsOf.St.of_below (bb_ (Below.refl _ _)))⟩⟩
 clear H' HO HS c1b
 obtain ⟨y, q2, rfl, HA, HK2, HO, HS⟩ := hrel
 obtain _ | k2 := gk
 ·exact absurd HA.out (by simp [impl_DependsOf.l2])
 have H := HA.out
 clear HA
 simp only [impl_DependsOf.l2] at H
 by_cases c2 : y < n
 rotate_left
 ·rw [if_neg c2] at H
  have c2b : decide (y < n) = false := decide_eq_false c2
  clear c2
  have H' := Aside0.mk H
  clear H
  go_wp2
  go_roundg k2
  case measure => have := HK1.out; have := HK2.out; omega
  case rel => exact ⟨wrap64 (x + 1), q2, (by first | rfl | (simp; done)), H', ⟨by have := HK1.out; have := HK2.out; omega⟩, ⟨impl_DependsOf.Ok.below HO.out (bb_ (Below.refl _ _))⟩, ⟨impl_DependsOf.St.trans HS.out (impl_DependsOf.St.of_below (bb_ (Below.refl _ _)))⟩⟩
 rw [if_pos c2] at H
 have c2b : decide (y < n) = true := decide_eq_true c2
 clear c2
 by_cases c3 : x = y
 ·rw [if_pos c3] at H
  have c3b : (x == y) = true := beq_iff_eq.mpr c3
  have c3c : (x != y) = false := bne_eq_false_iff_eq.mpr c3
  clear c3
  have H' := Aside0.mk H
  clear H
  go_wp2
  go_roundg k2
  case measure => have := HK2.out; omega
  case rel => exact ⟨wrap64 (y + 1), q2, (by first | rfl | (simp; done)), H', ⟨by have := HK2.out; omega⟩, ⟨impl_DependsOf.Ok.below HO.out (bb_ (Below.refl _ _))⟩, ⟨impl_DependsOf.St.trans HS.out (impl_DependsOf.St.of_below (bb_ (Below.refl _ _)))⟩⟩
 rw [if_neg c3] at H
 have c3b : (x == y) = false := beq_eq_false_iff_ne.mpr c3
 have c3c : (x != y) = true := bne_iff_ne.mpr c3
 clear c3
 obtain ⟨q3, hb0, H2⟩ := Option.bind_eq_some_iff.1 H
 clear H
 have HV := Aside0.mk hb0
 clear hb0
 have H' := Aside0.mk (show impl_DependsOf.l2 k2 a0 a1 l2 l3 n x (wrap64 (y + 1)) q3 = some r from H2)
 clear H2
 go_wp2_with fail
 refine (impl_DependsOf.adj1 k2 a0 a1 A2 c2 l2 A3 c3 l3 x y q2 q3 gm gt gv g w0 _ HR2.out HC2.out HR3.out HC3.out (bq_ (impl_DependsOf.St.blk HS.out BM.out HBX.out.1 (by decide))) (bq_ (impl_DependsOf.St.blk HS.out BT.out HBX.out.2.1 (by decide))) (bq_ (impl_DependsOf.St.blk HS.out BV.out HBX.out.2.2 (by decide))) (impl_DependsOf.Ok.below HO.out (bb_ (Below.refl _ _))) HV.out).mono ?_
 rintro e w' ⟨rfl, hok2, hst2⟩
 have HO2 := Aside0.mk hok2
 have HS2 := Aside0.mk (impl_DependsOf.St.trans (impl_DependsOf.St.trans HS.out (impl_DependsOf.St.of_below (bb_ (Below.refl _ _)))) hst2)
 clear hok2 hst2
 go_wp2
 go_roundg k2
 case measure => have := HK2.out; omega
 case rel => exact ⟨wrap64 (y + 1), q3, (by first | rfl | (simp; done)), H', ⟨by have := HK2.out; omega⟩, ⟨impl_DependsOf.Ok.below HO2.out (bb_ (Below.refl _ _))⟩, ⟨impl_DependsOf.St.trans HS2.out (impl_DependsOf.St.of_below (bb_ (Below.refl _ _)))⟩⟩
set_option maxHeartbeats 2000000 in
theorem impl_DependsOf.adj (k : Nat) (a0 a1 : Int) (A2 : Option Addr) (c2 : Nat) (l2 : List Int) (A3 : Option Addr) (c3 : Nat) (l3 : List Int) (o r : List S94) (g : Nat) (w0 w : World)
  (hr2 : Kd.C (Kd.int .i64) w0 A2 l2.length l2) (hc2 : l2.length ≤ c2) (hr3 : Kd.C (Kd.int .i64) w0 A3 l3.length l3) (hc3 : l3.length ≤ c3) (hok : impl_DependsOf.Ok w0 g w o) (h : impl_DependsOf.ps k a0 a1 l2 l3 o = some r) :
  Calls Try.prog 100 #[.agg #[.int .i64 a0, .int .i64 a1, .slice A2 l2.length c2], .agg #[.slice A3 l3.length c3], .func (.func 101) #[] #[.pointer (some ⟨g, 0, none⟩)]] w fun e w' => e = .returned (.tuple #[]) ∧ impl_DependsOf.Ok w0 g w' r ∧ impl_DependsOf.St g w w' := by
 have hmf : ∀ (fn : Fn) (first cap : Array Value) (w : World), (Instr.makeFunc fn first cap).run Try.prog w = .ok (.func fn first cap) w := fun _ _ _ _ => rfl
 have HR2 := Aside0.mk hr2
 have HC2 := Aside0.mk hc2
 have HR3 := Aside0.mk hr3
 have HC3 := Aside0.mk hc3
 have HO := Aside0.mk hok
 have HP := Aside0.mk h
 clear hr2 hc2 hr3 hc3 hok h
 go_enter Try.func100, Try.ntmps100
 go_wp2_with (first
  | ((with_reducible refine gate_dst (N := 3) rfl ?_); refine box_event ?hg (N := 3) ?hd (cs := #[.int .i64 a0, .int .i64 a1, .slice A2 l2.length c2]) (t := 44) ?hr ?_; (case hd => rfl); (case hg => rfl); (case hr => first | (go_simp; done) | (go_simp; rfl)); intro gm hgm w1 hbx1 hb1; clear hgm; have HS1 := Aside0.mk hb1; have BX1 := Aside0.mk hbx1; obtain ⟨hm0, hm1, hm2, fm0, fm1, fm2⟩ := cz3_ hbx1; clear hb1 hbx1)
  | ((with_reducible refine gate_dst (N := 4) rfl ?_); refine box_event ?hg (N := 4) ?hd (cs := #[.slice A3 l3.length c3]) (t := 46) ?hr ?_; (case hd => rfl); (case hg => rfl); (case hr => first | (go_simp; done) | (go_simp; rfl)); intro gt hgt w2 hbx2 hb2; clear hgt hm0 hm1 hm2 fm0 fm1 fm2; have HS2 := Aside0.mk (below_step HS1.out hb2); replace BX1 := Aside0.mk (bk_ BX1.out hb2); have BX2 := Aside0.mk hbx2; clear hb2 hbx2)
  | ((with_reducible refine gate_dst (N := 5) rfl ?_); refine box_event ?hg (N := 5) ?hd (cs := #[.func (.func 101) #[] #[.pointer (some ⟨g, 0, none⟩)]]) (t := 121) ?hr ?_; (case hd => rfl); (case hg => rfl); (case hr => first | (go_simp; done) | (go_simp; rfl)); intro gv hgv w3 hbx3 hb3; clear hgv; have HS3 := Aside0.mk (below_step HS2.out hb3); replace BX1 := Aside0.mk (bk_ BX1.out hb3); replace BX2 := Aside0.mk (bk_ BX2.out hb3); have BX3 := Aside0.mk hbx3; obtain ⟨hm0, hm1, hm2, fm0, fm1, fm2⟩ := cz3_ BX1.out; clear hb3 hbx3)
  | (go_at_call 117; (with_reducible refine (impl_DependsOf.prs k a0 a1 A2 c2 l2 A3 c3 l3 o r gm gt gv g w0 _ HR2.out HC2.out HR3.out HC3.out (bq_ BX1.out) (bq_ BX2.out) (bq_ BX3.out) ?side1 HP.out).mono ?_); (case side1 => exact impl_DependsOf.Ok.below HO.out (bb_ HS3.out)); rintro e w4 ⟨rfl, hok2, hst2⟩; have HO2 := Aside0.mk hok2; have HST := Aside0.mk (impl_DependsOf.St.trans (impl_DependsOf.St.of_below (bb_ HS3.out)) hst2); clear hok2 hst2))
 go_end0
 exact ⟨by first | rfl | (simp; done), impl_DependsOf.Ok.below HO2.out (bb_ (Below.refl _ _)), impl_DependsOf.St.trans HST.out (impl_DependsOf.St.of_below (bb_ (Below.refl _ _)))⟩
set_option maxHeartbeats 4000000 in
theorem impl_DependsOf.calls (k : Nat) (a0_0 : Int) (a0_1 : Int) (A0_2 : Option Addr) (c0_2 : Nat) (l0_2 : List Int) (A1_0 : Option Addr) (c1_0 : Nat) (l1_0 : List Int) (r : List S94) (w : World) (hr0_2 : Kd.C (Kd.int .i64) w A0_2 l0_2.length l0_2) (hc0_2 : l0_2.length ≤ c0_2) (hr1_0 : Kd.C (Kd.int .i64) w A1_0 l1_0.length l1_0) (hc1_0 : l1_0.length ≤ c1_0) (h : impl_DependsOf.f k a0_0 a0_1 l0_2 l1_0 = some r) :
  Calls Try.prog 60 #[.agg #[.int .i64 a0_0, .int .i64 a0_1, .slice A0_2 l0_2.length c0_2], .agg #[.slice A1_0 l1_0.length c1_0]] w fun e w' => ∃ v0_ : Value, e = .returned (v0_) ∧ Kd.R k94 94 w' w.heap.size (fun _ => True) v0_ r ∧ Below w.heap.size w w' := by
 have hmf : ∀ (fn : Fn) (first cap : Array Value) (w : World), (Instr.makeFunc fn first cap).run Try.prog w = .ok (.func fn first cap) w := fun _ _ _ _ => rfl
 obtain ⟨ok, ho, h2⟩ := Option.bind_eq_some_iff.1 h
 have HR2 := Aside0.mk hr0_2
 have HC2 := Aside0.mk hc0_2
 have HR3 := Aside0.mk hr1_0
 have HC3 := Aside0.mk hc1_0
 have HTO := Aside0.mk ho
 have H2 := Aside0.mk h2
 have HB := Aside0.mk (Below.refl w.heap.size w)
 clear hr0_2 hc0_2 hr1_0 hc1_0 ho h h2
 cases ok with
 | false =>
  have h3 : some [] = some r := H2.out
  obtain rfl := Option.some.inj h3
  clear h3 H2
  go_enter Try.func60, Try.ntmps60
  go_wp2_with (first
   | ((with_reducible refine gate_dst (N := 2) rfl ?_); refine box_event ?hg (N := 2) ?hd (cs := #[.int .i64 a0_0, .int .i64 a0_1, .slice A0_2 l0_2.length c0_2]) (t := 44) ?hr ?_; (case hd => rfl); (case hg => rfl); (case hr => first | (go_simp; done) | (go_simp; rfl)); intro gm hgm w1 hbx1 hb1; clear hgm; replace HB := Aside0.mk (bs_ HB.out hb1); have BX1 := Aside0.mk hbx1; clear hb1 hbx1)
   | ((with_reducible refine gate_dst (N := 3) rfl ?_); refine box_event ?hg (N := 3) ?hd (cs := #[.slice A1_0 l1_0.length c1_0]) (t := 46) ?hr ?_; (case hd => rfl); (case hg => rfl); (case hr => first | (go_simp; done) | (go_simp; rfl)); intro gt hgt w2 hbx2 hb2; clear hgt; replace HB := Aside0.mk (bs_ HB.out hb2); replace BX1 := Aside0.mk (bk_ BX1.out hb2); have BX2 := Aside0.mk hbx2; clear hb2 hbx2)
   | ((with_reducible refine gate_dst (N := 6) rfl ?_); refine Kd.R_lit k94 _ 94 ?hg (N := 6) ?hd (xs := ([] : List S94)) (inner := []) (ok := fun _ => True) (okp := fun _ => True) ?hr ?hp (fun _ hk => hk) trivial (Below.refl _ _) (Nat.le_refl _) (by simp) ?_; (case hd => rfl); (case hg => rfl); (case hr => first | (go_simp; done) | (go_simp; rfl)); (case hp => exact (Reps.none _ _)); intro v6 w6 ho hb hg_ hnew_; clear hg_ hnew_; have HR6 := Aside0.mk (Kd.R_lower ho (bz_ HB.out)); replace BX1 := Aside0.mk (bk_ BX1.out hb); replace BX2 := Aside0.mk (bk_ BX2.out hb); replace HB := hs_ HB hb; clear ho hb; obtain ⟨Ao, co, rfl⟩ := Kd.R_slice HR6.out)
   | ((with_reducible refine gate_dst (N := 5) rfl ?_); refine box_event ?hg (N := 5) ?hd (cs := #[.slice none 0 0]) (t := 22) ?hr ?_; (case hd => rfl); (case hg => rfl); (case hr => first | (go_simp; done) | (go_simp; rfl)); intro g hgz w5 hbx5 hb5; have HGZ := Aside0.mk (show w.heap.size ≤ g from by rw [hgz]; exact bz_ HB.out); clear hgz; replace HR6 := Aside0.mk (Kd.R_below (ra_ HR6.out) hb5); replace BX1 := Aside0.mk (bk_ BX1.out hb5); replace BX2 := Aside0.mk (bk_ BX2.out hb5); replace HB := Aside0.mk (bs_ HB.out hb5); have BX5 := Aside0.mk hbx5; obtain ⟨hz0, fz0⟩ := cz1_ hbx5; have ngm : gm ≠ g := blk_ne BX1.out hbx5 (by decide); have ngt : gt ≠ g := blk_ne BX2.out hbx5 (by decide); obtain ⟨hm0, hm1, hm2, fm0, fm1, fm2⟩ := cz3_ (blk_far (p := ⟨g, 0, none⟩) BX1.out ngm (.slice Ao 0 co)); obtain ⟨ht0, ft0⟩ := cz1_ (blk_far (p := ⟨g, 0, none⟩) BX2.out ngt (.slice Ao 0 co)); have HT := Aside0.mk (And.intro (blk_far (p := ⟨g, 0, none⟩) BX1.out ngm (.slice Ao 0 co)) (blk_far (p := ⟨g, 0, none⟩) BX2.out ngt (.slice Ao 0 co))); have HOK := Aside0.mk (show impl_DependsOf.Ok w g (w5.setCell ⟨g, 0, none⟩ (.slice Ao 0 co)) [] from ⟨HB.out.setCell HGZ.out _, HGZ.out, .slice Ao 0 co, blk_put hbx5 0 _ rfl, Kd.R_set HR6.out hbx5 (by decide) 0 _⟩); clear hb5 hbx5 ngm ngt)
   | (go_at_call 78; (with_reducible refine (impl_TableOk.calls k a0_0 a0_1 A0_2 c0_2 l0_2 A1_0 c1_0 l1_0 _ _ ?side1 HC2.out ?side2 HC3.out HTO.out).mono ?_); (case side1 => exact Kd.C_below HR2.out (impl_DependsOf.Ok.below HOK.out (bb_ (Below.refl _ _))).1); (case side2 => exact Kd.C_below HR3.out (impl_DependsOf.Ok.below HOK.out (bb_ (Below.refl _ _))).1); rintro e w7 ⟨rfl, hb⟩; clear hm0 hm1 hm2 fm0 fm1 fm2 ht0 ft0 hz0 fz0; have HOK7 := Aside0.mk (impl_DependsOf.Ok.below (impl_DependsOf.Ok.below HOK.out (bb_ (Below.refl _ _))) hb); have BX1b := Aside0.mk (bk_ HT.out.1 hb); have BX2b := Aside0.mk (bk_ HT.out.2 hb); obtain ⟨hm0, hm1, hm2, fm0, fm1, fm2⟩ := cz3_ BX1b.out; obtain ⟨ht0, ft0⟩ := cz1_ BX2b.out; obtain ⟨v7, hg7, hR7⟩ := HOK7.out.2.2; obtain ⟨A7, c7, rfl⟩ := Kd.R_slice hR7; have HR7 := Aside0.mk hR7; have BX7 := Aside0.mk hg7; obtain ⟨hz0, fz0⟩ := cz1_ hg7; clear hb hg7 hR7))
  go_ret
  exact ⟨_, by first | rfl | (simp; done), (by first | exact ra_ HR7.out | skip), (impl_DependsOf.Ok.below HOK7.out (bb_ (Below.refl _ _))).1⟩
 | true =>
  obtain ⟨q, hq, har⟩ := Option.bind_eq_some_iff.1 (show (impl_DependsOf.ps k a0_0 a0_1 l0_2 l1_0 []).bind (fun o => impl_arranged.f o) = some r from H2.out)
  have HPS := Aside0.mk hq
  have HAR := Aside0.mk har
  clear hq har H2
  go_enter Try.func60, Try.ntmps60
  go_wp2_with (first
   | ((with_reducible refine gate_dst (N := 2) rfl ?_); refine box_event ?hg (N := 2) ?hd (cs := #[.int .i64 a0_0, .int .i64 a0_1, .slice A0_2 l0_2.length c0_2]) (t := 44) ?hr ?_; (case hd => rfl); (case hg => rfl); (case hr => first | (go_simp; done) | (go_simp; rfl)); intro gm hgm w1 hbx1 hb1; clear hgm; replace HB := Aside0.mk (bs_ HB.out hb1); have BX1 := Aside0.mk hbx1; clear hb1 hbx1)
   | ((with_reducible refine gate_dst (N := 3) rfl ?_); refine box_event ?hg (N := 3) ?hd (cs := #[.slice A1_0 l1_0.length c1_0]) (t := 46) ?hr ?_; (case hd => rfl); (case hg => rfl); (case hr => first | (go_simp; done) | (go_simp; rfl)); intro gt hgt w2 hbx2 hb2; clear hgt; replace HB := Aside0.mk (bs_ HB.out hb2); replace BX1 := Aside0.mk (bk_ BX1.out hb2); have BX2 := Aside0.mk hbx2; clear hb2 hbx2)
   | ((with_reducible refine gate_dst (N := 6) rfl ?_); refine Kd.R_lit k94 _ 94 ?hg (N := 6) ?hd (xs := ([] : List S94)) (inner := []) (ok := fun _ => True) (okp := fun _ => True) ?hr ?hp (fun _ hk => hk) trivial (Below.refl _ _) (Nat.le_refl _) (by simp) ?_; (case hd => rfl); (case hg => rfl); (case hr => first | (go_simp; done) | (go_simp; rfl)); (case hp => exact (Reps.none _ _)); intro v6 w6 ho hb hg_ hnew_; clear hg_ hnew_; have HR6 := Aside0.mk (Kd.R_lower ho (bz_ HB.out)); replace BX1 := Aside0.mk (bk_ BX1.out hb); replace BX2 := Aside0.mk (bk_ BX2.out hb); replace HB := hs_ HB hb; clear ho hb; obtain ⟨Ao, co, rfl⟩ := Kd.R_slice HR6.out)
   | ((with_reducible refine gate_dst (N := 5) rfl ?_); refine box_event ?hg (N := 5) ?hd (cs := #[.slice none 0 0]) (t := 22) ?hr ?_; (case hd => rfl); (case hg => rfl); (case hr => first | (go_simp; done) | (go_simp; rfl)); intro g hgz w5 hbx5 hb5; have HGZ := Aside0.mk (show w.heap.size ≤ g from by rw [hgz]; exact bz_ HB.out); clear hgz; replace HR6 := Aside0.mk (Kd.R_below (ra_ HR6.out) hb5); replace BX1 := Aside0.mk (bk_ BX1.out hb5); replace BX2 := Aside0.mk (bk_ BX2.out hb5); replace HB := Aside0.mk (bs_ HB.out hb5); have BX5 := Aside0.mk hbx5; obtain ⟨hz0, fz0⟩ := cz1_ hbx5; have ngm : gm ≠ g := blk_ne BX1.out hbx5 (by decide); have ngt : gt ≠ g := blk_ne BX2.out hbx5 (by decide); obtain ⟨hm0, hm1, hm2, fm0, fm1, fm2⟩ := cz3_ (blk_far (p := ⟨g, 0, none⟩) BX1.out ngm (.slice Ao 0 co)); obtain ⟨ht0, ft0⟩ := cz1_ (blk_far (p := ⟨g, 0, none⟩) BX2.out ngt (.slice Ao 0 co)); have HT := Aside0.mk (And.intro (blk_far (p := ⟨g, 0, none⟩) BX1.out ngm (.slice Ao 0 co)) (blk_far (p := ⟨g, 0, none⟩) BX2.out ngt (.slice Ao 0 co))); have HOK := Aside0.mk (show impl_DependsOf.Ok w g (w5.setCell ⟨g, 0, none⟩ (.slice Ao 0 co)) [] from ⟨HB.out.setCell HGZ.out _, HGZ.out, .slice Ao 0 co, blk_put hbx5 0 _ rfl, Kd.R_set HR6.out hbx5 (by decide) 0 _⟩); clear hb5 hbx5 ngm ngt)
   | (go_at_call 78; (with_reducible refine (impl_TableOk.calls k a0_0 a0_1 A0_2 c0_2 l0_2 A1_0 c1_0 l1_0 _ _ ?side1 HC2.out ?side2 HC3.out HTO.out).mono ?_); (case side1 => exact Kd.C_below HR2.out (impl_DependsOf.Ok.below HOK.out (bb_ (Below.refl _ _))).1); (case side2 => exact Kd.C_below HR3.out (impl_DependsOf.Ok.below HOK.out (bb_ (Below.refl _ _))).1); rintro e w7 ⟨rfl, hb⟩; clear hm0 hm1 hm2 fm0 fm1 fm2 ht0 ft0 hz0 fz0; have HOK7 := Aside0.mk (impl_DependsOf.Ok.below (impl_DependsOf.Ok.below HOK.out (bb_ (Below.refl _ _))) hb); have BX1b := Aside0.mk (bk_ HT.out.1 hb); have BX2b := Aside0.mk (bk_ HT.out.2 hb); obtain ⟨hm0, hm1, hm2, fm0, fm1, fm2⟩ := cz3_ BX1b.out; obtain ⟨ht0, ft0⟩ := cz1_ BX2b.out; obtain ⟨v7, hg7, hR7⟩ := HOK7.out.2.2; obtain ⟨A7, c7, rfl⟩ := Kd.R_slice hR7; have HR7 := Aside0.mk hR7; have BX7 := Aside0.mk hg7; obtain ⟨hz0, fz0⟩ := cz1_ hg7; clear hb hg7 hR7)
   | (go_at_call 100; (with_reducible refine (impl_DependsOf.adj k a0_0 a0_1 A0_2 c0_2 l0_2 A1_0 c1_0 l1_0 [] q g w _ HR2.out HC2.out HR3.out HC3.out ?side1 HPS.out).mono ?_); (case side1 => exact impl_DependsOf.Ok.below HOK7.out (bb_ (Below.refl _ _))); rintro e w8 ⟨rfl, hok8, _⟩; clear hz0 fz0 hm0 hm1 hm2 fm0 fm1 fm2 ht0 ft0; obtain ⟨v8, hg8, hR8⟩ := hok8.2.2; obtain ⟨A8, c8, rfl⟩ := Kd.R_slice hR8; have HR8 := Aside0.mk hR8; have HB8 := Aside0.mk hok8.1; obtain ⟨hz0, fz0⟩ := cz1_ hg8; clear hg8 hR8 hok8)
   | (go_at_call 66; (with_reducible refine (impl_arranged.calls (fun k_ => some k_ = (.slice A8 q.length c8 : Value).ownBlock) (.slice A8 q.length c8) q r w _ ?side1 ?side2 HAR.out).mono ?_); (case side1 => exact bb_ HB8.out); (case side2 => exact Kd.R_tight rfl (ra_ HR8.out)); rintro e w9 ⟨v9, rfl, ho9, hb9, hkp⟩; have HO9 := Aside0.mk (Kd.R_mono (ok' := fun k_ => True) ho9 (fun k_ hk_ => trivial)); have HB9 := Aside0.mk hb9; clear hb9 hkp ho9; obtain ⟨A9, c9, rfl⟩ := Kd.R_slice HO9.out))
  go_ret
  exact ⟨_, by first | rfl | (simp; done), ra_ HO9.out, bb_ HB9.out⟩

/-! ### impl_compareDepends: function 105 -/
def impl_compareDepends.f (a0_0 : Int) (a0_1 : Int) (a1_0 : Int) (a1_1 : Int) : Option (Int) := if a0_0 = a1_0 then (some (wrap64 (a0_1 - a1_1))) else (some (wrap64 (a0_0 - a1_0)))
theorem impl_compareDepends.e0 {P : Prop} (h : P := by
 go_enter Try.func105, Try.ntmps105
 go_wp2_with (first | ((with_reducible refine gate_dst (N := 2) rfl ?_); refine box_event ?hg (N := 2) ?hd (cs := #[.int .i64 a0_0, .int .i64 a0_1]) (t := 94) ?hr ?_; (case hd => rfl); (case hg => rfl); (case hr => first | (go_simp; done) | (go_simp; rfl)); intro gb415 hg w_0 hbox hb; have BK415 := Aside0.mk (hbox); have GW415 := gw_ hg HB; replace HB := hs_ HB hb; clear hb hbox hg) | ((with_reducible refine gate_dst (N := 3) rfl ?_); refine box_event ?hg (N := 3) ?hd (cs := #[.int .i64 a1_0, .int .i64 a1_1]) (t := 94) ?hr ?_; (case hd => rfl); (case hg => rfl); (case hr => first | (go_simp; done) | (go_simp; rfl)); intro gb416 hg w_0 hbox hb; have BK416 := Aside0.mk (hbox); have GW416 := gw_ hg HB; replace HB := hs_ HB hb; have NB415_416 := nl_ hg BK415; have NB416_415 := ng_ hg BK415; replace BK415 := kb_ BK415 hb; clear hb hbox hg; have hnb_ := NB415_416.out; have hnc_ := NB416_415.out; obtain ⟨hcz_0, hcz_1, hfz_0, hfz_1⟩ := cz2_ BK415.out; obtain ⟨hcz__0, hcz__1, hfz__0, hfz__1⟩ := cz2_ BK416.out))
 go_ret
 exact ⟨fin_, bb_ HB.out⟩) : P := h
theorem impl_compareDepends.calls (a0_0 : Int) (a0_1 : Int) (a1_0 : Int) (a1_1 : Int) (r : Int) (w : World) (h : impl_compareDepends.f a0_0 a0_1 a1_0 a1_1 = some r) :
  Calls Try.prog 105 #[.agg #[.int .i64 a0_0, .int .i64 a0_1], .agg #[.int .i64 a1_0, .int .i64 a1_1]] w fun e w' => e = .returned (.int .i64 r) ∧ Below w.heap.size w w' := by
 have hu94 := Try.underlying94
 have HB := Aside0.mk (Below.refl w.heap.size w)
 have H : (if a0_0 = a1_0 then (some (wrap64 (a0_1 - a1_1))) else (some (wrap64 (a0_0 - a1_0)))) = some r := h
 clear h
 by_cases c3 : a0_0 = a1_0
 ·rw [if_pos c3] at H
  have c3b0 : (a0_0 == a1_0) = true := beq_iff_eq.mpr c3
  have c3b1 : (a0_0 != a1_0) = false := bne_eq_false_iff_eq.mpr c3
  clear c3
  obtain rfl := Option.some.inj H
  exact impl_compareDepends.e0
 ·rw [if_neg c3] at H
  have c3b0 : (a0_0 == a1_0) = false := beq_eq_false_iff_ne.mpr c3
  have c3b1 : (a0_0 != a1_0) = true := bne_iff_ne.mpr c3
  obtain rfl := Option.some.inj H
  exact impl_compareDepends.e0

end Go.Proofs.Ytimdefbpoddoaaa.PFnExactCheckTable
-- thin
