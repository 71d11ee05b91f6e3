/- Each function that the law comes to, as a plain function, with the proof that the call in the model gives what that function says (written by a program of this session out of the translation). No condition. -/
import Derived.Test.YtogapggfegplkaaPFnExactNetOkx0
import Derived.Test.YtogapggfegplkaaPFnExactNetOkx1
import Derived.Test.YtogapggfegplkaaPFnExactNetOkx2
namespace Go.Proofs.Ytogapggfegplkaa.PFnExactNetOk
open Go.RowKit Go.Proofs.YtogapggfegplkaaW.PrintWords Go.Proofs.YtogapggfegplkaaW.PrintLast Go.Proofs.YtogapggfegplkaaW.PrintMore
attribute [local go_sem] max2_int min2_int max_two min_two max_three min_three max_four min_four   -- for this text's walks alone
set_option linter.unusedVariables false
set_option linter.unusedSimpArgs false

/-! ### impl_TableOk: function 100 -/
/-- One pair of nodes: is there a walk? -/
def impl_TableOk.v (k : Nat) (a0 a1 : Int) (l2 l3 : List Int) (x y : Int) : Option Bool := (impl_WalkTable.f k a0 a1 l2 l3 x y).bind fun ws => some (decide ((ws.length : Int) > 0))
theorem impl_TableOk.v_mono (k : Nat) (a0 a1 : Int) (l2 l3 : List Int) (x y : Int) : LeO (impl_TableOk.v k a0 a1 l2 l3 x y) (impl_TableOk.v (k + 1) a0 a1 l2 l3 x y) := by
 unfold impl_TableOk.v
 exact LeO.bind (impl_WalkTable.mono _ _ _ _ _ _ _) (fun _ => LeO.refl _)
mutual
def impl_TableOk.l1 : Nat → Int → Int → List Int → List Int → Int → Int → Option Bool
 | 0, _, _, _, _, _, _ => none
 | k + 1, a0, a1, l2, l3, n, x => if x < n then (impl_TableOk.l2 k a0 a1 l2 l3 n x 0) else (some true)
def impl_TableOk.l2 : Nat → Int → Int → List Int → List Int → Int → Int → Int → Option Bool
 | 0, _, _, _, _, _, _, _ => none
 | k + 1, a0, a1, l2, l3, n, x, y => if y < n then (if x = y then (impl_TableOk.l2 k a0 a1 l2 l3 n x (wrap64 (y + 1))) else ((impl_TableOk.v k a0 a1 l2 l3 x y).bind fun b => (if b = true then (impl_TableOk.l2 k a0 a1 l2 l3 n x (wrap64 (y + 1))) else (some false)))) else (impl_TableOk.l1 k a0 a1 l2 l3 n (wrap64 (x + 1)))
end
/-- The function 'pairs' at the function's own literal. -/
def impl_TableOk.ps (k : Nat) (a0 a1 : Int) (l2 l3 : List Int) : Option Bool := (impl_NodeCount.f a0 a1).bind fun n => impl_TableOk.l1 k a0 a1 l2 l3 n 0
def impl_TableOk.l0 : Nat → Int → Int → List Int → List Int → Int → Int → Option Bool
 | 0, _, _, _, _, _, _ => none
 | k + 1, a0, a1, l2, l3, n, x => if x < n then (if 0 ≤ wrap64 (wrap64 (x * n) + x) then (if wrap64 (wrap64 (x * n) + x) < (l3.length : Int) then (if rd l3 (wrap64 (wrap64 (x * n) + x)) = 4 then (impl_TableOk.l0 k a0 a1 l2 l3 n (wrap64 (x + 1))) else (some false)) else none) else none) else (impl_TableOk.ps k a0 a1 l2 l3)
def impl_TableOk.f (k : Nat) (a0 a1 : Int) (l2 l3 : List Int) : Option Bool := (impl_NodeCount.f a0 a1).bind fun n => (impl_MeshOk.f k a0 a1 l2).bind fun ok => (if ok = true then (if (l3.length : Int) = wrap64 (n * n) then (impl_TableOk.l0 k a0 a1 l2 l3 n 0) else (some false)) else (some false))
theorem impl_TableOk.mono_l : ∀ k, (∀ a0 a1 l2 l3 n x, LeO (impl_TableOk.l1 k a0 a1 l2 l3 n x) (impl_TableOk.l1 (k + 1) a0 a1 l2 l3 n x)) ∧ (∀ a0 a1 l2 l3 n x y, LeO (impl_TableOk.l2 k a0 a1 l2 l3 n x y) (impl_TableOk.l2 (k + 1) a0 a1 l2 l3 n x y))
 | 0 => ⟨fun _ _ _ _ _ _ r h => by simp [impl_TableOk.l1] at h, fun _ _ _ _ _ _ _ r h => by simp [impl_TableOk.l2] at h⟩
 | k + 1 => by
  obtain ⟨ih1, ih2⟩ := impl_TableOk.mono_l k
  refine ⟨fun a0 a1 l2 l3 n x => ?_, fun a0 a1 l2 l3 n x y => ?_⟩
  ·unfold impl_TableOk.l1
   exact LeO.ite (ih2 _ _ _ _ _ _ _) (LeO.refl _)
  ·unfold impl_TableOk.l2
   exact LeO.ite (LeO.ite (ih2 _ _ _ _ _ _ _) (LeO.bind (impl_TableOk.v_mono _ _ _ _ _ _ _) (fun _ => LeO.ite (ih2 _ _ _ _ _ _ _) (LeO.refl _)))) (ih1 _ _ _ _ _ _)
theorem impl_TableOk.ps_mono (k : Nat) (a0 a1 : Int) (l2 l3 : List Int) : LeO (impl_TableOk.ps k a0 a1 l2 l3) (impl_TableOk.ps (k + 1) a0 a1 l2 l3) := by
 unfold impl_TableOk.ps
 exact LeO.bind (LeO.refl _) (fun _ => (impl_TableOk.mono_l k).1 _ _ _ _ _ _)
theorem impl_TableOk.mono_0 : ∀ k a0 a1 l2 l3 n x, LeO (impl_TableOk.l0 k a0 a1 l2 l3 n x) (impl_TableOk.l0 (k + 1) a0 a1 l2 l3 n x)
 | 0, _, _, _, _, _, _ => fun r h => by simp [impl_TableOk.l0] at h
 | k + 1, a0, a1, l2, l3, n, x => by
  have ih := impl_TableOk.mono_0 k
  unfold impl_TableOk.l0
  exact LeO.ite (LeO.ite (LeO.ite (LeO.ite (ih _ _ _ _ _ _) (LeO.refl _)) (LeO.refl _)) (LeO.refl _)) (impl_TableOk.ps_mono _ _ _ _ _)
theorem impl_TableOk.mono (a0 a1 : Int) (l2 l3 : List Int) : ∀ k, LeO (impl_TableOk.f k a0 a1 l2 l3) (impl_TableOk.f (k + 1) a0 a1 l2 l3) := by
 intro k
 unfold impl_TableOk.f
 exact LeO.bind (LeO.refl _) (fun _ => LeO.bind (impl_MeshOk.mono _ _ _ _) (fun _ => LeO.ite (LeO.ite (impl_TableOk.mono_0 _ _ _ _ _ _ _) (LeO.refl _)) (LeO.refl _)))
theorem impl_TableOk.mkf (fn : Fn) (first cap : Array Value) (w : World) : (Instr.makeFunc fn first cap).run Try.prog w = .ok (.func fn first cap) w := rfl
set_option maxHeartbeats 2000000 in
set_option maxRecDepth 100000 in
/-- The function literal, at the two captured variables. -/
theorem impl_TableOk.clo (k : Nat) (a0 a1 : Int) (A2 : Option Addr) (c2 : Nat) (l2 : List Int) (A3 : Option Addr) (c3 : Nat) (l3 : List Int) (x y : Int) (r : Bool) (gm gt : Nat) (w : World)
  (hr2 : Kd.C (Kd.int .i64) w A2 l2.length l2) (hc2 : l2.length ≤ c2) (hr3 : Kd.C (Kd.int .i64) w A3 l3.length l3) (hc3 : l3.length ≤ c3)
  (hm0 : w.cell? ⟨gm, 0, none⟩ = some (.int .i64 a0)) (hm1 : w.cell? ⟨gm, 1, none⟩ = some (.int .i64 a1)) (hm2 : w.cell? ⟨gm, 2, none⟩ = some (.slice A2 l2.length c2)) (ht0 : w.cell? ⟨gt, 0, none⟩ = some (.slice A3 l3.length c3))
  (h : impl_TableOk.v k a0 a1 l2 l3 x y = some r) :
  Calls Try.prog 147 #[.int .i64 x, .int .i64 y, .pointer (some ⟨gm, 0, none⟩), .pointer (some ⟨gt, 0, none⟩)] w fun e w' => e = .returned (.bool r) ∧ Below w.heap.size w w' := by
 obtain ⟨ws, hw, hv⟩ := Option.bind_eq_some_iff.1 h
 obtain rfl := Option.some.inj hv
 have HR2 := Aside0.mk hr2
 have HC2 := Aside0.mk hc2
 have HR3 := Aside0.mk hr3
 have HC3 := Aside0.mk hc3
 have HW := Aside0.mk hw
 clear hr2 hc2 hr3 hc3 hw h hv
 go_enter Try.func147, Try.ntmps147
 go_wp2_with (first | (go_at_call 148; (with_reducible refine (impl_WalkTable.calls k a0 a1 A2 c2 l2 A3 c3 l3 x y ws _ ?side1 HC2.out ?side3 HC3.out HW.out).mono ?_); (case side1 => repeat (first | exact HR2.out | (with_reducible refine Kd.C_alloc ?_ _) | (with_reducible refine Kd.C_drewN ?_ _) | (with_reducible refine Kd.C_drew ?_))); (case side3 => repeat (first | exact HR3.out | (with_reducible refine Kd.C_alloc ?_ _) | (with_reducible refine Kd.C_drewN ?_ _) | (with_reducible refine Kd.C_drew ?_))); rintro e w' ⟨v, rfl, ho, hb⟩; obtain ⟨A, c, rfl⟩ := Kd.R_slice ho; have HB := Aside0.mk hb; clear ho hb))
 go_ret
 exact ⟨by first | rfl | (simp; done), HB.out⟩
set_option maxHeartbeats 2000000 in
set_option maxRecDepth 100000 in
/-- 'pairs' at the function literal, the captured variables in two blocks. -/
theorem impl_TableOk.prs (k : Nat) (a0 a1 : Int) (A2 : Option Addr) (c2 : Nat) (l2 : List Int) (A3 : Option Addr) (c3 : Nat) (l3 : List Int) (r : Bool) (gm gt : Nat) (w : World)
  (hr2 : Kd.C (Kd.int .i64) w A2 l2.length l2) (hc2 : l2.length ≤ c2) (hr3 : Kd.C (Kd.int .i64) w A3 l3.length l3) (hc3 : l3.length ≤ c3)
  (hm0 : w.cell? ⟨gm, 0, none⟩ = some (.int .i64 a0)) (hm1 : w.cell? ⟨gm, 1, none⟩ = some (.int .i64 a1)) (hm2 : w.cell? ⟨gm, 2, none⟩ = some (.slice A2 l2.length c2)) (ht0 : w.cell? ⟨gt, 0, none⟩ = some (.slice A3 l3.length c3))
  (h : impl_TableOk.ps k a0 a1 l2 l3 = some r) :
  Calls Try.prog 146 #[.agg #[.int .i64 a0, .int .i64 a1], .func (.func 147) #[] #[.pointer (some ⟨gm, 0, none⟩), .pointer (some ⟨gt, 0, none⟩)]] w fun e w' => e = .returned (.bool r) ∧ Below w.heap.size w w' := by
 obtain ⟨n, hn, h1⟩ := Option.bind_eq_some_iff.1 h
 have HR2 := Aside0.mk hr2
 have HC2 := Aside0.mk hc2
 have HR3 := Aside0.mk hr3
 have HC3 := Aside0.mk hc3
 have HM0 := Aside0.mk hm0
 have HM1 := Aside0.mk hm1
 have HM2 := Aside0.mk hm2
 have HT0 := Aside0.mk ht0
 have HN := Aside0.mk hn
 have H' := Aside0.mk h1
 clear hr2 hc2 hr3 hc3 hm0 hm1 hm2 ht0 hn h1 h
 have HB := Aside0.mk (Below.refl w.heap.size w)
 go_enter Try.func146, Try.ntmps146
 go_wp2_with (first | (go_at_call 86; (with_reducible refine (impl_NodeCount.calls a0 a1 n _ HN.out).mono ?_); rintro e w' ⟨rfl, hb⟩; have HB1 := Aside0.mk (bs_ HB.out hb); clear HB hb; have HB := HB1; clear HB1))
 go_loopg [11] k (fun kq v11 w' => ∃ x : Int, v11 = .int .i64 x ∧ Aside0 (impl_TableOk.l1 kq a0 a1 l2 l3 n x = some r) ∧ Aside0 (kq ≤ k) ∧ Aside0 (Below w.heap.size w w'))
 case atStart => exact ⟨0, (by first | rfl | (simp; done)), H', ⟨Nat.le_refl _⟩, ⟨bb_ HB.out⟩⟩
 case round =>
  clear H' HB
  obtain ⟨x, rfl, HA, HK1, HB⟩ := hrel
  cases gk with
  | zero => exact absurd HA.out (by simp [impl_TableOk.l1])
  | succ k1 =>
   have H := HA.out
   clear HA
   simp only [impl_TableOk.l1] at H
   by_cases c1 : x < n
   ·rw [if_pos c1] at H
    have c1b : decide (x < n) = true := decide_eq_true c1
    clear c1
    have H' := Aside0.mk H
    clear H
    go_wp2
    go_loopg [15] k1 (fun kq v15 w' => ∃ y : Int, v15 = .int .i64 y ∧ Aside0 (impl_TableOk.l2 kq a0 a1 l2 l3 n x y = some r) ∧ Aside0 (kq ≤ k1) ∧ Aside0 (Below w.heap.size w w'))
    case atStart => exact ⟨0, (by first | rfl | (simp; done)), H', ⟨Nat.le_refl _⟩, ⟨bb_ HB.out⟩⟩
    case round =>
     clear H' HB c1b
     obtain ⟨y, rfl, HA, HK2, HB⟩ := hrel
     cases gk with
     | zero => exact absurd HA.out (by simp [impl_TableOk.l2])
     | succ k2 =>
      have H := HA.out
      clear HA
      simp only [impl_TableOk.l2] at H
      by_cases c2 : y < n
      ·rw [if_pos c2] at H
       have c2b : decide (y < n) = true := decide_eq_true c2
       clear c2
       by_cases c3 : x = y
       ·rw [if_pos c3] at H
        have c3b : (x == y) = true := beq_iff_eq.mpr c3
        have c3c : (x != y) = false := bne_eq_false_iff_eq.mpr c3
        clear c3
        have H' := Aside0.mk H
        clear H
        go_wp2
        go_roundg k2
        case measure => have := HK2.out; omega
        case rel => exact ⟨wrap64 (y + 1), (by first | rfl | (simp; done)), H', ⟨by have := HK2.out; omega⟩, HB⟩
       ·rw [if_neg c3] at H
        have c3b : (x == y) = false := beq_eq_false_iff_ne.mpr c3
        have c3c : (x != y) = true := bne_iff_ne.mpr c3
        clear c3
        obtain ⟨b, hb0, H2⟩ := Option.bind_eq_some_iff.1 H
        clear H
        have HV := Aside0.mk hb0
        clear hb0
        cases b with
        | true =>
         have H3 : impl_TableOk.l2 k2 a0 a1 l2 l3 n x (wrap64 (y + 1)) = some r := H2
         clear H2
         have H' := Aside0.mk H3
         clear H3
         go_wp2_with fail
         refine (impl_TableOk.clo k2 a0 a1 A2 c2 l2 A3 c3 l3 x y true gm gt _ (Kd.C_below HR2.out HB.out) HC2.out (Kd.C_below HR3.out HB.out) HC3.out (pw_cell_below HB.out HM0.out) (pw_cell_below HB.out HM1.out) (pw_cell_below HB.out HM2.out) (pw_cell_below HB.out HT0.out) HV.out).mono ?_
         rintro e w' ⟨rfl, hb⟩
         have HB1 := Aside0.mk (below_step HB.out hb)
         clear HB hb
         have HB := HB1
         clear HB1
         go_wp2
         go_roundg k2
         case measure => have := HK2.out; omega
         case rel => exact ⟨wrap64 (y + 1), (by first | rfl | (simp; done)), H', ⟨by have := HK2.out; omega⟩, HB⟩
        | false =>
         have H3 : some false = some r := H2
         clear H2
         obtain rfl := Option.some.inj H3
         clear H3
         go_wp2_with fail
         refine (impl_TableOk.clo k2 a0 a1 A2 c2 l2 A3 c3 l3 x y false gm gt _ (Kd.C_below HR2.out HB.out) HC2.out (Kd.C_below HR3.out HB.out) HC3.out (pw_cell_below HB.out HM0.out) (pw_cell_below HB.out HM1.out) (pw_cell_below HB.out HM2.out) (pw_cell_below HB.out HT0.out) HV.out).mono ?_
         rintro e w' ⟨rfl, hb⟩
         have HB1 := Aside0.mk (below_step HB.out hb)
         clear HB hb
         have HB := HB1
         clear HB1
         go_wp2
         go_ret
         exact ⟨by first | rfl | (simp; done), HB.out⟩
      ·rw [if_neg c2] at H
       have c2b : decide (y < n) = false := decide_eq_false c2
       clear c2
       have H' := Aside0.mk H
       clear H
       go_wp2
       go_roundg k2
       case measure => have := HK1.out; have := HK2.out; omega
       case rel => exact ⟨wrap64 (x + 1), (by first | rfl | (simp; done)), H', ⟨by have := HK1.out; have := HK2.out; omega⟩, HB⟩
   ·rw [if_neg c1] at H
    have c1b : decide (x < n) = false := decide_eq_false c1
    clear c1
    obtain rfl := Option.some.inj H
    go_wp2
    go_ret
    exact ⟨by first | rfl | (simp; done), HB.out⟩
set_option maxHeartbeats 4000000 in
set_option maxRecDepth 100000 in
theorem impl_TableOk.calls (k : Nat) (a0_0 : Int) (a0_1 : Int) (A0_2 : Option Addr) (c0_2 : Nat) (l0_2 : List Int) (A1_0 : Option Addr) (c1_0 : Nat) (l1_0 : List Int) (r : Bool) (w : World) (hr0_2 : Kd.C (Kd.int .i64) w A0_2 l0_2.length l0_2) (hc0_2 : l0_2.length ≤ c0_2) (hr1_0 : Kd.C (Kd.int .i64) w A1_0 l1_0.length l1_0) (hc1_0 : l1_0.length ≤ c1_0) (h : impl_TableOk.f k a0_0 a0_1 l0_2 l1_0 = some r) :
  Calls Try.prog 100 #[.agg #[.int .i64 a0_0, .int .i64 a0_1, .slice A0_2 l0_2.length c0_2], .agg #[.slice A1_0 l1_0.length c1_0]] w fun e w' => e = .returned (.bool r) ∧ Below w.heap.size w w' := by
 have hmf := impl_TableOk.mkf
 obtain ⟨n, hn, h1⟩ := Option.bind_eq_some_iff.1 h
 obtain ⟨ok, ho, h2⟩ := Option.bind_eq_some_iff.1 h1
 have HR2 := Aside0.mk hr0_2
 have HC2 := Aside0.mk hc0_2
 have HR3 := Aside0.mk hr1_0
 have HC3 := Aside0.mk hc1_0
 have HN := Aside0.mk hn
 have HO := Aside0.mk ho
 have H2 := Aside0.mk h2
 clear hr0_2 hc0_2 hr1_0 hc1_0 hn ho h h1 h2
 go_enter Try.func100, Try.ntmps100
 go_wp2_with (first | ((with_reducible refine gate_dst (N := 2) rfl ?_); refine box_event ?hg (N := 2) ?hd (cs := #[.int .i64 a0_0, .int .i64 a0_1, .slice A0_2 l0_2.length c0_2]) (t := 46) ?hr ?_; (case hd => rfl); (case hg => rfl); (case hr => first | (go_simp; done) | (go_simp; rfl)); intro gm hgm w1 hbx1 hb1; clear hgm; have HB1 := Aside0.mk hb1; have BX1 := Aside0.mk hbx1; clear hb1 hbx1) | ((with_reducible refine gate_dst (N := 3) rfl ?_); refine box_event ?hg (N := 3) ?hd (cs := #[.slice A1_0 l1_0.length c1_0]) (t := 48) ?hr ?_; (case hd => rfl); (case hg => rfl); (case hr => first | (go_simp; done) | (go_simp; rfl)); intro gt hgt w2 hbx2 hb2; clear hgt; have HB2 := Aside0.mk (below_step HB1.out hb2); have BX2 := Aside0.mk hbx2; have hm0 : w2.cell? ⟨gm, 0, none⟩ = some (.int .i64 a0_0) := pw_cell_below hb2 ((blk_cell BX1.out 0).trans rfl); have hm1 : w2.cell? ⟨gm, 1, none⟩ = some (.int .i64 a0_1) := pw_cell_below hb2 ((blk_cell BX1.out 1).trans rfl); have hm2 : w2.cell? ⟨gm, 2, none⟩ = some (.slice A0_2 l0_2.length c0_2) := pw_cell_below hb2 ((blk_cell BX1.out 2).trans rfl); have ht0 : w2.cell? ⟨gt, 0, none⟩ = some (.slice A1_0 l1_0.length c1_0) := (blk_cell BX2.out 0).trans rfl; clear hb2 hbx2))
 refine (impl_NodeCount.calls a0_0 a0_1 n _ HN.out).mono ?_
 rintro e w3 ⟨rfl, hb3⟩
 replace hm0 := pw_cell_below hb3 hm0
 replace hm1 := pw_cell_below hb3 hm1
 replace hm2 := pw_cell_below hb3 hm2
 replace ht0 := pw_cell_below hb3 ht0
 have HB3 := Aside0.mk (below_step HB2.out hb3)
 clear hb3
 go_wp2_with fail
 refine (impl_MeshOk.calls k a0_0 a0_1 A0_2 c0_2 l0_2 ok _ (Kd.C_below HR2.out HB3.out) HC2.out HO.out).mono ?_
 rintro e w4 ⟨rfl, hb4⟩
 replace hm0 := pw_cell_below hb4 hm0
 replace hm1 := pw_cell_below hb4 hm1
 replace hm2 := pw_cell_below hb4 hm2
 replace ht0 := pw_cell_below hb4 ht0
 have HB4 := Aside0.mk (below_step HB3.out hb4)
 clear hb4
 cases ok with
 | false =>
  have h3 : some false = some r := H2.out
  obtain rfl := Option.some.inj h3
  clear h3 H2
  go_wp2
  go_ret
  exact ⟨by first | rfl | (simp; done), HB4.out⟩
 | true =>
  have h3 : (if (l1_0.length : Int) = wrap64 (n * n) then (impl_TableOk.l0 k a0_0 a0_1 l0_2 l1_0 n 0) else (some false)) = some r := H2.out
  clear H2
  by_cases cl : (l1_0.length : Int) = wrap64 (n * n)
  ·rw [if_pos cl] at h3
   have clb : ((l1_0.length : Int) == wrap64 (n * n)) = true := beq_iff_eq.mpr cl
   have clc : ((l1_0.length : Int) != wrap64 (n * n)) = false := bne_eq_false_iff_eq.mpr cl
   clear cl
   have H' := Aside0.mk h3
   clear h3
   go_wp2
   go_loopg [23] k (fun kq v23 w' => ∃ x : Int, v23 = .int .i64 x ∧ Aside0 (impl_TableOk.l0 kq a0_0 a0_1 l0_2 l1_0 n x = some r) ∧ Aside0 (kq ≤ k) ∧ w' = w4)
   case atStart => exact ⟨0, (by first | rfl | (simp; done)), H', ⟨Nat.le_refl _⟩, rfl⟩
   case round =>
    clear H' clb clc
    obtain ⟨x, rfl, HA, HK1, rfl⟩ := hrel
    cases gk with
    | zero => exact absurd HA.out (by simp [impl_TableOk.l0])
    | succ k1 =>
     have H := HA.out
     clear HA
     simp only [impl_TableOk.l0] at H
     by_cases c1 : x < n
     ·rw [if_pos c1] at H
      have c1b : decide (x < n) = true := decide_eq_true c1
      clear c1
      by_cases c2 : 0 ≤ wrap64 (wrap64 (x * n) + x)
      ·rw [if_pos c2] at H
       by_cases c3 : wrap64 (wrap64 (x * n) + x) < (l1_0.length : Int)
       ·rw [if_pos c3] at H
        obtain ⟨ad, ea, hx⟩ := Kd.at_int (Kd.C_below HR3.out HB4.out) (wrap64 (wrap64 (x * n) + x)) c2 c3
        cases ea
        have c2b : decide (0 ≤ wrap64 (wrap64 (x * n) + x)) = true := decide_eq_true c2
        have c3b : decide (wrap64 (wrap64 (x * n) + x) < (l1_0.length : Int)) = true := decide_eq_true c3
        replace c2 := eq_true c2
        replace c3 := eq_true c3
        by_cases c4 : rd l1_0 (wrap64 (wrap64 (x * n) + x)) = 4
        ·rw [if_pos c4] at H
         have c4b : (rd l1_0 (wrap64 (wrap64 (x * n) + x)) == 4) = true := beq_iff_eq.mpr c4
         have c4c : (rd l1_0 (wrap64 (wrap64 (x * n) + x)) != 4) = false := bne_eq_false_iff_eq.mpr c4
         clear c4
         have H' := Aside0.mk H
         clear H
         go_wp2
         go_roundg k1
         case measure => have := HK1.out; omega
         case rel => exact ⟨wrap64 (x + 1), (by first | rfl | (simp; done)), H', ⟨by have := HK1.out; omega⟩, rfl⟩
        ·rw [if_neg c4] at H
         have c4b : (rd l1_0 (wrap64 (wrap64 (x * n) + x)) == 4) = false := beq_eq_false_iff_ne.mpr c4
         have c4c : (rd l1_0 (wrap64 (wrap64 (x * n) + x)) != 4) = true := bne_iff_ne.mpr c4
         clear c4
         obtain rfl := Option.some.inj H
         go_wp2
         go_ret
         exact ⟨by first | rfl | (simp; done), HB4.out⟩
       ·rw [if_neg c3] at H
        exact absurd H (by simp)
      ·rw [if_neg c2] at H
       exact absurd H (by simp)
     ·rw [if_neg c1] at H
      have c1b : decide (x < n) = false := decide_eq_false c1
      clear c1
      have HP := Aside0.mk H
      clear H
      go_wp2_with fail
      refine (impl_TableOk.prs k1 a0_0 a0_1 A0_2 c0_2 l0_2 A1_0 c1_0 l1_0 r gm gt _ (Kd.C_below HR2.out HB4.out) HC2.out (Kd.C_below HR3.out HB4.out) HC3.out hm0 hm1 hm2 ht0 HP.out).mono ?_
      rintro e w5 ⟨rfl, hb5⟩
      have HB5 := Aside0.mk (below_step HB4.out hb5)
      clear hb5 hm0 hm1 hm2 ht0
      go_wp2
      go_ret
      exact ⟨by first | rfl | (simp; done), HB5.out⟩
  ·rw [if_neg cl] at h3
   have clb : ((l1_0.length : Int) == wrap64 (n * n)) = false := beq_eq_false_iff_ne.mpr cl
   have clc : ((l1_0.length : Int) != wrap64 (n * n)) = true := bne_iff_ne.mpr cl
   clear cl
   obtain rfl := Option.some.inj h3
   clear h3
   go_wp2
   go_ret
   exact ⟨by first | rfl | (simp; done), HB4.out⟩

/-! ### impl_ClassesOk: function 45 -/
def impl_ClassesOk.f (k : Nat) (a0_0 : Int) (a0_1 : Int) (l0_2 : List Int) (l1_0 : List Int) (l1_1 : List Int) : Option (Bool) := (impl_TableOk.f k a0_0 a0_1 l0_2 l1_0).bind fun t162 => (if t162 = true then ((impl_TableOk.f k a0_0 a0_1 l0_2 l1_1).bind fun t163 => (some t163)) else (some false))
theorem impl_ClassesOk.mono : ∀ a0 a1 a2 a3 a4 k, LeO (impl_ClassesOk.f k a0 a1 a2 a3 a4) (impl_ClassesOk.f (k + 1) a0 a1 a2 a3 a4) := by
 intro a0 a1 a2 a3 a4 k
 unfold impl_ClassesOk.f
 repeat' first
   | (with_reducible exact impl_TableOk.mono _ _ _ _ _)
   | (with_reducible exact LeO.refl _)
   | (with_reducible exact LeO.none _)
   | (with_reducible refine LeO.ite ?_ ?_)
   | (with_reducible refine LeO.bind ?_ (fun _ => ?_))
   | exact impl_TableOk.mono _ _ _ _ _
   | exact LeO.none _
   | refine LeO.ite ?_ ?_
   | refine LeO.bind ?_ (fun _ => ?_)
theorem impl_ClassesOk.e0 {P : Prop} (h : P := by
 go_enter Try.func45, Try.ntmps45
 go_wp2_with (first | ((with_reducible refine gate_dst (N := 2) rfl ?_); refine box_event ?hg (N := 2) ?hd (cs := #[.int .i64 a0_0, .int .i64 a0_1, .slice A0_2 l0_2.length c0_2]) (t := 46) ?hr ?_; (case hd => rfl); (case hg => rfl); (case hr => first | (go_simp; done) | (go_simp; rfl)); intro gb160 hg w_0 hbox hb; have BK160 := Aside0.mk (hbox); have GW160 := Aside0.mk ((by rw [hg]; exact (bz_ HB.out) : w.heap.size ≤ gb160)); have GE160 := Aside0.mk ((by rw [hg]; exact (bz_ HB.out) : w.heap.size ≤ gb160)); replace HB := Aside0.mk (bs_ HB.out hb); clear hb hbox hg) | ((with_reducible refine gate_dst (N := 3) rfl ?_); refine box_event ?hg (N := 3) ?hd (cs := #[.slice A1_0 l1_0.length c1_0, .slice A1_1 l1_1.length c1_1]) (t := 50) ?hr ?_; (case hd => rfl); (case hg => rfl); (case hr => first | (go_simp; done) | (go_simp; rfl)); intro gb161 hg w_0 hbox hb; have BK161 := Aside0.mk (hbox); have GW161 := Aside0.mk ((by rw [hg]; exact (bz_ HB.out) : w.heap.size ≤ gb161)); have GE161 := Aside0.mk ((by rw [hg]; exact (bz_ HB.out) : w.heap.size ≤ gb161)); replace HB := Aside0.mk (bs_ HB.out hb); have NB160_161 := Aside0.mk ((by rw [hg]; exact Nat.ne_of_lt (bl_ BK160.out) : gb160 ≠ gb161)); have NB161_160 := Aside0.mk ((by rw [hg]; exact Nat.ne_of_gt (bl_ BK160.out) : gb161 ≠ gb160)); replace BK160 := Aside0.mk (bk_ BK160.out hb); clear hb hbox hg; have hnb_ := NB160_161.out; have hnc_ := NB161_160.out; obtain ⟨hcz_0, hcz_1, hcz_2, hfz_0, hfz_1, hfz_2⟩ := cz3_ BK160.out; obtain ⟨hcz__0, hcz__1, hfz__0, hfz__1⟩ := cz2_ BK161.out) | ((with_reducible refine gate_callee (f := 100) rfl ?_); refine gm_ (some 8) Try.func100 #[.agg #[.int .i64 a0_0, .int .i64 a0_1, .slice A0_2 l0_2.length c0_2], .agg #[.slice A1_0 l1_0.length c1_0]] rfl ?_; (with_reducible refine (impl_TableOk.calls k a0_0 a0_1 _ _ l0_2 _ _ l1_0 _ _ ?side1 HC0_2.out ?side3 HC1_0.out A3.out).mono ?_); (case side1 => exact cb_ HR0_2.out HB.out); (case side3 => exact cb_ HR1_0.out HB.out); rintro e w_0 ⟨rfl, hb⟩; refine ⟨_, rfl, ?_⟩; replace BK160 := Aside0.mk (bk_ BK160.out hb); replace BK161 := Aside0.mk (bk_ BK161.out hb); replace HB := Aside0.mk (bs_ HB.out hb); (try clear hb); obtain ⟨hcz_0, hcz_1, hcz_2, hfz_0, hfz_1, hfz_2⟩ := cz3_ BK160.out; obtain ⟨hcz__0, hcz__1, hfz__0, hfz__1⟩ := cz2_ BK161.out) | (go_at_call 100; (with_reducible refine (impl_TableOk.calls k a0_0 a0_1 _ _ l0_2 _ _ l1_1 t163 _ ?side1 HC0_2.out ?side3 HC1_1.out A5.out).mono ?_); (case side1 => exact cb_ HR0_2.out HB.out); (case side3 => exact cb_ HR1_1.out HB.out); rintro e w_0 ⟨rfl, hb⟩; replace BK160 := Aside0.mk (bk_ BK160.out hb); replace BK161 := Aside0.mk (bk_ BK161.out hb); replace HB := Aside0.mk (bs_ HB.out hb); (try clear hb)))
 go_ret
 exact ⟨fin_, bb_ HB.out⟩) : P := h
set_option maxHeartbeats 8000000 in
set_option maxRecDepth 100000 in
theorem impl_ClassesOk.calls (k : Nat) (a0_0 : Int) (a0_1 : Int) (A0_2 : Option Addr) (c0_2 : Nat) (l0_2 : List Int) (A1_0 : Option Addr) (c1_0 : Nat) (l1_0 : List Int) (A1_1 : Option Addr) (c1_1 : Nat) (l1_1 : List Int) (r : Bool) (w : World) (hr0_2 : Kd.C (Kd.int .i64) w A0_2 l0_2.length l0_2) (hc0_2 : l0_2.length ≤ c0_2) (hr1_0 : Kd.C (Kd.int .i64) w A1_0 l1_0.length l1_0) (hc1_0 : l1_0.length ≤ c1_0) (hr1_1 : Kd.C (Kd.int .i64) w A1_1 l1_1.length l1_1) (hc1_1 : l1_1.length ≤ c1_1) (h : impl_ClassesOk.f k a0_0 a0_1 l0_2 l1_0 l1_1 = some r) :
  Calls Try.prog 45 #[.agg #[.int .i64 a0_0, .int .i64 a0_1, .slice A0_2 l0_2.length c0_2], .agg #[.slice A1_0 l1_0.length c1_0, .slice A1_1 l1_1.length c1_1]] w fun e w' => e = .returned (.bool r) ∧ Below w.heap.size w w' := by
 have hu46 := Try.underlying46
 have hu50 := Try.underlying50
 have hu48 := Try.underlying48
 have HR0_2 := Aside0.mk hr0_2
 have HC0_2 := Aside0.mk hc0_2
 clear hr0_2 hc0_2
 have HR1_0 := Aside0.mk hr1_0
 have HC1_0 := Aside0.mk hc1_0
 clear hr1_0 hc1_0
 have HR1_1 := Aside0.mk hr1_1
 have HC1_1 := Aside0.mk hc1_1
 clear hr1_1 hc1_1
 have HB := Aside0.mk (Below.refl w.heap.size w)
 have H : ((impl_TableOk.f k a0_0 a0_1 l0_2 l1_0).bind fun t162 => (if t162 = true then ((impl_TableOk.f k a0_0 a0_1 l0_2 l1_1).bind fun t163 => (some t163)) else (some false))) = some r := h
 clear h
 replace H := Option.bind_eq_some_iff.mp H
 obtain ⟨t162, A30, H⟩ := H
 try dsimp only at H
 have A3 := Aside0.mk A30
 clear A30
 by_cases c4 : t162 = true
 ·subst c4
  rw [if_pos rfl] at H
  replace H := Option.bind_eq_some_iff.mp H
  obtain ⟨t163, A50, H⟩ := H
  try dsimp only at H
  have A5 := Aside0.mk A50
  clear A50
  obtain rfl := Option.some.inj H
  exact impl_ClassesOk.e0
 ·replace c4 := Bool.eq_false_iff.mpr c4
  subst c4
  rw [if_neg (show ¬ (false = true) by decide)] at H
  obtain rfl := Option.some.inj H
  exact impl_ClassesOk.e0

/-! ### impl_ClassOnly: function 90 -/
def impl_ClassOnly.l0 : Nat → Int → List (S138) → List (S138) → Int → Int → Option ((List (S138)))
 | 0, _, _, _, _, _ => none
 | k + 1, x1, x5, x9, x10, x11 => if x11 < x10 then (if 0 ≤ x11 then (if x11 < (x9.length : Int) then (if ((rd_T138 x9 x11).f2) = x1 then (if x5.length < 4398046511104 then (impl_ClassOnly.l0 k x1 (x5 ++ [(⟨(rd_T138 x9 x11).f0, (rd_T138 x9 x11).f1, (rd_T138 x9 x11).f2, (rd_T138 x9 x11).f3, (rd_T138 x9 x11).f4⟩ : S138)]) x9 x10 (wrap64 (x11 + 1))) else (none)) else (impl_ClassOnly.l0 k x1 x5 x9 x10 (wrap64 (x11 + 1)))) else (none)) else (none)) else (some x5)
def impl_ClassOnly.f (k : Nat) (l0 : List (S138)) (a1 : Int) : Option ((List (S138))) := impl_ClassOnly.l0 k a1 (([] : List (S138))) l0 (l0.length : Int) 0
theorem impl_ClassOnly.mono_l : ∀ k, (∀ y0 y1 y2 y3 y4, LeO (impl_ClassOnly.l0 k y0 y1 y2 y3 y4) (impl_ClassOnly.l0 (k + 1) y0 y1 y2 y3 y4))
 | 0 => fun _ _ _ _ _ r h => by simp [impl_ClassOnly.l0] at h
 | k + 1 => by
  have ih0 := impl_ClassOnly.mono_l k
  ·intro y0 y1 y2 y3 y4
   unfold impl_ClassOnly.l0
   repeat' first
   | (with_reducible exact ih0 _ _ _ _ _)
   | (with_reducible exact LeO.refl _)
   | (with_reducible exact LeO.none _)
   | (with_reducible refine LeO.ite ?_ ?_)
   | (with_reducible refine LeO.bind ?_ (fun _ => ?_))
   | exact ih0 _ _ _ _ _
   | exact LeO.none _
   | refine LeO.ite ?_ ?_
   | refine LeO.bind ?_ (fun _ => ?_)
theorem impl_ClassOnly.mono : ∀ a0 a1 k, LeO (impl_ClassOnly.f k a0 a1) (impl_ClassOnly.f (k + 1) a0 a1) := by
 intro a0 a1 k
 have ih0 := impl_ClassOnly.mono_l k
 unfold impl_ClassOnly.f
 repeat' first
   | (with_reducible exact ih0 _ _ _ _ _)
   | (with_reducible exact LeO.refl _)
   | (with_reducible exact LeO.none _)
   | (with_reducible refine LeO.ite ?_ ?_)
   | (with_reducible refine LeO.bind ?_ (fun _ => ?_))
   | exact ih0 _ _ _ _ _
   | exact LeO.none _
   | refine LeO.ite ?_ ?_
   | refine LeO.bind ?_ (fun _ => ?_)
set_option maxHeartbeats 8000000 in
set_option maxRecDepth 100000 in
theorem impl_ClassOnly.calls (k : Nat) (A0 : Option Addr) (c0 : Nat) (l0 : List (S138)) (a1 : Int) (r : List (S138)) (w : World) (hr0 : Kd.C k138 w A0 l0.length l0) (hc0 : l0.length ≤ c0) (h : impl_ClassOnly.f k l0 a1 = some r) :
  Calls Try.prog 90 #[.slice A0 l0.length c0, .int .i64 a1] w fun e w' => ∃ v0_ : Value, e = .returned (v0_) ∧ Kd.R k138 138 w' w.heap.size (fun _ => True) v0_ r ∧ Below w.heap.size w w' := by
 have hu138 := Try.underlying138
 have HR0 := Aside0.mk hr0
 have HC0 := Aside0.mk hc0
 clear hr0 hc0
 have HB := Aside0.mk (Below.refl w.heap.size w)
 have H : (impl_ClassOnly.l0 k a1 (([] : List (S138))) l0 (l0.length : Int) 0) = some r := h
 clear h
 obtain ⟨y164, hy164⟩ : ∃ y_ : List (S138), y_ = (([] : List (S138))) := ⟨_, rfl⟩
 replace H : (impl_ClassOnly.l0 k a1 y164 l0 (l0.length : Int) 0) = some r := by first | (rw [hy164]; with_reducible exact H) | (have H2_ := (Option.bind_some _ _).symm.trans H; rw [hy164]; with_reducible exact H2_) | (have H2_ := (Option.bind_some _ _).symm.trans H; with_reducible exact H2_) | with_reducible exact H | (rw [hy164]; exact H) | exact H
 have Ny164 := Aside0.mk hy164
 clear hy164
 have H' := Aside0.mk H
 clear H
 go_enter Try.func90, Try.ntmps90
 go_wp2_with (first | ((with_reducible refine gate_dst (N := 8) rfl ?_); refine Kd.R_lit k138 _ 138 ?hg (N := 8) ?hd (xs := ([] : List (S138))) (inner := []) (ok := fun _ => True) (okp := fun _ => True) ?hr ?hp (fun _ hk => hk) trivial (Below.refl _ _) (Nat.le_refl _) (by simp) ?_; (case hd => rfl); (case hg => rfl); (case hr => first | (go_simp; done) | (go_simp; rfl)); (case hp => exact (Reps.none _ _)); intro v165 w3 ho4 hb hg_ hnew_; clear hg_ hnew_; (first | rw [← Ny164.out] at ho4 | (simp only [Int.reduceToNat] at ho4; rw [← Ny164.out] at ho4)); have HO166 := Aside0.mk (Kd.R_lower ho4 (bz_ HB.out)); replace HB := Aside0.mk (bs_ HB.out hb); clear hb ho4))
 go_loopg [5, 11] k (fun kq v5 v11 w' => ∃ (x5_1 : List (S138)) (x11_1 : Int), v11 = .int .i64 x11_1 ∧ Aside0 (impl_ClassOnly.l0 kq a1 x5_1 l0 (l0.length : Int) x11_1 = some r) ∧ Aside0 (kq ≤ k) ∧ Aside0 (Kd.R k138 138 w' w.heap.size (fun _ => True) v5 x5_1) ∧ Aside0 (Below w.heap.size w w'))
 case atStart => exact ⟨(y164), (0), ef_, H', ⟨Nat.le_refl _⟩, ⟨by (with_reducible repeat (first | apply Kd.R_alloc | apply Kd.R_drewN | apply Kd.R_drew)); exact HO166.out⟩, ⟨bb_ HB.out⟩⟩
 case round =>
  clear H'
  obtain ⟨x5_1, x11_1, rfl, HA, HK1, HO_5, HB⟩ := hrel
  cases gk with
  | zero => exact absurd HA.out (by simp [impl_ClassOnly.l0])
  | succ k1 =>
   have H := HA.out
   clear HA
   simp only [impl_ClassOnly.l0] at H
   by_cases c5 : x11_1 < (l0.length : Int)
   ·rw [if_pos c5] at H
    have c5b0 : decide (x11_1 < (l0.length : Int)) = true := decide_eq_true c5
    clear c5
    by_cases c6 : 0 ≤ x11_1
    ·rw [if_pos c6] at H
     have c6b0 : decide (0 ≤ x11_1) = true := decide_eq_true c6
     clear c6
     by_cases c7 : x11_1 < (l0.length : Int)
     ·rw [if_pos c7] at H
      have c7b0 : decide (x11_1 < (l0.length : Int)) = true := decide_eq_true c7
      clear c7
      by_cases c8 : ((rd_T138 l0 x11_1).f2) = a1
      ·rw [if_pos c8] at H
       have c8b0 : (((rd_T138 l0 x11_1).f2) == a1) = true := beq_iff_eq.mpr c8
       have c8b1 : (((rd_T138 l0 x11_1).f2) != a1) = false := bne_eq_false_iff_eq.mpr c8
       clear c8
       by_cases c9 : x5_1.length < 4398046511104
       ·rw [if_pos c9] at H
        have LMc9 := Aside0.mk c9
        clear c9
        obtain ⟨y169, hy169⟩ : ∃ y_ : List (S138), y_ = (x5_1 ++ [(⟨(rd_T138 l0 x11_1).f0, (rd_T138 l0 x11_1).f1, (rd_T138 l0 x11_1).f2, (rd_T138 l0 x11_1).f3, (rd_T138 l0 x11_1).f4⟩ : S138)]) := ⟨_, rfl⟩
        replace H : (impl_ClassOnly.l0 k1 a1 y169 l0 (l0.length : Int) (wrap64 (x11_1 + 1))) = some r := by first | (rw [hy169]; with_reducible exact H) | (have H2_ := (Option.bind_some _ _).symm.trans H; rw [hy169]; with_reducible exact H2_) | (have H2_ := (Option.bind_some _ _).symm.trans H; with_reducible exact H2_) | with_reducible exact H | (rw [hy169]; exact H) | exact H
        have Ny169 := Aside0.mk hy169
        clear hy169
        have H' := Aside0.mk H
        clear H
        have p167 : 0 ≤ (x11_1 : Int) := of_decide_eq_true dg_
        have q167 : x11_1 < (l0.length : Int) := of_decide_eq_true dg_
        obtain ⟨ad167, e167, hx167_0, hx167_1, hx167_2, hx167_3, hx167_4⟩ := at_T138 HR0.out x11_1 p167 q167
        cases e167
        replace hx167_0 := (HB.out.cell (World.block_lt_of_cell? w _ hx167_0)).trans hx167_0
        replace hx167_1 := (HB.out.cell (World.block_lt_of_cell? w _ hx167_1)).trans hx167_1
        replace hx167_2 := (HB.out.cell (World.block_lt_of_cell? w _ hx167_2)).trans hx167_2
        replace hx167_3 := (HB.out.cell (World.block_lt_of_cell? w _ hx167_3)).trans hx167_3
        replace hx167_4 := (HB.out.cell (World.block_lt_of_cell? w _ hx167_4)).trans hx167_4
        replace p167 := eq_true p167
        replace q167 := eq_true q167
        go_wp2_with (first | ((with_reducible refine gate_dst (N := 7) rfl ?_); refine box_event ?hg (N := 7) ?hd (cs := #[.int .i64 0, .int .i64 0, .int .i64 0, .bool false, .bool false]) (t := 138) ?hr ?_; (case hd => rfl); (case hg => rfl); (case hr => first | (go_simp; done) | (go_simp; rfl)); intro gb168 hg w10 hbox hb; replace HO_5 := Aside0.mk (Kd.R_below (Kd.R_elderB (ra_ HO_5.out) gb168 (Nat.le_of_eq hg.symm)) hb); have BK168 := Aside0.mk (hbox); have GW168 := Aside0.mk ((by rw [hg]; exact (bz_ HB.out) : w.heap.size ≤ gb168)); have GE168 := Aside0.mk ((by rw [hg]; exact (bz_ HB.out) : w.heap.size ≤ gb168)); replace HB := Aside0.mk (bs_ HB.out hb); clear hb hbox hg; obtain ⟨hcz11_0, hcz11_1, hcz11_2, hcz11_3, hcz11_4, hfz11_0, hfz11_1, hfz11_2, hfz11_3, hfz11_4⟩ := cz5_ BK168.out) | ((with_reducible refine gate_builtin (b := .append) (xs := #[.tmp 19, .tmp 21]) rfl ?_); at_builtin; refine Kd.R_append k138 (w0 := w) w.heap.size rfl (.tmp 19) (.tmp 21) 118 138 (.agg #[(.int .i64 0), (.int .i64 0), (.int .i64 0), (.bool false), (.bool false)]) 32 rfl Try.underlying118 info138 rfl (by decide) (by omega) u5 x5_1 (⟨(rd_T138 l0 x11_1).f0, (rd_T138 l0 x11_1).f1, (rd_T138 l0 x11_1).f2, (rd_T138 l0 x11_1).f3, (rd_T138 l0 x11_1).f4⟩ : S138) [.int .i64 ((rd_T138 l0 x11_1).f0), .int .i64 ((rd_T138 l0 x11_1).f1), .int .i64 ((rd_T138 l0 x11_1).f2), .bool ((rd_T138 l0 x11_1).f3), .bool ((rd_T138 l0 x11_1).f4)] (fun k_ => k_ ≠ gb168) (fun _ => False) rfl (by first | (go_simp; done) | (go_simp; rfl)) ?aP (fun _ hk => hk.elim) ?aF ?aO ?aB ?aS ?aL ?_; (case aP => exact k138_mkM _ _ _ (⟨(rd_T138 l0 x11_1).f0, (rd_T138 l0 x11_1).f1, (rd_T138 l0 x11_1).f2, (rd_T138 l0 x11_1).f3, (rd_T138 l0 x11_1).f4⟩ : S138)); (case aB => exact (by repeat (first | (with_reducible first | exact HB.out | apply below_alloc | apply pw_below_drewN | apply below_drew1 | refine below_set ?_ GE168.out) | exact HB.out))); (case aF => exact (fun k_ hk => Kd.freshB (g := gb168) (o := .cells #[.int .i64 ((rd_T138 l0 x11_1).f0), .int .i64 ((rd_T138 l0 x11_1).f1), .int .i64 ((rd_T138 l0 x11_1).f2), .bool ((rd_T138 l0 x11_1).f3), .bool ((rd_T138 l0 x11_1).f4)] 138 (0, 0)) (by (with_reducible repeat (first | refine blk_drewN ?_ _ | refine blk_drew ?_ | refine blk_alloc ?_ _)); refine blk_put (cs := #[.int .i64 ((rd_T138 l0 x11_1).f0), .int .i64 ((rd_T138 l0 x11_1).f1), .int .i64 ((rd_T138 l0 x11_1).f2), .bool ((rd_T138 l0 x11_1).f3), .bool false]) ?_ 4 _ rfl; (with_reducible repeat (first | refine blk_drewN ?_ _ | refine blk_drew ?_ | refine blk_alloc ?_ _)); refine blk_put (cs := #[.int .i64 ((rd_T138 l0 x11_1).f0), .int .i64 ((rd_T138 l0 x11_1).f1), .int .i64 ((rd_T138 l0 x11_1).f2), .bool false, .bool false]) ?_ 3 _ rfl; (with_reducible repeat (first | refine blk_drewN ?_ _ | refine blk_drew ?_ | refine blk_alloc ?_ _)); refine blk_put (cs := #[.int .i64 ((rd_T138 l0 x11_1).f0), .int .i64 ((rd_T138 l0 x11_1).f1), .int .i64 0, .bool false, .bool false]) ?_ 2 _ rfl; (with_reducible repeat (first | refine blk_drewN ?_ _ | refine blk_drew ?_ | refine blk_alloc ?_ _)); refine blk_put (cs := #[.int .i64 ((rd_T138 l0 x11_1).f0), .int .i64 0, .int .i64 0, .bool false, .bool false]) ?_ 1 _ rfl; (with_reducible repeat (first | refine blk_drewN ?_ _ | refine blk_drew ?_ | refine blk_alloc ?_ _)); refine blk_put (cs := #[.int .i64 0, .int .i64 0, .int .i64 0, .bool false, .bool false]) ?_ 0 _ rfl; (with_reducible repeat (first | refine blk_drewN ?_ _ | refine blk_drew ?_ | refine blk_alloc ?_ _)); exact BK168.out) k_ hk)); (case aO => exact (rm_ (Kd.R_mono HO_5.out (fun k_ hk => (⟨hk, hk.2⟩ : _ ∧ k_ ≠ gb168))) (fun _ hk => hk.1.2))); (case aS => exact (bz_ HB.out)); (case aL => have := LMc9.out; omega); intro v170 w12 ho hb hg hat; rw [← Ny169.out] at ho; have n0_ := Aside0.mk (blk_grown (g := gb168) (o := .cells #[.int .i64 ((rd_T138 l0 x11_1).f0), .int .i64 ((rd_T138 l0 x11_1).f1), .int .i64 ((rd_T138 l0 x11_1).f2), .bool ((rd_T138 l0 x11_1).f3), .bool ((rd_T138 l0 x11_1).f4)] 138 (0, 0)) (by (with_reducible repeat (first | refine blk_drewN ?_ _ | refine blk_drew ?_ | refine blk_alloc ?_ _)); refine blk_put (cs := #[.int .i64 ((rd_T138 l0 x11_1).f0), .int .i64 ((rd_T138 l0 x11_1).f1), .int .i64 ((rd_T138 l0 x11_1).f2), .bool ((rd_T138 l0 x11_1).f3), .bool false]) ?_ 4 _ rfl; (with_reducible repeat (first | refine blk_drewN ?_ _ | refine blk_drew ?_ | refine blk_alloc ?_ _)); refine blk_put (cs := #[.int .i64 ((rd_T138 l0 x11_1).f0), .int .i64 ((rd_T138 l0 x11_1).f1), .int .i64 ((rd_T138 l0 x11_1).f2), .bool false, .bool false]) ?_ 3 _ rfl; (with_reducible repeat (first | refine blk_drewN ?_ _ | refine blk_drew ?_ | refine blk_alloc ?_ _)); refine blk_put (cs := #[.int .i64 ((rd_T138 l0 x11_1).f0), .int .i64 ((rd_T138 l0 x11_1).f1), .int .i64 0, .bool false, .bool false]) ?_ 2 _ rfl; (with_reducible repeat (first | refine blk_drewN ?_ _ | refine blk_drew ?_ | refine blk_alloc ?_ _)); refine blk_put (cs := #[.int .i64 ((rd_T138 l0 x11_1).f0), .int .i64 0, .int .i64 0, .bool false, .bool false]) ?_ 1 _ rfl; (with_reducible repeat (first | refine blk_drewN ?_ _ | refine blk_drew ?_ | refine blk_alloc ?_ _)); refine blk_put (cs := #[.int .i64 0, .int .i64 0, .int .i64 0, .bool false, .bool false]) ?_ 0 _ rfl; (with_reducible repeat (first | refine blk_drewN ?_ _ | refine blk_drew ?_ | refine blk_alloc ?_ _)); exact BK168.out) hg (Kd.R_away HO_5.out (fun _ hk => hk.2))); have n1_ := Aside0.mk (hb); have n2_ := Aside0.mk (ho); clear BK168; clear HB; clear HO_5; have BK168 := n0_; have HB := n1_; have HO171 := n2_; clear n0_ n1_ n2_; clear ho hb hg hat))
        go_roundg k1
        case measure => have := HK1.out; omega
        case rel => exact ⟨(y169), (wrap64 (x11_1 + 1)), ef_, H', ⟨by have := HK1.out; omega⟩, ⟨by (with_reducible repeat (first | apply Kd.R_alloc | apply Kd.R_drewN | apply Kd.R_drew)); exact Kd.R_mono HO171.out (fun _ hk => trivial)⟩, ⟨bb_ HB.out⟩⟩
       ·rw [if_neg c9] at H
        exact absurd H (by simp)
      ·rw [if_neg c8] at H
       have c8b0 : (((rd_T138 l0 x11_1).f2) == a1) = false := beq_eq_false_iff_ne.mpr c8
       have c8b1 : (((rd_T138 l0 x11_1).f2) != a1) = true := bne_iff_ne.mpr c8
       have H' := Aside0.mk H
       clear H
       have p167 : 0 ≤ (x11_1 : Int) := of_decide_eq_true dg_
       have q167 : x11_1 < (l0.length : Int) := of_decide_eq_true dg_
       obtain ⟨ad167, e167, hx167_0, hx167_1, hx167_2, hx167_3, hx167_4⟩ := at_T138 HR0.out x11_1 p167 q167
       cases e167
       replace hx167_0 := (HB.out.cell (World.block_lt_of_cell? w _ hx167_0)).trans hx167_0
       replace hx167_1 := (HB.out.cell (World.block_lt_of_cell? w _ hx167_1)).trans hx167_1
       replace hx167_2 := (HB.out.cell (World.block_lt_of_cell? w _ hx167_2)).trans hx167_2
       replace hx167_3 := (HB.out.cell (World.block_lt_of_cell? w _ hx167_3)).trans hx167_3
       replace hx167_4 := (HB.out.cell (World.block_lt_of_cell? w _ hx167_4)).trans hx167_4
       replace p167 := eq_true p167
       replace q167 := eq_true q167
       go_wp2_with (first | ((with_reducible refine gate_dst (N := 7) rfl ?_); refine box_event ?hg (N := 7) ?hd (cs := #[.int .i64 0, .int .i64 0, .int .i64 0, .bool false, .bool false]) (t := 138) ?hr ?_; (case hd => rfl); (case hg => rfl); (case hr => first | (go_simp; done) | (go_simp; rfl)); intro gb168 hg w13 hbox hb; replace HO_5 := Aside0.mk (Kd.R_below (Kd.R_elderB (ra_ HO_5.out) gb168 (Nat.le_of_eq hg.symm)) hb); have BK168 := Aside0.mk (hbox); have GW168 := Aside0.mk ((by rw [hg]; exact (bz_ HB.out) : w.heap.size ≤ gb168)); have GE168 := Aside0.mk ((by rw [hg]; exact (bz_ HB.out) : w.heap.size ≤ gb168)); replace HB := Aside0.mk (bs_ HB.out hb); clear hb hbox hg; obtain ⟨hcz14_0, hcz14_1, hcz14_2, hcz14_3, hcz14_4, hfz14_0, hfz14_1, hfz14_2, hfz14_3, hfz14_4⟩ := cz5_ BK168.out))
       go_roundg k1
       case measure => have := HK1.out; omega
       case rel => exact ⟨(x5_1), (wrap64 (x11_1 + 1)), ef_, H', ⟨by have := HK1.out; omega⟩, ⟨rm_ (Kd.R_mono HO_5.out (fun k_ hk => (⟨hk, hk.2⟩ : _ ∧ k_ ≠ gb168))) (fun _ hk => trivial)⟩, ⟨bb_ HB.out⟩⟩
     ·rw [if_neg c7] at H
      exact absurd H (by simp)
    ·rw [if_neg c6] at H
     exact absurd H (by simp)
   ·rw [if_neg c5] at H
    have c5b0 : decide (x11_1 < (l0.length : Int)) = false := decide_eq_false c5
    clear c5
    obtain rfl := Option.some.inj H
    go_wp2
    go_ret
    exact ⟨_, fin_, by (with_reducible repeat (first | apply Kd.R_alloc | apply Kd.R_drewN | apply Kd.R_drew)); exact HO_5.out, bb_ HB.out⟩

/-! ### impl_areFlits: function 91 -/
def impl_areFlits.l0 : Nat → List (S138) → Int → Int → Int → Int → Option (Bool)
 | 0, _, _, _, _, _ => none
 | k + 1, x7, x8, x9, x173000, x173001 => if x9 < x8 then (if 0 ≤ x9 then (if x9 < (x7.length : Int) then ((impl_isNode.f x173000 x173001 ((rd_T138 x7 x9).f1)).bind fun t175 => (if t175 = true then ((impl_inside.f ((rd_T138 x7 x9).f2) 0 1).bind fun t176 => (if t176 = true then (impl_areFlits.l0 k x7 x8 (wrap64 (x9 + 1)) x173000 x173001) else (some false))) else (some false))) else (none)) else (none)) else (some true)
def impl_areFlits.f (k : Nat) (a0_0 : Int) (a0_1 : Int) (l1 : List (S138)) : Option (Bool) := impl_areFlits.l0 k l1 (l1.length : Int) 0 a0_0 a0_1
theorem impl_areFlits.mono_l : ∀ k, (∀ y0 y1 y2 y3 y4, LeO (impl_areFlits.l0 k y0 y1 y2 y3 y4) (impl_areFlits.l0 (k + 1) y0 y1 y2 y3 y4))
 | 0 => fun _ _ _ _ _ r h => by simp [impl_areFlits.l0] at h
 | k + 1 => by
  have ih0 := impl_areFlits.mono_l k
  ·intro y0 y1 y2 y3 y4
   unfold impl_areFlits.l0
   repeat' first
   | (with_reducible exact ih0 _ _ _ _ _)
   | (with_reducible exact LeO.refl _)
   | (with_reducible exact LeO.none _)
   | (with_reducible refine LeO.ite ?_ ?_)
   | (with_reducible refine LeO.bind ?_ (fun _ => ?_))
   | exact ih0 _ _ _ _ _
   | exact LeO.none _
   | refine LeO.ite ?_ ?_
   | refine LeO.bind ?_ (fun _ => ?_)
theorem impl_areFlits.mono : ∀ a0 a1 a2 k, LeO (impl_areFlits.f k a0 a1 a2) (impl_areFlits.f (k + 1) a0 a1 a2) := by
 intro a0 a1 a2 k
 have ih0 := impl_areFlits.mono_l k
 unfold impl_areFlits.f
 repeat' first
   | (with_reducible exact ih0 _ _ _ _ _)
   | (with_reducible exact LeO.refl _)
   | (with_reducible exact LeO.none _)
   | (with_reducible refine LeO.ite ?_ ?_)
   | (with_reducible refine LeO.bind ?_ (fun _ => ?_))
   | exact ih0 _ _ _ _ _
   | exact LeO.none _
   | refine LeO.ite ?_ ?_
   | refine LeO.bind ?_ (fun _ => ?_)
theorem impl_areFlits.e0 {P : Prop} (h : P := by
 go_wp2_with (first | ((with_reducible refine gate_dst (N := 6) rfl ?_); refine box_event ?hg (N := 6) ?hd (cs := #[.int .i64 0, .int .i64 0, .int .i64 0, .bool false, .bool false]) (t := 138) ?hr ?_; (case hd => rfl); (case hg => rfl); (case hr => first | (go_simp; done) | (go_simp; rfl)); intro gb174 hg w_0 hbox hb; have BK174 := Aside0.mk (hbox); have GW174 := Aside0.mk ((by rw [hg]; exact (bz_ HB.out) : w.heap.size ≤ gb174)); have GE174 := Aside0.mk ((by rw [hg]; exact (bz_ HB.out) : w.heap.size ≤ gb174)); replace HB := Aside0.mk (bs_ HB.out hb); have NB172_174 := Aside0.mk ((by rw [hg]; exact Nat.ne_of_lt (bl_ BK172.out) : gb172 ≠ gb174)); have NB174_172 := Aside0.mk ((by rw [hg]; exact Nat.ne_of_gt (bl_ BK172.out) : gb174 ≠ gb172)); replace BK172 := Aside0.mk (bk_ BK172.out hb); clear hb hbox hg; have hnb_ := NB174_172.out; have hnc_ := NB172_174.out; obtain ⟨hcz_0, hcz_1, hcz_2, hcz_3, hcz_4, hfz_0, hfz_1, hfz_2, hfz_3, hfz_4⟩ := cz5_ BK174.out; obtain ⟨hcz__0, hcz__1, hfz__0, hfz__1⟩ := cz2_ BK172.out) | ((with_reducible refine gate_callee (f := 142) rfl ?_); refine gm_ (some 16) Try.func142 #[.agg #[.int .i64 a0_0, .int .i64 a0_1], .int .i64 ((rd_T138 l1 x9_1).f1)] rfl ?_; (with_reducible refine (impl_isNode.calls a0_0 a0_1 ((rd_T138 l1 x9_1).f1) _ _ A7.out).mono ?_); rintro e w_0 ⟨rfl, hb⟩; refine ⟨_, rfl, ?_⟩; replace BK172 := Aside0.mk (blk_below (bf_ BK172.out) hb); replace BK174 := Aside0.mk (blk_below (g := gb174) (o := .cells #[.int .i64 ((rd_T138 l1 x9_1).f0), .int .i64 ((rd_T138 l1 x9_1).f1), .int .i64 ((rd_T138 l1 x9_1).f2), .bool ((rd_T138 l1 x9_1).f3), .bool ((rd_T138 l1 x9_1).f4)] 138 (0, 0)) (by (with_reducible repeat (first | refine blk_drewN ?_ _ | refine blk_drew ?_ | refine blk_alloc ?_ _)); refine blk_put (cs := #[.int .i64 ((rd_T138 l1 x9_1).f0), .int .i64 ((rd_T138 l1 x9_1).f1), .int .i64 ((rd_T138 l1 x9_1).f2), .bool ((rd_T138 l1 x9_1).f3), .bool false]) ?_ 4 _ rfl; (with_reducible repeat (first | refine blk_drewN ?_ _ | refine blk_drew ?_ | refine blk_alloc ?_ _)); refine blk_put (cs := #[.int .i64 ((rd_T138 l1 x9_1).f0), .int .i64 ((rd_T138 l1 x9_1).f1), .int .i64 ((rd_T138 l1 x9_1).f2), .bool false, .bool false]) ?_ 3 _ rfl; (with_reducible repeat (first | refine blk_drewN ?_ _ | refine blk_drew ?_ | refine blk_alloc ?_ _)); refine blk_put (cs := #[.int .i64 ((rd_T138 l1 x9_1).f0), .int .i64 ((rd_T138 l1 x9_1).f1), .int .i64 0, .bool false, .bool false]) ?_ 2 _ rfl; (with_reducible repeat (first | refine blk_drewN ?_ _ | refine blk_drew ?_ | refine blk_alloc ?_ _)); refine blk_put (cs := #[.int .i64 ((rd_T138 l1 x9_1).f0), .int .i64 0, .int .i64 0, .bool false, .bool false]) ?_ 1 _ rfl; (with_reducible repeat (first | refine blk_drewN ?_ _ | refine blk_drew ?_ | refine blk_alloc ?_ _)); refine blk_put (cs := #[.int .i64 0, .int .i64 0, .int .i64 0, .bool false, .bool false]) ?_ 0 _ rfl; (with_reducible repeat (first | refine blk_drewN ?_ _ | refine blk_drew ?_ | refine blk_alloc ?_ _)); exact BK174.out) hb); replace HB := Aside0.mk (bs_ HB.out hb); (try clear hb); obtain ⟨hcz_0, hcz_1, hcz_2, hcz_3, hcz_4, hfz_0, hfz_1, hfz_2, hfz_3, hfz_4⟩ := cz5_ BK174.out) | (go_at_call 79; (with_reducible refine (impl_inside.calls ((rd_T138 l1 x9_1).f2) 0 1 _ _ A9.out).mono ?_); rintro e w' ⟨rfl, ⟨nd, rfl⟩⟩))
 go_ret
 exact ⟨fin_, bb_ HB.out⟩) : P := h
set_option maxHeartbeats 8000000 in
set_option maxRecDepth 100000 in
theorem impl_areFlits.calls (k : Nat) (a0_0 : Int) (a0_1 : Int) (A1 : Option Addr) (c1 : Nat) (l1 : List (S138)) (r : Bool) (w : World) (hr1 : Kd.C k138 w A1 l1.length l1) (hc1 : l1.length ≤ c1) (h : impl_areFlits.f k a0_0 a0_1 l1 = some r) :
  Calls Try.prog 91 #[.agg #[.int .i64 a0_0, .int .i64 a0_1], .slice A1 l1.length c1] w fun e w' => e = .returned (.bool r) ∧ Below w.heap.size w w' := by
 have hu44 := Try.underlying44
 have hu138 := Try.underlying138
 have HR1 := Aside0.mk hr1
 have HC1 := Aside0.mk hc1
 clear hr1 hc1
 have HB := Aside0.mk (Below.refl w.heap.size w)
 have H : (impl_areFlits.l0 k l1 (l1.length : Int) 0 a0_0 a0_1) = some r := h
 clear h
 have H' := Aside0.mk H
 clear H
 go_enter Try.func91, Try.ntmps91
 go_wp2_with (first | ((with_reducible refine gate_dst (N := 2) rfl ?_); refine box_event ?hg (N := 2) ?hd (cs := #[.int .i64 a0_0, .int .i64 a0_1]) (t := 44) ?hr ?_; (case hd => rfl); (case hg => rfl); (case hr => first | (go_simp; done) | (go_simp; rfl)); intro gb172 hg w3 hbox hb; have BK172 := Aside0.mk (hbox); have GW172 := Aside0.mk ((by rw [hg]; exact (bz_ HB.out) : w.heap.size ≤ gb172)); have GE172 := Aside0.mk ((by rw [hg]; exact (bz_ HB.out) : w.heap.size ≤ gb172)); replace HB := Aside0.mk (bs_ HB.out hb); clear hb hbox hg))
 go_loopg [9] k (fun kq v9 w' => ∃ (x9_1 : Int), v9 = .int .i64 x9_1 ∧ Aside0 (impl_areFlits.l0 kq l1 (l1.length : Int) x9_1 a0_0 a0_1 = some r) ∧ Aside0 (kq ≤ k) ∧ Aside0 (w'.heap[gb172]? = some (.cells #[.int .i64 a0_0, .int .i64 a0_1] 44 (0, 0))) ∧ Aside0 (Below w.heap.size w w'))
 case atStart => exact ⟨(0), ef_, H', ⟨Nat.le_refl _⟩, ⟨bq_ BK172.out⟩, ⟨bb_ HB.out⟩⟩
 case round =>
  clear H'
  obtain ⟨x9_1, rfl, HA, HK1, BK172, HB⟩ := hrel
  cases gk with
  | zero => exact absurd HA.out (by simp [impl_areFlits.l0])
  | succ k1 =>
   have H := HA.out
   clear HA
   simp only [impl_areFlits.l0] at H
   by_cases c4 : x9_1 < (l1.length : Int)
   ·rw [if_pos c4] at H
    have c4b0 : decide (x9_1 < (l1.length : Int)) = true := decide_eq_true c4
    clear c4
    by_cases c5 : 0 ≤ x9_1
    ·rw [if_pos c5] at H
     have c5b0 : decide (0 ≤ x9_1) = true := decide_eq_true c5
     clear c5
     by_cases c6 : x9_1 < (l1.length : Int)
     ·rw [if_pos c6] at H
      have c6b0 : decide (x9_1 < (l1.length : Int)) = true := decide_eq_true c6
      clear c6
      replace H := Option.bind_eq_some_iff.mp H
      obtain ⟨t175, A70, H⟩ := H
      try dsimp only at H
      have A7 := Aside0.mk A70
      clear A70
      by_cases c8 : t175 = true
      ·subst c8
       rw [if_pos rfl] at H
       replace H := Option.bind_eq_some_iff.mp H
       obtain ⟨t176, A90, H⟩ := H
       try dsimp only at H
       have A9 := Aside0.mk A90
       clear A90
       by_cases c10 : t176 = true
       ·subst c10
        rw [if_pos rfl] at H
        have H' := Aside0.mk H
        clear H
        have p173 : 0 ≤ (x9_1 : Int) := of_decide_eq_true dg_
        have q173 : x9_1 < (l1.length : Int) := of_decide_eq_true dg_
        obtain ⟨ad173, e173, hx173_0, hx173_1, hx173_2, hx173_3, hx173_4⟩ := at_T138 HR1.out x9_1 p173 q173
        cases e173
        replace hx173_0 := (HB.out.cell (World.block_lt_of_cell? w _ hx173_0)).trans hx173_0
        replace hx173_1 := (HB.out.cell (World.block_lt_of_cell? w _ hx173_1)).trans hx173_1
        replace hx173_2 := (HB.out.cell (World.block_lt_of_cell? w _ hx173_2)).trans hx173_2
        replace hx173_3 := (HB.out.cell (World.block_lt_of_cell? w _ hx173_3)).trans hx173_3
        replace hx173_4 := (HB.out.cell (World.block_lt_of_cell? w _ hx173_4)).trans hx173_4
        replace p173 := eq_true p173
        replace q173 := eq_true q173
        go_wp2_with (first | ((with_reducible refine gate_dst (N := 6) rfl ?_); refine box_event ?hg (N := 6) ?hd (cs := #[.int .i64 0, .int .i64 0, .int .i64 0, .bool false, .bool false]) (t := 138) ?hr ?_; (case hd => rfl); (case hg => rfl); (case hr => first | (go_simp; done) | (go_simp; rfl)); intro gb174 hg w11 hbox hb; have BK174 := Aside0.mk (hbox); have GW174 := Aside0.mk ((by rw [hg]; exact (bz_ HB.out) : w.heap.size ≤ gb174)); have GE174 := Aside0.mk ((by rw [hg]; exact (bz_ HB.out) : w.heap.size ≤ gb174)); replace HB := Aside0.mk (bs_ HB.out hb); have NB172_174 := Aside0.mk ((by rw [hg]; exact Nat.ne_of_lt (bl_ BK172.out) : gb172 ≠ gb174)); have NB174_172 := Aside0.mk ((by rw [hg]; exact Nat.ne_of_gt (bl_ BK172.out) : gb174 ≠ gb172)); replace BK172 := Aside0.mk (bk_ BK172.out hb); clear hb hbox hg; have hnb12 := NB174_172.out; have hnc12 := NB172_174.out; obtain ⟨hcz13_0, hcz13_1, hcz13_2, hcz13_3, hcz13_4, hfz13_0, hfz13_1, hfz13_2, hfz13_3, hfz13_4⟩ := cz5_ BK174.out; obtain ⟨hcz14_0, hcz14_1, hfz14_0, hfz14_1⟩ := cz2_ BK172.out) | ((with_reducible refine gate_callee (f := 142) rfl ?_); refine gm_ (some 16) Try.func142 #[.agg #[.int .i64 a0_0, .int .i64 a0_1], .int .i64 ((rd_T138 l1 x9_1).f1)] rfl ?_; (with_reducible refine (impl_isNode.calls a0_0 a0_1 ((rd_T138 l1 x9_1).f1) true _ A7.out).mono ?_); rintro e w15 ⟨rfl, hb⟩; refine ⟨_, rfl, ?_⟩; replace BK172 := Aside0.mk (blk_below (bf_ BK172.out) hb); replace BK174 := Aside0.mk (blk_below (g := gb174) (o := .cells #[.int .i64 ((rd_T138 l1 x9_1).f0), .int .i64 ((rd_T138 l1 x9_1).f1), .int .i64 ((rd_T138 l1 x9_1).f2), .bool ((rd_T138 l1 x9_1).f3), .bool ((rd_T138 l1 x9_1).f4)] 138 (0, 0)) (by (with_reducible repeat (first | refine blk_drewN ?_ _ | refine blk_drew ?_ | refine blk_alloc ?_ _)); refine blk_put (cs := #[.int .i64 ((rd_T138 l1 x9_1).f0), .int .i64 ((rd_T138 l1 x9_1).f1), .int .i64 ((rd_T138 l1 x9_1).f2), .bool ((rd_T138 l1 x9_1).f3), .bool false]) ?_ 4 _ rfl; (with_reducible repeat (first | refine blk_drewN ?_ _ | refine blk_drew ?_ | refine blk_alloc ?_ _)); refine blk_put (cs := #[.int .i64 ((rd_T138 l1 x9_1).f0), .int .i64 ((rd_T138 l1 x9_1).f1), .int .i64 ((rd_T138 l1 x9_1).f2), .bool false, .bool false]) ?_ 3 _ rfl; (with_reducible repeat (first | refine blk_drewN ?_ _ | refine blk_drew ?_ | refine blk_alloc ?_ _)); refine blk_put (cs := #[.int .i64 ((rd_T138 l1 x9_1).f0), .int .i64 ((rd_T138 l1 x9_1).f1), .int .i64 0, .bool false, .bool false]) ?_ 2 _ rfl; (with_reducible repeat (first | refine blk_drewN ?_ _ | refine blk_drew ?_ | refine blk_alloc ?_ _)); refine blk_put (cs := #[.int .i64 ((rd_T138 l1 x9_1).f0), .int .i64 0, .int .i64 0, .bool false, .bool false]) ?_ 1 _ rfl; (with_reducible repeat (first | refine blk_drewN ?_ _ | refine blk_drew ?_ | refine blk_alloc ?_ _)); refine blk_put (cs := #[.int .i64 0, .int .i64 0, .int .i64 0, .bool false, .bool false]) ?_ 0 _ rfl; (with_reducible repeat (first | refine blk_drewN ?_ _ | refine blk_drew ?_ | refine blk_alloc ?_ _)); exact BK174.out) hb); replace HB := Aside0.mk (bs_ HB.out hb); (try clear hb); obtain ⟨hcz16_0, hcz16_1, hcz16_2, hcz16_3, hcz16_4, hfz16_0, hfz16_1, hfz16_2, hfz16_3, hfz16_4⟩ := cz5_ BK174.out) | (go_at_call 79; (with_reducible refine (impl_inside.calls ((rd_T138 l1 x9_1).f2) 0 1 true _ A9.out).mono ?_); rintro e w' ⟨rfl, ⟨nd, rfl⟩⟩))
        go_roundg k1
        case measure => have := HK1.out; omega
        case rel => exact ⟨(wrap64 (x9_1 + 1)), ef_, H', ⟨by have := HK1.out; omega⟩, ⟨bq_ BK172.out⟩, ⟨bb_ HB.out⟩⟩
       ·replace c10 := Bool.eq_false_iff.mpr c10
        subst c10
        rw [if_neg (show ¬ (false = true) by decide)] at H
        obtain rfl := Option.some.inj H
        have p173 : 0 ≤ (x9_1 : Int) := of_decide_eq_true dg_
        have q173 : x9_1 < (l1.length : Int) := of_decide_eq_true dg_
        obtain ⟨ad173, e173, hx173_0, hx173_1, hx173_2, hx173_3, hx173_4⟩ := at_T138 HR1.out x9_1 p173 q173
        cases e173
        replace hx173_0 := (HB.out.cell (World.block_lt_of_cell? w _ hx173_0)).trans hx173_0
        replace hx173_1 := (HB.out.cell (World.block_lt_of_cell? w _ hx173_1)).trans hx173_1
        replace hx173_2 := (HB.out.cell (World.block_lt_of_cell? w _ hx173_2)).trans hx173_2
        replace hx173_3 := (HB.out.cell (World.block_lt_of_cell? w _ hx173_3)).trans hx173_3
        replace hx173_4 := (HB.out.cell (World.block_lt_of_cell? w _ hx173_4)).trans hx173_4
        replace p173 := eq_true p173
        replace q173 := eq_true q173
        exact impl_areFlits.e0
      ·replace c8 := Bool.eq_false_iff.mpr c8
       subst c8
       rw [if_neg (show ¬ (false = true) by decide)] at H
       obtain rfl := Option.some.inj H
       have p173 : 0 ≤ (x9_1 : Int) := of_decide_eq_true dg_
       have q173 : x9_1 < (l1.length : Int) := of_decide_eq_true dg_
       obtain ⟨ad173, e173, hx173_0, hx173_1, hx173_2, hx173_3, hx173_4⟩ := at_T138 HR1.out x9_1 p173 q173
       cases e173
       replace hx173_0 := (HB.out.cell (World.block_lt_of_cell? w _ hx173_0)).trans hx173_0
       replace hx173_1 := (HB.out.cell (World.block_lt_of_cell? w _ hx173_1)).trans hx173_1
       replace hx173_2 := (HB.out.cell (World.block_lt_of_cell? w _ hx173_2)).trans hx173_2
       replace hx173_3 := (HB.out.cell (World.block_lt_of_cell? w _ hx173_3)).trans hx173_3
       replace hx173_4 := (HB.out.cell (World.block_lt_of_cell? w _ hx173_4)).trans hx173_4
       replace p173 := eq_true p173
       replace q173 := eq_true q173
       exact impl_areFlits.e0
     ·rw [if_neg c6] at H
      exact absurd H (by simp)
    ·rw [if_neg c5] at H
     exact absurd H (by simp)
   ·rw [if_neg c4] at H
    have c4b0 : decide (x9_1 < (l1.length : Int)) = false := decide_eq_false c4
    clear c4
    obtain rfl := Option.some.inj H
    exact impl_areFlits.e0

/-! ### impl_areInside: function 92 -/
def impl_areInside.l0 : Nat → Int → Int → List Int → Int → Int → Option (Bool)
 | 0, _, _, _, _, _ => none
 | k + 1, x1, x2, x9, x10, x11 => if x11 < x10 then (if 0 ≤ x11 then (if x11 < (x9.length : Int) then ((impl_inside.f (rd x9 x11) x1 x2).bind fun t178 => (if t178 = true then (impl_areInside.l0 k x1 x2 x9 x10 (wrap64 (x11 + 1))) else (some false))) else (none)) else (none)) else (some true)
def impl_areInside.f (k : Nat) (l0 : List Int) (a1 : Int) (a2 : Int) : Option (Bool) := impl_areInside.l0 k a1 a2 l0 (l0.length : Int) 0
theorem impl_areInside.mono_l : ∀ k, (∀ y0 y1 y2 y3 y4, LeO (impl_areInside.l0 k y0 y1 y2 y3 y4) (impl_areInside.l0 (k + 1) y0 y1 y2 y3 y4))
 | 0 => fun _ _ _ _ _ r h => by simp [impl_areInside.l0] at h
 | k + 1 => by
  have ih0 := impl_areInside.mono_l k
  ·intro y0 y1 y2 y3 y4
   unfold impl_areInside.l0
   repeat' first
   | (with_reducible exact ih0 _ _ _ _ _)
   | (with_reducible exact LeO.refl _)
   | (with_reducible exact LeO.none _)
   | (with_reducible refine LeO.ite ?_ ?_)
   | (with_reducible refine LeO.bind ?_ (fun _ => ?_))
   | exact ih0 _ _ _ _ _
   | exact LeO.none _
   | refine LeO.ite ?_ ?_
   | refine LeO.bind ?_ (fun _ => ?_)
theorem impl_areInside.mono : ∀ a0 a1 a2 k, LeO (impl_areInside.f k a0 a1 a2) (impl_areInside.f (k + 1) a0 a1 a2) := by
 intro a0 a1 a2 k
 have ih0 := impl_areInside.mono_l k
 unfold impl_areInside.f
 repeat' first
   | (with_reducible exact ih0 _ _ _ _ _)
   | (with_reducible exact LeO.refl _)
   | (with_reducible exact LeO.none _)
   | (with_reducible refine LeO.ite ?_ ?_)
   | (with_reducible refine LeO.bind ?_ (fun _ => ?_))
   | exact ih0 _ _ _ _ _
   | exact LeO.none _
   | refine LeO.ite ?_ ?_
   | refine LeO.bind ?_ (fun _ => ?_)
set_option maxHeartbeats 8000000 in
set_option maxRecDepth 100000 in
theorem impl_areInside.calls (k : Nat) (A0 : Option Addr) (c0 : Nat) (l0 : List Int) (a1 : Int) (a2 : Int) (r : Bool) (w : World) (hr0 : Kd.C (Kd.int .i64) w A0 l0.length l0) (hc0 : l0.length ≤ c0) (h : impl_areInside.f k l0 a1 a2 = some r) :
  Calls Try.prog 92 #[.slice A0 l0.length c0, .int .i64 a1, .int .i64 a2] w fun e w' => e = .returned (.bool r) ∧ Drawn0 w w' := by
 have HR0 := Aside0.mk hr0
 have HC0 := Aside0.mk hc0
 clear hr0 hc0
 have H : (impl_areInside.l0 k a1 a2 l0 (l0.length : Int) 0) = some r := h
 clear h
 have H' := Aside0.mk H
 clear H
 go_enter Try.func92, Try.ntmps92
 go_wp2
 go_loopg [11] k (fun kq v11 w' => ∃ (x11_1 : Int), v11 = .int .i64 x11_1 ∧ Aside0 (impl_areInside.l0 kq a1 a2 l0 (l0.length : Int) x11_1 = some r) ∧ Aside0 (kq ≤ k) ∧ Drawn0 w w')
 case atStart => exact ⟨(0), ef_, H', ⟨Nat.le_refl _⟩, by repeat (first | exact Drawn0.refl _ | apply Drawn0.step)⟩
 case round =>
  clear H'
  obtain ⟨x11_1, rfl, HA, HK1, ⟨m1, rfl⟩⟩ := hrel
  cases gk with
  | zero => exact absurd HA.out (by simp [impl_areInside.l0])
  | succ k1 =>
   have H := HA.out
   clear HA
   simp only [impl_areInside.l0] at H
   by_cases c4 : x11_1 < (l0.length : Int)
   ·rw [if_pos c4] at H
    have c4b0 : decide (x11_1 < (l0.length : Int)) = true := decide_eq_true c4
    clear c4
    by_cases c5 : 0 ≤ x11_1
    ·rw [if_pos c5] at H
     have c5b0 : decide (0 ≤ x11_1) = true := decide_eq_true c5
     clear c5
     by_cases c6 : x11_1 < (l0.length : Int)
     ·rw [if_pos c6] at H
      have c6b0 : decide (x11_1 < (l0.length : Int)) = true := decide_eq_true c6
      clear c6
      replace H := Option.bind_eq_some_iff.mp H
      obtain ⟨t178, A70, H⟩ := H
      try dsimp only at H
      have A7 := Aside0.mk A70
      clear A70
      by_cases c8 : t178 = true
      ·subst c8
       rw [if_pos rfl] at H
       have H' := Aside0.mk H
       clear H
       have p177 : 0 ≤ (x11_1 : Int) := of_decide_eq_true dg_
       have q177 : x11_1 < (l0.length : Int) := of_decide_eq_true dg_
       obtain ⟨ad177, e177, hx177_0⟩ := Kd.at_int HR0.out x11_1 p177 q177
       cases e177
       replace p177 := eq_true p177
       replace q177 := eq_true q177
       go_wp2_with (first | ((with_reducible refine gate_callee (f := 79) rfl ?_); refine gm_ (some 18) Try.func79 #[.int .i64 (rd l0 x11_1), .int .i64 a1, .int .i64 a2] rfl ?_; (with_reducible refine (impl_inside.calls (rd l0 x11_1) a1 a2 true _ A7.out).mono ?_); rintro e w' ⟨rfl, ⟨nd, rfl⟩⟩; refine ⟨_, rfl, ?_⟩))
       go_roundg k1
       case measure => have := HK1.out; omega
       case rel => exact ⟨(wrap64 (x11_1 + 1)), ef_, H', ⟨by have := HK1.out; omega⟩, by repeat (first | exact Drawn0.refl _ | apply Drawn0.step)⟩
      ·replace c8 := Bool.eq_false_iff.mpr c8
       subst c8
       rw [if_neg (show ¬ (false = true) by decide)] at H
       obtain rfl := Option.some.inj H
       have p177 : 0 ≤ (x11_1 : Int) := of_decide_eq_true dg_
       have q177 : x11_1 < (l0.length : Int) := of_decide_eq_true dg_
       obtain ⟨ad177, e177, hx177_0⟩ := Kd.at_int HR0.out x11_1 p177 q177
       cases e177
       replace p177 := eq_true p177
       replace q177 := eq_true q177
       go_wp2_with (first | ((with_reducible refine gate_callee (f := 79) rfl ?_); refine gm_ (some 18) Try.func79 #[.int .i64 (rd l0 x11_1), .int .i64 a1, .int .i64 a2] rfl ?_; (with_reducible refine (impl_inside.calls (rd l0 x11_1) a1 a2 false _ A7.out).mono ?_); rintro e w' ⟨rfl, ⟨nd, rfl⟩⟩; refine ⟨_, rfl, ?_⟩))
       go_ret
       exact ⟨by first | rfl | (simp; done) | (simp [*]; done), by repeat (first | exact Drawn0.refl _ | apply Drawn0.step)⟩
     ·rw [if_neg c6] at H
      exact absurd H (by simp)
    ·rw [if_neg c5] at H
     exact absurd H (by simp)
   ·rw [if_neg c4] at H
    have c4b0 : decide (x11_1 < (l0.length : Int)) = false := decide_eq_false c4
    clear c4
    obtain rfl := Option.some.inj H
    go_wp2
    go_ret
    exact ⟨by first | rfl | (simp; done) | (simp [*]; done), by repeat (first | exact Drawn0.refl _ | apply Drawn0.step)⟩

end Go.Proofs.Ytogapggfegplkaa.PFnExactNetOk
-- thin
