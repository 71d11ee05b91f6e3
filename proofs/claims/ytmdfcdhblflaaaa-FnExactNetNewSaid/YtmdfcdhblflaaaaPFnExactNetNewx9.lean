/- Each function that the law comes to, as a plain function, with the proof that the call in the model gives what that function says (written by a program of this session out of the translation). No condition. -/
import Derived.Test.YtmdfcdhblflaaaaPFnExactNetNewx0
import Derived.Test.YtmdfcdhblflaaaaPFnExactNetNewx4
import Derived.Test.YtmdfcdhblflaaaaPFnExactNetNewx6
import Derived.Test.YtmdfcdhblflaaaaPFnExactNetNewx7
import Derived.Test.YtmdfcdhblflaaaaPFnExactNetNewx8
namespace Go.Proofs.Ytmdfcdhblflaaaa.PFnExactNetNew
open Go.RowKit Go.Proofs.YtmdfcdhblflaaaaW.PrintWords Go.Proofs.YtmdfcdhblflaaaaW.PrintLast Go.Proofs.YtmdfcdhblflaaaaW.PrintMore
attribute [local go_sem] max2_int min2_int max_two min_two max_three min_three max_four min_four   -- for this text's walks alone
set_option linter.unusedVariables false
set_option linter.unusedSimpArgs false

/-! ### laws_toGrid: function 23 -/
def laws_toGrid.f (a0_0 : Int) (a0_1 : Int) : Option (Int × Int) := some (a0_0, a0_1)
set_option maxHeartbeats 8000000 in
set_option maxRecDepth 100000 in
theorem laws_toGrid.calls (a0_0 : Int) (a0_1 : Int) (r1 : Int) (r2 : Int) (w : World) (h : laws_toGrid.f a0_0 a0_1 = some (r1, r2)) :
  Calls Try.prog 23 #[.agg #[.int .i64 a0_0, .int .i64 a0_1]] w fun e w' => e = .returned (.agg #[.int .i64 r1, .int .i64 r2]) ∧ Below w.heap.size w w' := by
 have hu23 := Try.underlying23
 have hu33 := Try.underlying33
 have HB := Aside0.mk (Below.refl w.heap.size w)
 have H : (some (a0_0, a0_1)) = some (r1, r2) := h
 clear h
 simp only [Option.some.injEq, Prod.mk.injEq] at H
 obtain ⟨rfl, rfl⟩ := H
 go_enter Try.func23, Try.ntmps23
 go_wp2_with (first | ((with_reducible refine gate_dst (N := 1) rfl ?_); refine box_event ?hg (N := 1) ?hd (cs := #[.int .i64 a0_0, .int .i64 a0_1]) (t := 23) ?hr ?_; (case hd => rfl); (case hg => rfl); (case hr => first | (go_simp; done) | (go_simp; rfl)); intro gb292 hg w2 hbox hb; have BK292 := Aside0.mk (hbox); have GW292 := Aside0.mk ((by rw [hg]; exact (bz_ HB.out) : w.heap.size ≤ gb292)); have GE292 := Aside0.mk ((by rw [hg]; exact (bz_ HB.out) : w.heap.size ≤ gb292)); replace HB := Aside0.mk (bs_ HB.out hb); clear hb hbox hg) | ((with_reducible refine gate_dst (N := 2) rfl ?_); refine box_event ?hg (N := 2) ?hd (cs := #[.int .i64 0, .int .i64 0]) (t := 33) ?hr ?_; (case hd => rfl); (case hg => rfl); (case hr => first | (go_simp; done) | (go_simp; rfl)); intro gb293 hg w3 hbox hb; have BK293 := Aside0.mk (hbox); have GW293 := Aside0.mk ((by rw [hg]; exact (bz_ HB.out) : w.heap.size ≤ gb293)); have GE293 := Aside0.mk ((by rw [hg]; exact (bz_ HB.out) : w.heap.size ≤ gb293)); replace HB := Aside0.mk (bs_ HB.out hb); have NB292_293 := Aside0.mk ((by rw [hg]; exact Nat.ne_of_lt (bl_ BK292.out) : gb292 ≠ gb293)); have NB293_292 := Aside0.mk ((by rw [hg]; exact Nat.ne_of_gt (bl_ BK292.out) : gb293 ≠ gb292)); replace BK292 := Aside0.mk (bk_ BK292.out hb); clear hb hbox hg) | ((with_reducible refine gate_dst (N := 3) rfl ?_); refine box_event ?hg (N := 3) ?hd (cs := #[.int .i64 0, .int .i64 0]) (t := 33) ?hr ?_; (case hd => rfl); (case hg => rfl); (case hr => first | (go_simp; done) | (go_simp; rfl)); intro gb294 hg w4 hbox hb; have BK294 := Aside0.mk (hbox); have GW294 := Aside0.mk ((by rw [hg]; exact (bz_ HB.out) : w.heap.size ≤ gb294)); have GE294 := Aside0.mk ((by rw [hg]; exact (bz_ HB.out) : w.heap.size ≤ gb294)); replace HB := Aside0.mk (bs_ HB.out hb); have NB292_294 := Aside0.mk ((by rw [hg]; exact Nat.ne_of_lt (bl_ BK292.out) : gb292 ≠ gb294)); have NB294_292 := Aside0.mk ((by rw [hg]; exact Nat.ne_of_gt (bl_ BK292.out) : gb294 ≠ gb292)); replace BK292 := Aside0.mk (bk_ BK292.out hb); have NB293_294 := Aside0.mk ((by rw [hg]; exact Nat.ne_of_lt (bl_ BK293.out) : gb293 ≠ gb294)); have NB294_293 := Aside0.mk ((by rw [hg]; exact Nat.ne_of_gt (bl_ BK293.out) : gb294 ≠ gb293)); replace BK293 := Aside0.mk (bk_ BK293.out hb); clear hb hbox hg; have hnb5 := NB292_293.out; have hnc5 := NB293_292.out; have hnb6 := NB292_294.out; have hnc6 := NB294_292.out; obtain ⟨hcz7_0, hcz7_1, hfz7_0, hfz7_1⟩ := cz2_ BK292.out; have hnb8 := NB294_293.out; have hnc8 := NB293_294.out; obtain ⟨hcz9_0, hcz9_1, hfz9_0, hfz9_1⟩ := cz2_ BK294.out; obtain ⟨hcz10_0, hcz10_1, hfz10_0, hfz10_1⟩ := cz2_ BK293.out))
 refine bodyPost_ret (results_cell_row rfl _ _ gb293 33 #[.int .i64 a0_0, .int .i64 a0_1] (0, 0) _ rfl (by (with_reducible repeat (first | refine blk_drewN ?_ _ | refine blk_drew ?_ | refine blk_alloc ?_ _)); refine blk_put (cs := #[.int .i64 a0_0, .int .i64 0]) ?_ 1 _ rfl; (with_reducible repeat (first | refine blk_drewN ?_ _ | refine blk_drew ?_ | refine blk_alloc ?_ _)); refine blk_put (cs := #[.int .i64 0, .int .i64 0]) ?_ 0 _ rfl; (with_reducible repeat (first | refine blk_drewN ?_ _ | refine blk_drew ?_ | refine blk_alloc ?_ _)); refine blk_far ?_ NB293_294.out _; (with_reducible repeat (first | refine blk_drewN ?_ _ | refine blk_drew ?_ | refine blk_alloc ?_ _)); refine blk_far ?_ NB293_294.out _; (with_reducible repeat (first | refine blk_drewN ?_ _ | refine blk_drew ?_ | refine blk_alloc ?_ _)); exact BK293.out) Try.underlying33 rfl (by kernel_rfl)) rfl ?_
 exact ⟨fin_, bb_ HB.out⟩

/-! ### laws_toIntS: function 24 -/
def laws_toIntS.l0 : Nat → List Int → List Int → Int → Option (List Int)
 | 0, _, _, _ => none
 | k + 1, x0, x3, x4 => if x4 < (x0.length : Int) then (if 0 ≤ x4 then (if x4 < (x3.length : Int) then (laws_toIntS.l0 k x0 (x3.set (x4 : Int).toNat (rd x0 x4)) (wrap64 (x4 + 1))) else (none)) else (none)) else (some x3)
def laws_toIntS.f (k : Nat) (l0 : List Int) : Option (List Int) := if 0 ≤ (l0.length : Int) then (if ((l0.length : Int) : Int).toNat ≤ 35184372088832 then (laws_toIntS.l0 k l0 (List.replicate ((l0.length : Int) : Int).toNat 0) 0) else (none)) else (none)
theorem laws_toIntS.mono_l : ∀ k, (∀ y0 y1 y2, LeO (laws_toIntS.l0 k y0 y1 y2) (laws_toIntS.l0 (k + 1) y0 y1 y2))
 | 0 => fun _ _ _ r h => by simp [laws_toIntS.l0] at h
 | k + 1 => by
  have ih0 := laws_toIntS.mono_l k
  ·intro y0 y1 y2
   unfold laws_toIntS.l0
   repeat' first
   | (with_reducible exact ih0 _ _ _)
   | (with_reducible exact LeO.refl _)
   | (with_reducible exact LeO.none _)
   | (with_reducible refine LeO.ite ?_ ?_)
   | (with_reducible refine LeO.bind ?_ (fun _ => ?_))
   | exact ih0 _ _ _
   | exact LeO.none _
   | refine LeO.ite ?_ ?_
   | refine LeO.bind ?_ (fun _ => ?_)
theorem laws_toIntS.mono : ∀ a0 k, LeO (laws_toIntS.f k a0) (laws_toIntS.f (k + 1) a0) := by
 intro a0 k
 have ih0 := laws_toIntS.mono_l k
 unfold laws_toIntS.f
 repeat' first
   | (with_reducible exact ih0 _ _ _)
   | (with_reducible exact LeO.refl _)
   | (with_reducible exact LeO.none _)
   | (with_reducible refine LeO.ite ?_ ?_)
   | (with_reducible refine LeO.bind ?_ (fun _ => ?_))
   | exact ih0 _ _ _
   | exact LeO.none _
   | refine LeO.ite ?_ ?_
   | refine LeO.bind ?_ (fun _ => ?_)
set_option maxHeartbeats 8000000 in
set_option maxRecDepth 100000 in
theorem laws_toIntS.calls (k : Nat) (A0 : Option Addr) (c0 : Nat) (l0 : List Int) (r : List Int) (w : World) (hr0 : Kd.C (Kd.int .i64) w A0 l0.length l0) (hc0 : l0.length ≤ c0) (h : laws_toIntS.f k l0 = some r) :
  Calls Try.prog 24 #[.slice A0 l0.length c0] w fun e w' => ∃ v0_ : Value, e = .returned (v0_) ∧ Kd.R (Kd.int .i64) 3 w' w.heap.size (fun _ => True) v0_ r ∧ Below w.heap.size w w' := by
 have HR0 := Aside0.mk hr0
 have HC0 := Aside0.mk hc0
 clear hr0 hc0
 have HB := Aside0.mk (Below.refl w.heap.size w)
 have H : (if 0 ≤ (l0.length : Int) then (if ((l0.length : Int) : Int).toNat ≤ 35184372088832 then (laws_toIntS.l0 k l0 (List.replicate ((l0.length : Int) : Int).toNat 0) 0) else (none)) else (none)) = some r := h
 clear h
 by_cases c2 : 0 ≤ (l0.length : Int)
 ·rw [if_pos c2] at H
  have c2b0 := eq_true c2
  have c2b1 : decide (0 ≤ (l0.length : Int)) = true := decide_eq_true c2
  clear c2
  by_cases c3 : ((l0.length : Int) : Int).toNat ≤ 35184372088832
  ·rw [if_pos c3] at H
   have c3b0 := eq_true c3
   have c3b1 : decide (((l0.length : Int) : Int).toNat ≤ 35184372088832) = true := decide_eq_true c3
   clear c3
   obtain ⟨y295, hy295⟩ : ∃ y_ : List Int, y_ = (List.replicate ((l0.length : Int) : Int).toNat 0) := ⟨_, rfl⟩
   replace H : (laws_toIntS.l0 k l0 y295 0) = some r := by first | (rw [hy295]; with_reducible exact H) | (have H2_ := (Option.bind_some _ _).symm.trans H; rw [hy295]; with_reducible exact H2_) | (have H2_ := (Option.bind_some _ _).symm.trans H; with_reducible exact H2_) | with_reducible exact H | (rw [hy295]; exact H) | exact H
   have Ny295 := Aside0.mk hy295
   clear hy295
   have H' := Aside0.mk H
   clear H
   go_enter Try.func24, Try.ntmps24
   go_wp2_with (first | ((with_reducible refine gate_dst (N := 7) rfl ?_); refine Kd.R_make (Kd.int .i64) _ 3 rfl (N := 7) rfl 24 _ _ rfl (l0.length : Int) rfl rfl Try.underlying24 (.int .i64 0) 8 info3 rfl (by decide) (by omega) 0 (ok := fun _ => True) (okp := fun _ => True) rfl (fun _ hk => hk) trivial (of_decide_eq_true dg_) (Nat.le_trans (Nat.mul_le_mul_right _ (of_decide_eq_true dg_ : (l0.length : Int).toNat ≤ 35184372088832)) (by omega)) (Below.refl _ _) (Nat.le_refl _) ?_; intro v296 w4 ho5 hb hg_ hnew_; clear hg_ hnew_; (first | rw [← Ny295.out] at ho5 | (simp only [Int.reduceToNat] at ho5; rw [← Ny295.out] at ho5)); have HO297 := Aside0.mk (Kd.R_lower ho5 (bz_ HB.out)); replace HB := Aside0.mk (bs_ HB.out hb); clear hb ho5))
   go_loopg [4] k (fun kq v4 w' => ∃ (x3_1 : List Int) (x4_1 : Int), v4 = .int .i64 x4_1 ∧ Aside0 (laws_toIntS.l0 kq l0 x3_1 x4_1 = some r) ∧ Aside0 (kq ≤ k) ∧ Aside0 (Kd.R (Kd.int .i64) 3 w' w.heap.size (fun _ => True) v296 x3_1) ∧ Aside0 (Below w.heap.size w w'))
   case atStart => exact ⟨(y295), (0), ef_, H', ⟨Nat.le_refl _⟩, ⟨by (with_reducible repeat (first | apply Kd.R_alloc | apply Kd.R_drewN | apply Kd.R_drew)); exact HO297.out⟩, ⟨bb_ HB.out⟩⟩
   case round =>
    clear H'
    try clear c2
    try clear c2b0
    try clear c2b1
    try clear c3
    try clear c3b0
    try clear c3b1
    obtain ⟨x3_1, x4_1, rfl, HA, HK1, HO_3, HB⟩ := hrel
    cases gk with
    | zero => exact absurd HA.out (by simp [laws_toIntS.l0])
    | succ k1 =>
     have H := HA.out
     clear HA
     simp only [laws_toIntS.l0] at H
     by_cases c6 : x4_1 < (l0.length : Int)
     ·rw [if_pos c6] at H
      have c6b0 : decide (x4_1 < (l0.length : Int)) = true := decide_eq_true c6
      clear c6
      by_cases c7 : 0 ≤ x4_1
      ·rw [if_pos c7] at H
       have c7b0 : decide (0 ≤ x4_1) = true := decide_eq_true c7
       clear c7
       by_cases c8 : x4_1 < (x3_1.length : Int)
       ·rw [if_pos c8] at H
        have c8b0 : decide (x4_1 < (x3_1.length : Int)) = true := decide_eq_true c8
        clear c8
        obtain ⟨y299, hy299⟩ : ∃ y_ : List Int, y_ = (x3_1.set (x4_1 : Int).toNat (rd l0 x4_1)) := ⟨_, rfl⟩
        replace H : (laws_toIntS.l0 k1 l0 y299 (wrap64 (x4_1 + 1))) = some r := by first | (rw [hy299]; with_reducible exact H) | (have H2_ := (Option.bind_some _ _).symm.trans H; rw [hy299]; with_reducible exact H2_) | (have H2_ := (Option.bind_some _ _).symm.trans H; with_reducible exact H2_) | with_reducible exact H | (rw [hy299]; exact H) | exact H
        have Ny299 := Aside0.mk hy299
        clear hy299
        have H' := Aside0.mk H
        clear H
        have p298 : 0 ≤ (x4_1 : Int) := of_decide_eq_true dg_
        have q298 : x4_1 < (l0.length : Int) := of_decide_eq_true dg_
        obtain ⟨ad298, e298, hx298_0⟩ := Kd.at_int HR0.out x4_1 p298 q298
        cases e298
        replace hx298_0 := (HB.out.cell (World.block_lt_of_cell? w _ hx298_0)).trans hx298_0
        replace p298 := eq_true p298
        replace q298 := eq_true q298
        have p9 : 0 ≤ (x4_1 : Int) := of_decide_eq_true dg_
        have q9 : (x4_1 : Int) < ((x3_1.length : Int) : Int) := of_decide_eq_true dg_
        obtain ⟨go9, co9, eo9, gb9, gl9, cl9, HG9⟩ := Kd.R_form HO_3.out (by omega)
        (first | cases eo9 | (injection eo9 with ea_ en_ ec_; (first | subst ea_ | (injection ea_ with ea_; subst ea_)); subst ec_; clear en_))
        have GB9 := Aside0.mk gb9
        have GG9 := Aside0.mk HG9
        clear gb9 gl9 HG9
        obtain ⟨hx9_0, hf9_0⟩ := Kd.R_celln 0 HO_3.out (x4_1 : Int) p9 q9
        replace p9 := eq_true p9
        replace q9 := eq_true q9
        have HP10 := Kd.R_putg HO_3.out (x4_1 : Int) (rd l0 x4_1)
        go_wp2_with (first | ((with_reducible refine gate_store (t := 3) (p := 20) rfl ?_); refine store_event (t := 3) (p := 20) (v := ?vo_w11) (w1 := (wr.setCell ⟨go9, (x4_1 : Int).toNat, none⟩ (.int .i64 (rd l0 x4_1)))) ?hg ?ho ?hn ?hr ?_; (case ho => rfl); (case hg => rfl); (case hn => rfl); (case hr => first | (go_simp; done) | (go_simp; rfl)); intro w11 hw; have hg : wr.grownBy w11 (some go9) := (by rw [hw]; exact HP10.2); have hp_ : Kd.R (Kd.int .i64) 3 w11 w.heap.size (fun _ => True) (.slice (some ⟨go9, 0, none⟩) x3_1.length co9) y299 := (by rw [hw, Ny299.out]; exact HP10.1); clear HP10; replace HO_3 := Aside0.mk (hp_); replace HB := Aside0.mk ((by rw [hw]; exact below_set (HB.out) GB9.out : Below w.heap.size w w11)); clear hg hw hp_))
        go_roundg k1
        case measure => have := HK1.out; omega
        case rel => exact ⟨(y299), (wrap64 (x4_1 + 1)), ef_, H', ⟨by have := HK1.out; omega⟩, ⟨by (with_reducible repeat (first | apply Kd.R_alloc | apply Kd.R_drewN | apply Kd.R_drew)); exact HO_3.out⟩, ⟨bb_ HB.out⟩⟩
       ·rw [if_neg c8] at H
        exact absurd H (by simp)
      ·rw [if_neg c7] at H
       exact absurd H (by simp)
     ·rw [if_neg c6] at H
      have c6b0 : decide (x4_1 < (l0.length : Int)) = false := decide_eq_false c6
      clear c6
      obtain rfl := Option.some.inj H
      go_wp2
      go_ret
      exact ⟨_, fin_, by (with_reducible repeat (first | apply Kd.R_alloc | apply Kd.R_drewN | apply Kd.R_drew)); exact HO_3.out, bb_ HB.out⟩
  ·rw [if_neg c3] at H
   exact absurd H (by simp)
 ·rw [if_neg c2] at H
  exact absurd H (by simp)

/-! ### laws_toMesh: function 7 -/
def laws_toMesh.f (k : Nat) (a0_0 : Int) (a0_1 : Int) (l0_2 : List Int) : Option (Int × Int × List Int) := (laws_toGrid.f a0_0 a0_1).bind fun bt303 => ((laws_toIntS.f k l0_2).bind fun t305 => (some (bt303.1, bt303.2, t305)))
theorem laws_toMesh.mono : ∀ a0 a1 a2 k, LeO (laws_toMesh.f k a0 a1 a2) (laws_toMesh.f (k + 1) a0 a1 a2) := by
 intro a0 a1 a2 k
 unfold laws_toMesh.f
 repeat' first
   | (with_reducible exact laws_toIntS.mono _ _)
   | (with_reducible exact LeO.refl _)
   | (with_reducible exact LeO.none _)
   | (with_reducible refine LeO.ite ?_ ?_)
   | (with_reducible refine LeO.bind ?_ (fun _ => ?_))
   | exact laws_toIntS.mono _ _
   | exact LeO.none _
   | refine LeO.ite ?_ ?_
   | refine LeO.bind ?_ (fun _ => ?_)
set_option maxHeartbeats 8000000 in
set_option maxRecDepth 100000 in
theorem laws_toMesh.calls (k : Nat) (a0_0 : Int) (a0_1 : Int) (A0_2 : Option Addr) (c0_2 : Nat) (l0_2 : List Int) (r1 : Int) (r2 : Int) (r3 : List Int) (w : World) (hr0_2 : Kd.C (Kd.int .i64) w A0_2 l0_2.length l0_2) (hc0_2 : l0_2.length ≤ c0_2) (h : laws_toMesh.f k a0_0 a0_1 l0_2 = some (r1, r2, r3)) :
  Calls Try.prog 7 #[.agg #[.int .i64 a0_0, .int .i64 a0_1, .slice A0_2 l0_2.length c0_2]] w fun e w' => ∃ v2_ : Value, e = .returned (.agg #[.int .i64 r1, .int .i64 r2, v2_]) ∧ Kd.R (Kd.int .i64) 3 w' w.heap.size (fun _ => True) v2_ r3 ∧ Below w.heap.size w w' := by
 have hu26 := Try.underlying26
 have hu35 := Try.underlying35
 have hu23 := Try.underlying23
 have hu33 := Try.underlying33
 have HR0_2 := Aside0.mk hr0_2
 have HC0_2 := Aside0.mk hc0_2
 clear hr0_2 hc0_2
 have HB := Aside0.mk (Below.refl w.heap.size w)
 have H : ((laws_toGrid.f a0_0 a0_1).bind fun bt303 => ((laws_toIntS.f k l0_2).bind fun t305 => (some (bt303.1, bt303.2, t305)))) = some (r1, r2, r3) := h
 clear h
 replace H := Option.bind_eq_some_iff.mp H
 obtain ⟨⟨t303, t304⟩, A20, H⟩ := H
 try dsimp only at H
 have A2 := Aside0.mk A20
 clear A20
 replace H := Option.bind_eq_some_iff.mp H
 obtain ⟨t305, A30, H⟩ := H
 try dsimp only at H
 have A3 := Aside0.mk A30
 clear A30
 simp only [Option.some.injEq, Prod.mk.injEq] at H
 obtain ⟨rfl, rfl, rfl⟩ := H
 go_enter Try.func7, Try.ntmps7
 go_wp2_with (first | ((with_reducible refine gate_dst (N := 1) rfl ?_); refine box_event ?hg (N := 1) ?hd (cs := #[.int .i64 a0_0, .int .i64 a0_1, .slice A0_2 l0_2.length c0_2]) (t := 26) ?hr ?_; (case hd => rfl); (case hg => rfl); (case hr => first | (go_simp; done) | (go_simp; rfl)); intro gb300 hg w4 hbox hb; have BK300 := Aside0.mk (hbox); have GW300 := Aside0.mk ((by rw [hg]; exact (bz_ HB.out) : w.heap.size ≤ gb300)); have GE300 := Aside0.mk ((by rw [hg]; exact (bz_ HB.out) : w.heap.size ≤ gb300)); replace HB := Aside0.mk (bs_ HB.out hb); clear hb hbox hg) | ((with_reducible refine gate_dst (N := 2) rfl ?_); refine box_event ?hg (N := 2) ?hd (cs := #[.int .i64 0, .int .i64 0, .slice none 0 0]) (t := 35) ?hr ?_; (case hd => rfl); (case hg => rfl); (case hr => first | (go_simp; done) | (go_simp; rfl)); intro gb301 hg w5 hbox hb; have BK301 := Aside0.mk (hbox); have GW301 := Aside0.mk ((by rw [hg]; exact (bz_ HB.out) : w.heap.size ≤ gb301)); have GE301 := Aside0.mk ((by rw [hg]; exact (bz_ HB.out) : w.heap.size ≤ gb301)); replace HB := Aside0.mk (bs_ HB.out hb); have NB300_301 := Aside0.mk ((by rw [hg]; exact Nat.ne_of_lt (bl_ BK300.out) : gb300 ≠ gb301)); have NB301_300 := Aside0.mk ((by rw [hg]; exact Nat.ne_of_gt (bl_ BK300.out) : gb301 ≠ gb300)); replace BK300 := Aside0.mk (bk_ BK300.out hb); clear hb hbox hg) | ((with_reducible refine gate_dst (N := 3) rfl ?_); refine box_event ?hg (N := 3) ?hd (cs := #[.int .i64 0, .int .i64 0, .slice none 0 0]) (t := 35) ?hr ?_; (case hd => rfl); (case hg => rfl); (case hr => first | (go_simp; done) | (go_simp; rfl)); intro gb302 hg w6 hbox hb; have BK302 := Aside0.mk (hbox); have GW302 := Aside0.mk ((by rw [hg]; exact (bz_ HB.out) : w.heap.size ≤ gb302)); have GE302 := Aside0.mk ((by rw [hg]; exact (bz_ HB.out) : w.heap.size ≤ gb302)); replace HB := Aside0.mk (bs_ HB.out hb); have NB300_302 := Aside0.mk ((by rw [hg]; exact Nat.ne_of_lt (bl_ BK300.out) : gb300 ≠ gb302)); have NB302_300 := Aside0.mk ((by rw [hg]; exact Nat.ne_of_gt (bl_ BK300.out) : gb302 ≠ gb300)); replace BK300 := Aside0.mk (bk_ BK300.out hb); have NB301_302 := Aside0.mk ((by rw [hg]; exact Nat.ne_of_lt (bl_ BK301.out) : gb301 ≠ gb302)); have NB302_301 := Aside0.mk ((by rw [hg]; exact Nat.ne_of_gt (bl_ BK301.out) : gb302 ≠ gb301)); replace BK301 := Aside0.mk (bk_ BK301.out hb); clear hb hbox hg; have hnb7 := NB300_301.out; have hnc7 := NB301_300.out; have hnb8 := NB300_302.out; have hnc8 := NB302_300.out; obtain ⟨hcz9_0, hcz9_1, hcz9_2, hfz9_0, hfz9_1, hfz9_2⟩ := cz3_ BK300.out) | ((with_reducible refine gate_callee (f := 23) rfl ?_); refine gm_ (some 6) Try.func23 #[.agg #[.int .i64 a0_0, .int .i64 a0_1]] rfl ?_; (with_reducible refine (laws_toGrid.calls a0_0 a0_1 t303 t304 _ A2.out).mono ?_); rintro e w10 ⟨rfl, hb⟩; refine ⟨_, rfl, ?_⟩; replace BK300 := Aside0.mk (bk_ BK300.out hb); replace BK301 := Aside0.mk (bk_ BK301.out hb); replace BK302 := Aside0.mk (bk_ BK302.out hb); replace HB := Aside0.mk (bs_ HB.out hb); (try clear hb); have hnb11 := NB302_301.out; have hnc11 := NB301_302.out; obtain ⟨hcz12_0, hcz12_1, hcz12_2, hfz12_0, hfz12_1, hfz12_2⟩ := cz3_ BK302.out; obtain ⟨hcz13_0, hcz13_1, hcz13_2, hfz13_0, hfz13_1, hfz13_2⟩ := cz3_ BK300.out) | ((with_reducible refine gate_callee (f := 24) rfl ?_); refine gm_ (some 10) Try.func24 #[.slice A0_2 l0_2.length c0_2] rfl ?_; (with_reducible refine (laws_toIntS.calls k _ _ l0_2 t305 _ ?side1 HC0_2.out A3.out).mono ?_); (case side1 => exact Kd.C_below HR0_2.out (by repeat (first | (with_reducible first | exact HB.out | apply below_alloc | apply pw_below_drewN | apply below_drew1 | refine below_set ?_ GE300.out | refine below_set ?_ GE301.out | refine below_set ?_ GE302.out) | exact HB.out))); rintro e w14 ⟨v306, rfl, ho0, hb⟩; refine ⟨_, rfl, ?_⟩; have HO307 := Aside0.mk (Kd.R_lower ho0 (bz_ HB.out)); replace BK300 := Aside0.mk (blk_below (bf_ BK300.out) hb); replace BK301 := Aside0.mk (blk_below (bf_ BK301.out) hb); replace BK302 := Aside0.mk (blk_below (g := gb302) (o := .cells #[.int .i64 t303, .int .i64 t304, .slice none 0 0] 35 (0, 0)) (by (with_reducible repeat (first | refine blk_drewN ?_ _ | refine blk_drew ?_ | refine blk_alloc ?_ _)); refine blk_put (cs := #[.int .i64 t303, .int .i64 0, .slice none 0 0]) ?_ 1 _ rfl; (with_reducible repeat (first | refine blk_drewN ?_ _ | refine blk_drew ?_ | refine blk_alloc ?_ _)); refine blk_put (cs := #[.int .i64 0, .int .i64 0, .slice none 0 0]) ?_ 0 _ rfl; (with_reducible repeat (first | refine blk_drewN ?_ _ | refine blk_drew ?_ | refine blk_alloc ?_ _)); exact BK302.out) hb); replace HB := Aside0.mk (bs_ HB.out hb); (try clear hb); (try clear ho0); obtain ⟨Ao15, co15, eo15⟩ := Kd.R_slice HO307.out; subst eo15; obtain ⟨hcz16_0, hcz16_1, hcz16_2, hfz16_0, hfz16_1, hfz16_2⟩ := cz3_ BK302.out; obtain ⟨hcz17_0, hcz17_1, hcz17_2, hfz17_0, hfz17_1, hfz17_2⟩ := cz3_ BK301.out))
 refine bodyPost_ret (results_cell_row rfl _ _ gb301 35 #[.int .i64 t303, .int .i64 t304, .slice Ao15 t305.length co15] (0, 0) _ rfl (by (with_reducible repeat (first | refine blk_drewN ?_ _ | refine blk_drew ?_ | refine blk_alloc ?_ _)); refine blk_put (cs := #[.int .i64 t303, .int .i64 t304, .slice none 0 0]) ?_ 2 _ rfl; (with_reducible repeat (first | refine blk_drewN ?_ _ | refine blk_drew ?_ | refine blk_alloc ?_ _)); refine blk_put (cs := #[.int .i64 t303, .int .i64 0, .slice none 0 0]) ?_ 1 _ rfl; (with_reducible repeat (first | refine blk_drewN ?_ _ | refine blk_drew ?_ | refine blk_alloc ?_ _)); refine blk_put (cs := #[.int .i64 0, .int .i64 0, .slice none 0 0]) ?_ 0 _ rfl; (with_reducible repeat (first | refine blk_drewN ?_ _ | refine blk_drew ?_ | refine blk_alloc ?_ _)); refine blk_far ?_ NB301_302.out _; (with_reducible repeat (first | refine blk_drewN ?_ _ | refine blk_drew ?_ | refine blk_alloc ?_ _)); exact BK301.out) Try.underlying35 rfl (by kernel_rfl)) rfl ?_
 exact ⟨_, fin_, rm_ (Kd.R_types (Kd.R_types HO307.out BK302.out (by decide)) BK301.out (by decide)) (fun _ hk => trivial), bb_ HB.out⟩

/-! ### laws_toTable: function 25 -/
def laws_toTable.f (k : Nat) (l0_0 : List Int) : Option (List Int) := (laws_toIntS.f k l0_0).bind fun t311 => (some t311)
theorem laws_toTable.mono : ∀ a0 k, LeO (laws_toTable.f k a0) (laws_toTable.f (k + 1) a0) := by
 intro a0 k
 unfold laws_toTable.f
 repeat' first
   | (with_reducible exact laws_toIntS.mono _ _)
   | (with_reducible exact LeO.refl _)
   | (with_reducible exact LeO.none _)
   | (with_reducible refine LeO.ite ?_ ?_)
   | (with_reducible refine LeO.bind ?_ (fun _ => ?_))
   | exact laws_toIntS.mono _ _
   | exact LeO.none _
   | refine LeO.ite ?_ ?_
   | refine LeO.bind ?_ (fun _ => ?_)
set_option maxHeartbeats 8000000 in
set_option maxRecDepth 100000 in
theorem laws_toTable.calls (k : Nat) (A0_0 : Option Addr) (c0_0 : Nat) (l0_0 : List Int) (r : List Int) (w : World) (hr0_0 : Kd.C (Kd.int .i64) w A0_0 l0_0.length l0_0) (hc0_0 : l0_0.length ≤ c0_0) (h : laws_toTable.f k l0_0 = some r) :
  Calls Try.prog 25 #[.agg #[.slice A0_0 l0_0.length c0_0]] w fun e w' => ∃ v0_ : Value, e = .returned (.agg #[v0_]) ∧ Kd.R (Kd.int .i64) 3 w' w.heap.size (fun _ => True) v0_ r ∧ Below w.heap.size w w' := by
 have hu28 := Try.underlying28
 have hu36 := Try.underlying36
 have HR0_0 := Aside0.mk hr0_0
 have HC0_0 := Aside0.mk hc0_0
 clear hr0_0 hc0_0
 have HB := Aside0.mk (Below.refl w.heap.size w)
 have H : ((laws_toIntS.f k l0_0).bind fun t311 => (some t311)) = some r := h
 clear h
 replace H := Option.bind_eq_some_iff.mp H
 obtain ⟨t311, A20, H⟩ := H
 try dsimp only at H
 have A2 := Aside0.mk A20
 clear A20
 obtain rfl := Option.some.inj H
 go_enter Try.func25, Try.ntmps25
 go_wp2_with (first | ((with_reducible refine gate_dst (N := 1) rfl ?_); refine box_event ?hg (N := 1) ?hd (cs := #[.slice A0_0 l0_0.length c0_0]) (t := 28) ?hr ?_; (case hd => rfl); (case hg => rfl); (case hr => first | (go_simp; done) | (go_simp; rfl)); intro gb308 hg w3 hbox hb; have BK308 := Aside0.mk (hbox); have GW308 := Aside0.mk ((by rw [hg]; exact (bz_ HB.out) : w.heap.size ≤ gb308)); have GE308 := Aside0.mk ((by rw [hg]; exact (bz_ HB.out) : w.heap.size ≤ gb308)); replace HB := Aside0.mk (bs_ HB.out hb); clear hb hbox hg) | ((with_reducible refine gate_dst (N := 2) rfl ?_); refine box_event ?hg (N := 2) ?hd (cs := #[.slice none 0 0]) (t := 36) ?hr ?_; (case hd => rfl); (case hg => rfl); (case hr => first | (go_simp; done) | (go_simp; rfl)); intro gb309 hg w4 hbox hb; have BK309 := Aside0.mk (hbox); have GW309 := Aside0.mk ((by rw [hg]; exact (bz_ HB.out) : w.heap.size ≤ gb309)); have GE309 := Aside0.mk ((by rw [hg]; exact (bz_ HB.out) : w.heap.size ≤ gb309)); replace HB := Aside0.mk (bs_ HB.out hb); have NB308_309 := Aside0.mk ((by rw [hg]; exact Nat.ne_of_lt (bl_ BK308.out) : gb308 ≠ gb309)); have NB309_308 := Aside0.mk ((by rw [hg]; exact Nat.ne_of_gt (bl_ BK308.out) : gb309 ≠ gb308)); replace BK308 := Aside0.mk (bk_ BK308.out hb); clear hb hbox hg) | ((with_reducible refine gate_dst (N := 3) rfl ?_); refine box_event ?hg (N := 3) ?hd (cs := #[.slice none 0 0]) (t := 36) ?hr ?_; (case hd => rfl); (case hg => rfl); (case hr => first | (go_simp; done) | (go_simp; rfl)); intro gb310 hg w5 hbox hb; have BK310 := Aside0.mk (hbox); have GW310 := Aside0.mk ((by rw [hg]; exact (bz_ HB.out) : w.heap.size ≤ gb310)); have GE310 := Aside0.mk ((by rw [hg]; exact (bz_ HB.out) : w.heap.size ≤ gb310)); replace HB := Aside0.mk (bs_ HB.out hb); have NB308_310 := Aside0.mk ((by rw [hg]; exact Nat.ne_of_lt (bl_ BK308.out) : gb308 ≠ gb310)); have NB310_308 := Aside0.mk ((by rw [hg]; exact Nat.ne_of_gt (bl_ BK308.out) : gb310 ≠ gb308)); replace BK308 := Aside0.mk (bk_ BK308.out hb); have NB309_310 := Aside0.mk ((by rw [hg]; exact Nat.ne_of_lt (bl_ BK309.out) : gb309 ≠ gb310)); have NB310_309 := Aside0.mk ((by rw [hg]; exact Nat.ne_of_gt (bl_ BK309.out) : gb310 ≠ gb309)); replace BK309 := Aside0.mk (bk_ BK309.out hb); clear hb hbox hg; have hnb6 := NB308_309.out; have hnc6 := NB309_308.out; have hnb7 := NB308_310.out; have hnc7 := NB310_308.out; obtain ⟨hcz8_0, hfz8_0⟩ := cz1_ BK308.out) | ((with_reducible refine gate_callee (f := 24) rfl ?_); refine gm_ (some 6) Try.func24 #[.slice A0_0 l0_0.length c0_0] rfl ?_; (with_reducible refine (laws_toIntS.calls k _ _ l0_0 t311 _ ?side1 HC0_0.out A2.out).mono ?_); (case side1 => exact cb_ HR0_0.out HB.out); rintro e w9 ⟨v312, rfl, ho0, hb⟩; refine ⟨_, rfl, ?_⟩; have HO313 := Aside0.mk (Kd.R_lower ho0 (bz_ HB.out)); replace BK308 := Aside0.mk (bk_ BK308.out hb); replace BK309 := Aside0.mk (bk_ BK309.out hb); replace BK310 := Aside0.mk (bk_ BK310.out hb); replace HB := Aside0.mk (bs_ HB.out hb); (try clear hb); (try clear ho0); obtain ⟨Ao10, co10, eo10⟩ := Kd.R_slice HO313.out; subst eo10; have hnb11 := NB310_309.out; have hnc11 := NB309_310.out; obtain ⟨hcz12_0, hfz12_0⟩ := cz1_ BK310.out; obtain ⟨hcz13_0, hfz13_0⟩ := cz1_ BK309.out))
 refine bodyPost_ret (results_cell_row rfl _ _ gb309 36 #[.slice Ao10 t311.length co10] (0, 0) _ rfl (by (with_reducible repeat (first | refine blk_drewN ?_ _ | refine blk_drew ?_ | refine blk_alloc ?_ _)); refine blk_put (cs := #[.slice none 0 0]) ?_ 0 _ rfl; (with_reducible repeat (first | refine blk_drewN ?_ _ | refine blk_drew ?_ | refine blk_alloc ?_ _)); refine blk_far ?_ NB309_310.out _; (with_reducible repeat (first | refine blk_drewN ?_ _ | refine blk_drew ?_ | refine blk_alloc ?_ _)); exact BK309.out) Try.underlying36 rfl (by kernel_rfl)) rfl ?_
 exact ⟨_, fin_, rm_ (Kd.R_types (Kd.R_types HO313.out BK310.out (by decide)) BK309.out (by decide)) (fun _ hk => trivial), bb_ HB.out⟩

/-! ### laws_toClasses: function 8 -/
def laws_toClasses.f (k : Nat) (l0_0 : List Int) (l0_1 : List Int) : Option (List Int × List Int) := (laws_toTable.f k l0_0).bind fun t317 => ((laws_toTable.f k l0_1).bind fun t320 => (some (t317, t320)))
theorem laws_toClasses.mono : ∀ a0 a1 k, LeO (laws_toClasses.f k a0 a1) (laws_toClasses.f (k + 1) a0 a1) := by
 intro a0 a1 k
 unfold laws_toClasses.f
 repeat' first
   | (with_reducible exact laws_toTable.mono _ _)
   | (with_reducible exact LeO.refl _)
   | (with_reducible exact LeO.none _)
   | (with_reducible refine LeO.ite ?_ ?_)
   | (with_reducible refine LeO.bind ?_ (fun _ => ?_))
   | exact laws_toTable.mono _ _
   | exact LeO.none _
   | refine LeO.ite ?_ ?_
   | refine LeO.bind ?_ (fun _ => ?_)
set_option maxHeartbeats 8000000 in
set_option maxRecDepth 100000 in
theorem laws_toClasses.calls (k : Nat) (A0_0 : Option Addr) (c0_0 : Nat) (l0_0 : List Int) (A0_1 : Option Addr) (c0_1 : Nat) (l0_1 : List Int) (r1 : List Int) (r2 : List Int) (w : World) (hr0_0 : Kd.C (Kd.int .i64) w A0_0 l0_0.length l0_0) (hc0_0 : l0_0.length ≤ c0_0) (hr0_1 : Kd.C (Kd.int .i64) w A0_1 l0_1.length l0_1) (hc0_1 : l0_1.length ≤ c0_1) (h : laws_toClasses.f k l0_0 l0_1 = some (r1, r2)) :
  Calls Try.prog 8 #[.agg #[.slice A0_0 l0_0.length c0_0, .slice A0_1 l0_1.length c0_1]] w fun e w' => ∃ v0_ v1_ : Value, e = .returned (.agg #[v0_, v1_]) ∧ Kd.R (Kd.int .i64) 3 w' w.heap.size (fun k_ => some k_ ≠ (v1_ : Value).ownBlock) v0_ r1 ∧ Kd.R (Kd.int .i64) 3 w' w.heap.size (fun k_ => some k_ ≠ (v0_ : Value).ownBlock) v1_ r2 ∧ Below w.heap.size w w' := by
 have hu30 := Try.underlying30
 have hu38 := Try.underlying38
 have hu28 := Try.underlying28
 have hu36 := Try.underlying36
 have HR0_0 := Aside0.mk hr0_0
 have HC0_0 := Aside0.mk hc0_0
 clear hr0_0 hc0_0
 have HR0_1 := Aside0.mk hr0_1
 have HC0_1 := Aside0.mk hc0_1
 clear hr0_1 hc0_1
 have HB := Aside0.mk (Below.refl w.heap.size w)
 have H : ((laws_toTable.f k l0_0).bind fun t317 => ((laws_toTable.f k l0_1).bind fun t320 => (some (t317, t320)))) = some (r1, r2) := h
 clear h
 replace H := Option.bind_eq_some_iff.mp H
 obtain ⟨t317, A20, H⟩ := H
 try dsimp only at H
 have A2 := Aside0.mk A20
 clear A20
 replace H := Option.bind_eq_some_iff.mp H
 obtain ⟨t320, A30, H⟩ := H
 try dsimp only at H
 have A3 := Aside0.mk A30
 clear A30
 simp only [Option.some.injEq, Prod.mk.injEq] at H
 obtain ⟨rfl, rfl⟩ := H
 go_enter Try.func8, Try.ntmps8
 go_wp2_with (first | ((with_reducible refine gate_dst (N := 1) rfl ?_); refine box_event ?hg (N := 1) ?hd (cs := #[.slice A0_0 l0_0.length c0_0, .slice A0_1 l0_1.length c0_1]) (t := 30) ?hr ?_; (case hd => rfl); (case hg => rfl); (case hr => first | (go_simp; done) | (go_simp; rfl)); intro gb314 hg w4 hbox hb; have BK314 := Aside0.mk (hbox); have GW314 := Aside0.mk ((by rw [hg]; exact (bz_ HB.out) : w.heap.size ≤ gb314)); have GE314 := Aside0.mk ((by rw [hg]; exact (bz_ HB.out) : w.heap.size ≤ gb314)); replace HB := Aside0.mk (bs_ HB.out hb); clear hb hbox hg) | ((with_reducible refine gate_dst (N := 2) rfl ?_); refine box_event ?hg (N := 2) ?hd (cs := #[.slice none 0 0, .slice none 0 0]) (t := 38) ?hr ?_; (case hd => rfl); (case hg => rfl); (case hr => first | (go_simp; done) | (go_simp; rfl)); intro gb315 hg w5 hbox hb; have BK315 := Aside0.mk (hbox); have GW315 := Aside0.mk ((by rw [hg]; exact (bz_ HB.out) : w.heap.size ≤ gb315)); have GE315 := Aside0.mk ((by rw [hg]; exact (bz_ HB.out) : w.heap.size ≤ gb315)); replace HB := Aside0.mk (bs_ HB.out hb); have NB314_315 := Aside0.mk ((by rw [hg]; exact Nat.ne_of_lt (bl_ BK314.out) : gb314 ≠ gb315)); have NB315_314 := Aside0.mk ((by rw [hg]; exact Nat.ne_of_gt (bl_ BK314.out) : gb315 ≠ gb314)); replace BK314 := Aside0.mk (bk_ BK314.out hb); clear hb hbox hg) | ((with_reducible refine gate_dst (N := 3) rfl ?_); refine box_event ?hg (N := 3) ?hd (cs := #[.slice none 0 0, .slice none 0 0]) (t := 38) ?hr ?_; (case hd => rfl); (case hg => rfl); (case hr => first | (go_simp; done) | (go_simp; rfl)); intro gb316 hg w6 hbox hb; have BK316 := Aside0.mk (hbox); have GW316 := Aside0.mk ((by rw [hg]; exact (bz_ HB.out) : w.heap.size ≤ gb316)); have GE316 := Aside0.mk ((by rw [hg]; exact (bz_ HB.out) : w.heap.size ≤ gb316)); replace HB := Aside0.mk (bs_ HB.out hb); have NB314_316 := Aside0.mk ((by rw [hg]; exact Nat.ne_of_lt (bl_ BK314.out) : gb314 ≠ gb316)); have NB316_314 := Aside0.mk ((by rw [hg]; exact Nat.ne_of_gt (bl_ BK314.out) : gb316 ≠ gb314)); replace BK314 := Aside0.mk (bk_ BK314.out hb); have NB315_316 := Aside0.mk ((by rw [hg]; exact Nat.ne_of_lt (bl_ BK315.out) : gb315 ≠ gb316)); have NB316_315 := Aside0.mk ((by rw [hg]; exact Nat.ne_of_gt (bl_ BK315.out) : gb316 ≠ gb315)); replace BK315 := Aside0.mk (bk_ BK315.out hb); clear hb hbox hg; have hnb7 := NB314_315.out; have hnc7 := NB315_314.out; have hnb8 := NB314_316.out; have hnc8 := NB316_314.out; obtain ⟨hcz9_0, hcz9_1, hfz9_0, hfz9_1⟩ := cz2_ BK314.out) | ((with_reducible refine gate_callee (f := 25) rfl ?_); refine gm_ (some 6) Try.func25 #[.agg #[.slice A0_0 l0_0.length c0_0]] rfl ?_; (with_reducible refine (laws_toTable.calls k _ _ l0_0 t317 _ ?side1 HC0_0.out A2.out).mono ?_); (case side1 => exact cb_ HR0_0.out HB.out); rintro e w10 ⟨v318, rfl, ho0, hb⟩; refine ⟨_, rfl, ?_⟩; have HO319 := Aside0.mk (Kd.R_lower ho0 (bz_ HB.out)); replace BK314 := Aside0.mk (bk_ BK314.out hb); replace BK315 := Aside0.mk (bk_ BK315.out hb); replace BK316 := Aside0.mk (bk_ BK316.out hb); replace HB := Aside0.mk (bs_ HB.out hb); (try clear hb); (try clear ho0); obtain ⟨Ao11, co11, eo11⟩ := Kd.R_slice HO319.out; subst eo11; have hnb12 := NB316_315.out; have hnc12 := NB315_316.out; obtain ⟨hcz13_0, hcz13_1, hfz13_0, hfz13_1⟩ := cz2_ BK316.out; obtain ⟨hcz14_0, hcz14_1, hfz14_0, hfz14_1⟩ := cz2_ BK314.out) | ((with_reducible refine gate_callee (f := 25) rfl ?_); refine gm_ (some 10) Try.func25 #[.agg #[.slice A0_1 l0_1.length c0_1]] rfl ?_; (with_reducible refine (laws_toTable.calls k _ _ l0_1 t320 _ ?side1 HC0_1.out A3.out).mono ?_); (case side1 => exact Kd.C_below HR0_1.out (by repeat (first | (with_reducible first | exact HB.out | apply below_alloc | apply pw_below_drewN | apply below_drew1 | refine below_set ?_ GE314.out | refine below_set ?_ GE315.out | refine below_set ?_ GE316.out) | exact HB.out))); rintro e w15 ⟨v321, rfl, ho0, hb⟩; refine ⟨_, rfl, ?_⟩; have HO322 := Aside0.mk (Kd.R_lower (Kd.R_new' ho0 (Kd.R_lt (rm_ (Kd.R_types HO319.out BK316.out (by decide)) (fun _ h_ => h_.1)))) (bz_ HB.out)); replace HO319 := Aside0.mk (Kd.R_elder' (rm_ (Kd.R_types HO319.out BK316.out (by decide)) (fun _ h_ => h_.1)) (Kd.R_base ho0) hb); replace BK314 := Aside0.mk (blk_below (bf_ BK314.out) hb); replace BK315 := Aside0.mk (blk_below (bf_ BK315.out) hb); replace BK316 := Aside0.mk (blk_below (g := gb316) (o := .cells #[.slice Ao11 t317.length co11, .slice none 0 0] 38 (0, 0)) (by (with_reducible repeat (first | refine blk_drewN ?_ _ | refine blk_drew ?_ | refine blk_alloc ?_ _)); refine blk_put (cs := #[.slice none 0 0, .slice none 0 0]) ?_ 0 _ rfl; (with_reducible repeat (first | refine blk_drewN ?_ _ | refine blk_drew ?_ | refine blk_alloc ?_ _)); exact BK316.out) hb); replace HB := Aside0.mk (bs_ HB.out hb); (try clear hb); (try clear ho0); obtain ⟨Ao16, co16, eo16⟩ := Kd.R_slice HO322.out; subst eo16; obtain ⟨hcz17_0, hcz17_1, hfz17_0, hfz17_1⟩ := cz2_ BK316.out; obtain ⟨hcz18_0, hcz18_1, hfz18_0, hfz18_1⟩ := cz2_ BK315.out))
 refine bodyPost_ret (results_cell_row rfl _ _ gb315 38 #[.slice Ao11 t317.length co11, .slice Ao16 t320.length co16] (0, 0) _ rfl (by (with_reducible repeat (first | refine blk_drewN ?_ _ | refine blk_drew ?_ | refine blk_alloc ?_ _)); refine blk_put (cs := #[.slice Ao11 t317.length co11, .slice none 0 0]) ?_ 1 _ rfl; (with_reducible repeat (first | refine blk_drewN ?_ _ | refine blk_drew ?_ | refine blk_alloc ?_ _)); refine blk_put (cs := #[.slice none 0 0, .slice none 0 0]) ?_ 0 _ rfl; (with_reducible repeat (first | refine blk_drewN ?_ _ | refine blk_drew ?_ | refine blk_alloc ?_ _)); refine blk_far ?_ NB315_316.out _; (with_reducible repeat (first | refine blk_drewN ?_ _ | refine blk_drew ?_ | refine blk_alloc ?_ _)); exact BK315.out) Try.underlying38 rfl (by kernel_rfl)) rfl ?_
 exact ⟨_, _, fin_, rm_ (Kd.R_types (Kd.R_types HO319.out BK316.out (by decide)) BK315.out (by decide)) (fun _ hk => hk.1.1.2), rm_ (Kd.R_types (Kd.R_types HO322.out BK316.out (by decide)) BK315.out (by decide)) (fun _ hk => hk.1.1.2), bb_ HB.out⟩

/-! ### impl_NetNew: function 9 -/
section
variable {P : Program} {ops : Array Oper} {Q : Exit → Act → World → Prop} {md : Region.Mode} {S : World → Prop} {ds : List Nat} {oi : Oper} {v : Value} {fuel : Nat} {l : Array Bool} {a a' : Act} {w : World}
theorem impl_NetNew.pk_ (i N : Nat) (l' : Array Bool) (h : wpAnyLast P md ops Q S ds fuel l' a' w)
 (hi : ops[i]? = some oi := by rfl) (hN : oi.dst = some N := by rfl) (hc : anyB md ops l l' i = true := by kernel_rfl) (hQ : ∀ c a w, Q (.panic c) (a.put oi.dst v) w → Q (.panic c) a w := by (exact fun _ _ _ h => h)) (hw : Region.wanted oi (yielded ops a.tmps) = true := by rfl) (hy : ∀ w, (execOp a.eval oi).run P w = .ok (.value v) w := by (intro w'; go_simp; with_reducible rfl)) (ha : a.put (some N) v = a' := by (simp only [Act.put, List.setIfInBounds_toArray, List.set_cons_zero, List.set_cons_succ, i64_w, i32_w]; rfl)) : wpAnyLast P md ops Q S ds (fuel + 1) l a w := pure_ l' hi hN hc hQ (Or.inl ⟨hw, hy⟩) ha h
theorem impl_NetNew.tk_ (i N : Nat) (l' : Array Bool) (hS : S w) (h : wpAnyLast P md ops Q S ds fuel l' a' w)
 (hi : ops[i]? = some oi := by rfl) (hN : oi.dst = some N := by rfl) (hc : takeB md ops ds l l' i = true := by kernel_rfl) (hQ : ∀ c a w, Q (.panic c) (a.put oi.dst v) w → Q (.panic c) a w := by (exact fun _ _ _ h => h)) (hw : Region.wanted oi (yielded ops a.tmps) = true := by rfl) (ha : a.put (some N) v = a' := by (simp only [Act.put, List.setIfInBounds_toArray, List.set_cons_zero, List.set_cons_succ, i64_w, i32_w]; rfl)) (hy : ∀ w, S w → (execOp a.eval oi).run P w = .ok (.value v) w) : wpAnyLast P md ops Q S ds (fuel + 1) l a w := take_ l' hi hN hc hQ (Or.inl ⟨hw, hy⟩) hS ha h
end
def impl_NetNew.l0 : Nat → Int → Int → List Int → Option (List Int)
 | 0, _, _, _ => none
 | k + 1, n, i, q => if i < wrap64 (10 * n) then (if q.length < 17592186044416 then impl_NetNew.l0 k n (wrap64 (i + 1)) (q ++ [-1]) else none) else some q
def impl_NetNew.f (k : Nat) (a0_0 a0_1 : Int) (l0_2 l1_0 l1_1 : List Int) : Option (Int × Int × List Int × List Int × List Int × (List (List S81)) × List Int × List Int × (List (List S81)) × (List (List S81)) × Int × Bool) :=
 (impl_ClassesOk.f k a0_0 a0_1 l0_2 l1_0 l1_1).bind fun b => if b = true then (impl_NodeCount.f a0_0 a0_1).bind fun n => (impl_copyMesh.f a0_0 a0_1 l0_2).bind fun m => (impl_copyClasses.f l1_0 l1_1).bind fun c => if 0 ≤ wrap64 (10 * n) ∧ (wrap64 (10 * n)).toNat ≤ 11728124029610 ∧ 0 ≤ wrap64 (5 * n) ∧ (wrap64 (5 * n)).toNat ≤ 35184372088832 ∧ 0 ≤ n ∧ n.toNat ≤ 11728124029610 then (impl_NetNew.l0 k n 0 []).bind fun q => some (m.1, m.2.1, m.2.2, c.1, c.2, List.replicate (wrap64 (10 * n)).toNat [], q, List.replicate (wrap64 (5 * n)).toNat 0, List.replicate n.toNat [], List.replicate n.toNat [], 0, true) else none else some (0, 0, [], [], [], [], [], [], [], [], 0, false)
theorem impl_NetNew.mono_l : ∀ k n i q, LeO (impl_NetNew.l0 k n i q) (impl_NetNew.l0 (k + 1) n i q)
 | 0, _, _, _ => fun r h => by simp [impl_NetNew.l0] at h
 | k + 1, n, i, q => by
  unfold impl_NetNew.l0
  exact LeO.ite (LeO.ite (impl_NetNew.mono_l k _ _ _) (LeO.none _)) (LeO.refl _)
theorem impl_NetNew.mono : ∀ a0 a1 a2 a3 a4 k, LeO (impl_NetNew.f k a0 a1 a2 a3 a4) (impl_NetNew.f (k + 1) a0 a1 a2 a3 a4) := by
 intro a0 a1 a2 a3 a4 k
 unfold impl_NetNew.f
 exact LeO.bind (impl_ClassesOk.mono _ _ _ _ _ _) (fun _ => LeO.ite (LeO.bind (LeO.refl _) (fun _ => LeO.bind (LeO.refl _) (fun _ => LeO.bind (LeO.refl _) (fun _ => LeO.ite (LeO.bind (impl_NetNew.mono_l _ _ _ _) (fun _ => LeO.refl _)) (LeO.none _))))) (LeO.refl _))
set_option maxHeartbeats 8000000 in
set_option maxRecDepth 100000 in
theorem impl_NetNew.calls (k : Nat) (a0_0 : Int) (a0_1 : Int) (A0_2 : Option Addr) (c0_2 : Nat) (l0_2 : List Int) (A1_0 : Option Addr) (c1_0 : Nat) (l1_0 : List Int) (A1_1 : Option Addr) (c1_1 : Nat) (l1_1 : List Int) (r1 : Int) (r2 : Int) (r3 : List Int) (r4 : List Int) (r5 : List Int) (r6 : List (List S81)) (r7 : List Int) (r8 : List Int) (r9 : List (List S81)) (r10 : List (List S81)) (r11 : Int) (r12 : Bool) (w : World) (hr0_2 : Kd.C (Kd.int .i64) w A0_2 l0_2.length l0_2) (hc0_2 : l0_2.length ≤ c0_2) (hr1_0 : Kd.C (Kd.int .i64) w A1_0 l1_0.length l1_0) (hc1_0 : l1_0.length ≤ c1_0) (hr1_1 : Kd.C (Kd.int .i64) w A1_1 l1_1.length l1_1) (hc1_1 : l1_1.length ≤ c1_1) (h : impl_NetNew.f k a0_0 a0_1 l0_2 l1_0 l1_1 = some (r1, r2, r3, r4, r5, r6, r7, r8, r9, r10, r11, r12)) :
  Calls Try.prog 9 #[.agg #[.int .i64 a0_0, .int .i64 a0_1, .slice A0_2 l0_2.length c0_2], .agg #[.slice A1_0 l1_0.length c1_0, .slice A1_1 l1_1.length c1_1]] w fun e w' => ∃ (T_ : Nat → Nat) (v2_ v3_ v4_ v5_ v6_ v7_ v8_ v9_ : Value), e = .returned (.tuple #[.agg #[.int .i64 r1, .int .i64 r2, v2_, v3_, v4_, v5_, v6_, v7_, v8_, v9_, .int .i64 r11], .bool r12]) ∧ Marks T_ w.heap.size w' v2_ v3_ v4_ v5_ v6_ v7_ v8_ v9_ r3 r4 r5 r6 r7 r8 r9 r10 ∧ Below w.heap.size w w' := by
 have HR0_2 := Aside0.mk hr0_2
 have HC0_2 := Aside0.mk hc0_2
 have HR1_0 := Aside0.mk hr1_0
 have HC1_0 := Aside0.mk hc1_0
 have HR1_1 := Aside0.mk hr1_1
 have HC1_1 := Aside0.mk hc1_1
 have HB := Aside0.mk (Below.refl w.heap.size w)
 unfold impl_NetNew.f at h
 obtain ⟨b, e1, h1⟩ := Option.bind_eq_some_iff.1 h
 have E1 := Aside0.mk e1
 have H' := Aside0.mk h1
 clear h h1 e1 hr0_2 hc0_2 hr1_0 hc1_0 hr1_1 hc1_1
 have hu41 := Try.underlying41
 have hu35 := Try.underlying35
 have hu38 := Try.underlying38
 have hug := Try.underlying33
 go_enter Try.func9, Try.ntmps9
 go_upto_region 1 with (first | ((with_reducible refine gate_dst (N := 2) rfl ?_); refine box_event ?hg (N := 2) ?hd (cs := #[.int .i64 a0_0, .int .i64 a0_1, .slice A0_2 l0_2.length c0_2]) (t := 35) ?hr ?_; (case hd => rfl); (case hg => rfl); (case hr => first | (go_simp; done) | (go_simp; rfl)); intro gm hg w1 hbox hb; have BM := Aside0.mk hbox; have GM := Aside0.mk (show w.heap.size ≤ gm by rw [hg]; exact (bz_ HB.out)); replace HB := Aside0.mk (bs_ HB.out hb); clear hb hbox hg) | ((with_reducible refine gate_dst (N := 3) rfl ?_); refine box_event ?hg (N := 3) ?hd (cs := #[.slice A1_0 l1_0.length c1_0, .slice A1_1 l1_1.length c1_1]) (t := 38) ?hr ?_; (case hd => rfl); (case hg => rfl); (case hr => first | (go_simp; done) | (go_simp; rfl)); intro gt hg w1 hbox hb; have BT := Aside0.mk hbox; have NMT := Aside0.mk (show gm ≠ gt by have h_ := blk_lt BM.out; omega); replace BM := Aside0.mk (bk_ BM.out hb); replace HB := Aside0.mk (bs_ HB.out hb); clear hb hbox hg) | ((with_reducible refine gate_dst (N := 4) rfl ?_); refine box_event ?hg (N := 4) ?hd (cs := #[.int .i64 0, .int .i64 0, .slice none 0 0, .slice none 0 0, .slice none 0 0, .slice none 0 0, .slice none 0 0, .slice none 0 0, .slice none 0 0, .slice none 0 0, .int .i64 0]) (t := 41) ?hr ?_; (case hd => rfl); (case hg => rfl); (case hr => first | (go_simp; done) | (go_simp; rfl)); intro g4 hg w1 hbox hb; have B4 := Aside0.mk hbox; have G4 := Aside0.mk (show w.heap.size ≤ g4 by rw [hg]; exact (bz_ HB.out)); have NM4 := Aside0.mk (show gm ≠ g4 by have h_ := blk_lt BM.out; omega); have NT4 := Aside0.mk (show gt ≠ g4 by have h_ := blk_lt BT.out; omega); replace BM := Aside0.mk (bk_ BM.out hb); replace BT := Aside0.mk (bk_ BT.out hb); replace HB := Aside0.mk (bs_ HB.out hb); clear hb hbox hg))
 have y0 : w1.cell? ⟨gm, 0, none⟩ = some (.int .i64 a0_0) := (blk_cell BM.out 0).trans rfl
 have y1 : w1.cell? ⟨gm, 1, none⟩ = some (.int .i64 a0_1) := (blk_cell BM.out 1).trans rfl
 have y2 : w1.cell? ⟨gm, 2, none⟩ = some (.slice A0_2 l0_2.length c0_2) := (blk_cell BM.out 2).trans rfl
 have y3 : w1.cell? ⟨gt, 0, none⟩ = some (.slice A1_0 l1_0.length c1_0) := (blk_cell BT.out 0).trans rfl
 have y4 : w1.cell? ⟨gt, 1, none⟩ = some (.slice A1_1 l1_1.length c1_1) := (blk_cell BT.out 1).trans rfl
 go_upto_if 11 with (first | (go_at_call 26; (with_reducible refine (impl_ClassesOk.calls k a0_0 a0_1 _ _ l0_2 _ _ l1_0 _ _ l1_1 b _ ?s0 HC0_2.out ?s1 HC1_0.out ?s2 HC1_1.out E1.out).mono ?_); (case s0 => exact cb_ HR0_2.out HB.out); (case s1 => exact cb_ HR1_0.out HB.out); (case s2 => exact cb_ HR1_1.out HB.out); rintro e w2 ⟨rfl, hb⟩; replace BM := Aside0.mk (bk_ BM.out hb); replace BT := Aside0.mk (bk_ BT.out hb); replace B4 := Aside0.mk (bk_ B4.out hb); replace HB := Aside0.mk (bs_ HB.out hb); clear hb y0 y1 y2 y3 y4))
 cases b
 ·have H := H'.out
  rw [if_neg (by decide)] at H
  simp only [Option.some.injEq, Prod.mk.injEq] at H
  obtain ⟨rfl, rfl, rfl, rfl, rfl, rfl, rfl, rfl, rfl, rfl, rfl, rfl⟩ := H
  obtain ⟨z0, z1, z2, z3, z4, z5, z6, z7, z8, z9, z10, f0, f1, f2, f3, f4, f5, f6, f7, f8, f9, f10⟩ := cz11_ B4.out
  go_wp2
  clear z0 z1 z2 z3 z4 z5 z6 z7 z8 z9 z10 f0 f1 f2 f3 f4 f5 f6 f7 f8 f9 f10
  change bodyPost _ _ _ _ _ (st11_ _ g4 (.int .i64 0) (.int .i64 0) (.slice none 0 0) (.slice none 0 0) (.slice none 0 0) (.slice none 0 0) (.slice none 0 0) (.slice none 0 0) (.slice none 0 0) (.slice none 0 0) (.int .i64 0))
  replace HB := Aside0.mk (st11_below HB.out G4.out : Below w.heap.size w (st11_ _ g4 (.int .i64 0) (.int .i64 0) (.slice none 0 0) (.slice none 0 0) (.slice none 0 0) (.slice none 0 0) (.slice none 0 0) (.slice none 0 0) (.slice none 0 0) (.slice none 0 0) (.int .i64 0)))
  replace B4 := Aside0.mk (st11_blk B4.out : (st11_ _ g4 (.int .i64 0) (.int .i64 0) (.slice none 0 0) (.slice none 0 0) (.slice none 0 0) (.slice none 0 0) (.slice none 0 0) (.slice none 0 0) (.slice none 0 0) (.slice none 0 0) (.int .i64 0)).heap[g4]? = _)
  generalize st11_ _ g4 (.int .i64 0) (.int .i64 0) (.slice none 0 0) (.slice none 0 0) (.slice none 0 0) (.slice none 0 0) (.slice none 0 0) (.slice none 0 0) (.slice none 0 0) (.slice none 0 0) (.int .i64 0) = w9 at *
  refine bodyPost_ret (results_ct rfl _ _ g4 41 _ (0, 0) _ rfl (bq_ B4.out) Try.underlying41 rfl (by kernel_rfl)) rfl ?_
  exact ⟨fun _ => 0, _, _, _, _, _, _, _, _, rfl, ⟨fun k h_ => absurd rfl h_, fun k h_ => absurd rfl h_, Kd.R_nil _ _ _ _ _, Kd.R_nil _ _ _ _ _, Kd.R_nil _ _ _ _ _, Kd.S_nil _ _ _ _ _, Kd.R_nil _ _ _ _ _, Kd.R_nil _ _ _ _ _, Kd.S_nil _ _ _ _ _, Kd.S_nil _ _ _ _ _⟩, bb_ HB.out⟩
 ·have H := H'.out
  rw [if_pos rfl] at H
  obtain ⟨n, e2, h2⟩ := Option.bind_eq_some_iff.1 H
  obtain ⟨⟨m1, m2, m3⟩, e3, h3⟩ := Option.bind_eq_some_iff.1 h2
  obtain ⟨⟨n1, n2⟩, e4, h4⟩ := Option.bind_eq_some_iff.1 h3
  dsimp only at h4
  by_cases cb : 0 ≤ wrap64 (10 * n) ∧ (wrap64 (10 * n)).toNat ≤ 11728124029610 ∧ 0 ≤ wrap64 (5 * n) ∧ (wrap64 (5 * n)).toNat ≤ 35184372088832 ∧ 0 ≤ n ∧ n.toNat ≤ 11728124029610
  rotate_left
  ·rw [if_neg cb] at h4; cases h4
  rw [if_pos cb] at h4
  obtain ⟨qo, e5, h5⟩ := Option.bind_eq_some_iff.1 h4
  obtain ⟨L10, p10⟩ : ∃ y_, y_ = List.replicate (wrap64 (10 * n)).toNat ([] : List S81) := ⟨_, rfl⟩
  obtain ⟨L5, p5⟩ : ∃ y_, y_ = List.replicate (wrap64 (5 * n)).toNat (0 : Int) := ⟨_, rfl⟩
  obtain ⟨Ln, pn⟩ : ∃ y_, y_ = List.replicate n.toNat ([] : List S81) := ⟨_, rfl⟩
  rw [← p10, ← p5, ← pn] at h5
  simp only [Option.some.injEq, Prod.mk.injEq] at h5
  obtain ⟨rfl, rfl, rfl, rfl, rfl, rfl, rfl, rfl, rfl, rfl, rfl, rfl⟩ := h5
  have E2 := Aside0.mk e2
  have E3 := Aside0.mk e3
  have E4 := Aside0.mk e4
  have E5 := Aside0.mk e5
  have CB := Aside0.mk cb
  have P10 := Aside0.mk p10
  have P5 := Aside0.mk p5
  have Pn := Aside0.mk pn
  clear H H' h2 h3 h4 e2 e3 e4 e5 cb p10 p5 pn
  have y0 : w2.cell? ⟨gm, 0, none⟩ = some (.int .i64 a0_0) := (blk_cell BM.out 0).trans rfl
  have y1 : w2.cell? ⟨gm, 1, none⟩ = some (.int .i64 a0_1) := (blk_cell BM.out 1).trans rfl
  have y2 : w2.cell? ⟨gm, 2, none⟩ = some (.slice A0_2 l0_2.length c0_2) := (blk_cell BM.out 2).trans rfl
  have y3 : w2.cell? ⟨gt, 0, none⟩ = some (.slice A1_0 l1_0.length c1_0) := (blk_cell BT.out 0).trans rfl
  have y4 : w2.cell? ⟨gt, 1, none⟩ = some (.slice A1_1 l1_1.length c1_1) := (blk_cell BT.out 1).trans rfl
  go_upto_region 4 with (first | (go_at_call 27; (with_reducible refine (impl_NodeCount.calls a0_0 a0_1 n _ E2.out).mono ?_); rintro e w3 ⟨rfl, hb⟩; replace BM := Aside0.mk (bk_ BM.out hb); replace BT := Aside0.mk (bk_ BT.out hb); replace B4 := Aside0.mk (bk_ B4.out hb); replace HB := Aside0.mk (bs_ HB.out hb); clear hb y0 y1 y2 y3 y4))
  have y0 : w3.cell? ⟨gm, 0, none⟩ = some (.int .i64 a0_0) := (blk_cell BM.out 0).trans rfl
  have y1 : w3.cell? ⟨gm, 1, none⟩ = some (.int .i64 a0_1) := (blk_cell BM.out 1).trans rfl
  have y2 : w3.cell? ⟨gm, 2, none⟩ = some (.slice A0_2 l0_2.length c0_2) := (blk_cell BM.out 2).trans rfl
  have y3 : w3.cell? ⟨gt, 0, none⟩ = some (.slice A1_0 l1_0.length c1_0) := (blk_cell BT.out 0).trans rfl
  have y4 : w3.cell? ⟨gt, 1, none⟩ = some (.slice A1_1 l1_1.length c1_1) := (blk_cell BT.out 1).trans rfl
  refine start_ (n := 10) (S := fun w' => w'.cell? ⟨gm, 0, none⟩ = some (.int .i64 a0_0) ∧ w'.cell? ⟨gm, 1, none⟩ = some (.int .i64 a0_1) ∧ w'.cell? ⟨gm, 2, none⟩ = some (.slice A0_2 l0_2.length c0_2) ∧ w'.cell? ⟨gt, 0, none⟩ = some (.slice A1_0 l1_0.length c1_0) ∧ w'.cell? ⟨gt, 1, none⟩ = some (.slice A1_1 l1_1.length c1_1)) (ds := []) #[false, false, false, false, false, false, false, false, false, false] (by kernel_rfl) rfl rfl ⟨y0, y1, y2, y3, y4⟩ (fun hHeld => ?_)
  clear y0 y1 y2 y3 y4
  replace BM := Aside0.mk (bq_ BM.out : w3.drew.heap[gm]? = some _)
  replace BT := Aside0.mk (bq_ BT.out : w3.drew.heap[gt]? = some _)
  replace B4 := Aside0.mk (bq_ B4.out : w3.drew.heap[g4]? = some _)
  replace HB := Aside0.mk (bb_ HB.out : Below w.heap.size w w3.drew)
  generalize w3.drew = w4 at *
  refine impl_NetNew.tk_ (v := .agg #[.int .i64 a0_0, .int .i64 a0_1, .slice A0_2 l0_2.length c0_2]) 0 16 (bt_ 10 1) hHeld ?_ (hy := by rintro w' ⟨s0, s1, s2, s3, s4⟩; go_simp)
  refine impl_NetNew.tk_ (v := .agg #[.slice A1_0 l1_0.length c1_0, .slice A1_1 l1_1.length c1_1]) 2 18 (bt_ 10 5) hHeld ?_ (hy := by rintro w' ⟨s0, s1, s2, s3, s4⟩; go_simp)
  refine impl_NetNew.pk_ 4 20 (bt_ 10 21) ?_
  refine impl_NetNew.pk_ 5 21 (bt_ 10 53) ?_
  have hSS : ∀ w1, Below w4.heap.size w4 w1 → (w1.cell? ⟨gm, 0, none⟩ = some (.int .i64 a0_0) ∧ w1.cell? ⟨gm, 1, none⟩ = some (.int .i64 a0_1) ∧ w1.cell? ⟨gm, 2, none⟩ = some (.slice A0_2 l0_2.length c0_2) ∧ w1.cell? ⟨gt, 0, none⟩ = some (.slice A1_0 l1_0.length c1_0) ∧ w1.cell? ⟨gt, 1, none⟩ = some (.slice A1_1 l1_1.length c1_1)) := fun w1 hb => ⟨(blk_cell (bk_ BM.out hb) 0).trans rfl, (blk_cell (bk_ BM.out hb) 1).trans rfl, (blk_cell (bk_ BM.out hb) 2).trans rfl, (blk_cell (bk_ BT.out hb) 0).trans rfl, (blk_cell (bk_ BT.out hb) 1).trans rfl⟩
  have hTE : True := trivial
  refine evsJA_ [1, 3, 6, 7, 8] (fun i => match i with | 1 => 2 | 3 => 3 | 6 => 7 | 7 => 10 | 8 => 11 | _ => 12) (fun _ => 100) (fun v => [(17, v 1), (19, v 3), (22, v 6), (23, v 7), (7, v 8)]) (fun i => match i with | 1 => Ev.A1 3 w4.heap.size (.int .i64 m1) (.int .i64 m2) m3 | 3 => Ev.A2 3 w4.heap.size n1 n2 | 6 => Ev.R (Kd.int .i64) 3 w4.heap.size L5 | 7 => Ev.any | 8 => Ev.B 41 #[.int .i64 0, .int .i64 0, .slice none 0 0, .slice none 0 0, .slice none 0 0, .slice none 0 0, .slice none 0 0, .slice none 0 0, .slice none 0 0, .slice none 0 0, .int .i64 0] | _ => Ev.no) (fun l v W => (W.cell? ⟨gm, 0, none⟩ = some (.int .i64 a0_0) ∧ W.cell? ⟨gm, 1, none⟩ = some (.int .i64 a0_1) ∧ W.cell? ⟨gm, 2, none⟩ = some (.slice A0_2 l0_2.length c0_2) ∧ W.cell? ⟨gt, 0, none⟩ = some (.slice A1_0 l1_0.length c1_0) ∧ W.cell? ⟨gt, 1, none⟩ = some (.slice A1_1 l1_1.length c1_1)) ∧ (l.getD 7 true = true → ∀ u1 u3 u4 : Value, v 1 = .agg #[.int .i64 m1, .int .i64 m2, u1] → v 3 = .agg #[u3, u4] → v 7 = .agg #[.int .i64 m1, .int .i64 m2, u1, u3, u4, .slice none 0 0, .slice none 0 0, v 6, .slice none 0 0, .slice none 0 0, .int .i64 0])) w4 w4.heap.size (bt_ 10 511) 1 rfl (by kernel_rfl) (by simp only [putAll, Act.put, List.setIfInBounds_toArray, List.set_cons_zero, List.set_cons_succ]; first | done | rfl) ?hpos (fun _ _ _ h_ => h_.1) ⟨hSS _ (Below.refl _ _), fun h_ => absurd h_ (by decide)⟩ (Below.refl _ _) (Nat.le_refl _) ?hev ?hcont
  case hpos => decide
  case hev =>
   intro i hi
   simp only [List.mem_cons, List.not_mem_nil, or_false] at hi
   rcases hi with rfl | rfl | rfl | rfl | rfl
   ·refine ⟨_, rfl, fun v x => (by simp only [putAll, Act.put, List.setIfInBounds_toArray, List.set_cons_zero, List.set_cons_succ, Nat.reduceEqDiff, ↓reduceIte]; first | done | rfl), fun T v W l hJ hs hl hpre hpost hW hBW hT hF K a1 ha hK => ?_⟩
    simp only [putAll, Act.put, List.setIfInBounds_toArray, List.set_cons_zero, List.set_cons_succ] at ha
    subst ha
    have HBW := Aside0.mk (bs_ HB.out hW)
    have h14 : l.getD 7 true = false := hpost 7 (by decide) (by kernel_rfl)
    refine goes_ Try.func28 (by kernel_rfl) rfl #[.agg #[.int .i64 a0_0, .int .i64 a0_1, .slice A0_2 l0_2.length c0_2]] (by rfl) rfl rfl (by (try simp only [List.map_toArray, List.map_cons, List.map_nil]); first | done | rfl) ?_
    with_reducible refine (impl_copyMesh.calls a0_0 a0_1 _ _ l0_2 m1 m2 m3 _ ?s0 HC0_2.out E3.out).mono ?_
    (case s0 => exact cb_ HR0_2.out HBW.out)
    rintro e w1 ⟨u_, rfl, h_, hb⟩
    exact ⟨_, rfl, hK _ w1 ⟨hSS _ (bs_ hW hb), fun h_ => by rw [getD_set_ne _ (by decide), h14] at h_; cases h_⟩ (bs_ hW hb) hb.size (fun k_ hl_ _ _ => hb.block k_ hl_) ⟨u_, rfl, rq_ h_ hBW (fun k_ h1_ h_ => Or.inr h_)⟩⟩
   ·refine ⟨_, rfl, fun v x => (by simp only [putAll, Act.put, List.setIfInBounds_toArray, List.set_cons_zero, List.set_cons_succ, Nat.reduceEqDiff, ↓reduceIte]; first | done | rfl), fun T v W l hJ hs hl hpre hpost hW hBW hT hF K a1 ha hK => ?_⟩
    simp only [putAll, Act.put, List.setIfInBounds_toArray, List.set_cons_zero, List.set_cons_succ] at ha
    subst ha
    have HBW := Aside0.mk (bs_ HB.out hW)
    have h14 : l.getD 7 true = false := hpost 7 (by decide) (by kernel_rfl)
    refine goes_ Try.func29 (by kernel_rfl) rfl #[.agg #[.slice A1_0 l1_0.length c1_0, .slice A1_1 l1_1.length c1_1]] (by rfl) rfl rfl (by (try simp only [List.map_toArray, List.map_cons, List.map_nil]); first | done | rfl) ?_
    with_reducible refine (impl_copyClasses.calls _ _ l1_0 _ _ l1_1 n1 n2 _ ?s0 HC1_0.out ?s1 HC1_1.out E4.out).mono ?_
    (case s0 => exact cb_ HR1_0.out HBW.out)
    (case s1 => exact cb_ HR1_1.out HBW.out)
    rintro e w1 ⟨u_, u1_, rfl, h_, h1_, hb⟩
    exact ⟨_, rfl, hK _ w1 ⟨hSS _ (bs_ hW hb), fun h_ => by rw [getD_set_ne _ (by decide), h14] at h_; cases h_⟩ (bs_ hW hb) hb.size (fun k_ hl_ _ _ => hb.block k_ hl_) ⟨u_, u1_, rfl, rq_ h_ hBW (fun k_ g_ q_ => ⟨Or.inr q_, g_⟩), rq_ h1_ hBW (fun k_ g_ q_ => ⟨Or.inr q_, g_⟩)⟩⟩
   ·refine ⟨_, rfl, fun v x => (by simp only [putAll, Act.put, List.setIfInBounds_toArray, List.set_cons_zero, List.set_cons_succ, Nat.reduceEqDiff, ↓reduceIte]; first | done | rfl), fun T v W l hJ hs hl hpre hpost hW hBW hT hF K a1 ha hK => ?_⟩
    simp only [putAll, Act.put, List.setIfInBounds_toArray, List.set_cons_zero, List.set_cons_succ] at ha
    subst ha
    have HBW := Aside0.mk (bs_ HB.out hW)
    have h14 : l.getD 7 true = false := hpost 7 (by decide) (by kernel_rfl)
    refine Kd.R_make_step (Kd.int .i64) _ 3 (by rfl) (N := 22) rfl 24 _ _ rfl (wrap64 (5 * n)) rfl rfl Try.underlying24 (.int .i64 0) 8 nnInfoI_ rfl (by decide) (by omega) 0 (ok := fun _ => True) (okp := fun _ => True) rfl (fun _ hk => hk) trivial CB.out.2.2.1 (Nat.le_trans (Nat.mul_le_mul_right _ CB.out.2.2.2.1) (by omega)) (Below.refl _ _) (Nat.le_refl _) ?_
    intro x_ w1 h_ hb _ _
    rw [← P5.out] at h_
    exact hK _ w1 ⟨hSS _ (bs_ hW hb), fun h_ => by rw [getD_set_ne _ (by decide), h14] at h_; cases h_⟩ (bs_ hW hb) hb.size (fun k_ hl_ _ _ => hb.block k_ hl_) (rq_ h_ hBW (fun k_ g_ q_ => Or.inr q_))
   ·refine ⟨_, rfl, fun v x => (by simp only [putAll, Act.put, List.setIfInBounds_toArray, List.set_cons_zero, List.set_cons_succ, Nat.reduceEqDiff, ↓reduceIte]; first | done | rfl), fun T v W l hJ hs hl hpre hpost hW hBW hT hF K a1 ha hK => ?_⟩
    simp only [putAll, Act.put, List.setIfInBounds_toArray, List.set_cons_zero, List.set_cons_succ] at ha
    subst ha
    have HBW := Aside0.mk (bs_ HB.out hW)
    obtain ⟨u1, e1, _⟩ := hF 1 (by decide) (hpre 1 (by kernel_rfl)) (fun h_ => absurd h_ (by decide))
    obtain ⟨u3, u4, e3, _, _⟩ := hF 3 (by decide) (hpre 3 (by kernel_rfl)) (fun h_ => absurd h_ (by decide))
    obtain ⟨X6, d6, e6⟩ := Kd.R_slice (hF 6 (by decide) (hpre 6 (by kernel_rfl)) (fun h_ => absurd h_ (by decide)))
    rw [e1, e3, e6] at hK ⊢
    refine value_ (w1 := W) (v := .agg #[.int .i64 m1, .int .i64 m2, u1, u3, u4, .slice none 0 0, .slice none 0 0, .slice X6 L5.length d6, .slice none 0 0, .slice none 0 0, .int .i64 0]) (by rfl) rfl (by go_simp) ?_
    refine hK _ W ⟨hSS _ hW, fun _ u1' u3' u4' h1 h3 => ?_⟩ hW (Nat.le_refl _) (fun _ _ _ _ => rfl) trivial
    simp only [Nat.reduceEqDiff, ↓reduceIte] at h1 h3 ⊢
    rw [e1] at h1
    rw [e3] at h3
    obtain rfl : u1 = u1' := by simpa using h1
    obtain ⟨rfl, rfl⟩ : u3 = u3' ∧ u4 = u4' := by simpa using h3
    rw [e6]
   ·refine ⟨_, rfl, fun v x => (by simp only [putAll, Act.put, List.setIfInBounds_toArray, List.set_cons_zero, List.set_cons_succ, Nat.reduceEqDiff, ↓reduceIte]; first | done | rfl), fun T v W l hJ hs hl hpre hpost hW hBW hT hF K a1 ha hK => ?_⟩
    simp only [putAll, Act.put, List.setIfInBounds_toArray, List.set_cons_zero, List.set_cons_succ] at ha
    subst ha
    have HBW := Aside0.mk (bs_ HB.out hW)
    refine value_ (w1 := W.alloc (.cells #[.int .i64 0, .int .i64 0, .slice none 0 0, .slice none 0 0, .slice none 0 0, .slice none 0 0, .slice none 0 0, .slice none 0 0, .slice none 0 0, .slice none 0 0, .int .i64 0] 41 (0, 0))) (v := .pointer (some ⟨W.heap.size, 0, none⟩)) (by rfl) rfl (by go_simp; first | done | rfl) ?_
    have hb := below_alloc (Below.refl W.heap.size W) (.cells #[.int .i64 0, .int .i64 0, .slice none 0 0, .slice none 0 0, .slice none 0 0, .slice none 0 0, .slice none 0 0, .slice none 0 0, .slice none 0 0, .slice none 0 0, .int .i64 0] 41 (0, 0))
    refine hK _ _ ⟨hSS _ (bs_ hW hb), fun h_ => ?_⟩ (bs_ hW hb) hb.size (fun k_ hl_ _ _ => hb.block k_ hl_) ⟨_, rfl, Or.inr ⟨Nat.le_refl _, blk_lt (blk_new W _)⟩, blk_new W _⟩
    rw [getD_set_ne _ (by decide)] at h_
    simpa only [Nat.reduceEqDiff, ↓reduceIte] using hJ.2 h_
  case hcont =>
   intro T v W hJ hW hT hF
   obtain ⟨u2, e1, F2⟩ := hF 1 (by decide) (by decide)
   obtain ⟨u3, u4, e3, F3, F4⟩ := hF 3 (by decide) (by decide)
   obtain ⟨g, e15, tg, hg⟩ := hF 8 (by decide) (by decide)
   have e14 := hJ.2 (by kernel_rfl) u2 u3 u4 e1 e3
   have F7 := hF 6 (by decide) (by decide)
   obtain ⟨u7, e6⟩ : ∃ u_, v 6 = u_ := ⟨_, rfl⟩
   replace F7 : (Ev.R (Kd.int .i64) 3 w4.heap.size L5).F (fun k => T k = 7) u7 W := by have := F7; rw [e6] at this; exact this
   rw [e6] at e14
   have hT2 : ∀ n_, n_ ≠ 0 → n_ ≠ 11 → ∀ k_, T k_ = n_ → (if T k_ = 11 then 0 else T k_) = n_ := fun n_ h0 h1 k_ e_ => by rw [if_neg (by omega)]; exact e_
   obtain ⟨TT, hT0, hM⟩ := marks_tag0 (T := fun k_ => if T k_ = 11 then 0 else T k_) (fun k_ h_ => hT k_ (fun e_ => h_ (by show (if T k_ = 11 then 0 else T k_) = 0; split <;> omega))) (Kd.R_mono F2 (hT2 2 (by decide) (by decide))) (Kd.R_mono F3 (fun k_ h_ => ⟨hT2 3 (by decide) (by decide) k_ h_.1, h_.2⟩)) (Kd.R_mono F4 (fun k_ h_ => ⟨hT2 3 (by decide) (by decide) k_ h_.1, h_.2⟩)) (Kd.S_nil _ _ _ _ _ : Kd.S (Kd.slice 81 k81) 72 W w4.heap.size (fun k_ => (if T k_ = 11 then 0 else T k_) = 5) (.slice none 0 0) []) (Kd.R_nil _ _ _ _ _ : Kd.R (Kd.int .i64) 3 W w4.heap.size (fun k_ => (if T k_ = 11 then 0 else T k_) = 6) (.slice none 0 0) []) (Kd.R_mono F7 (hT2 7 (by decide) (by decide))) (Kd.S_nil _ _ _ _ _ : Kd.S (Kd.slice 81 k81) 72 W w4.heap.size (fun k_ => (if T k_ = 11 then 0 else T k_) = 8) (.slice none 0 0) []) (Kd.S_nil _ _ _ _ _ : Kd.S (Kd.slice 81 k81) 72 W w4.heap.size (fun k_ => (if T k_ = 11 then 0 else T k_) = 9) (.slice none 0 0) [])
   obtain ⟨X2, d2, e_⟩ := Kd.R_slice hM.h2
   subst e_
   obtain ⟨X3, d3, e_⟩ := Kd.R_slice hM.h3
   subst e_
   obtain ⟨X4, d4, e_⟩ := Kd.R_slice hM.h4
   subst e_
   obtain ⟨X7, d7, e_⟩ := Kd.R_slice hM.h7
   subst e_
   have TG := Aside0.mk (hT0 g (if_pos tg))
   have hgl : w4.heap.size ≤ g := (hT g (by rw [show T g = 11 from tg]; decide)).1
   have T4 := Aside0.mk (hM.zlo (blk_lt B4.out))
   have NMG := Aside0.mk (show gm ≠ g by have h_ := blk_lt BM.out; omega)
   have NTG := Aside0.mk (show gt ≠ g by have h_ := blk_lt BT.out; omega)
   have N4G := Aside0.mk (show g4 ≠ g by have h_ := blk_lt B4.out; omega)
   have GG := Aside0.mk (show w.heap.size ≤ g from Nat.le_trans (bz_ HB.out) hgl)
   have M := Aside0.mk (hM.lower (bz_ HB.out))
   have BG := Aside0.mk hg
   replace BM := Aside0.mk (bk_ BM.out hW)
   replace BT := Aside0.mk (bk_ BT.out hW)
   replace B4 := Aside0.mk (bk_ B4.out hW)
   replace HB := Aside0.mk (bs_ HB.out hW)
   refine norm_ (a' := ?_) ?_ ?_
   rotate_left
   ·simp only [putAll, Act.put, List.setIfInBounds_toArray, List.set_cons_zero, List.set_cons_succ, e1, e3, e6, e14, e15]
    rfl
   clear e1 e3 e6 e14 e15 F2 F3 F4 F7 hF hM hT0 hT2 hg tg hJ hgl hSS
   refine one_ (i := 9) (N := none) (bt_ 10 1023) rfl rfl (by kernel_rfl) (by decide) (fun K hK => ?_)
   obtain ⟨z0, z1, z2, z3, z4, z5, z6, z7, z8, z9, z10, f0, f1, f2, f3, f4, f5, f6, f7, f8, f9, f10⟩ := cz11_ BG.out
   refine skip_ (w1 := ?_) (by rfl) rfl ?_ ?_
   rotate_left
   ·go_simp
    rfl
   clear z0 z1 z2 z3 z4 z5 z6 z7 z8 z9 z10 f0 f1 f2 f3 f4 f5 f6 f7 f8 f9 f10
   have BM9 : (st11_ W g (.int .i64 m1) (.int .i64 m2) (.slice X2 m3.length d2) (.slice X3 n1.length d3) (.slice X4 n2.length d4) (.slice none 0 0) (.slice none 0 0) (.slice X7 L5.length d7) (.slice none 0 0) (.slice none 0 0) (.int .i64 0)).heap[gm]? = some (.cells #[.int .i64 a0_0, .int .i64 a0_1, .slice A0_2 l0_2.length c0_2] 35 (0, 0)) := (st11_far NMG.out).trans BM.out
   have BT9 : (st11_ W g (.int .i64 m1) (.int .i64 m2) (.slice X2 m3.length d2) (.slice X3 n1.length d3) (.slice X4 n2.length d4) (.slice none 0 0) (.slice none 0 0) (.slice X7 L5.length d7) (.slice none 0 0) (.slice none 0 0) (.int .i64 0)).heap[gt]? = some (.cells #[.slice A1_0 l1_0.length c1_0, .slice A1_1 l1_1.length c1_1] 38 (0, 0)) := (st11_far NTG.out).trans BT.out
   have hS9 : (st11_ W g (.int .i64 m1) (.int .i64 m2) (.slice X2 m3.length d2) (.slice X3 n1.length d3) (.slice X4 n2.length d4) (.slice none 0 0) (.slice none 0 0) (.slice X7 L5.length d7) (.slice none 0 0) (.slice none 0 0) (.int .i64 0)).cell? ⟨gm, 0, none⟩ = some (.int .i64 a0_0) ∧ (st11_ W g (.int .i64 m1) (.int .i64 m2) (.slice X2 m3.length d2) (.slice X3 n1.length d3) (.slice X4 n2.length d4) (.slice none 0 0) (.slice none 0 0) (.slice X7 L5.length d7) (.slice none 0 0) (.slice none 0 0) (.int .i64 0)).cell? ⟨gm, 1, none⟩ = some (.int .i64 a0_1) ∧ (st11_ W g (.int .i64 m1) (.int .i64 m2) (.slice X2 m3.length d2) (.slice X3 n1.length d3) (.slice X4 n2.length d4) (.slice none 0 0) (.slice none 0 0) (.slice X7 L5.length d7) (.slice none 0 0) (.slice none 0 0) (.int .i64 0)).cell? ⟨gm, 2, none⟩ = some (.slice A0_2 l0_2.length c0_2) ∧ (st11_ W g (.int .i64 m1) (.int .i64 m2) (.slice X2 m3.length d2) (.slice X3 n1.length d3) (.slice X4 n2.length d4) (.slice none 0 0) (.slice none 0 0) (.slice X7 L5.length d7) (.slice none 0 0) (.slice none 0 0) (.int .i64 0)).cell? ⟨gt, 0, none⟩ = some (.slice A1_0 l1_0.length c1_0) ∧ (st11_ W g (.int .i64 m1) (.int .i64 m2) (.slice X2 m3.length d2) (.slice X3 n1.length d3) (.slice X4 n2.length d4) (.slice none 0 0) (.slice none 0 0) (.slice X7 L5.length d7) (.slice none 0 0) (.slice none 0 0) (.int .i64 0)).cell? ⟨gt, 1, none⟩ = some (.slice A1_1 l1_1.length c1_1) := ⟨(blk_cell BM9 0).trans rfl, (blk_cell BM9 1).trans rfl, (blk_cell BM9 2).trans rfl, (blk_cell BT9 0).trans rfl, (blk_cell BT9 1).trans rfl⟩
   change K _ (st11_ W g (.int .i64 m1) (.int .i64 m2) (.slice X2 m3.length d2) (.slice X3 n1.length d3) (.slice X4 n2.length d4) (.slice none 0 0) (.slice none 0 0) (.slice X7 L5.length d7) (.slice none 0 0) (.slice none 0 0) (.int .i64 0))
   refine hK.out _ _ hS9 (fun _ => ?_)
   clear hK K BM9 BT9 BM BT hHeld hS9
   refine done_ (by kernel_rfl) ?_
   replace M := Aside0.mk (M.out.move (w1 := st11_ W g (.int .i64 m1) (.int .i64 m2) (.slice X2 m3.length d2) (.slice X3 n1.length d3) (.slice X4 n2.length d4) (.slice none 0 0) (.slice none 0 0) (.slice X7 L5.length d7) (.slice none 0 0) (.slice none 0 0) (.int .i64 0)) (fun k_ h_ => st11_far (fun e_ => h_ (e_ ▸ TG.out))) (Nat.le_of_eq st11_size.symm))
   replace B4 := Aside0.mk ((st11_far N4G.out : (st11_ W g (.int .i64 m1) (.int .i64 m2) (.slice X2 m3.length d2) (.slice X3 n1.length d3) (.slice X4 n2.length d4) (.slice none 0 0) (.slice none 0 0) (.slice X7 L5.length d7) (.slice none 0 0) (.slice none 0 0) (.int .i64 0)).heap[g4]? = _).trans B4.out)
   replace BG := Aside0.mk (st11_blk BG.out : (st11_ W g (.int .i64 m1) (.int .i64 m2) (.slice X2 m3.length d2) (.slice X3 n1.length d3) (.slice X4 n2.length d4) (.slice none 0 0) (.slice none 0 0) (.slice X7 L5.length d7) (.slice none 0 0) (.slice none 0 0) (.int .i64 0)).heap[g]? = _)
   replace HB := Aside0.mk (st11_below HB.out GG.out : Below w.heap.size w (st11_ W g (.int .i64 m1) (.int .i64 m2) (.slice X2 m3.length d2) (.slice X3 n1.length d3) (.slice X4 n2.length d4) (.slice none 0 0) (.slice none 0 0) (.slice X7 L5.length d7) (.slice none 0 0) (.slice none 0 0) (.int .i64 0)))
   clear hW hT
   generalize st11_ W g (.int .i64 m1) (.int .i64 m2) (.slice X2 m3.length d2) (.slice X3 n1.length d3) (.slice X4 n2.length d4) (.slice none 0 0) (.slice none 0 0) (.slice X7 L5.length d7) (.slice none 0 0) (.slice none 0 0) (.int .i64 0) = w9 at *
   go_wp2_with fail
   refine start_ (n := 13) (S := fun _ => True) (ds := []) #[false, false, false, false, false, false, false, false, false, false, false, false, false] (by kernel_rfl) rfl rfl trivial (fun _ => ?_)
   replace M := Aside0.mk (M.out.move (w1 := w9.drew) (fun _ _ => rfl) (Nat.le_refl _))
   replace B4 := Aside0.mk (bq_ B4.out : w9.drew.heap[g4]? = some _)
   replace BG := Aside0.mk (bq_ BG.out : w9.drew.heap[g]? = some _)
   replace HB := Aside0.mk (bb_ HB.out : Below w.heap.size w w9.drew)
   generalize w9.drew = w5 at *
   refine impl_NetNew.pk_ 0 24 (bt_ 13 1) ?_
   refine impl_NetNew.pk_ 1 25 (bt_ 13 3) ?_
   refine impl_NetNew.pk_ 3 27 (bt_ 13 11) ?_
   refine impl_NetNew.pk_ 5 29 (bt_ 13 43) ?_
   have hfa : ∀ s, s = 7 ∨ s = 8 ∨ s = 9 ∨ s = 10 ∨ s = 11 ∨ s = 12 → (bt_ 13 43).getD s true = false := by (intro s hs; rcases hs with rfl | rfl | rfl | rfl | rfl | rfl <;> rfl)
   have hgl5 := blk_lt BG.out
   refine evsJA_ [2, 7, 8, 4, 9, 10, 6, 11, 12] (fun i => match i with | 2 => 5 | 4 => 8 | 6 => 9 | 7 => 20 | 8 => 21 | 9 => 22 | 10 => 23 | 11 => 24 | 12 => 25 | _ => 26) (fun _ => 100) (fun v => [(26, v 2), (28, v 4), (30, v 6), (31, v 7), (32, v 9), (33, v 11)]) (fun i => match i with | 2 => Ev.S (Kd.slice 81 k81) 72 w5.heap.size L10 | 4 => Ev.S (Kd.slice 81 k81) 72 w5.heap.size Ln | 6 => Ev.S (Kd.slice 81 k81) 72 w5.heap.size Ln | _ => Ev.any) (fun l v W => W.heap[g]? = some (.cells #[.int .i64 m1, .int .i64 m2, .slice X2 m3.length d2, .slice X3 n1.length d3, .slice X4 n2.length d4, (if l.getD 8 true = true then v 2 else .slice none 0 0), .slice none 0 0, .slice X7 L5.length d7, (if l.getD 10 true = true then v 4 else .slice none 0 0), (if l.getD 12 true = true then v 6 else .slice none 0 0), .int .i64 0] 41 (0, 0)) ∧ (l.getD 7 true = true → v 7 = .pointer (some ⟨g, 5, none⟩)) ∧ (l.getD 9 true = true → v 9 = .pointer (some ⟨g, 8, none⟩)) ∧ (l.getD 11 true = true → v 11 = .pointer (some ⟨g, 9, none⟩)) ∧ (∀ k_, k_ < w5.heap.size → k_ ≠ g → W.heap[k_]? = w5.heap[k_]?)) w w5.heap.size (bt_ 13 8191) 0 rfl (by kernel_rfl) (by simp only [putAll, Act.put, List.setIfInBounds_toArray, List.set_cons_zero, List.set_cons_succ]; first | done | rfl) ?hpos5 (fun _ _ _ _ => trivial) ⟨?j0, ?j1, ?j2, ?j3, fun _ _ _ => rfl⟩ HB.out (Nat.le_refl _) ?hev5 ?hcont5
   case hpos5 => decide
   case j0 =>
    rw [hfa 8 (by decide), hfa 10 (by decide), hfa 12 (by decide)]
    exact BG.out
   case j1 => intro h_; rw [hfa 7 (by decide)] at h_; cases h_
   case j2 => intro h_; rw [hfa 9 (by decide)] at h_; cases h_
   case j3 => intro h_; rw [hfa 11 (by decide)] at h_; cases h_
   case hev5 =>
    intro i hi
    simp only [List.mem_cons, List.not_mem_nil, or_false] at hi
    rcases hi with rfl | rfl | rfl | rfl | rfl | rfl | rfl | rfl | rfl
    ·refine ⟨_, rfl, fun v x => (by simp only [putAll, Act.put, List.setIfInBounds_toArray, List.set_cons_zero, List.set_cons_succ, Nat.reduceEqDiff, ↓reduceIte]; first | done | rfl), fun T v W l hJ hs hl hpre hpost hW hBW hT hF K a1 ha hK => ?_⟩
     simp only [putAll, Act.put, List.setIfInBounds_toArray, List.set_cons_zero, List.set_cons_succ] at ha
     subst ha
     obtain ⟨j0, j1, j2, j3, j4⟩ := hJ
     have hs8 : l.getD 8 true = false := hpost 8 (by decide) (by kernel_rfl)
     refine Kd.S_make_step (Kd.slice 81 k81) _ 72 (by rfl) (N := 26) rfl 39 _ _ rfl (wrap64 (10 * n)) rfl rfl Try.underlying39 (.slice none 0 0) 24 nnInfoS_ rfl (by decide) (by omega) [] (ok := fun _ => True) (okp := fun _ => True) ⟨_, rfl, Kd.R_nil _ _ _ _ _⟩ (fun _ hk => hk) trivial CB.out.1 (Nat.le_trans (Nat.mul_le_mul_right _ CB.out.2.1) (by omega)) (Below.refl _ _) (Nat.le_refl _) ?_
     intro x_ w1 h_ hb _ _
     rw [← P10.out] at h_
     refine hK _ w1 ⟨?_, ?_, ?_, ?_, fun k_ h1_ h2_ => (hb.block k_ (Nat.lt_of_lt_of_le h1_ hBW)).trans (j4 k_ h1_ h2_)⟩ (bs_ hW hb) hb.size (fun k_ hl_ _ _ => hb.block k_ hl_) (sqq_ h_ hBW (fun k_ g_ q_ => Or.inr q_))
     ·have h := (hb.block g (blk_lt j0)).trans j0
      simp only [getD_set_ne _ (show (2 : Nat) ≠ 8 by decide), getD_set_ne _ (show (2 : Nat) ≠ 10 by decide), getD_set_ne _ (show (2 : Nat) ≠ 12 by decide), hs8, Nat.reduceEqDiff, ↓reduceIte, Bool.false_eq_true] at h ⊢
      exact h
     ·intro h_; rw [getD_set_ne _ (by decide)] at h_; simpa only [Nat.reduceEqDiff, ↓reduceIte] using j1 h_
     ·intro h_; rw [getD_set_ne _ (by decide)] at h_; simpa only [Nat.reduceEqDiff, ↓reduceIte] using j2 h_
     ·intro h_; rw [getD_set_ne _ (by decide)] at h_; simpa only [Nat.reduceEqDiff, ↓reduceIte] using j3 h_
    ·refine ⟨_, rfl, fun v x => (by simp only [putAll, Act.put, List.setIfInBounds_toArray, List.set_cons_zero, List.set_cons_succ, Nat.reduceEqDiff, ↓reduceIte]; first | done | rfl), fun T v W l hJ hs hl hpre hpost hW hBW hT hF K a1 ha hK => ?_⟩
     simp only [putAll, Act.put, List.setIfInBounds_toArray, List.set_cons_zero, List.set_cons_succ] at ha
     subst ha
     obtain ⟨j0, j1, j2, j3, j4⟩ := hJ
     refine value_ (w1 := W) (v := .pointer (some ⟨g, 5, none⟩)) (by rfl) rfl (by go_simp) ?_
     refine hK _ W ⟨?_, ?_, ?_, ?_, j4⟩ hW (Nat.le_refl _) (fun _ _ _ _ => rfl) trivial
     ·simp only [getD_set_ne _ (show (7 : Nat) ≠ 8 by decide), getD_set_ne _ (show (7 : Nat) ≠ 10 by decide), getD_set_ne _ (show (7 : Nat) ≠ 12 by decide), Nat.reduceEqDiff, ↓reduceIte] at j0 ⊢
      exact j0
     ·intro _; simp only [↓reduceIte]
     ·intro h_; rw [getD_set_ne _ (by decide)] at h_; simpa only [Nat.reduceEqDiff, ↓reduceIte] using j2 h_
     ·intro h_; rw [getD_set_ne _ (by decide)] at h_; simpa only [Nat.reduceEqDiff, ↓reduceIte] using j3 h_
    ·refine ⟨_, rfl, fun v x => (by simp only [putAll, Act.put, List.setIfInBounds_toArray, List.set_cons_zero, List.set_cons_succ, Nat.reduceEqDiff, ↓reduceIte]; first | done | rfl), fun T v W l hJ hs hl hpre hpost hW hBW hT hF K a1 ha hK => ?_⟩
     simp only [putAll, Act.put, List.setIfInBounds_toArray, List.set_cons_zero, List.set_cons_succ] at ha
     subst ha
     obtain ⟨j0, j1, j2, j3, j4⟩ := hJ
     have ea := j1 (hpre 7 (by kernel_rfl))
     obtain ⟨Xs, ds, es⟩ := Kd.S_slice (hF 2 (by decide) (hpre 2 (by kernel_rfl)) (fun h_ => absurd h_ (by decide)))
     have hy : W.cell? ⟨g, 5, none⟩ = some (if l.getD 8 true = true then v 2 else .slice none 0 0) := (blk_cell j0 5).trans rfl
     have hfz := blk_frozen j0 5
     rw [ea, es] at hK ⊢
     refine skip_ (w1 := ?_) (by rfl) rfl ?_ ?_
     rotate_left
     ·go_simp
      rfl
     refine hK undef _ ⟨?_, ?_, ?_, ?_, fun k_ h1_ h2_ => (Below.heap_setCell _ _ _ _ h2_).trans (j4 k_ h1_ h2_)⟩ (below_set hW GG.out) (by simp only [World.setCell, Array.size_modify]; exact Nat.le_refl _) (fun k_ _ h0_ _ => Below.heap_setCell _ _ _ _ (fun e_ => by have h1_ := (hT k_ h0_).1; have h2_ : k_ = g := e_; omega)) trivial
     ·refine blk_put j0 5 _ ?_
      simp only [getD_set_ne _ (show (8 : Nat) ≠ 10 by decide), getD_set_ne _ (show (8 : Nat) ≠ 12 by decide), getDself_, es, Nat.reduceEqDiff, ↓reduceIte]
      rfl
     ·intro h_; rw [getD_set_ne _ (by decide)] at h_; simpa only [Nat.reduceEqDiff, ↓reduceIte] using j1 h_
     ·intro h_; rw [getD_set_ne _ (by decide)] at h_; simpa only [Nat.reduceEqDiff, ↓reduceIte] using j2 h_
     ·intro h_; rw [getD_set_ne _ (by decide)] at h_; simpa only [Nat.reduceEqDiff, ↓reduceIte] using j3 h_
    ·refine ⟨_, rfl, fun v x => (by simp only [putAll, Act.put, List.setIfInBounds_toArray, List.set_cons_zero, List.set_cons_succ, Nat.reduceEqDiff, ↓reduceIte]; first | done | rfl), fun T v W l hJ hs hl hpre hpost hW hBW hT hF K a1 ha hK => ?_⟩
     simp only [putAll, Act.put, List.setIfInBounds_toArray, List.set_cons_zero, List.set_cons_succ] at ha
     subst ha
     obtain ⟨j0, j1, j2, j3, j4⟩ := hJ
     have hs8 : l.getD 10 true = false := hpost 10 (by decide) (by kernel_rfl)
     refine Kd.S_make_step (Kd.slice 81 k81) _ 72 (by rfl) (N := 28) rfl 39 _ _ rfl (n) rfl rfl Try.underlying39 (.slice none 0 0) 24 nnInfoS_ rfl (by decide) (by omega) [] (ok := fun _ => True) (okp := fun _ => True) ⟨_, rfl, Kd.R_nil _ _ _ _ _⟩ (fun _ hk => hk) trivial CB.out.2.2.2.2.1 (Nat.le_trans (Nat.mul_le_mul_right _ CB.out.2.2.2.2.2) (by omega)) (Below.refl _ _) (Nat.le_refl _) ?_
     intro x_ w1 h_ hb _ _
     rw [← Pn.out] at h_
     refine hK _ w1 ⟨?_, ?_, ?_, ?_, fun k_ h1_ h2_ => (hb.block k_ (Nat.lt_of_lt_of_le h1_ hBW)).trans (j4 k_ h1_ h2_)⟩ (bs_ hW hb) hb.size (fun k_ hl_ _ _ => hb.block k_ hl_) (sqq_ h_ hBW (fun k_ g_ q_ => Or.inr q_))
     ·have h := (hb.block g (blk_lt j0)).trans j0
      simp only [getD_set_ne _ (show (4 : Nat) ≠ 8 by decide), getD_set_ne _ (show (4 : Nat) ≠ 10 by decide), getD_set_ne _ (show (4 : Nat) ≠ 12 by decide), hs8, Nat.reduceEqDiff, ↓reduceIte, Bool.false_eq_true] at h ⊢
      exact h
     ·intro h_; rw [getD_set_ne _ (by decide)] at h_; simpa only [Nat.reduceEqDiff, ↓reduceIte] using j1 h_
     ·intro h_; rw [getD_set_ne _ (by decide)] at h_; simpa only [Nat.reduceEqDiff, ↓reduceIte] using j2 h_
     ·intro h_; rw [getD_set_ne _ (by decide)] at h_; simpa only [Nat.reduceEqDiff, ↓reduceIte] using j3 h_
    ·refine ⟨_, rfl, fun v x => (by simp only [putAll, Act.put, List.setIfInBounds_toArray, List.set_cons_zero, List.set_cons_succ, Nat.reduceEqDiff, ↓reduceIte]; first | done | rfl), fun T v W l hJ hs hl hpre hpost hW hBW hT hF K a1 ha hK => ?_⟩
     simp only [putAll, Act.put, List.setIfInBounds_toArray, List.set_cons_zero, List.set_cons_succ] at ha
     subst ha
     obtain ⟨j0, j1, j2, j3, j4⟩ := hJ
     refine value_ (w1 := W) (v := .pointer (some ⟨g, 8, none⟩)) (by rfl) rfl (by go_simp) ?_
     refine hK _ W ⟨?_, ?_, ?_, ?_, j4⟩ hW (Nat.le_refl _) (fun _ _ _ _ => rfl) trivial
     ·simp only [getD_set_ne _ (show (9 : Nat) ≠ 8 by decide), getD_set_ne _ (show (9 : Nat) ≠ 10 by decide), getD_set_ne _ (show (9 : Nat) ≠ 12 by decide), Nat.reduceEqDiff, ↓reduceIte] at j0 ⊢
      exact j0
     ·intro h_; rw [getD_set_ne _ (by decide)] at h_; simpa only [Nat.reduceEqDiff, ↓reduceIte] using j1 h_
     ·intro _; simp only [↓reduceIte]
     ·intro h_; rw [getD_set_ne _ (by decide)] at h_; simpa only [Nat.reduceEqDiff, ↓reduceIte] using j3 h_
    ·refine ⟨_, rfl, fun v x => (by simp only [putAll, Act.put, List.setIfInBounds_toArray, List.set_cons_zero, List.set_cons_succ, Nat.reduceEqDiff, ↓reduceIte]; first | done | rfl), fun T v W l hJ hs hl hpre hpost hW hBW hT hF K a1 ha hK => ?_⟩
     simp only [putAll, Act.put, List.setIfInBounds_toArray, List.set_cons_zero, List.set_cons_succ] at ha
     subst ha
     obtain ⟨j0, j1, j2, j3, j4⟩ := hJ
     have ea := j2 (hpre 9 (by kernel_rfl))
     obtain ⟨Xs, ds, es⟩ := Kd.S_slice (hF 4 (by decide) (hpre 4 (by kernel_rfl)) (fun h_ => absurd h_ (by decide)))
     have hy : W.cell? ⟨g, 8, none⟩ = some (if l.getD 10 true = true then v 4 else .slice none 0 0) := (blk_cell j0 8).trans rfl
     have hfz := blk_frozen j0 8
     rw [ea, es] at hK ⊢
     refine skip_ (w1 := ?_) (by rfl) rfl ?_ ?_
     rotate_left
     ·go_simp
      rfl
     refine hK undef _ ⟨?_, ?_, ?_, ?_, fun k_ h1_ h2_ => (Below.heap_setCell _ _ _ _ h2_).trans (j4 k_ h1_ h2_)⟩ (below_set hW GG.out) (by simp only [World.setCell, Array.size_modify]; exact Nat.le_refl _) (fun k_ _ h0_ _ => Below.heap_setCell _ _ _ _ (fun e_ => by have h1_ := (hT k_ h0_).1; have h2_ : k_ = g := e_; omega)) trivial
     ·refine blk_put j0 8 _ ?_
      simp only [getD_set_ne _ (show (10 : Nat) ≠ 8 by decide), getD_set_ne _ (show (10 : Nat) ≠ 12 by decide), getDself_, es, Nat.reduceEqDiff, ↓reduceIte]
      rfl
     ·intro h_; rw [getD_set_ne _ (by decide)] at h_; simpa only [Nat.reduceEqDiff, ↓reduceIte] using j1 h_
     ·intro h_; rw [getD_set_ne _ (by decide)] at h_; simpa only [Nat.reduceEqDiff, ↓reduceIte] using j2 h_
     ·intro h_; rw [getD_set_ne _ (by decide)] at h_; simpa only [Nat.reduceEqDiff, ↓reduceIte] using j3 h_
    ·refine ⟨_, rfl, fun v x => (by simp only [putAll, Act.put, List.setIfInBounds_toArray, List.set_cons_zero, List.set_cons_succ, Nat.reduceEqDiff, ↓reduceIte]; first | done | rfl), fun T v W l hJ hs hl hpre hpost hW hBW hT hF K a1 ha hK => ?_⟩
     simp only [putAll, Act.put, List.setIfInBounds_toArray, List.set_cons_zero, List.set_cons_succ] at ha
     subst ha
     obtain ⟨j0, j1, j2, j3, j4⟩ := hJ
     have hs8 : l.getD 12 true = false := hpost 12 (by decide) (by kernel_rfl)
     refine Kd.S_make_step (Kd.slice 81 k81) _ 72 (by rfl) (N := 30) rfl 39 _ _ rfl (n) rfl rfl Try.underlying39 (.slice none 0 0) 24 nnInfoS_ rfl (by decide) (by omega) [] (ok := fun _ => True) (okp := fun _ => True) ⟨_, rfl, Kd.R_nil _ _ _ _ _⟩ (fun _ hk => hk) trivial CB.out.2.2.2.2.1 (Nat.le_trans (Nat.mul_le_mul_right _ CB.out.2.2.2.2.2) (by omega)) (Below.refl _ _) (Nat.le_refl _) ?_
     intro x_ w1 h_ hb _ _
     rw [← Pn.out] at h_
     refine hK _ w1 ⟨?_, ?_, ?_, ?_, fun k_ h1_ h2_ => (hb.block k_ (Nat.lt_of_lt_of_le h1_ hBW)).trans (j4 k_ h1_ h2_)⟩ (bs_ hW hb) hb.size (fun k_ hl_ _ _ => hb.block k_ hl_) (sqq_ h_ hBW (fun k_ g_ q_ => Or.inr q_))
     ·have h := (hb.block g (blk_lt j0)).trans j0
      simp only [getD_set_ne _ (show (6 : Nat) ≠ 8 by decide), getD_set_ne _ (show (6 : Nat) ≠ 10 by decide), getD_set_ne _ (show (6 : Nat) ≠ 12 by decide), hs8, Nat.reduceEqDiff, ↓reduceIte, Bool.false_eq_true] at h ⊢
      exact h
     ·intro h_; rw [getD_set_ne _ (by decide)] at h_; simpa only [Nat.reduceEqDiff, ↓reduceIte] using j1 h_
     ·intro h_; rw [getD_set_ne _ (by decide)] at h_; simpa only [Nat.reduceEqDiff, ↓reduceIte] using j2 h_
     ·intro h_; rw [getD_set_ne _ (by decide)] at h_; simpa only [Nat.reduceEqDiff, ↓reduceIte] using j3 h_
    ·refine ⟨_, rfl, fun v x => (by simp only [putAll, Act.put, List.setIfInBounds_toArray, List.set_cons_zero, List.set_cons_succ, Nat.reduceEqDiff, ↓reduceIte]; first | done | rfl), fun T v W l hJ hs hl hpre hpost hW hBW hT hF K a1 ha hK => ?_⟩
     simp only [putAll, Act.put, List.setIfInBounds_toArray, List.set_cons_zero, List.set_cons_succ] at ha
     subst ha
     obtain ⟨j0, j1, j2, j3, j4⟩ := hJ
     refine value_ (w1 := W) (v := .pointer (some ⟨g, 9, none⟩)) (by rfl) rfl (by go_simp) ?_
     refine hK _ W ⟨?_, ?_, ?_, ?_, j4⟩ hW (Nat.le_refl _) (fun _ _ _ _ => rfl) trivial
     ·simp only [getD_set_ne _ (show (11 : Nat) ≠ 8 by decide), getD_set_ne _ (show (11 : Nat) ≠ 10 by decide), getD_set_ne _ (show (11 : Nat) ≠ 12 by decide), Nat.reduceEqDiff, ↓reduceIte] at j0 ⊢
      exact j0
     ·intro h_; rw [getD_set_ne _ (by decide)] at h_; simpa only [Nat.reduceEqDiff, ↓reduceIte] using j1 h_
     ·intro h_; rw [getD_set_ne _ (by decide)] at h_; simpa only [Nat.reduceEqDiff, ↓reduceIte] using j2 h_
     ·intro _; simp only [↓reduceIte]
    ·refine ⟨_, rfl, fun v x => (by simp only [putAll, Act.put, List.setIfInBounds_toArray, List.set_cons_zero, List.set_cons_succ, Nat.reduceEqDiff, ↓reduceIte]; first | done | rfl), fun T v W l hJ hs hl hpre hpost hW hBW hT hF K a1 ha hK => ?_⟩
     simp only [putAll, Act.put, List.setIfInBounds_toArray, List.set_cons_zero, List.set_cons_succ] at ha
     subst ha
     obtain ⟨j0, j1, j2, j3, j4⟩ := hJ
     have ea := j3 (hpre 11 (by kernel_rfl))
     obtain ⟨Xs, ds, es⟩ := Kd.S_slice (hF 6 (by decide) (hpre 6 (by kernel_rfl)) (fun h_ => absurd h_ (by decide)))
     have hy : W.cell? ⟨g, 9, none⟩ = some (if l.getD 12 true = true then v 6 else .slice none 0 0) := (blk_cell j0 9).trans rfl
     have hfz := blk_frozen j0 9
     rw [ea, es] at hK ⊢
     refine skip_ (w1 := ?_) (by rfl) rfl ?_ ?_
     rotate_left
     ·go_simp
      rfl
     refine hK undef _ ⟨?_, ?_, ?_, ?_, fun k_ h1_ h2_ => (Below.heap_setCell _ _ _ _ h2_).trans (j4 k_ h1_ h2_)⟩ (below_set hW GG.out) (by simp only [World.setCell, Array.size_modify]; exact Nat.le_refl _) (fun k_ _ h0_ _ => Below.heap_setCell _ _ _ _ (fun e_ => by have h1_ := (hT k_ h0_).1; have h2_ : k_ = g := e_; omega)) trivial
     ·refine blk_put j0 9 _ ?_
      simp only [getD_set_ne _ (show (12 : Nat) ≠ 8 by decide), getD_set_ne _ (show (12 : Nat) ≠ 10 by decide), getDself_, es, Nat.reduceEqDiff, ↓reduceIte]
      rfl
     ·intro h_; rw [getD_set_ne _ (by decide)] at h_; simpa only [Nat.reduceEqDiff, ↓reduceIte] using j1 h_
     ·intro h_; rw [getD_set_ne _ (by decide)] at h_; simpa only [Nat.reduceEqDiff, ↓reduceIte] using j2 h_
     ·intro h_; rw [getD_set_ne _ (by decide)] at h_; simpa only [Nat.reduceEqDiff, ↓reduceIte] using j3 h_
   case hcont5 =>
   intro T5 v W hJ hW hT hF
   obtain ⟨j0, -, -, -, j4⟩ := hJ
   have hfb : ∀ s, s = 8 ∨ s = 10 ∨ s = 12 → (bt_ 13 8191).getD s true = true := by (intro s hs; rcases hs with rfl | rfl | rfl <;> rfl)
   rw [hfb 8 (by decide), hfb 10 (by decide), hfb 12 (by decide), if_pos rfl, if_pos rfl, if_pos rfl] at j0
   have F5 := hF 2 (by decide) (by decide)
   obtain ⟨u5, e2⟩ : ∃ u_, v 2 = u_ := ⟨_, rfl⟩
   replace F5 : (Ev.S (Kd.slice 81 k81) 72 w5.heap.size L10).F (fun k => T5 k = 5) u5 W := by have := F5; rw [e2] at this; exact this
   obtain ⟨X5, d5, e_⟩ := Kd.S_slice F5
   subst e_
   have F8 := hF 4 (by decide) (by decide)
   obtain ⟨u8, e4⟩ : ∃ u_, v 4 = u_ := ⟨_, rfl⟩
   replace F8 : (Ev.S (Kd.slice 81 k81) 72 w5.heap.size Ln).F (fun k => T5 k = 8) u8 W := by have := F8; rw [e4] at this; exact this
   obtain ⟨X8, d8, e_⟩ := Kd.S_slice F8
   subst e_
   have F9 := hF 6 (by decide) (by decide)
   obtain ⟨u9, e6⟩ : ∃ u_, v 6 = u_ := ⟨_, rfl⟩
   replace F9 : (Ev.S (Kd.slice 81 k81) 72 w5.heap.size Ln).F (fun k => T5 k = 9) u9 W := by have := F9; rw [e6] at this; exact this
   obtain ⟨X9, d9, e_⟩ := Kd.S_slice F9
   subst e_
   rw [e2, e4, e6] at j0
   have hl5 : ∀ n_, n_ ≠ 0 → ∀ k_, TT k_ = n_ → (if w5.heap.size ≤ k_ then (if T5 k_ = 5 ∨ T5 k_ = 8 ∨ T5 k_ = 9 then T5 k_ else 0) else TT k_) = n_ := fun n_ h0 k_ e_ => by rw [if_neg (Nat.not_le.2 (M.out.hi k_ (by omega)))]; exact e_
   have hm5 : ∀ n_, n_ ≠ 0 → ∀ k_, TT k_ = n_ → W.heap[k_]? = w5.heap[k_]? := fun n_ h0 k_ e_ => j4 k_ (M.out.hi k_ (by omega)) (fun h_ => by have h2_ := TG.out; rw [← h_, e_] at h2_; exact h0 h2_)
   have hh5 : ∀ n_, n_ = 5 ∨ n_ = 8 ∨ n_ = 9 → ∀ k_, T5 k_ = n_ → (if w5.heap.size ≤ k_ then (if T5 k_ = 5 ∨ T5 k_ = 8 ∨ T5 k_ = 9 then T5 k_ else 0) else TT k_) = n_ := fun n_ hn k_ e_ => by rw [if_pos (hT k_ (by omega)).1, if_pos (by omega)]; exact e_
   have M5 : Marks (fun k_ => if w5.heap.size ≤ k_ then (if T5 k_ = 5 ∨ T5 k_ = 8 ∨ T5 k_ = 9 then T5 k_ else 0) else TT k_) w.heap.size W (.slice X2 m3.length d2) (.slice X3 n1.length d3) (.slice X4 n2.length d4) (.slice X5 L10.length d5) (.slice none 0 0) (.slice X7 L5.length d7) (.slice X8 Ln.length d8) (.slice X9 Ln.length d9) m3 n1 n2 L10 [] L5 Ln Ln := by
    refine ⟨fun k_ h_ => ?_, fun k_ h_ => ?_, Kd.R_mono (Kd.R_move M.out.h2 (hm5 2 (by decide))) (hl5 2 (by decide)), Kd.R_mono (Kd.R_move M.out.h3 (hm5 3 (by decide))) (hl5 3 (by decide)), Kd.R_mono (Kd.R_move M.out.h4 (hm5 4 (by decide))) (hl5 4 (by decide)), Kd.S_mono (Kd.S_lower F5 HB.out.size) (hh5 5 (by decide)), Kd.R_nil _ _ _ _ _, Kd.R_mono (Kd.R_move M.out.h7 (hm5 7 (by decide))) (hl5 7 (by decide)), Kd.S_mono (Kd.S_lower F8 HB.out.size) (hh5 8 (by decide)), Kd.S_mono (Kd.S_lower F9 HB.out.size) (hh5 9 (by decide))⟩
    ·(try dsimp only at h_); split at h_
     ·have := HB.out.size; omega
     ·exact M.out.lo k_ h_
    ·(try dsimp only at h_); split at h_
     ·split at h_
      ·exact (hT k_ (by omega)).2
      ·exact absurd rfl h_
     ·have h1_ := M.out.hi k_ h_; have h2_ : (w5.heap[k_]?) = W.heap[k_]? := (hm5 _ h_ k_ rfl).symm; exact blk_lt ((hm5 _ h_ k_ rfl).trans (Array.getElem?_eq_getElem h1_))
   replace TG := Aside0.mk (show (fun k_ => if w5.heap.size ≤ k_ then (if T5 k_ = 5 ∨ T5 k_ = 8 ∨ T5 k_ = 9 then T5 k_ else 0) else TT k_) g = 0 by dsimp only; rw [if_neg (Nat.not_le.2 hgl5)]; exact TG.out)
   replace T4 := Aside0.mk (show (fun k_ => if w5.heap.size ≤ k_ then (if T5 k_ = 5 ∨ T5 k_ = 8 ∨ T5 k_ = 9 then T5 k_ else 0) else TT k_) g4 = 0 by dsimp only; rw [if_neg (Nat.not_le.2 (blk_lt B4.out))]; exact T4.out)
   replace B4 := Aside0.mk ((j4 g4 (blk_lt B4.out) N4G.out).trans B4.out)
   replace BG := Aside0.mk j0
   replace HB := Aside0.mk hW
   replace M := Aside0.mk M5
   clear hl5 hm5 hh5 M5 hF hT j0 j4 hW F5 F8 F9 hfb
   refine norm_ (a' := ?_) ?_ ?_
   rotate_left
   ·simp only [putAll, Act.put, List.setIfInBounds_toArray, List.set_cons_zero, List.set_cons_succ, e2, e4, e6]
    rfl
   refine done_ (by kernel_rfl) ?_
   go_wp2
   go_loopg [36] k (fun kq v8 w' => ∃ (TT : Nat → Nat) (i : Int) (q : List Int) (u6 : Value), v8 = .int .i64 i ∧ Aside0 (impl_NetNew.l0 kq n i q = some qo) ∧ Aside0 (kq ≤ k) ∧ Aside0 (Marks TT w.heap.size w' (.slice X2 m3.length d2) (.slice X3 n1.length d3) (.slice X4 n2.length d4) (.slice X5 L10.length d5) (u6) (.slice X7 L5.length d7) (.slice X8 Ln.length d8) (.slice X9 Ln.length d9) m3 n1 n2 L10 q L5 Ln Ln) ∧ Aside0 (TT g4 = 0) ∧ Aside0 (TT g = 0) ∧ Aside0 (w'.heap[g4]? = some (.cells #[.int .i64 0, .int .i64 0, .slice none 0 0, .slice none 0 0, .slice none 0 0, .slice none 0 0, .slice none 0 0, .slice none 0 0, .slice none 0 0, .slice none 0 0, .int .i64 0] 41 (0, 0))) ∧ Aside0 (w'.heap[g]? = some (.cells #[.int .i64 m1, .int .i64 m2, .slice X2 m3.length d2, .slice X3 n1.length d3, .slice X4 n2.length d4, .slice X5 L10.length d5, u6, .slice X7 L5.length d7, .slice X8 Ln.length d8, .slice X9 Ln.length d9, .int .i64 0] 41 (0, 0))) ∧ Aside0 (Below w.heap.size w w'))
   case atStart => exact ⟨_, 0, [], _, rfl, E5, ⟨Nat.le_refl _⟩, ⟨M.out.belowV (Below.refl _ _)⟩, T4, TG, ⟨bq_ B4.out⟩, ⟨bq_ BG.out⟩, ⟨bb_ HB.out⟩⟩
   case round =>
    clear E5 M T4 TG B4 BG HB
    obtain ⟨TT, i, q, u6, rfl, HA, HK1, M, T4, TG, B4, BG, HB⟩ := hrel
    obtain ⟨X6, d6, e_⟩ := Kd.R_slice M.out.h6
    subst e_
    obtain ⟨y0, y1, y2, y3, y4, y5, y6, y7, y8, y9, y10, g0, g1, g2, g3, g4_, g5, g6, g7, g8, g9, g10⟩ := cz11_ BG.out
    cases gk with
    | zero => exact absurd HA.out (by simp [impl_NetNew.l0])
    | succ k1 =>
     have H := HA.out
     clear HA
     simp only [impl_NetNew.l0] at H
     by_cases c1 : i < wrap64 (10 * n)
     ·rw [if_pos c1] at H
      by_cases c2 : q.length < 17592186044416
      ·rw [if_pos c2] at H
       obtain ⟨q2, hq2⟩ : ∃ y_, q ++ [-1] = y_ := ⟨_, rfl⟩
       rw [hq2] at H
       have Q2 := Aside0.mk hq2
       have H' := Aside0.mk H
       have C2 := Aside0.mk c2
       have c1d : decide (i < wrap64 (10 * n)) = true := decide_eq_true c1
       clear H hq2 c2
       go_wp2_with (first | ((with_reducible refine gate_builtin (b := .append) (xs := #[.tmp 39, .tmp 40]) rfl ?_); at_builtin; refine Kd.R_append (Kd.int .i64) (w0 := w) w.heap.size rfl (.tmp 39) (.tmp 40) 24 3 (.int .i64 0) 8 rfl Try.underlying24 nnInfoI_ rfl (by decide) (by omega) (.slice X6 q.length d6) q (-1) [.int .i64 (-1)] (fun k_ => TT k_ = 6 ∨ TT k_ = 0) (fun _ => False) rfl rfl ?aP (fun _ hk => hk.elim) ?aF ?aO ?aB ?aS ?aL ?_; (case aP => exact rfl); (case aB => exact (by repeat (first | (with_reducible first | exact HB.out | apply below_alloc | apply pw_below_drewN | apply below_drew1) | exact HB.out))); (case aF => exact (fun k_ hk => Or.inr (M.out.zhi hk))); (case aO => exact ra_ (Kd.R_mono M.out.h6 (fun k_ h_ => Or.inl h_))); (case aS => exact (bz_ HB.out)); (case aL => have := C2.out; omega); intro u7 w7 ho hb hg hat; rw [Q2.out] at ho; obtain ⟨hK7, T7, hT7, hM7⟩ := M.out.app6 (bz_ HB.out) ho hg hat; have M7 := Aside0.mk hM7; have B47 := Aside0.mk (blk_kept B4.out hK7 (fun h_ => by have h2_ := T4.out; rw [h_] at h2_; cases h2_)); have BG7 := Aside0.mk (blk_kept BG.out hK7 (fun h_ => by have h2_ := TG.out; rw [h_] at h2_; cases h2_)); have T47 := Aside0.mk ((hT7 g4 (blk_lt B4.out)).trans T4.out); have TG7 := Aside0.mk ((hT7 g (blk_lt BG.out)).trans TG.out); have HB7 := Aside0.mk hb; obtain ⟨X66, d66, e_⟩ := Kd.R_slice hM7.h6; subst e_; clear ho hb hg hat hK7 hT7 hM7 M B4 BG T4 TG HB y0 y1 y2 y3 y4 y5 y6 y7 y8 y9 y10 g0 g1 g2 g3 g4_ g5 g6 g7 g8 g9 g10; obtain ⟨y0, y1, y2, y3, y4, y5, y6, y7, y8, y9, y10, g0, g1, g2, g3, g4_, g5, g6, g7, g8, g9, g10⟩ := cz11_ BG7.out))
       go_roundg k1
       case measure => have := HK1.out; omega
       case rel => exact ⟨T7, _, q2, _, rfl, H', ⟨by have := HK1.out; omega⟩, ⟨M7.out.move (fun k_ h_ => Below.heap_setCell _ _ _ _ (fun e_ => h_ (e_ ▸ TG7.out))) (by simp only [World.setCell, Array.size_modify]; exact Nat.le_refl _)⟩, T47, TG7, ⟨blk_far B47.out N4G.out _⟩, ⟨blk_put (cs := #[.int .i64 m1, .int .i64 m2, .slice X2 m3.length d2, .slice X3 n1.length d3, .slice X4 n2.length d4, .slice X5 L10.length d5, .slice X6 q.length d6, .slice X7 L5.length d7, .slice X8 Ln.length d8, .slice X9 Ln.length d9, .int .i64 0]) BG7.out 6 _ rfl⟩, ⟨below_set HB7.out GG.out⟩⟩
      ·rw [if_neg c2] at H
       cases H
     ·rw [if_neg c1] at H
      obtain rfl := Option.some.inj H
      have c1d : decide (i < wrap64 (10 * n)) = false := decide_eq_false c1
      clear H
      obtain ⟨z0, z1, z2, z3, z4, z5, z6, z7, z8, z9, z10, f0, f1, f2, f3, f4, f5, f6, f7, f8, f9, f10⟩ := cz11_ B4.out
      go_wp2
      clear y0 y1 y2 y3 y4 y5 y6 y7 y8 y9 y10 g0 g1 g2 g3 g4_ g5 g6 g7 g8 g9 g10 z0 z1 z2 z3 z4 z5 z6 z7 z8 z9 z10 f0 f1 f2 f3 f4 f5 f6 f7 f8 f9 f10 BG
      change bodyPost _ _ _ _ _ (st11_ _ g4 (.int .i64 m1) (.int .i64 m2) (.slice X2 m3.length d2) (.slice X3 n1.length d3) (.slice X4 n2.length d4) (.slice X5 L10.length d5) (.slice X6 q.length d6) (.slice X7 L5.length d7) (.slice X8 Ln.length d8) (.slice X9 Ln.length d9) (.int .i64 0))
      replace M := Aside0.mk (M.out.move (w1 := st11_ _ g4 (.int .i64 m1) (.int .i64 m2) (.slice X2 m3.length d2) (.slice X3 n1.length d3) (.slice X4 n2.length d4) (.slice X5 L10.length d5) (.slice X6 q.length d6) (.slice X7 L5.length d7) (.slice X8 Ln.length d8) (.slice X9 Ln.length d9) (.int .i64 0)) (fun k_ h_ => st11_far (fun e_ => h_ (e_ ▸ T4.out))) (Nat.le_of_eq st11_size.symm))
      replace B4 := Aside0.mk (st11_blk B4.out : (st11_ _ g4 (.int .i64 m1) (.int .i64 m2) (.slice X2 m3.length d2) (.slice X3 n1.length d3) (.slice X4 n2.length d4) (.slice X5 L10.length d5) (.slice X6 q.length d6) (.slice X7 L5.length d7) (.slice X8 Ln.length d8) (.slice X9 Ln.length d9) (.int .i64 0)).heap[g4]? = _)
      replace HB := Aside0.mk (st11_below HB.out G4.out : Below w.heap.size w (st11_ _ g4 (.int .i64 m1) (.int .i64 m2) (.slice X2 m3.length d2) (.slice X3 n1.length d3) (.slice X4 n2.length d4) (.slice X5 L10.length d5) (.slice X6 q.length d6) (.slice X7 L5.length d7) (.slice X8 Ln.length d8) (.slice X9 Ln.length d9) (.int .i64 0)))
      generalize st11_ _ g4 (.int .i64 m1) (.int .i64 m2) (.slice X2 m3.length d2) (.slice X3 n1.length d3) (.slice X4 n2.length d4) (.slice X5 L10.length d5) (.slice X6 q.length d6) (.slice X7 L5.length d7) (.slice X8 Ln.length d8) (.slice X9 Ln.length d9) (.int .i64 0) = w9 at *
      refine bodyPost_ret (results_ct rfl _ _ g4 41 _ (0, 0) _ rfl (bq_ B4.out) Try.underlying41 rfl (by kernel_rfl)) rfl ?_
      exact ⟨TT, _, _, _, _, _, _, _, _, rfl, M.out.belowV (Below.refl _ _), bb_ HB.out⟩

/-! ### laws_eqIntS: function 31 -/
def laws_eqIntS.l0 : Nat → List Int → List Int → Int → Option (Bool)
 | 0, _, _, _ => none
 | k + 1, x0, x1, x5 => if x5 < (x0.length : Int) then (if 0 ≤ x5 then (if x5 < (x1.length : Int) then (if (rd x0 x5) = (rd x1 x5) then (laws_eqIntS.l0 k x0 x1 (wrap64 (x5 + 1))) else (none)) else (none)) else (none)) else (some true)
def laws_eqIntS.f (k : Nat) (l0 : List Int) (l1 : List Int) : Option (Bool) := if (l0.length : Int) = (l1.length : Int) then (laws_eqIntS.l0 k l0 l1 0) else (none)
theorem laws_eqIntS.mono_l : ∀ k, (∀ y0 y1 y2, LeO (laws_eqIntS.l0 k y0 y1 y2) (laws_eqIntS.l0 (k + 1) y0 y1 y2))
 | 0 => fun _ _ _ r h => by simp [laws_eqIntS.l0] at h
 | k + 1 => by
  have ih0 := laws_eqIntS.mono_l k
  ·intro y0 y1 y2
   unfold laws_eqIntS.l0
   repeat' first
   | (with_reducible exact ih0 _ _ _)
   | (with_reducible exact LeO.refl _)
   | (with_reducible exact LeO.none _)
   | (with_reducible refine LeO.ite ?_ ?_)
   | (with_reducible refine LeO.bind ?_ (fun _ => ?_))
   | exact ih0 _ _ _
   | exact LeO.none _
   | refine LeO.ite ?_ ?_
   | refine LeO.bind ?_ (fun _ => ?_)
theorem laws_eqIntS.mono : ∀ a0 a1 k, LeO (laws_eqIntS.f k a0 a1) (laws_eqIntS.f (k + 1) a0 a1) := by
 intro a0 a1 k
 have ih0 := laws_eqIntS.mono_l k
 unfold laws_eqIntS.f
 repeat' first
   | (with_reducible exact ih0 _ _ _)
   | (with_reducible exact LeO.refl _)
   | (with_reducible exact LeO.none _)
   | (with_reducible refine LeO.ite ?_ ?_)
   | (with_reducible refine LeO.bind ?_ (fun _ => ?_))
   | exact ih0 _ _ _
   | exact LeO.none _
   | refine LeO.ite ?_ ?_
   | refine LeO.bind ?_ (fun _ => ?_)
set_option maxHeartbeats 8000000 in
set_option maxRecDepth 100000 in
theorem laws_eqIntS.calls (k : Nat) (A0 : Option Addr) (c0 : Nat) (l0 : List Int) (A1 : Option Addr) (c1 : Nat) (l1 : List Int) (r : Bool) (w : World) (hr0 : Kd.C (Kd.int .i64) w A0 l0.length l0) (hc0 : l0.length ≤ c0) (hr1 : Kd.C (Kd.int .i64) w A1 l1.length l1) (hc1 : l1.length ≤ c1) (h : laws_eqIntS.f k l0 l1 = some r) :
  Calls Try.prog 31 #[.slice A0 l0.length c0, .slice A1 l1.length c1] w fun e w' => e = .returned (.bool r) ∧ Drawn0 w w' := by
 have HR0 := Aside0.mk hr0
 have HC0 := Aside0.mk hc0
 clear hr0 hc0
 have HR1 := Aside0.mk hr1
 have HC1 := Aside0.mk hc1
 clear hr1 hc1
 have H : (if (l0.length : Int) = (l1.length : Int) then (laws_eqIntS.l0 k l0 l1 0) else (none)) = some r := h
 clear h
 by_cases c3 : (l0.length : Int) = (l1.length : Int)
 ·rw [if_pos c3] at H
  have c3b0 : ((l0.length : Int) == (l1.length : Int)) = true := beq_iff_eq.mpr c3
  have c3b1 : ((l0.length : Int) != (l1.length : Int)) = false := bne_eq_false_iff_eq.mpr c3
  have c3b2 : (l0.length == l1.length) = true := by first | simpa using c3 | (simp at c3 ⊢; omega)
  clear c3
  have H' := Aside0.mk H
  clear H
  go_enter Try.func31, Try.ntmps31
  go_wp2
  repeat (go_quiet (fail); try go_wp2)
  go_loopg [5] k (fun kq v5 w' => ∃ (x5_1 : Int), v5 = .int .i64 x5_1 ∧ Aside0 (laws_eqIntS.l0 kq l0 l1 x5_1 = some r) ∧ Aside0 (kq ≤ k) ∧ Drawn0 w w')
  case atStart => exact ⟨(0), ef_, H', ⟨Nat.le_refl _⟩, by repeat (first | exact Drawn0.refl _ | apply Drawn0.step)⟩
  case round =>
   clear H'
   try clear c3
   try clear c3b0
   try clear c3b1
   try clear c3b2
   obtain ⟨x5_1, rfl, HA, HK1, ⟨m1, rfl⟩⟩ := hrel
   cases gk with
   | zero => exact absurd HA.out (by simp [laws_eqIntS.l0])
   | succ k1 =>
    have H := HA.out
    clear HA
    simp only [laws_eqIntS.l0] at H
    by_cases c4 : x5_1 < (l0.length : Int)
    ·rw [if_pos c4] at H
     have c4b0 : decide (x5_1 < (l0.length : Int)) = true := decide_eq_true c4
     clear c4
     by_cases c5 : 0 ≤ x5_1
     ·rw [if_pos c5] at H
      have c5b0 : decide (0 ≤ x5_1) = true := decide_eq_true c5
      clear c5
      by_cases c6 : x5_1 < (l1.length : Int)
      ·rw [if_pos c6] at H
       have c6b0 : decide (x5_1 < (l1.length : Int)) = true := decide_eq_true c6
       clear c6
       by_cases c7 : (rd l0 x5_1) = (rd l1 x5_1)
       ·rw [if_pos c7] at H
        have c7b0 : ((rd l0 x5_1) == (rd l1 x5_1)) = true := beq_iff_eq.mpr c7
        have c7b1 : ((rd l0 x5_1) != (rd l1 x5_1)) = false := bne_eq_false_iff_eq.mpr c7
        clear c7
        have H' := Aside0.mk H
        clear H
        have p323 : 0 ≤ (x5_1 : Int) := of_decide_eq_true dg_
        have q323 : x5_1 < (l0.length : Int) := of_decide_eq_true dg_
        obtain ⟨ad323, e323, hx323_0⟩ := Kd.at_int HR0.out x5_1 p323 q323
        cases e323
        replace p323 := eq_true p323
        replace q323 := eq_true q323
        have p324 : 0 ≤ (x5_1 : Int) := of_decide_eq_true dg_
        have q324 : x5_1 < (l1.length : Int) := of_decide_eq_true dg_
        obtain ⟨ad324, e324, hx324_0⟩ := Kd.at_int HR1.out x5_1 p324 q324
        cases e324
        replace p324 := eq_true p324
        replace q324 := eq_true q324
        go_wp2
        repeat (go_quiet (fail); try go_wp2)
        go_roundg k1
        case measure => have := HK1.out; omega
        case rel => exact ⟨(wrap64 (x5_1 + 1)), ef_, H', ⟨by have := HK1.out; omega⟩, by repeat (first | exact Drawn0.refl _ | apply Drawn0.step)⟩
       ·rw [if_neg c7] at H
        exact absurd H (by simp)
      ·rw [if_neg c6] at H
       exact absurd H (by simp)
     ·rw [if_neg c5] at H
      exact absurd H (by simp)
    ·rw [if_neg c4] at H
     have c4b0 : decide (x5_1 < (l0.length : Int)) = false := decide_eq_false c4
     clear c4
     obtain rfl := Option.some.inj H
     go_wp2
     repeat (go_quiet (fail); try go_wp2)
     go_ret
     exact ⟨by first | rfl | (simp; done) | (simp [*]; done), by repeat (first | exact Drawn0.refl _ | apply Drawn0.step)⟩
 ·rw [if_neg c3] at H
  exact absurd H (by simp)

end Go.Proofs.Ytmdfcdhblflaaaa.PFnExactNetNew
-- thin
