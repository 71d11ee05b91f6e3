/- Each function that the law comes to, as a plain function, with the proof that the call in the model gives what that function says (written by a program of this session out of the translation). No condition. -/
import Derived.Test.YtjialkmfmpkjgaaPFnExactWholePacketsx0
namespace Go.Proofs.Ytjialkmfmpkjgaa.PFnExactWholePackets
open Go.RowKit Go.Proofs.YtjialkmfmpkjgaaW.PrintWords Go.Proofs.YtjialkmfmpkjgaaW.PrintLast Go.Proofs.YtjialkmfmpkjgaaW.PrintMore
attribute [local go_sem] max2_int min2_int max_two min_two max_three min_three max_four min_four   -- for this text's walks alone
set_option linter.unusedVariables false
set_option linter.unusedSimpArgs false

/-! ### laws_szFlitS: function 8 -/
def laws_szFlitS.f (l0 : List (S67)) (a1 : Int) : Option (Int) := if (wrap64 (a1 - (l0.length : Int))) < 0 then (some (-1)) else (some (wrap64 (a1 - (l0.length : Int))))
theorem laws_szFlitS.e0 {P : Prop} (h : P := by
 go_enter Try.func8, Try.ntmps8
 go_wp2
 go_ret
 exact ⟨by first | rfl | (simp; done) | (simp [*]; done), by repeat (first | exact Drawn0.refl _ | apply Drawn0.step)⟩) : P := h
set_option maxHeartbeats 8000000 in
set_option maxRecDepth 100000 in
theorem laws_szFlitS.calls (A0 : Option Addr) (c0 : Nat) (l0 : List (S67)) (a1 : Int) (r : Int) (w : World) (hr0 : Kd.C k67 w A0 l0.length l0) (hc0 : l0.length ≤ c0) (h : laws_szFlitS.f l0 a1 = some r) :
  Calls Try.prog 8 #[.slice A0 l0.length c0, .int .i64 a1] w fun e w' => e = .returned (.int .i64 r) ∧ Drawn0 w w' := by
 have HR0 := Aside0.mk hr0
 have HC0 := Aside0.mk hc0
 clear hr0 hc0
 have H : (if (wrap64 (a1 - (l0.length : Int))) < 0 then (some (-1)) else (some (wrap64 (a1 - (l0.length : Int))))) = some r := h
 clear h
 by_cases c3 : (wrap64 (a1 - (l0.length : Int))) < 0
 ·rw [if_pos c3] at H
  have c3b0 : decide ((wrap64 (a1 - (l0.length : Int))) < 0) = true := decide_eq_true c3
  clear c3
  obtain rfl := Option.some.inj H
  exact laws_szFlitS.e0
 ·rw [if_neg c3] at H
  have c3b0 : decide ((wrap64 (a1 - (l0.length : Int))) < 0) = false := decide_eq_false c3
  clear c3
  obtain rfl := Option.some.inj H
  exact laws_szFlitS.e0

/-! ### laws_toFlit: function 37 -/
def laws_toFlit.f (a0_0 : Int) (a0_1 : Int) (a0_2 : Int) (a0_3 : Bool) (a0_4 : Bool) : Option (Int × Int × Int × Bool × Bool) := some (a0_0, a0_1, a0_2, a0_3, a0_4)
set_option maxHeartbeats 8000000 in
set_option maxRecDepth 100000 in
theorem laws_toFlit.calls (a0_0 : Int) (a0_1 : Int) (a0_2 : Int) (a0_3 : Bool) (a0_4 : Bool) (r1 : Int) (r2 : Int) (r3 : Int) (r4 : Bool) (r5 : Bool) (w : World) (h : laws_toFlit.f a0_0 a0_1 a0_2 a0_3 a0_4 = some (r1, r2, r3, r4, r5)) :
  Calls Try.prog 37 #[.agg #[.int .i64 a0_0, .int .i64 a0_1, .int .i64 a0_2, .bool a0_3, .bool a0_4]] w fun e w' => e = .returned (.agg #[.int .i64 r1, .int .i64 r2, .int .i64 r3, .bool r4, .bool r5]) ∧ Below w.heap.size w w' := by
 have hu67 := Try.underlying67
 have hu48 := Try.underlying48
 have HB := Aside0.mk (Below.refl w.heap.size w)
 have H : (some (a0_0, a0_1, a0_2, a0_3, a0_4)) = some (r1, r2, r3, r4, r5) := h
 clear h
 simp only [Option.some.injEq, Prod.mk.injEq] at H
 obtain ⟨rfl, rfl, rfl, rfl, rfl⟩ := H
 go_enter Try.func37, Try.ntmps37
 go_wp2_with (first | ((with_reducible refine gate_dst (N := 1) rfl ?_); refine box_event ?hg (N := 1) ?hd (cs := #[.int .i64 a0_0, .int .i64 a0_1, .int .i64 a0_2, .bool a0_3, .bool a0_4]) (t := 67) ?hr ?_; (case hd => rfl); (case hg => rfl); (case hr => first | (go_simp; done) | (go_simp; rfl)); intro gb101 hg w2 hbox hb; have BK101 := Aside0.mk (hbox); have GW101 := Aside0.mk ((by rw [hg]; exact (bz_ HB.out) : w.heap.size ≤ gb101)); have GE101 := Aside0.mk ((by rw [hg]; exact (bz_ HB.out) : w.heap.size ≤ gb101)); replace HB := Aside0.mk (bs_ HB.out hb); clear hb hbox hg) | ((with_reducible refine gate_dst (N := 2) rfl ?_); refine box_event ?hg (N := 2) ?hd (cs := #[.int .i64 0, .int .i64 0, .int .i64 0, .bool false, .bool false]) (t := 48) ?hr ?_; (case hd => rfl); (case hg => rfl); (case hr => first | (go_simp; done) | (go_simp; rfl)); intro gb102 hg w3 hbox hb; have BK102 := Aside0.mk (hbox); have GW102 := Aside0.mk ((by rw [hg]; exact (bz_ HB.out) : w.heap.size ≤ gb102)); have GE102 := Aside0.mk ((by rw [hg]; exact (bz_ HB.out) : w.heap.size ≤ gb102)); replace HB := Aside0.mk (bs_ HB.out hb); have NB101_102 := Aside0.mk ((by rw [hg]; exact Nat.ne_of_lt (bl_ BK101.out) : gb101 ≠ gb102)); have NB102_101 := Aside0.mk ((by rw [hg]; exact Nat.ne_of_gt (bl_ BK101.out) : gb102 ≠ gb101)); replace BK101 := Aside0.mk (bk_ BK101.out hb); clear hb hbox hg) | ((with_reducible refine gate_dst (N := 3) rfl ?_); refine box_event ?hg (N := 3) ?hd (cs := #[.int .i64 0, .int .i64 0, .int .i64 0, .bool false, .bool false]) (t := 48) ?hr ?_; (case hd => rfl); (case hg => rfl); (case hr => first | (go_simp; done) | (go_simp; rfl)); intro gb103 hg w4 hbox hb; have BK103 := Aside0.mk (hbox); have GW103 := Aside0.mk ((by rw [hg]; exact (bz_ HB.out) : w.heap.size ≤ gb103)); have GE103 := Aside0.mk ((by rw [hg]; exact (bz_ HB.out) : w.heap.size ≤ gb103)); replace HB := Aside0.mk (bs_ HB.out hb); have NB101_103 := Aside0.mk ((by rw [hg]; exact Nat.ne_of_lt (bl_ BK101.out) : gb101 ≠ gb103)); have NB103_101 := Aside0.mk ((by rw [hg]; exact Nat.ne_of_gt (bl_ BK101.out) : gb103 ≠ gb101)); replace BK101 := Aside0.mk (bk_ BK101.out hb); have NB102_103 := Aside0.mk ((by rw [hg]; exact Nat.ne_of_lt (bl_ BK102.out) : gb102 ≠ gb103)); have NB103_102 := Aside0.mk ((by rw [hg]; exact Nat.ne_of_gt (bl_ BK102.out) : gb103 ≠ gb102)); replace BK102 := Aside0.mk (bk_ BK102.out hb); clear hb hbox hg; have hnb5 := NB101_102.out; have hnc5 := NB102_101.out; have hnb6 := NB101_103.out; have hnc6 := NB103_101.out; obtain ⟨hcz7_0, hcz7_1, hcz7_2, hcz7_3, hcz7_4, hfz7_0, hfz7_1, hfz7_2, hfz7_3, hfz7_4⟩ := cz5_ BK101.out; have hnb8 := NB103_102.out; have hnc8 := NB102_103.out; obtain ⟨hcz9_0, hcz9_1, hcz9_2, hcz9_3, hcz9_4, hfz9_0, hfz9_1, hfz9_2, hfz9_3, hfz9_4⟩ := cz5_ BK103.out; obtain ⟨hcz10_0, hcz10_1, hcz10_2, hcz10_3, hcz10_4, hfz10_0, hfz10_1, hfz10_2, hfz10_3, hfz10_4⟩ := cz5_ BK102.out))
 refine bodyPost_ret (results_cell_row rfl _ _ gb102 48 #[.int .i64 a0_0, .int .i64 a0_1, .int .i64 a0_2, .bool a0_3, .bool a0_4] (0, 0) _ rfl (by (with_reducible repeat (first | refine blk_drewN ?_ _ | refine blk_drew ?_ | refine blk_alloc ?_ _)); refine blk_put (cs := #[.int .i64 a0_0, .int .i64 a0_1, .int .i64 a0_2, .bool a0_3, .bool false]) ?_ 4 _ rfl; (with_reducible repeat (first | refine blk_drewN ?_ _ | refine blk_drew ?_ | refine blk_alloc ?_ _)); refine blk_put (cs := #[.int .i64 a0_0, .int .i64 a0_1, .int .i64 a0_2, .bool false, .bool false]) ?_ 3 _ rfl; (with_reducible repeat (first | refine blk_drewN ?_ _ | refine blk_drew ?_ | refine blk_alloc ?_ _)); refine blk_put (cs := #[.int .i64 a0_0, .int .i64 a0_1, .int .i64 0, .bool false, .bool false]) ?_ 2 _ rfl; (with_reducible repeat (first | refine blk_drewN ?_ _ | refine blk_drew ?_ | refine blk_alloc ?_ _)); refine blk_put (cs := #[.int .i64 a0_0, .int .i64 0, .int .i64 0, .bool false, .bool false]) ?_ 1 _ rfl; (with_reducible repeat (first | refine blk_drewN ?_ _ | refine blk_drew ?_ | refine blk_alloc ?_ _)); refine blk_put (cs := #[.int .i64 0, .int .i64 0, .int .i64 0, .bool false, .bool false]) ?_ 0 _ rfl; (with_reducible repeat (first | refine blk_drewN ?_ _ | refine blk_drew ?_ | refine blk_alloc ?_ _)); refine blk_far ?_ NB102_103.out _; (with_reducible repeat (first | refine blk_drewN ?_ _ | refine blk_drew ?_ | refine blk_alloc ?_ _)); refine blk_far ?_ NB102_103.out _; (with_reducible repeat (first | refine blk_drewN ?_ _ | refine blk_drew ?_ | refine blk_alloc ?_ _)); refine blk_far ?_ NB102_103.out _; (with_reducible repeat (first | refine blk_drewN ?_ _ | refine blk_drew ?_ | refine blk_alloc ?_ _)); refine blk_far ?_ NB102_103.out _; (with_reducible repeat (first | refine blk_drewN ?_ _ | refine blk_drew ?_ | refine blk_alloc ?_ _)); refine blk_far ?_ NB102_103.out _; (with_reducible repeat (first | refine blk_drewN ?_ _ | refine blk_drew ?_ | refine blk_alloc ?_ _)); exact BK102.out) Try.underlying48 rfl (by kernel_rfl)) rfl ?_
 exact ⟨fin_, bb_ HB.out⟩

/-! ### laws_toFlitS: function 10 -/
def laws_toFlitS.l0 : Nat → List (S67) → List (S48) → Int → Option ((List (S48)))
 | 0, _, _, _ => none
 | k + 1, x0, x3, x4 => if x4 < (x0.length : Int) then (if 0 ≤ x4 then ((laws_toFlit.f ((rd_T67 x0 x4).f0) ((rd_T67 x0 x4).f1) ((rd_T67 x0 x4).f2) ((rd_T67 x0 x4).f3) ((rd_T67 x0 x4).f4)).bind fun bt108 => (if x4 < (x3.length : Int) then (laws_toFlitS.l0 k x0 (x3.set (x4 : Int).toNat (⟨bt108.1, bt108.2.1, bt108.2.2.1, bt108.2.2.2.1, bt108.2.2.2.2⟩ : S48)) (wrap64 (x4 + 1))) else (none))) else (none)) else (some x3)
def laws_toFlitS.f (k : Nat) (l0 : List (S67)) : Option ((List (S48))) := if 0 ≤ (l0.length : Int) then (if ((l0.length : Int) : Int).toNat ≤ 8796093022208 then (laws_toFlitS.l0 k l0 (List.replicate ((l0.length : Int) : Int).toNat z48) 0) else (none)) else (none)
theorem laws_toFlitS.mono_l : ∀ k, (∀ y0 y1 y2, LeO (laws_toFlitS.l0 k y0 y1 y2) (laws_toFlitS.l0 (k + 1) y0 y1 y2))
 | 0 => fun _ _ _ r h => by simp [laws_toFlitS.l0] at h
 | k + 1 => by
  have ih0 := laws_toFlitS.mono_l k
  ·intro y0 y1 y2
   unfold laws_toFlitS.l0
   repeat' first
   | (with_reducible exact ih0 _ _ _)
   | (with_reducible exact LeO.refl _)
   | (with_reducible exact LeO.none _)
   | (with_reducible refine LeO.ite ?_ ?_)
   | (with_reducible refine LeO.bind ?_ (fun _ => ?_))
   | exact ih0 _ _ _
   | exact LeO.none _
   | refine LeO.ite ?_ ?_
   | refine LeO.bind ?_ (fun _ => ?_)
theorem laws_toFlitS.mono : ∀ a0 k, LeO (laws_toFlitS.f k a0) (laws_toFlitS.f (k + 1) a0) := by
 intro a0 k
 have ih0 := laws_toFlitS.mono_l k
 unfold laws_toFlitS.f
 repeat' first
   | (with_reducible exact ih0 _ _ _)
   | (with_reducible exact LeO.refl _)
   | (with_reducible exact LeO.none _)
   | (with_reducible refine LeO.ite ?_ ?_)
   | (with_reducible refine LeO.bind ?_ (fun _ => ?_))
   | exact ih0 _ _ _
   | exact LeO.none _
   | refine LeO.ite ?_ ?_
   | refine LeO.bind ?_ (fun _ => ?_)
set_option maxHeartbeats 8000000 in
set_option maxRecDepth 100000 in
theorem laws_toFlitS.calls (k : Nat) (A0 : Option Addr) (c0 : Nat) (l0 : List (S67)) (r : List (S48)) (w : World) (hr0 : Kd.C k67 w A0 l0.length l0) (hc0 : l0.length ≤ c0) (h : laws_toFlitS.f k l0 = some r) :
  Calls Try.prog 10 #[.slice A0 l0.length c0] w fun e w' => ∃ v0_ : Value, e = .returned (v0_) ∧ Kd.R k48 48 w' w.heap.size (fun _ => True) v0_ r ∧ Below w.heap.size w w' := by
 have hu67 := Try.underlying67
 have hu48 := Try.underlying48
 have HR0 := Aside0.mk hr0
 have HC0 := Aside0.mk hc0
 clear hr0 hc0
 have HB := Aside0.mk (Below.refl w.heap.size w)
 have H : (if 0 ≤ (l0.length : Int) then (if ((l0.length : Int) : Int).toNat ≤ 8796093022208 then (laws_toFlitS.l0 k l0 (List.replicate ((l0.length : Int) : Int).toNat z48) 0) else (none)) else (none)) = some r := h
 clear h
 by_cases c2 : 0 ≤ (l0.length : Int)
 ·rw [if_pos c2] at H
  have c2b0 := eq_true c2
  have c2b1 : decide (0 ≤ (l0.length : Int)) = true := decide_eq_true c2
  clear c2
  by_cases c3 : ((l0.length : Int) : Int).toNat ≤ 8796093022208
  ·rw [if_pos c3] at H
   have c3b0 := eq_true c3
   have c3b1 : decide (((l0.length : Int) : Int).toNat ≤ 8796093022208) = true := decide_eq_true c3
   clear c3
   obtain ⟨y104, hy104⟩ : ∃ y_ : List (S48), y_ = (List.replicate ((l0.length : Int) : Int).toNat z48) := ⟨_, rfl⟩
   replace H : (laws_toFlitS.l0 k l0 y104 0) = some r := by first | (rw [hy104]; with_reducible exact H) | (have H2_ := (Option.bind_some _ _).symm.trans H; rw [hy104]; with_reducible exact H2_) | (have H2_ := (Option.bind_some _ _).symm.trans H; with_reducible exact H2_) | with_reducible exact H | (rw [hy104]; exact H) | exact H
   have Ny104 := Aside0.mk hy104
   clear hy104
   have H' := Aside0.mk H
   clear H
   go_enter Try.func10, Try.ntmps10
   go_wp2_with (first | ((with_reducible refine gate_dst (N := 7) rfl ?_); refine Kd.R_make k48 _ 48 rfl (N := 7) rfl 25 _ _ rfl (l0.length : Int) rfl rfl Try.underlying25 (.agg #[(.int .i64 0), (.int .i64 0), (.int .i64 0), (.bool false), (.bool false)]) 32 info48 rfl (by decide) (by omega) z48 (ok := fun _ => True) (okp := fun _ => True) (k48_mkM _ _ _ z48 ) (fun _ hk => hk) trivial (of_decide_eq_true dg_) (Nat.le_trans (Nat.mul_le_mul_right _ (of_decide_eq_true dg_ : (l0.length : Int).toNat ≤ 8796093022208)) (by omega)) (Below.refl _ _) (Nat.le_refl _) ?_; intro v105 w4 ho5 hb hg_ hnew_; clear hg_ hnew_; (first | rw [← Ny104.out] at ho5 | (simp only [Int.reduceToNat] at ho5; rw [← Ny104.out] at ho5)); have HO106 := Aside0.mk (Kd.R_lower ho5 (bz_ HB.out)); replace HB := Aside0.mk (bs_ HB.out hb); clear hb ho5))
   go_loopg [4] k (fun kq v4 w' => ∃ (x3_1 : List (S48)) (x4_1 : Int), v4 = .int .i64 x4_1 ∧ Aside0 (laws_toFlitS.l0 kq l0 x3_1 x4_1 = some r) ∧ Aside0 (kq ≤ k) ∧ Aside0 (Kd.R k48 48 w' w.heap.size (fun _ => True) v105 x3_1) ∧ Aside0 (Below w.heap.size w w'))
   case atStart => exact ⟨(y104), (0), ef_, H', ⟨Nat.le_refl _⟩, ⟨by (with_reducible repeat (first | apply Kd.R_alloc | apply Kd.R_drewN | apply Kd.R_drew)); exact HO106.out⟩, ⟨bb_ HB.out⟩⟩
   case round =>
    clear H'
    try clear c2
    try clear c2b0
    try clear c2b1
    try clear c3
    try clear c3b0
    try clear c3b1
    obtain ⟨x3_1, x4_1, rfl, HA, HK1, HO_3, HB⟩ := hrel
    cases gk with
    | zero => exact absurd HA.out (by simp [laws_toFlitS.l0])
    | succ k1 =>
     have H := HA.out
     clear HA
     simp only [laws_toFlitS.l0] at H
     by_cases c6 : x4_1 < (l0.length : Int)
     ·rw [if_pos c6] at H
      have c6b0 : decide (x4_1 < (l0.length : Int)) = true := decide_eq_true c6
      clear c6
      by_cases c7 : 0 ≤ x4_1
      ·rw [if_pos c7] at H
       have c7b0 : decide (0 ≤ x4_1) = true := decide_eq_true c7
       clear c7
       replace H := Option.bind_eq_some_iff.mp H
       obtain ⟨⟨t108, t109, t110, t111, t112⟩, A80, H⟩ := H
       try dsimp only at H
       have A8 := Aside0.mk A80
       clear A80
       by_cases c9 : x4_1 < (x3_1.length : Int)
       ·rw [if_pos c9] at H
        have c9b0 : decide (x4_1 < (x3_1.length : Int)) = true := decide_eq_true c9
        clear c9
        obtain ⟨y113, hy113⟩ : ∃ y_ : List (S48), y_ = (x3_1.set (x4_1 : Int).toNat (⟨t108, t109, t110, t111, t112⟩ : S48)) := ⟨_, rfl⟩
        replace H : (laws_toFlitS.l0 k1 l0 y113 (wrap64 (x4_1 + 1))) = some r := by first | (rw [hy113]; with_reducible exact H) | (have H2_ := (Option.bind_some _ _).symm.trans H; rw [hy113]; with_reducible exact H2_) | (have H2_ := (Option.bind_some _ _).symm.trans H; with_reducible exact H2_) | with_reducible exact H | (rw [hy113]; exact H) | exact H
        have Ny113 := Aside0.mk hy113
        clear hy113
        have H' := Aside0.mk H
        clear H
        have p107 : 0 ≤ (x4_1 : Int) := of_decide_eq_true dg_
        have q107 : x4_1 < (l0.length : Int) := of_decide_eq_true dg_
        obtain ⟨ad107, e107, hx107_0, hx107_1, hx107_2, hx107_3, hx107_4⟩ := at_T67 HR0.out x4_1 p107 q107
        cases e107
        replace hx107_0 := (HB.out.cell (World.block_lt_of_cell? w _ hx107_0)).trans hx107_0
        replace hx107_1 := (HB.out.cell (World.block_lt_of_cell? w _ hx107_1)).trans hx107_1
        replace hx107_2 := (HB.out.cell (World.block_lt_of_cell? w _ hx107_2)).trans hx107_2
        replace hx107_3 := (HB.out.cell (World.block_lt_of_cell? w _ hx107_3)).trans hx107_3
        replace hx107_4 := (HB.out.cell (World.block_lt_of_cell? w _ hx107_4)).trans hx107_4
        replace p107 := eq_true p107
        replace q107 := eq_true q107
        go_wp2_with (first | ((with_reducible refine gate_callee (f := 37) rfl ?_); refine gm_ (some 20) Try.func37 #[.agg #[.int .i64 ((rd_T67 l0 x4_1).f0), .int .i64 ((rd_T67 l0 x4_1).f1), .int .i64 ((rd_T67 l0 x4_1).f2), .bool ((rd_T67 l0 x4_1).f3), .bool ((rd_T67 l0 x4_1).f4)]] rfl ?_; (with_reducible refine (laws_toFlit.calls ((rd_T67 l0 x4_1).f0) ((rd_T67 l0 x4_1).f1) ((rd_T67 l0 x4_1).f2) ((rd_T67 l0 x4_1).f3) ((rd_T67 l0 x4_1).f4) t108 t109 t110 t111 t112 _ A8.out).mono ?_); rintro e w11 ⟨rfl, hb⟩; refine ⟨_, rfl, ?_⟩; replace HO_3 := Aside0.mk (Kd.R_below (ra_ HO_3.out) hb); replace HB := Aside0.mk (bs_ HB.out hb); (try clear hb); have p10 : 0 ≤ (x4_1 : Int) := of_decide_eq_true dg_; have q10 : (x4_1 : Int) < ((x3_1.length : Int) : Int) := of_decide_eq_true dg_; obtain ⟨go10, co10, eo10, gb10, gl10, cl10, HG10⟩ := Kd.R_form HO_3.out (by omega); (first | cases eo10 | (injection eo10 with ea_ en_ ec_; (first | subst ea_ | (injection ea_ with ea_; subst ea_)); subst ec_; clear en_)); have GB10 := Aside0.mk gb10; have GG10 := Aside0.mk HG10; clear gb10 gl10 HG10; obtain ⟨ce10, hcl10, hM10, hcc10, hfr10⟩ := Kd.R_elem HO_3.out z48 (x4_1 : Int) p10 q10; obtain rfl := k48_openM hM10; have hx10_0 : w11.cell? ⟨go10, (x4_1 : Int).toNat * 5, none⟩ = some (.int .i64 ((rd_T48 x3_1 x4_1).f0)) := hcc10 0 _ rfl; have hx10_1 : w11.cell? ⟨go10, (x4_1 : Int).toNat * 5 + 1, none⟩ = some (.int .i64 ((rd_T48 x3_1 x4_1).f1)) := hcc10 1 _ rfl; have hx10_2 : w11.cell? ⟨go10, (x4_1 : Int).toNat * 5 + 2, none⟩ = some (.int .i64 ((rd_T48 x3_1 x4_1).f2)) := hcc10 2 _ rfl; have hx10_3 : w11.cell? ⟨go10, (x4_1 : Int).toNat * 5 + 3, none⟩ = some (.bool ((rd_T48 x3_1 x4_1).f3)) := hcc10 3 _ rfl; have hx10_4 : w11.cell? ⟨go10, (x4_1 : Int).toNat * 5 + 4, none⟩ = some (.bool ((rd_T48 x3_1 x4_1).f4)) := hcc10 4 _ rfl; have hf10_0 : w11.frozen? ⟨go10, (x4_1 : Int).toNat * 5, none⟩ = false := hfr10 0; have hf10_1 : w11.frozen? ⟨go10, (x4_1 : Int).toNat * 5 + 1, none⟩ = false := hfr10 1; have hf10_2 : w11.frozen? ⟨go10, (x4_1 : Int).toNat * 5 + 2, none⟩ = false := hfr10 2; have hf10_3 : w11.frozen? ⟨go10, (x4_1 : Int).toNat * 5 + 3, none⟩ = false := hfr10 3; have hf10_4 : w11.frozen? ⟨go10, (x4_1 : Int).toNat * 5 + 4, none⟩ = false := hfr10 4; clear hcl10 hcc10 hfr10; (try clear hM10); replace p10 := eq_true p10; replace q10 := eq_true q10; have HX12 := Aside0.mk (show Kd.R k48 48 w11 w.heap.size (fun _ => True) (.slice (some ⟨go10, 0, none⟩) x3_1.length co10) x3_1 from (ra_ HO_3.out)); obtain ⟨ce12, hcl12, hM12, hcc12, hfr12⟩ := Kd.R_elem HX12.out z48 (x4_1 : Int) (of_decide_eq_true dg_) (by have h_ : (x4_1 : Int) < ((x3_1.length : Int) : Int) := of_decide_eq_true dg_; first | exact h_ | (have e_ := (Kd.R_reads' HO_3.out).1; omega) | simpa using h_); obtain rfl := k48_openM hM12; have HP12 := Kd.R_seg HX12.out (x4_1 : Int) (of_decide_eq_true dg_) (by have h_ : (x4_1 : Int) < ((x3_1.length : Int) : Int) := of_decide_eq_true dg_; first | exact h_ | (have e_ := (Kd.R_reads' HO_3.out).1; omega) | simpa using h_) (seg := [.int .i64 t108, .int .i64 t109, .int .i64 t110, .bool t111, .bool t112]) (j := 0) hcl12 hcc12 (show 5 ≤ 5 from by decide) (x' := (⟨t108, t109, t110, t111, t112⟩ : S48)) (k48_mkM _ _ _ (⟨t108, t109, t110, t111, t112⟩ : S48) ) (fun _ hk => hk); have hx12_0 := hcc12 0 _ rfl; (try simp only [show (k48).sz = 5 from rfl, Nat.mul_one, Nat.add_zero] at hx12_0); have hf12_0 := hfr12 0; (try simp only [show (k48).sz = 5 from rfl, Nat.mul_one, Nat.add_zero] at hf12_0); have hx12_1 := hcc12 1 _ rfl; (try simp only [show (k48).sz = 5 from rfl, Nat.mul_one, Nat.add_zero] at hx12_1); have hf12_1 := hfr12 1; (try simp only [show (k48).sz = 5 from rfl, Nat.mul_one, Nat.add_zero] at hf12_1); have hx12_2 := hcc12 2 _ rfl; (try simp only [show (k48).sz = 5 from rfl, Nat.mul_one, Nat.add_zero] at hx12_2); have hf12_2 := hfr12 2; (try simp only [show (k48).sz = 5 from rfl, Nat.mul_one, Nat.add_zero] at hf12_2); have hx12_3 := hcc12 3 _ rfl; (try simp only [show (k48).sz = 5 from rfl, Nat.mul_one, Nat.add_zero] at hx12_3); have hf12_3 := hfr12 3; (try simp only [show (k48).sz = 5 from rfl, Nat.mul_one, Nat.add_zero] at hf12_3); have hx12_4 := hcc12 4 _ rfl; (try simp only [show (k48).sz = 5 from rfl, Nat.mul_one, Nat.add_zero] at hx12_4); have hf12_4 := hfr12 4; (try simp only [show (k48).sz = 5 from rfl, Nat.mul_one, Nat.add_zero] at hf12_4); clear hcl12 hcc12 hfr12; (try clear hM12)) | ((with_reducible refine gate_store (t := 48) (p := 21) rfl ?_); refine store_event (t := 48) (p := 21) (v := ?vo_w13) (w1 := (((((w11.setCell ⟨go10, (x4_1 : Int).toNat * 5, none⟩ (.int .i64 t108)).setCell ⟨go10, (x4_1 : Int).toNat * 5 + 1, none⟩ (.int .i64 t109)).setCell ⟨go10, (x4_1 : Int).toNat * 5 + 2, none⟩ (.int .i64 t110)).setCell ⟨go10, (x4_1 : Int).toNat * 5 + 3, none⟩ (.bool t111)).setCell ⟨go10, (x4_1 : Int).toNat * 5 + 4, none⟩ (.bool t112))) ?hg ?ho ?hn ?hr ?_; (case ho => rfl); (case hg => rfl); (case hn => rfl); (case hr => first | (go_simp; done) | (go_simp; rfl)); intro w13 hw; have hg : w11.grownBy w13 (some go10) := (by rw [hw]; exact HP12.2); have hp_ : Kd.R k48 48 w13 w.heap.size (fun _ => True) (.slice (some ⟨go10, 0, none⟩) x3_1.length co10) y113 := (by rw [hw, Ny113.out]; exact HP12.1); clear HP12; replace HO_3 := Aside0.mk (hp_); replace HB := Aside0.mk ((by rw [hw]; exact below_set (below_set (below_set (below_set (below_set (HB.out) GB10.out) GB10.out) GB10.out) GB10.out) GB10.out : Below w.heap.size w w13)); clear hg hw hp_))
        go_roundg k1
        case measure => have := HK1.out; omega
        case rel => exact ⟨(y113), (wrap64 (x4_1 + 1)), ef_, H', ⟨by have := HK1.out; omega⟩, ⟨by (with_reducible repeat (first | apply Kd.R_alloc | apply Kd.R_drewN | apply Kd.R_drew)); exact HO_3.out⟩, ⟨bb_ HB.out⟩⟩
       ·rw [if_neg c9] at H
        exact absurd H (by simp)
      ·rw [if_neg c7] at H
       exact absurd H (by simp)
     ·rw [if_neg c6] at H
      have c6b0 : decide (x4_1 < (l0.length : Int)) = false := decide_eq_false c6
      clear c6
      obtain rfl := Option.some.inj H
      go_wp2
      go_ret
      exact ⟨_, fin_, by (with_reducible repeat (first | apply Kd.R_alloc | apply Kd.R_drewN | apply Kd.R_drew)); exact HO_3.out, bb_ HB.out⟩
  ·rw [if_neg c3] at H
   exact absurd H (by simp)
 ·rw [if_neg c2] at H
  exact absurd H (by simp)

/-! ### laws_eqFlit: function 38 -/
def laws_eqFlit.f (a0_0 : Int) (a0_1 : Int) (a0_2 : Int) (a0_3 : Bool) (a0_4 : Bool) (a1_0 : Int) (a1_1 : Int) (a1_2 : Int) (a1_3 : Bool) (a1_4 : Bool) : Option (Bool) := if a0_0 = a1_0 then (if a0_1 = a1_1 then (if a0_2 = a1_2 then (if (a0_3 != a1_3) = true then (none) else (if (a0_4 != a1_4) = true then (none) else (some true))) else (none)) else (none)) else (none)
set_option maxHeartbeats 8000000 in
set_option maxRecDepth 100000 in
theorem laws_eqFlit.calls (a0_0 : Int) (a0_1 : Int) (a0_2 : Int) (a0_3 : Bool) (a0_4 : Bool) (a1_0 : Int) (a1_1 : Int) (a1_2 : Int) (a1_3 : Bool) (a1_4 : Bool) (r : Bool) (w : World) (h : laws_eqFlit.f a0_0 a0_1 a0_2 a0_3 a0_4 a1_0 a1_1 a1_2 a1_3 a1_4 = some r) :
  Calls Try.prog 38 #[.agg #[.int .i64 a0_0, .int .i64 a0_1, .int .i64 a0_2, .bool a0_3, .bool a0_4], .agg #[.int .i64 a1_0, .int .i64 a1_1, .int .i64 a1_2, .bool a1_3, .bool a1_4]] w fun e w' => e = .returned (.bool r) ∧ Below w.heap.size w w' := by
 have hu48 := Try.underlying48
 have HB := Aside0.mk (Below.refl w.heap.size w)
 have H : (if a0_0 = a1_0 then (if a0_1 = a1_1 then (if a0_2 = a1_2 then (if (a0_3 != a1_3) = true then (none) else (if (a0_4 != a1_4) = true then (none) else (some true))) else (none)) else (none)) else (none)) = some r := h
 clear h
 by_cases c3 : a0_0 = a1_0
 ·rw [if_pos c3] at H
  have c3b0 : (a0_0 == a1_0) = true := beq_iff_eq.mpr c3
  have c3b1 : (a0_0 != a1_0) = false := bne_eq_false_iff_eq.mpr c3
  clear c3
  by_cases c4 : a0_1 = a1_1
  ·rw [if_pos c4] at H
   have c4b0 : (a0_1 == a1_1) = true := beq_iff_eq.mpr c4
   have c4b1 : (a0_1 != a1_1) = false := bne_eq_false_iff_eq.mpr c4
   clear c4
   by_cases c5 : a0_2 = a1_2
   ·rw [if_pos c5] at H
    have c5b0 : (a0_2 == a1_2) = true := beq_iff_eq.mpr c5
    have c5b1 : (a0_2 != a1_2) = false := bne_eq_false_iff_eq.mpr c5
    clear c5
    by_cases c6 : (a0_3 != a1_3) = true
    ·rw [if_pos c6] at H
     exact absurd H (by simp)
    ·rw [if_neg c6] at H
     have c6b0 : (a0_3 != a1_3) = false := by simpa using c6
     (try (have c6b1 : decide (a0_3 = a1_3) = true := by simpa using c6))
     (try (have c6b2 : (a0_3 == a1_3) = true := by simpa using c6))
     clear c6
     by_cases c7 : (a0_4 != a1_4) = true
     ·rw [if_pos c7] at H
      exact absurd H (by simp)
     ·rw [if_neg c7] at H
      have c7b0 : (a0_4 != a1_4) = false := by simpa using c7
      (try (have c7b1 : decide (a0_4 = a1_4) = true := by simpa using c7))
      (try (have c7b2 : (a0_4 == a1_4) = true := by simpa using c7))
      clear c7
      obtain rfl := Option.some.inj H
      go_enter Try.func38, Try.ntmps38
      go_wp2_with (first | ((with_reducible refine gate_dst (N := 2) rfl ?_); refine box_event ?hg (N := 2) ?hd (cs := #[.int .i64 a0_0, .int .i64 a0_1, .int .i64 a0_2, .bool a0_3, .bool a0_4]) (t := 48) ?hr ?_; (case hd => rfl); (case hg => rfl); (case hr => first | (go_simp; done) | (go_simp; rfl)); intro gb114 hg w8 hbox hb; have BK114 := Aside0.mk (hbox); have GW114 := Aside0.mk ((by rw [hg]; exact (bz_ HB.out) : w.heap.size ≤ gb114)); have GE114 := Aside0.mk ((by rw [hg]; exact (bz_ HB.out) : w.heap.size ≤ gb114)); replace HB := Aside0.mk (bs_ HB.out hb); clear hb hbox hg) | ((with_reducible refine gate_dst (N := 3) rfl ?_); refine box_event ?hg (N := 3) ?hd (cs := #[.int .i64 a1_0, .int .i64 a1_1, .int .i64 a1_2, .bool a1_3, .bool a1_4]) (t := 48) ?hr ?_; (case hd => rfl); (case hg => rfl); (case hr => first | (go_simp; done) | (go_simp; rfl)); intro gb115 hg w9 hbox hb; have BK115 := Aside0.mk (hbox); have GW115 := Aside0.mk ((by rw [hg]; exact (bz_ HB.out) : w.heap.size ≤ gb115)); have GE115 := Aside0.mk ((by rw [hg]; exact (bz_ HB.out) : w.heap.size ≤ gb115)); replace HB := Aside0.mk (bs_ HB.out hb); have NB114_115 := Aside0.mk ((by rw [hg]; exact Nat.ne_of_lt (bl_ BK114.out) : gb114 ≠ gb115)); have NB115_114 := Aside0.mk ((by rw [hg]; exact Nat.ne_of_gt (bl_ BK114.out) : gb115 ≠ gb114)); replace BK114 := Aside0.mk (bk_ BK114.out hb); clear hb hbox hg; have hnb10 := NB114_115.out; have hnc10 := NB115_114.out; obtain ⟨hcz11_0, hcz11_1, hcz11_2, hcz11_3, hcz11_4, hfz11_0, hfz11_1, hfz11_2, hfz11_3, hfz11_4⟩ := cz5_ BK114.out; obtain ⟨hcz12_0, hcz12_1, hcz12_2, hcz12_3, hcz12_4, hfz12_0, hfz12_1, hfz12_2, hfz12_3, hfz12_4⟩ := cz5_ BK115.out))
      go_ret
      exact ⟨fin_, bb_ HB.out⟩
   ·rw [if_neg c5] at H
    exact absurd H (by simp)
  ·rw [if_neg c4] at H
   exact absurd H (by simp)
 ·rw [if_neg c3] at H
  exact absurd H (by simp)

/-! ### laws_eqFlitS: function 12 -/
def laws_eqFlitS.l0 : Nat → List (S48) → List (S48) → Int → Option (Bool)
 | 0, _, _, _ => none
 | k + 1, x0, x1, x5 => if x5 < (x0.length : Int) then (if 0 ≤ x5 then (if x5 < (x1.length : Int) then ((laws_eqFlit.f ((rd_T48 x0 x5).f0) ((rd_T48 x0 x5).f1) ((rd_T48 x0 x5).f2) ((rd_T48 x0 x5).f3) ((rd_T48 x0 x5).f4) ((rd_T48 x1 x5).f0) ((rd_T48 x1 x5).f1) ((rd_T48 x1 x5).f2) ((rd_T48 x1 x5).f3) ((rd_T48 x1 x5).f4)).bind fun t118 => (if t118 = true then (laws_eqFlitS.l0 k x0 x1 (wrap64 (x5 + 1))) else (none))) else (none)) else (none)) else (some true)
def laws_eqFlitS.f (k : Nat) (l0 : List (S48)) (l1 : List (S48)) : Option (Bool) := if (l0.length : Int) = (l1.length : Int) then (laws_eqFlitS.l0 k l0 l1 0) else (none)
theorem laws_eqFlitS.mono_l : ∀ k, (∀ y0 y1 y2, LeO (laws_eqFlitS.l0 k y0 y1 y2) (laws_eqFlitS.l0 (k + 1) y0 y1 y2))
 | 0 => fun _ _ _ r h => by simp [laws_eqFlitS.l0] at h
 | k + 1 => by
  have ih0 := laws_eqFlitS.mono_l k
  ·intro y0 y1 y2
   unfold laws_eqFlitS.l0
   repeat' first
   | (with_reducible exact ih0 _ _ _)
   | (with_reducible exact LeO.refl _)
   | (with_reducible exact LeO.none _)
   | (with_reducible refine LeO.ite ?_ ?_)
   | (with_reducible refine LeO.bind ?_ (fun _ => ?_))
   | exact ih0 _ _ _
   | exact LeO.none _
   | refine LeO.ite ?_ ?_
   | refine LeO.bind ?_ (fun _ => ?_)
theorem laws_eqFlitS.mono : ∀ a0 a1 k, LeO (laws_eqFlitS.f k a0 a1) (laws_eqFlitS.f (k + 1) a0 a1) := by
 intro a0 a1 k
 have ih0 := laws_eqFlitS.mono_l k
 unfold laws_eqFlitS.f
 repeat' first
   | (with_reducible exact ih0 _ _ _)
   | (with_reducible exact LeO.refl _)
   | (with_reducible exact LeO.none _)
   | (with_reducible refine LeO.ite ?_ ?_)
   | (with_reducible refine LeO.bind ?_ (fun _ => ?_))
   | exact ih0 _ _ _
   | exact LeO.none _
   | refine LeO.ite ?_ ?_
   | refine LeO.bind ?_ (fun _ => ?_)
def laws_eqFlitS.T6 : Bool × List (List Nat × List Nat) := (true, [([], []), ([], []), ([0, 1], [0, 1]), ([2], [2]), ([], []), ([], []), ([4, 5], [4, 5]), ([6], [6]), ([3, 7], [3, 7]), ([8], [8])])
def laws_eqFlitS.B6 : List Nat := [0, 0, 3, 7, 0, 0, 48, 112, 255, 511]
theorem laws_eqFlitS.tab6 : rtab .any (opsOf Try.f12 6) = laws_eqFlitS.T6 := by kernel_rfl
theorem laws_eqFlitS.bits6 : waitsOk laws_eqFlitS.T6.2 laws_eqFlitS.B6 = true := by kernel_rfl
set_option maxHeartbeats 8000000 in
set_option maxRecDepth 100000 in
theorem laws_eqFlitS.calls (k : Nat) (A0 : Option Addr) (c0 : Nat) (l0 : List (S48)) (A1 : Option Addr) (c1 : Nat) (l1 : List (S48)) (r : Bool) (w : World) (hr0 : Kd.C k48 w A0 l0.length l0) (hc0 : l0.length ≤ c0) (hr1 : Kd.C k48 w A1 l1.length l1) (hc1 : l1.length ≤ c1) (h : laws_eqFlitS.f k l0 l1 = some r) :
  Calls Try.prog 12 #[.slice A0 l0.length c0, .slice A1 l1.length c1] w fun e w' => e = .returned (.bool r) ∧ Below w.heap.size w w' := by
 have hu48 := Try.underlying48
 have HR0 := Aside0.mk hr0
 have HC0 := Aside0.mk hc0
 clear hr0 hc0
 have HR1 := Aside0.mk hr1
 have HC1 := Aside0.mk hc1
 clear hr1 hc1
 have HB := Aside0.mk (Below.refl w.heap.size w)
 have H : (if (l0.length : Int) = (l1.length : Int) then (laws_eqFlitS.l0 k l0 l1 0) else (none)) = some r := h
 clear h
 by_cases c3 : (l0.length : Int) = (l1.length : Int)
 ·rw [if_pos c3] at H
  have c3b0 : ((l0.length : Int) == (l1.length : Int)) = true := beq_iff_eq.mpr c3
  have c3b1 : ((l0.length : Int) != (l1.length : Int)) = false := bne_eq_false_iff_eq.mpr c3
  have c3b2 : (l0.length == l1.length) = true := by first | simpa using c3 | (simp at c3 ⊢; omega)
  clear c3
  have H' := Aside0.mk H
  clear H
  go_enter Try.func12, Try.ntmps12
  go_wp2
  go_loopg [5] k (fun kq v5 w' => ∃ (x5_1 : Int), v5 = .int .i64 x5_1 ∧ Aside0 (laws_eqFlitS.l0 kq l0 l1 x5_1 = some r) ∧ Aside0 (kq ≤ k) ∧ Aside0 (Below w.heap.size w w'))
  case atStart => exact ⟨(0), ef_, H', ⟨Nat.le_refl _⟩, ⟨bb_ HB.out⟩⟩
  case round =>
   clear H'
   try clear c3
   try clear c3b0
   try clear c3b1
   try clear c3b2
   obtain ⟨x5_1, rfl, HA, HK1, HB⟩ := hrel
   cases gk with
   | zero => exact absurd HA.out (by simp [laws_eqFlitS.l0])
   | succ k1 =>
    have H := HA.out
    clear HA
    simp only [laws_eqFlitS.l0] at H
    by_cases c4 : x5_1 < (l0.length : Int)
    ·rw [if_pos c4] at H
     have c4b0 : decide (x5_1 < (l0.length : Int)) = true := decide_eq_true c4
     clear c4
     by_cases c5 : 0 ≤ x5_1
     ·rw [if_pos c5] at H
      have c5b0 : decide (0 ≤ x5_1) = true := decide_eq_true c5
      clear c5
      by_cases c6 : x5_1 < (l1.length : Int)
      ·rw [if_pos c6] at H
       have c6b0 : decide (x5_1 < (l1.length : Int)) = true := decide_eq_true c6
       clear c6
       replace H := Option.bind_eq_some_iff.mp H
       obtain ⟨t118, A70, H⟩ := H
       try dsimp only at H
       have A7 := Aside0.mk A70
       clear A70
       by_cases c8 : t118 = true
       ·subst c8
        rw [if_pos rfl] at H
        have H' := Aside0.mk H
        clear H
        try go_wp2
        have n0_ := Aside0.mk (below_drew1 HB.out)
        clear HB
        have HB := n0_
        clear n0_
        have p116 : 0 ≤ (x5_1 : Int) := of_decide_eq_true dg_
        have q116 : x5_1 < (l0.length : Int) := of_decide_eq_true dg_
        obtain ⟨ad116, e116, hx116_0, hx116_1, hx116_2, hx116_3, hx116_4⟩ := at_T48 HR0.out x5_1 p116 q116
        have hw116_4 := hx116_4
        have hw116_3 := hx116_3
        have hw116_2 := hx116_2
        have hw116_1 := hx116_1
        have hw116_0 := hx116_0
        cases e116
        replace hx116_0 := (HB.out.cell (World.block_lt_of_cell? w _ hx116_0)).trans hx116_0
        replace hx116_1 := (HB.out.cell (World.block_lt_of_cell? w _ hx116_1)).trans hx116_1
        replace hx116_2 := (HB.out.cell (World.block_lt_of_cell? w _ hx116_2)).trans hx116_2
        replace hx116_3 := (HB.out.cell (World.block_lt_of_cell? w _ hx116_3)).trans hx116_3
        replace hx116_4 := (HB.out.cell (World.block_lt_of_cell? w _ hx116_4)).trans hx116_4
        replace p116 := eq_true p116
        replace q116 := eq_true q116
        have p117 : 0 ≤ (x5_1 : Int) := of_decide_eq_true dg_
        have q117 : x5_1 < (l1.length : Int) := of_decide_eq_true dg_
        obtain ⟨ad117, e117, hx117_0, hx117_1, hx117_2, hx117_3, hx117_4⟩ := at_T48 HR1.out x5_1 p117 q117
        have hw117_4 := hx117_4
        have hw117_3 := hx117_3
        have hw117_2 := hx117_2
        have hw117_1 := hx117_1
        have hw117_0 := hx117_0
        cases e117
        replace hx117_0 := (HB.out.cell (World.block_lt_of_cell? w _ hx117_0)).trans hx117_0
        replace hx117_1 := (HB.out.cell (World.block_lt_of_cell? w _ hx117_1)).trans hx117_1
        replace hx117_2 := (HB.out.cell (World.block_lt_of_cell? w _ hx117_2)).trans hx117_2
        replace hx117_3 := (HB.out.cell (World.block_lt_of_cell? w _ hx117_3)).trans hx117_3
        replace hx117_4 := (HB.out.cell (World.block_lt_of_cell? w _ hx117_4)).trans hx117_4
        replace p117 := eq_true p117
        replace q117 := eq_true q117
        refine start_ (n := 10) (S := fun w' => w'.cell? (ad116.add ((x5_1).toNat * 5)) = some (.int .i64 ((rd_T48 l0 x5_1).f0)) ∧ w'.cell? ⟨(ad116.add ((x5_1).toNat * 5)).block, (ad116.add ((x5_1).toNat * 5)).off + 1, none⟩ = some (.int .i64 ((rd_T48 l0 x5_1).f1)) ∧ w'.cell? ⟨(ad116.add ((x5_1).toNat * 5)).block, (ad116.add ((x5_1).toNat * 5)).off + 2, none⟩ = some (.int .i64 ((rd_T48 l0 x5_1).f2)) ∧ w'.cell? ⟨(ad116.add ((x5_1).toNat * 5)).block, (ad116.add ((x5_1).toNat * 5)).off + 3, none⟩ = some (.bool ((rd_T48 l0 x5_1).f3)) ∧ w'.cell? ⟨(ad116.add ((x5_1).toNat * 5)).block, (ad116.add ((x5_1).toNat * 5)).off + 4, none⟩ = some (.bool ((rd_T48 l0 x5_1).f4)) ∧ w'.cell? (ad117.add ((x5_1).toNat * 5)) = some (.int .i64 ((rd_T48 l1 x5_1).f0)) ∧ w'.cell? ⟨(ad117.add ((x5_1).toNat * 5)).block, (ad117.add ((x5_1).toNat * 5)).off + 1, none⟩ = some (.int .i64 ((rd_T48 l1 x5_1).f1)) ∧ w'.cell? ⟨(ad117.add ((x5_1).toNat * 5)).block, (ad117.add ((x5_1).toNat * 5)).off + 2, none⟩ = some (.int .i64 ((rd_T48 l1 x5_1).f2)) ∧ w'.cell? ⟨(ad117.add ((x5_1).toNat * 5)).block, (ad117.add ((x5_1).toNat * 5)).off + 3, none⟩ = some (.bool ((rd_T48 l1 x5_1).f3)) ∧ w'.cell? ⟨(ad117.add ((x5_1).toNat * 5)).block, (ad117.add ((x5_1).toNat * 5)).off + 4, none⟩ = some (.bool ((rd_T48 l1 x5_1).f4))) (ds := []) #[false, false, false, false, false, false, false, false, false, false] (by kernel_rfl) rfl rfl ⟨((HB.out.cell (World.block_lt_of_cell? w _ hw116_0)).trans hw116_0), ((HB.out.cell (World.block_lt_of_cell? w _ hw116_1)).trans hw116_1), ((HB.out.cell (World.block_lt_of_cell? w _ hw116_2)).trans hw116_2), ((HB.out.cell (World.block_lt_of_cell? w _ hw116_3)).trans hw116_3), ((HB.out.cell (World.block_lt_of_cell? w _ hw116_4)).trans hw116_4), ((HB.out.cell (World.block_lt_of_cell? w _ hw117_0)).trans hw117_0), ((HB.out.cell (World.block_lt_of_cell? w _ hw117_1)).trans hw117_1), ((HB.out.cell (World.block_lt_of_cell? w _ hw117_2)).trans hw117_2), ((HB.out.cell (World.block_lt_of_cell? w _ hw117_3)).trans hw117_3), ((HB.out.cell (World.block_lt_of_cell? w _ hw117_4)).trans hw117_4)⟩ (fun hHeld => ?_); refine with_tabW laws_eqFlitS.tab6 laws_eqFlitS.bits6 (fun HT_ HW_ => ?_)
        generalize wr.drew = w9 at HB hx116_0 hx116_1 hx116_2 hx116_3 hx116_4 hx117_0 hx117_1 hx117_2 hx117_3 hx117_4 hHeld ⊢
        refine pu_ 0 17 (bt_ 10 1) HT_ ?_
        refine pu_ 1 18 (bt_ 10 3) HT_ ?_
        refine pu_ 2 19 (bt_ 10 7) HT_ ?_
        refine pu_ 4 21 (bt_ 10 23) HT_ ?_
        refine pu_ 5 22 (bt_ 10 55) HT_ ?_
        refine pu_ 6 23 (bt_ 10 119) HT_ ?_
        refine take_ (i := 3) (N := some 20) (v := ?_) (a' := ?_) (bt_ 10 127) rfl rfl (take_ofW HT_.out HW_.out (by kernel_rfl)) (fun _ _ _ h => h) (Or.inl ⟨by rfl, ?_⟩) hHeld ?_ ?_
        rotate_left
        ·rintro w' ⟨s0, s1, s2, s3, s4, s5, s6, s7, s8, s9⟩
         go_simp
         with_reducible rfl
        rotate_left
        ·simp only [Act.put, List.setIfInBounds_toArray, List.set_cons_zero, List.set_cons_succ, i64_w, i32_w]
         rfl
        refine take_ (i := 7) (N := some 24) (v := ?_) (a' := ?_) (bt_ 10 255) rfl rfl (take_ofW HT_.out HW_.out (by kernel_rfl)) (fun _ _ _ h => h) (Or.inl ⟨by rfl, ?_⟩) hHeld ?_ ?_
        rotate_left
        ·rintro w' ⟨s0, s1, s2, s3, s4, s5, s6, s7, s8, s9⟩
         go_simp
         with_reducible rfl
        rotate_left
        ·simp only [Act.put, List.setIfInBounds_toArray, List.set_cons_zero, List.set_cons_succ, i64_w, i32_w]
         rfl
        refine one_ (i := 8) (N := some 25) (bt_ 10 511) rfl rfl (one_of HT_.out (by kernel_rfl)) (by decide) (fun K hK => ?_)
        refine goes_ Try.func38 (by kernel_rfl) rfl #[.agg #[.int .i64 ((rd_T48 l0 x5_1).f0), .int .i64 ((rd_T48 l0 x5_1).f1), .int .i64 ((rd_T48 l0 x5_1).f2), .bool ((rd_T48 l0 x5_1).f3), .bool ((rd_T48 l0 x5_1).f4)], .agg #[.int .i64 ((rd_T48 l1 x5_1).f0), .int .i64 ((rd_T48 l1 x5_1).f1), .int .i64 ((rd_T48 l1 x5_1).f2), .bool ((rd_T48 l1 x5_1).f3), .bool ((rd_T48 l1 x5_1).f4)]] (by rfl) rfl rfl (by (try simp only [List.map_toArray, List.map_cons, List.map_nil]); first | done | rfl | (simp only [List.length_drop, List.length_take]; rfl)) ?_
        with_reducible refine (laws_eqFlit.calls ((rd_T48 l0 x5_1).f0) ((rd_T48 l0 x5_1).f1) ((rd_T48 l0 x5_1).f2) ((rd_T48 l0 x5_1).f3) ((rd_T48 l0 x5_1).f4) ((rd_T48 l1 x5_1).f0) ((rd_T48 l1 x5_1).f1) ((rd_T48 l1 x5_1).f2) ((rd_T48 l1 x5_1).f3) ((rd_T48 l1 x5_1).f4) true _ A7.out).mono ?_
        rintro e w10 ⟨rfl, hb⟩
        refine ⟨_, rfl, ?_⟩
        have n0_ := Aside0.mk (bs_ HB.out hb)
        clear HB
        have HB := n0_
        clear n0_
        (try clear hb)
        (try clear hb2)
        (try clear hk)
        (try clear hi)
        refine hK.out _ _ ⟨((HB.out.cell (World.block_lt_of_cell? w _ hw116_0)).trans hw116_0), ((HB.out.cell (World.block_lt_of_cell? w _ hw116_1)).trans hw116_1), ((HB.out.cell (World.block_lt_of_cell? w _ hw116_2)).trans hw116_2), ((HB.out.cell (World.block_lt_of_cell? w _ hw116_3)).trans hw116_3), ((HB.out.cell (World.block_lt_of_cell? w _ hw116_4)).trans hw116_4), ((HB.out.cell (World.block_lt_of_cell? w _ hw117_0)).trans hw117_0), ((HB.out.cell (World.block_lt_of_cell? w _ hw117_1)).trans hw117_1), ((HB.out.cell (World.block_lt_of_cell? w _ hw117_2)).trans hw117_2), ((HB.out.cell (World.block_lt_of_cell? w _ hw117_3)).trans hw117_3), ((HB.out.cell (World.block_lt_of_cell? w _ hw117_4)).trans hw117_4)⟩ (fun hHeld => ?_)
        clear hK K
        refine norm_ (a' := ?_) ?_ ?_
        rotate_left
        ·show Act.put _ (some 25) _ = _
         simp only [Act.put, List.setIfInBounds_toArray, List.set_cons_zero, List.set_cons_succ, i64_w, i32_w]
         rfl
        refine pu_ 9 26 (bt_ 10 1023) HT_ ?_
        refine done_ (done_of HT_.out (by kernel_rfl)) ?_
        try go_wp2
        go_roundg k1
        case measure => have := HK1.out; omega
        case rel => exact ⟨(wrap64 (x5_1 + 1)), ef_, H', ⟨by have := HK1.out; omega⟩, ⟨bb_ HB.out⟩⟩
       ·replace c8 := Bool.eq_false_iff.mpr c8
        subst c8
        rw [if_neg (show ¬ (false = true) by decide)] at H
        exact absurd H (by simp)
      ·rw [if_neg c6] at H
       exact absurd H (by simp)
     ·rw [if_neg c5] at H
      exact absurd H (by simp)
    ·rw [if_neg c4] at H
     have c4b0 : decide (x5_1 < (l0.length : Int)) = false := decide_eq_false c4
     clear c4
     obtain rfl := Option.some.inj H
     go_wp2
     go_ret
     exact ⟨fin_, bb_ HB.out⟩
 ·rw [if_neg c3] at H
  exact absurd H (by simp)

/-! ### spec_IsWhole: function 9 -/
-- needs:
theorem fiveF_ {W : World} {g : Nat} {t : TypeId} {c0 c1 c2 c3 c4 : Value} (h : W.heap[g]? = some (.cells #[c0, c1, c2, c3, c4] t (0, 0))) (v0 v1 v2 v3 v4 : Value) : (((((W.setCell ⟨g, 0, none⟩ (v0)).setCell ⟨g, 1, none⟩ (v1)).setCell ⟨g, 2, none⟩ (v2)).setCell ⟨g, 3, none⟩ (v3)).setCell ⟨g, 4, none⟩ (v4)).heap[g]? = some (.cells #[v0, v1, v2, v3, v4] t (0, 0)) := by
 have h1 := heap_setCell_same _ g 4 _ t v4 (heap_setCell_same _ g 3 _ t v3 (heap_setCell_same _ g 2 _ t v2 (heap_setCell_same _ g 1 _ t v1 (heap_setCell_same _ g 0 _ t v0 h))))
 exact h1
theorem fiveB_ {w W : World} {g : Nat} (h : Below w.heap.size w W) (hg : w.heap.size ≤ g) (v0 v1 v2 v3 v4 : Value) : Below w.heap.size w (((((W.setCell ⟨g, 0, none⟩ (v0)).setCell ⟨g, 1, none⟩ (v1)).setCell ⟨g, 2, none⟩ (v2)).setCell ⟨g, 3, none⟩ (v3)).setCell ⟨g, 4, none⟩ (v4)) :=
 below_set (below_set (below_set (below_set (below_set h hg) hg) hg) hg) hg
theorem eqAF_ (d : Nat) (w : World) (x0 y0 : Int) (x1 y1 : Int) (x2 y2 : Int) (x3 y3 : Bool) (x4 y4 : Bool) :
  (Op.equalIn (d + 2) 48 (.agg #[.int .i64 x0, .int .i64 x1, .int .i64 x2, .bool x3, .bool x4]) (.agg #[.int .i64 y0, .int .i64 y1, .int .i64 y2, .bool y3, .bool y4])).run Try.prog w = .ok (x0 == y0 && (x1 == y1 && (x2 == y2 && (x3 == y3 && (x4 == y4))))) w := by
 refine eqA_of Try.underlying48 (by kernel_rfl) ?_
 refine eqf_cons (by rfl) (by go_simp; rfl) (by go_simp; rfl) (by go_simp) ?_
 refine eqf_cons (by rfl) (by go_simp; rfl) (by go_simp; rfl) (by go_simp) ?_
 refine eqf_cons (by rfl) (by go_simp; rfl) (by go_simp; rfl) (by go_simp) ?_
 refine eqf_cons (by rfl) (by go_simp; rfl) (by go_simp; rfl) (by go_simp) ?_
 exact eqf_last (by rfl) (by go_simp; rfl) (by go_simp; rfl) (by go_simp)
attribute [local go_sem high] eqAF_
def spec_IsWhole.l0 : Nat → List S48 → Int → Option Bool
 | 0, _, _ => none
 | k + 1, l0, x => if x < (l0.length : Int) then (if 0 ≤ x then (if (!((rd_T48 l0 x).f0 == (rd_T48 l0 0).f0) || (!((rd_T48 l0 x).f1 == (rd_T48 l0 0).f1) || (!((rd_T48 l0 x).f2 == (rd_T48 l0 0).f2) || (!((rd_T48 l0 x).f3 == (x == 0)) || (!((rd_T48 l0 x).f4 == (x == (wrap64 ((l0.length : Int) - 1))))))))) = true then (some false) else (spec_IsWhole.l0 k l0 (wrap64 (x + 1)))) else none) else (some (decide ((l0.length : Int) > 0)))
def spec_IsWhole.f (k : Nat) (l0 : List S48) : Option Bool := spec_IsWhole.l0 k l0 0
theorem spec_IsWhole.mono_l : ∀ k l x, LeO (spec_IsWhole.l0 k l x) (spec_IsWhole.l0 (k + 1) l x)
 | 0, _, _ => fun r h => by simp [spec_IsWhole.l0] at h
 | k + 1, l, x => by
  have ih := spec_IsWhole.mono_l k
  unfold spec_IsWhole.l0
  exact LeO.ite (LeO.ite (LeO.ite (LeO.refl _) (ih _ _)) (LeO.refl _)) (LeO.refl _)
theorem spec_IsWhole.mono (l0 : List S48) : ∀ k, LeO (spec_IsWhole.f k l0) (spec_IsWhole.f (k + 1) l0) := fun k => spec_IsWhole.mono_l k l0 0
theorem spec_IsWhole.e0 {P : Prop} (h : P := by
 repeat (go_quiet (fail); try go_wp2)
 go_ret
 exact ⟨fin_, bb_ HB5.out⟩) : P := h
set_option maxHeartbeats 4000000 in
set_option maxRecDepth 100000 in
theorem spec_IsWhole.calls (k : Nat) (A0 : Option Addr) (c0 : Nat) (l0 : List S48) (r : Bool) (w : World) (hr0 : Kd.C k48 w A0 l0.length l0) (hc0 : l0.length ≤ c0) (h : spec_IsWhole.f k l0 = some r) :
  Calls Try.prog 9 #[.slice A0 l0.length c0] w fun e w' => e = .returned (.bool r) ∧ Below w.heap.size w w' := by
 have hu_ := Try.underlying48
 have HR0 := Aside0.mk hr0
 have HC0 := Aside0.mk hc0
 clear hr0 hc0
 have HB := Aside0.mk (Below.refl w.heap.size w)
 have H' := Aside0.mk h
 clear h
 go_enter Try.func9, Try.ntmps9
 go_wp2
 repeat (go_quiet (fail); try go_wp2)
 go_loopg [3] k (fun kq v3 w' => ∃ (x : Int), v3 = .int .i64 x ∧ Aside0 (spec_IsWhole.l0 kq l0 x = some r) ∧ Aside0 (kq ≤ k) ∧ Aside0 (Below w.heap.size w w'))
 case atStart => exact ⟨(0), ef_, H', ⟨Nat.le_refl _⟩, ⟨bb_ HB.out⟩⟩
 case round =>
  clear H'
  obtain ⟨x, rfl, HA, HK1, HB⟩ := hrel
  cases gk with
  | zero => exact absurd HA.out (by simp [spec_IsWhole.l0])
  | succ k1 =>
   have H := HA.out
   clear HA
   simp only [spec_IsWhole.l0] at H
   by_cases q1 : x < (l0.length : Int)
   ·rw [if_pos q1] at H
    by_cases q2 : 0 ≤ x
    ·rw [if_pos q2] at H
     have q3 : 0 < (l0.length : Int) := by omega
     have q0 : 0 ≤ (0 : Int) := Int.le_refl 0
     obtain ⟨ad, e0, hx0, hx1, hx2, hx3, hx4⟩ := at_T48 HR0.out x q2 q1
     cases e0
     obtain ⟨ad2, e1, hy0, hy1, hy2, hy3, hy4⟩ := at_T48 HR0.out 0 q0 q3
     obtain rfl : ad = ad2 := by injection e1
     have ea : ad.add ((0 : Int).toNat * 5) = ad := Addr.add_zero' _
     rw [ea] at hy0 hy1 hy2 hy3 hy4
     clear ea e1 q0
     replace hx0 := (HB.out.cell (World.block_lt_of_cell? w _ hx0)).trans hx0
     replace hx1 := (HB.out.cell (World.block_lt_of_cell? w _ hx1)).trans hx1
     replace hx2 := (HB.out.cell (World.block_lt_of_cell? w _ hx2)).trans hx2
     replace hx3 := (HB.out.cell (World.block_lt_of_cell? w _ hx3)).trans hx3
     replace hx4 := (HB.out.cell (World.block_lt_of_cell? w _ hx4)).trans hx4
     have Y0 := Aside0.mk hy0
     have Y1 := Aside0.mk hy1
     have Y2 := Aside0.mk hy2
     have Y3 := Aside0.mk hy3
     have Y4 := Aside0.mk hy4
     clear hy0 hy1 hy2 hy3 hy4
     have q1b : decide (x < (l0.length : Int)) = true := decide_eq_true q1
     have q2b : decide (0 ≤ x) = true := decide_eq_true q2
     have q3b : decide (0 < (l0.length : Int)) = true := decide_eq_true q3
     have q3c : (0 < l0.length) = True := eq_true (by omega)
     replace q1 := eq_true q1
     replace q2 := eq_true q2
     replace q3 := eq_true q3
     by_cases c6 : (!((rd_T48 l0 x).f0 == (rd_T48 l0 0).f0) || (!((rd_T48 l0 x).f1 == (rd_T48 l0 0).f1) || (!((rd_T48 l0 x).f2 == (rd_T48 l0 0).f2) || (!((rd_T48 l0 x).f3 == (x == 0)) || (!((rd_T48 l0 x).f4 == (x == (wrap64 ((l0.length : Int) - 1))))))))) = true
     ·rw [if_pos c6] at H
      obtain rfl := Option.some.inj H
      clear H
      have C6 := Aside0.mk c6
      clear c6
      go_wp2_with (first | ((with_reducible refine gate_dst (N := 4) rfl ?_); refine box_event ?hg (N := 4) ?hd (cs := #[.int .i64 0, .int .i64 0, .int .i64 0, .bool false, .bool false]) (t := 48) ?hr ?_; (case hd => rfl); (case hg => rfl); (case hr => first | (go_simp; done) | (go_simp; rfl)); intro gb hg w7 hbox hb; have BK := Aside0.mk hbox; have GE := Aside0.mk (show w.heap.size ≤ gb by rw [hg]; exact below_size HB.out); have HBX := Aside0.mk (below_step HB.out hb); clear HB; have HB := HBX; clear HBX; clear hb hbox hg; have hz0 := (blk_cell BK.out 0).trans rfl; have hz1 := (blk_cell BK.out 1).trans rfl; have hz2 := (blk_cell BK.out 2).trans rfl; have hz3 := (blk_cell BK.out 3).trans rfl; have hz4 := (blk_cell BK.out 4).trans rfl; have hf0 := blk_frozen BK.out 0; have hf1 := blk_frozen BK.out 1; have hf2 := blk_frozen BK.out 2; have hf3 := blk_frozen BK.out 3; have hf4 := blk_frozen BK.out 4))
      have BK5 := Aside0.mk (fiveF_ BK.out (.int .i64 (rd_T48 l0 x).f0) (.int .i64 (rd_T48 l0 x).f1) (.int .i64 (rd_T48 l0 x).f2) (.bool (rd_T48 l0 x).f3) (.bool (rd_T48 l0 x).f4))
      have HB5 := Aside0.mk (fiveB_ HB.out GE.out (.int .i64 (rd_T48 l0 x).f0) (.int .i64 (rd_T48 l0 x).f1) (.int .i64 (rd_T48 l0 x).f2) (.bool (rd_T48 l0 x).f3) (.bool (rd_T48 l0 x).f4))
      generalize hW : (((((w7.setCell ⟨gb, 0, none⟩ (.int .i64 (rd_T48 l0 x).f0)).setCell ⟨gb, 1, none⟩ (.int .i64 (rd_T48 l0 x).f1)).setCell ⟨gb, 2, none⟩ (.int .i64 (rd_T48 l0 x).f2)).setCell ⟨gb, 3, none⟩ (.bool (rd_T48 l0 x).f3)).setCell ⟨gb, 4, none⟩ (.bool (rd_T48 l0 x).f4)) = W at BK5 HB5 ⊢
      clear hW HB BK GE hx0 hx1 hx2 hx3 hx4 hz0 hz1 hz2 hz3 hz4 hf0 hf1 hf2 hf3 hf4
      have hz0 := (blk_cell BK5.out 0).trans rfl
      have hz1 := (blk_cell BK5.out 1).trans rfl
      have hz2 := (blk_cell BK5.out 2).trans rfl
      have hz3 := (blk_cell BK5.out 3).trans rfl
      have hz4 := (blk_cell BK5.out 4).trans rfl
      have hy0 := (HB5.out.cell (World.block_lt_of_cell? w _ Y0.out)).trans Y0.out
      have hy1 := (HB5.out.cell (World.block_lt_of_cell? w _ Y1.out)).trans Y1.out
      have hy2 := (HB5.out.cell (World.block_lt_of_cell? w _ Y2.out)).trans Y2.out
      have hy3 := (HB5.out.cell (World.block_lt_of_cell? w _ Y3.out)).trans Y3.out
      have hy4 := (HB5.out.cell (World.block_lt_of_cell? w _ Y4.out)).trans Y4.out
      by_cases d0 : (rd_T48 l0 x).f0 = (rd_T48 l0 0).f0
      rotate_left
      ·clear C6
       have p0a : ((rd_T48 l0 x).f0 == (rd_T48 l0 0).f0) = false := beq_eq_false_iff_ne.mpr d0
       have p0b : ((rd_T48 l0 x).f0 != (rd_T48 l0 0).f0) = true := bne_iff_ne.mpr d0
       clear d0
       exact spec_IsWhole.e0
      have p0a : ((rd_T48 l0 x).f0 == (rd_T48 l0 0).f0) = true := beq_iff_eq.mpr d0
      have p0b : ((rd_T48 l0 x).f0 != (rd_T48 l0 0).f0) = false := bne_eq_false_iff_eq.mpr d0
      by_cases d1 : (rd_T48 l0 x).f1 = (rd_T48 l0 0).f1
      rotate_left
      ·clear C6
       have p1a : ((rd_T48 l0 x).f1 == (rd_T48 l0 0).f1) = false := beq_eq_false_iff_ne.mpr d1
       have p1b : ((rd_T48 l0 x).f1 != (rd_T48 l0 0).f1) = true := bne_iff_ne.mpr d1
       clear d1
       exact spec_IsWhole.e0
      have p1a : ((rd_T48 l0 x).f1 == (rd_T48 l0 0).f1) = true := beq_iff_eq.mpr d1
      have p1b : ((rd_T48 l0 x).f1 != (rd_T48 l0 0).f1) = false := bne_eq_false_iff_eq.mpr d1
      by_cases d2 : (rd_T48 l0 x).f2 = (rd_T48 l0 0).f2
      rotate_left
      ·clear C6
       have p2a : ((rd_T48 l0 x).f2 == (rd_T48 l0 0).f2) = false := beq_eq_false_iff_ne.mpr d2
       have p2b : ((rd_T48 l0 x).f2 != (rd_T48 l0 0).f2) = true := bne_iff_ne.mpr d2
       clear d2
       exact spec_IsWhole.e0
      have p2a : ((rd_T48 l0 x).f2 == (rd_T48 l0 0).f2) = true := beq_iff_eq.mpr d2
      have p2b : ((rd_T48 l0 x).f2 != (rd_T48 l0 0).f2) = false := bne_eq_false_iff_eq.mpr d2
      by_cases d3 : (rd_T48 l0 x).f3 = (x == 0)
      rotate_left
      ·clear C6
       have p3a : ((rd_T48 l0 x).f3 == (x == 0)) = false := beq_eq_false_iff_ne.mpr d3
       have p3b : ((rd_T48 l0 x).f3 != (x == 0)) = true := bne_iff_ne.mpr d3
       clear d3
       exact spec_IsWhole.e0
      have p3a : ((rd_T48 l0 x).f3 == (x == 0)) = true := beq_iff_eq.mpr d3
      have p3b : ((rd_T48 l0 x).f3 != (x == 0)) = false := bne_eq_false_iff_eq.mpr d3
      by_cases d4 : (rd_T48 l0 x).f4 = (x == (wrap64 ((l0.length : Int) - 1)))
      rotate_left
      ·clear C6
       have p4a : ((rd_T48 l0 x).f4 == (x == (wrap64 ((l0.length : Int) - 1)))) = false := beq_eq_false_iff_ne.mpr d4
       have p4b : ((rd_T48 l0 x).f4 != (x == (wrap64 ((l0.length : Int) - 1)))) = true := bne_iff_ne.mpr d4
       clear d4
       exact spec_IsWhole.e0
      have p4a : ((rd_T48 l0 x).f4 == (x == (wrap64 ((l0.length : Int) - 1)))) = true := beq_iff_eq.mpr d4
      have p4b : ((rd_T48 l0 x).f4 != (x == (wrap64 ((l0.length : Int) - 1)))) = false := bne_eq_false_iff_eq.mpr d4
      exact absurd C6.out (by simp [p0a, p1a, p2a, p3a, p4a])
     ·rw [if_neg c6] at H
      have H' := Aside0.mk H
      clear H
      have C6 := Aside0.mk (eq_false_of_ne_true c6)
      clear c6
      go_wp2_with (first | ((with_reducible refine gate_dst (N := 4) rfl ?_); refine box_event ?hg (N := 4) ?hd (cs := #[.int .i64 0, .int .i64 0, .int .i64 0, .bool false, .bool false]) (t := 48) ?hr ?_; (case hd => rfl); (case hg => rfl); (case hr => first | (go_simp; done) | (go_simp; rfl)); intro gb hg w7 hbox hb; have BK := Aside0.mk hbox; have GE := Aside0.mk (show w.heap.size ≤ gb by rw [hg]; exact below_size HB.out); have HBX := Aside0.mk (below_step HB.out hb); clear HB; have HB := HBX; clear HBX; clear hb hbox hg; have hz0 := (blk_cell BK.out 0).trans rfl; have hz1 := (blk_cell BK.out 1).trans rfl; have hz2 := (blk_cell BK.out 2).trans rfl; have hz3 := (blk_cell BK.out 3).trans rfl; have hz4 := (blk_cell BK.out 4).trans rfl; have hf0 := blk_frozen BK.out 0; have hf1 := blk_frozen BK.out 1; have hf2 := blk_frozen BK.out 2; have hf3 := blk_frozen BK.out 3; have hf4 := blk_frozen BK.out 4))
      have BK5 := Aside0.mk (fiveF_ BK.out (.int .i64 (rd_T48 l0 x).f0) (.int .i64 (rd_T48 l0 x).f1) (.int .i64 (rd_T48 l0 x).f2) (.bool (rd_T48 l0 x).f3) (.bool (rd_T48 l0 x).f4))
      have HB5 := Aside0.mk (fiveB_ HB.out GE.out (.int .i64 (rd_T48 l0 x).f0) (.int .i64 (rd_T48 l0 x).f1) (.int .i64 (rd_T48 l0 x).f2) (.bool (rd_T48 l0 x).f3) (.bool (rd_T48 l0 x).f4))
      generalize hW : (((((w7.setCell ⟨gb, 0, none⟩ (.int .i64 (rd_T48 l0 x).f0)).setCell ⟨gb, 1, none⟩ (.int .i64 (rd_T48 l0 x).f1)).setCell ⟨gb, 2, none⟩ (.int .i64 (rd_T48 l0 x).f2)).setCell ⟨gb, 3, none⟩ (.bool (rd_T48 l0 x).f3)).setCell ⟨gb, 4, none⟩ (.bool (rd_T48 l0 x).f4)) = W at BK5 HB5 ⊢
      clear hW HB BK GE hx0 hx1 hx2 hx3 hx4 hz0 hz1 hz2 hz3 hz4 hf0 hf1 hf2 hf3 hf4
      have hz0 := (blk_cell BK5.out 0).trans rfl
      have hz1 := (blk_cell BK5.out 1).trans rfl
      have hz2 := (blk_cell BK5.out 2).trans rfl
      have hz3 := (blk_cell BK5.out 3).trans rfl
      have hz4 := (blk_cell BK5.out 4).trans rfl
      have hy0 := (HB5.out.cell (World.block_lt_of_cell? w _ Y0.out)).trans Y0.out
      have hy1 := (HB5.out.cell (World.block_lt_of_cell? w _ Y1.out)).trans Y1.out
      have hy2 := (HB5.out.cell (World.block_lt_of_cell? w _ Y2.out)).trans Y2.out
      have hy3 := (HB5.out.cell (World.block_lt_of_cell? w _ Y3.out)).trans Y3.out
      have hy4 := (HB5.out.cell (World.block_lt_of_cell? w _ Y4.out)).trans Y4.out
      have c6 := C6.out
      have p0a : ((rd_T48 l0 x).f0 == (rd_T48 l0 0).f0) = true := by
       cases h : ((rd_T48 l0 x).f0 == (rd_T48 l0 0).f0) with
       | true => rfl
       | false => exact absurd c6 (by simp [h])
      have p0b : ((rd_T48 l0 x).f0 != (rd_T48 l0 0).f0) = false := by rw [bne, p0a]; rfl
      have p1a : ((rd_T48 l0 x).f1 == (rd_T48 l0 0).f1) = true := by
       cases h : ((rd_T48 l0 x).f1 == (rd_T48 l0 0).f1) with
       | true => rfl
       | false => exact absurd c6 (by simp [h])
      have p1b : ((rd_T48 l0 x).f1 != (rd_T48 l0 0).f1) = false := by rw [bne, p1a]; rfl
      have p2a : ((rd_T48 l0 x).f2 == (rd_T48 l0 0).f2) = true := by
       cases h : ((rd_T48 l0 x).f2 == (rd_T48 l0 0).f2) with
       | true => rfl
       | false => exact absurd c6 (by simp [h])
      have p2b : ((rd_T48 l0 x).f2 != (rd_T48 l0 0).f2) = false := by rw [bne, p2a]; rfl
      have p3a : ((rd_T48 l0 x).f3 == (x == 0)) = true := by
       cases h : ((rd_T48 l0 x).f3 == (x == 0)) with
       | true => rfl
       | false => exact absurd c6 (by simp [h])
      have p3b : ((rd_T48 l0 x).f3 != (x == 0)) = false := by rw [bne, p3a]; rfl
      have p4a : ((rd_T48 l0 x).f4 == (x == (wrap64 ((l0.length : Int) - 1)))) = true := by
       cases h : ((rd_T48 l0 x).f4 == (x == (wrap64 ((l0.length : Int) - 1)))) with
       | true => rfl
       | false => exact absurd c6 (by simp [h])
      have p4b : ((rd_T48 l0 x).f4 != (x == (wrap64 ((l0.length : Int) - 1)))) = false := by rw [bne, p4a]; rfl
      clear c6 C6
      repeat (go_quiet (fail); try go_wp2)
      go_roundg k1
      case measure => have := HK1.out; omega
      case rel => exact ⟨(wrap64 (x + 1)), ef_, H', ⟨by have := HK1.out; omega⟩, ⟨bb_ HB5.out⟩⟩
    ·rw [if_neg q2] at H
     exact absurd H (by simp)
   ·rw [if_neg q1] at H
    have q1b : decide (x < (l0.length : Int)) = false := decide_eq_false q1
    clear q1
    obtain rfl := Option.some.inj H
    go_wp2
    repeat (go_quiet (fail); try go_wp2)
    go_ret
    exact ⟨fin_, bb_ HB.out⟩

end Go.Proofs.Ytjialkmfmpkjgaa.PFnExactWholePackets
-- thin
