/- Each function that the law comes to, as a plain function, with the proof that the call in the model gives what that function says (written by a program of this session out of the translation). No condition. -/
import Derived.Test.YtaofkfooijfjbaaPFnExactArrivedAtx0
import Derived.Test.YtaofkfooijfjbaaPFnExactArrivedAtx2
namespace Go.Proofs.Ytaofkfooijfjbaa.PFnExactArrivedAt
open Go.RowKit Go.Proofs.YtaofkfooijfjbaaW.PrintWords Go.Proofs.YtaofkfooijfjbaaW.PrintLast Go.Proofs.YtaofkfooijfjbaaW.PrintMore
attribute [local go_sem] max2_int min2_int max_two min_two max_three min_three max_four min_four   -- for this text's walks alone
set_option linter.unusedVariables false
set_option linter.unusedSimpArgs false

/-! ### laws_toMesh: function 19 -/
def laws_toMesh.f (k : Nat) (a0_0 : Int) (a0_1 : Int) (l0_2 : List Int) : Option (Int × Int × List Int) := (laws_toGrid.f a0_0 a0_1).bind fun bt156 => ((laws_toIntS.f k l0_2).bind fun t158 => (some (bt156.1, bt156.2, t158)))
theorem laws_toMesh.mono : ∀ a0 a1 a2 k, LeO (laws_toMesh.f k a0 a1 a2) (laws_toMesh.f (k + 1) a0 a1 a2) := by
 intro a0 a1 a2 k
 unfold laws_toMesh.f
 repeat' first
   | (with_reducible exact laws_toIntS.mono _ _)
   | (with_reducible exact LeO.refl _)
   | (with_reducible exact LeO.none _)
   | (with_reducible refine LeO.ite ?_ ?_)
   | (with_reducible refine LeO.bind ?_ (fun _ => ?_))
   | exact laws_toIntS.mono _ _
   | exact LeO.none _
   | refine LeO.ite ?_ ?_
   | refine LeO.bind ?_ (fun _ => ?_)
set_option maxHeartbeats 8000000 in
set_option maxRecDepth 100000 in
theorem laws_toMesh.calls (k : Nat) (a0_0 : Int) (a0_1 : Int) (A0_2 : Option Addr) (c0_2 : Nat) (l0_2 : List Int) (r1 : Int) (r2 : Int) (r3 : List Int) (w : World) (hr0_2 : Kd.C (Kd.int .i64) w A0_2 l0_2.length l0_2) (hc0_2 : l0_2.length ≤ c0_2) (h : laws_toMesh.f k a0_0 a0_1 l0_2 = some (r1, r2, r3)) :
  Calls Try.prog 19 #[.agg #[.int .i64 a0_0, .int .i64 a0_1, .slice A0_2 l0_2.length c0_2]] w fun e w' => ∃ v2_ : Value, e = .returned (.agg #[.int .i64 r1, .int .i64 r2, v2_]) ∧ Kd.R (Kd.int .i64) 3 w' w.heap.size (fun _ => True) v2_ r3 ∧ Below w.heap.size w w' := by
 have hu46 := Try.underlying46
 have hu28 := Try.underlying28
 have hu44 := Try.underlying44
 have hu25 := Try.underlying25
 have HR0_2 := Aside0.mk hr0_2
 have HC0_2 := Aside0.mk hc0_2
 clear hr0_2 hc0_2
 have HB := Aside0.mk (Below.refl w.heap.size w)
 have H : ((laws_toGrid.f a0_0 a0_1).bind fun bt156 => ((laws_toIntS.f k l0_2).bind fun t158 => (some (bt156.1, bt156.2, t158)))) = some (r1, r2, r3) := h
 clear h
 replace H := Option.bind_eq_some_iff.mp H
 obtain ⟨⟨t156, t157⟩, A20, H⟩ := H
 try dsimp only at H
 have A2 := Aside0.mk A20
 clear A20
 replace H := Option.bind_eq_some_iff.mp H
 obtain ⟨t158, A30, H⟩ := H
 try dsimp only at H
 have A3 := Aside0.mk A30
 clear A30
 simp only [Option.some.injEq, Prod.mk.injEq] at H
 obtain ⟨rfl, rfl, rfl⟩ := H
 go_enter Try.func19, Try.ntmps19
 go_wp2_with (first | ((with_reducible refine gate_dst (N := 1) rfl ?_); refine box_event ?hg (N := 1) ?hd (cs := #[.int .i64 a0_0, .int .i64 a0_1, .slice A0_2 l0_2.length c0_2]) (t := 46) ?hr ?_; (case hd => rfl); (case hg => rfl); (case hr => first | (go_simp; done) | (go_simp; rfl)); intro gb153 hg w4 hbox hb; have BK153 := Aside0.mk (hbox); have GW153 := Aside0.mk ((by rw [hg]; exact (bz_ HB.out) : w.heap.size ≤ gb153)); have GE153 := Aside0.mk ((by rw [hg]; exact (bz_ HB.out) : w.heap.size ≤ gb153)); replace HB := Aside0.mk (bs_ HB.out hb); clear hb hbox hg) | ((with_reducible refine gate_dst (N := 2) rfl ?_); refine box_event ?hg (N := 2) ?hd (cs := #[.int .i64 0, .int .i64 0, .slice none 0 0]) (t := 28) ?hr ?_; (case hd => rfl); (case hg => rfl); (case hr => first | (go_simp; done) | (go_simp; rfl)); intro gb154 hg w5 hbox hb; have BK154 := Aside0.mk (hbox); have GW154 := Aside0.mk ((by rw [hg]; exact (bz_ HB.out) : w.heap.size ≤ gb154)); have GE154 := Aside0.mk ((by rw [hg]; exact (bz_ HB.out) : w.heap.size ≤ gb154)); replace HB := Aside0.mk (bs_ HB.out hb); have NB153_154 := Aside0.mk ((by rw [hg]; exact Nat.ne_of_lt (bl_ BK153.out) : gb153 ≠ gb154)); have NB154_153 := Aside0.mk ((by rw [hg]; exact Nat.ne_of_gt (bl_ BK153.out) : gb154 ≠ gb153)); replace BK153 := Aside0.mk (bk_ BK153.out hb); clear hb hbox hg) | ((with_reducible refine gate_dst (N := 3) rfl ?_); refine box_event ?hg (N := 3) ?hd (cs := #[.int .i64 0, .int .i64 0, .slice none 0 0]) (t := 28) ?hr ?_; (case hd => rfl); (case hg => rfl); (case hr => first | (go_simp; done) | (go_simp; rfl)); intro gb155 hg w6 hbox hb; have BK155 := Aside0.mk (hbox); have GW155 := Aside0.mk ((by rw [hg]; exact (bz_ HB.out) : w.heap.size ≤ gb155)); have GE155 := Aside0.mk ((by rw [hg]; exact (bz_ HB.out) : w.heap.size ≤ gb155)); replace HB := Aside0.mk (bs_ HB.out hb); have NB153_155 := Aside0.mk ((by rw [hg]; exact Nat.ne_of_lt (bl_ BK153.out) : gb153 ≠ gb155)); have NB155_153 := Aside0.mk ((by rw [hg]; exact Nat.ne_of_gt (bl_ BK153.out) : gb155 ≠ gb153)); replace BK153 := Aside0.mk (bk_ BK153.out hb); have NB154_155 := Aside0.mk ((by rw [hg]; exact Nat.ne_of_lt (bl_ BK154.out) : gb154 ≠ gb155)); have NB155_154 := Aside0.mk ((by rw [hg]; exact Nat.ne_of_gt (bl_ BK154.out) : gb155 ≠ gb154)); replace BK154 := Aside0.mk (bk_ BK154.out hb); clear hb hbox hg; have hnb7 := NB153_154.out; have hnc7 := NB154_153.out; have hnb8 := NB153_155.out; have hnc8 := NB155_153.out; obtain ⟨hcz9_0, hcz9_1, hcz9_2, hfz9_0, hfz9_1, hfz9_2⟩ := cz3_ BK153.out) | ((with_reducible refine gate_callee (f := 57) rfl ?_); refine gm_ (some 6) Try.func57 #[.agg #[.int .i64 a0_0, .int .i64 a0_1]] rfl ?_; (with_reducible refine (laws_toGrid.calls a0_0 a0_1 t156 t157 _ A2.out).mono ?_); rintro e w10 ⟨rfl, hb⟩; refine ⟨_, rfl, ?_⟩; replace BK153 := Aside0.mk (bk_ BK153.out hb); replace BK154 := Aside0.mk (bk_ BK154.out hb); replace BK155 := Aside0.mk (bk_ BK155.out hb); replace HB := Aside0.mk (bs_ HB.out hb); (try clear hb); have hnb11 := NB155_154.out; have hnc11 := NB154_155.out; obtain ⟨hcz12_0, hcz12_1, hcz12_2, hfz12_0, hfz12_1, hfz12_2⟩ := cz3_ BK155.out; obtain ⟨hcz13_0, hcz13_1, hcz13_2, hfz13_0, hfz13_1, hfz13_2⟩ := cz3_ BK153.out) | ((with_reducible refine gate_callee (f := 58) rfl ?_); refine gm_ (some 10) Try.func58 #[.slice A0_2 l0_2.length c0_2] rfl ?_; (with_reducible refine (laws_toIntS.calls k _ _ l0_2 t158 _ ?side1 HC0_2.out A3.out).mono ?_); (case side1 => exact Kd.C_below HR0_2.out (by repeat (first | (with_reducible first | exact HB.out | apply below_alloc | apply pw_below_drewN | apply below_drew1 | refine below_set ?_ GE153.out | refine below_set ?_ GE154.out | refine below_set ?_ GE155.out) | exact HB.out))); rintro e w14 ⟨v159, rfl, ho0, hb⟩; refine ⟨_, rfl, ?_⟩; have HO160 := Aside0.mk (Kd.R_lower ho0 (bz_ HB.out)); replace BK153 := Aside0.mk (blk_below (bf_ BK153.out) hb); replace BK154 := Aside0.mk (blk_below (bf_ BK154.out) hb); replace BK155 := Aside0.mk (blk_below (g := gb155) (o := .cells #[.int .i64 t156, .int .i64 t157, .slice none 0 0] 28 (0, 0)) (by (with_reducible repeat (first | refine blk_drewN ?_ _ | refine blk_drew ?_ | refine blk_alloc ?_ _)); refine blk_put (cs := #[.int .i64 t156, .int .i64 0, .slice none 0 0]) ?_ 1 _ rfl; (with_reducible repeat (first | refine blk_drewN ?_ _ | refine blk_drew ?_ | refine blk_alloc ?_ _)); refine blk_put (cs := #[.int .i64 0, .int .i64 0, .slice none 0 0]) ?_ 0 _ rfl; (with_reducible repeat (first | refine blk_drewN ?_ _ | refine blk_drew ?_ | refine blk_alloc ?_ _)); exact BK155.out) hb); replace HB := Aside0.mk (bs_ HB.out hb); (try clear hb); (try clear ho0); obtain ⟨Ao15, co15, eo15⟩ := Kd.R_slice HO160.out; subst eo15; obtain ⟨hcz16_0, hcz16_1, hcz16_2, hfz16_0, hfz16_1, hfz16_2⟩ := cz3_ BK155.out; obtain ⟨hcz17_0, hcz17_1, hcz17_2, hfz17_0, hfz17_1, hfz17_2⟩ := cz3_ BK154.out))
 refine bodyPost_ret (results_cell_row rfl _ _ gb154 28 #[.int .i64 t156, .int .i64 t157, .slice Ao15 t158.length co15] (0, 0) _ rfl (by (with_reducible repeat (first | refine blk_drewN ?_ _ | refine blk_drew ?_ | refine blk_alloc ?_ _)); refine blk_put (cs := #[.int .i64 t156, .int .i64 t157, .slice none 0 0]) ?_ 2 _ rfl; (with_reducible repeat (first | refine blk_drewN ?_ _ | refine blk_drew ?_ | refine blk_alloc ?_ _)); refine blk_put (cs := #[.int .i64 t156, .int .i64 0, .slice none 0 0]) ?_ 1 _ rfl; (with_reducible repeat (first | refine blk_drewN ?_ _ | refine blk_drew ?_ | refine blk_alloc ?_ _)); refine blk_put (cs := #[.int .i64 0, .int .i64 0, .slice none 0 0]) ?_ 0 _ rfl; (with_reducible repeat (first | refine blk_drewN ?_ _ | refine blk_drew ?_ | refine blk_alloc ?_ _)); refine blk_far ?_ NB154_155.out _; (with_reducible repeat (first | refine blk_drewN ?_ _ | refine blk_drew ?_ | refine blk_alloc ?_ _)); exact BK154.out) Try.underlying28 rfl (by kernel_rfl)) rfl ?_
 exact ⟨_, fin_, rm_ (Kd.R_types (Kd.R_types HO160.out BK155.out (by decide)) BK154.out (by decide)) (fun _ hk => trivial), bb_ HB.out⟩

/-! ### laws_toTable: function 59 -/
def laws_toTable.f (k : Nat) (l0_0 : List Int) : Option (List Int) := (laws_toIntS.f k l0_0).bind fun t164 => (some t164)
theorem laws_toTable.mono : ∀ a0 k, LeO (laws_toTable.f k a0) (laws_toTable.f (k + 1) a0) := by
 intro a0 k
 unfold laws_toTable.f
 repeat' first
   | (with_reducible exact laws_toIntS.mono _ _)
   | (with_reducible exact LeO.refl _)
   | (with_reducible exact LeO.none _)
   | (with_reducible refine LeO.ite ?_ ?_)
   | (with_reducible refine LeO.bind ?_ (fun _ => ?_))
   | exact laws_toIntS.mono _ _
   | exact LeO.none _
   | refine LeO.ite ?_ ?_
   | refine LeO.bind ?_ (fun _ => ?_)
set_option maxHeartbeats 8000000 in
set_option maxRecDepth 100000 in
theorem laws_toTable.calls (k : Nat) (A0_0 : Option Addr) (c0_0 : Nat) (l0_0 : List Int) (r : List Int) (w : World) (hr0_0 : Kd.C (Kd.int .i64) w A0_0 l0_0.length l0_0) (hc0_0 : l0_0.length ≤ c0_0) (h : laws_toTable.f k l0_0 = some r) :
  Calls Try.prog 59 #[.agg #[.slice A0_0 l0_0.length c0_0]] w fun e w' => ∃ v0_ : Value, e = .returned (.agg #[v0_]) ∧ Kd.R (Kd.int .i64) 3 w' w.heap.size (fun _ => True) v0_ r ∧ Below w.heap.size w w' := by
 have hu47 := Try.underlying47
 have hu30 := Try.underlying30
 have HR0_0 := Aside0.mk hr0_0
 have HC0_0 := Aside0.mk hc0_0
 clear hr0_0 hc0_0
 have HB := Aside0.mk (Below.refl w.heap.size w)
 have H : ((laws_toIntS.f k l0_0).bind fun t164 => (some t164)) = some r := h
 clear h
 replace H := Option.bind_eq_some_iff.mp H
 obtain ⟨t164, A20, H⟩ := H
 try dsimp only at H
 have A2 := Aside0.mk A20
 clear A20
 obtain rfl := Option.some.inj H
 go_enter Try.func59, Try.ntmps59
 go_wp2_with (first | ((with_reducible refine gate_dst (N := 1) rfl ?_); refine box_event ?hg (N := 1) ?hd (cs := #[.slice A0_0 l0_0.length c0_0]) (t := 47) ?hr ?_; (case hd => rfl); (case hg => rfl); (case hr => first | (go_simp; done) | (go_simp; rfl)); intro gb161 hg w3 hbox hb; have BK161 := Aside0.mk (hbox); have GW161 := Aside0.mk ((by rw [hg]; exact (bz_ HB.out) : w.heap.size ≤ gb161)); have GE161 := Aside0.mk ((by rw [hg]; exact (bz_ HB.out) : w.heap.size ≤ gb161)); replace HB := Aside0.mk (bs_ HB.out hb); clear hb hbox hg) | ((with_reducible refine gate_dst (N := 2) rfl ?_); refine box_event ?hg (N := 2) ?hd (cs := #[.slice none 0 0]) (t := 30) ?hr ?_; (case hd => rfl); (case hg => rfl); (case hr => first | (go_simp; done) | (go_simp; rfl)); intro gb162 hg w4 hbox hb; have BK162 := Aside0.mk (hbox); have GW162 := Aside0.mk ((by rw [hg]; exact (bz_ HB.out) : w.heap.size ≤ gb162)); have GE162 := Aside0.mk ((by rw [hg]; exact (bz_ HB.out) : w.heap.size ≤ gb162)); replace HB := Aside0.mk (bs_ HB.out hb); have NB161_162 := Aside0.mk ((by rw [hg]; exact Nat.ne_of_lt (bl_ BK161.out) : gb161 ≠ gb162)); have NB162_161 := Aside0.mk ((by rw [hg]; exact Nat.ne_of_gt (bl_ BK161.out) : gb162 ≠ gb161)); replace BK161 := Aside0.mk (bk_ BK161.out hb); clear hb hbox hg) | ((with_reducible refine gate_dst (N := 3) rfl ?_); refine box_event ?hg (N := 3) ?hd (cs := #[.slice none 0 0]) (t := 30) ?hr ?_; (case hd => rfl); (case hg => rfl); (case hr => first | (go_simp; done) | (go_simp; rfl)); intro gb163 hg w5 hbox hb; have BK163 := Aside0.mk (hbox); have GW163 := Aside0.mk ((by rw [hg]; exact (bz_ HB.out) : w.heap.size ≤ gb163)); have GE163 := Aside0.mk ((by rw [hg]; exact (bz_ HB.out) : w.heap.size ≤ gb163)); replace HB := Aside0.mk (bs_ HB.out hb); have NB161_163 := Aside0.mk ((by rw [hg]; exact Nat.ne_of_lt (bl_ BK161.out) : gb161 ≠ gb163)); have NB163_161 := Aside0.mk ((by rw [hg]; exact Nat.ne_of_gt (bl_ BK161.out) : gb163 ≠ gb161)); replace BK161 := Aside0.mk (bk_ BK161.out hb); have NB162_163 := Aside0.mk ((by rw [hg]; exact Nat.ne_of_lt (bl_ BK162.out) : gb162 ≠ gb163)); have NB163_162 := Aside0.mk ((by rw [hg]; exact Nat.ne_of_gt (bl_ BK162.out) : gb163 ≠ gb162)); replace BK162 := Aside0.mk (bk_ BK162.out hb); clear hb hbox hg; have hnb6 := NB161_162.out; have hnc6 := NB162_161.out; have hnb7 := NB161_163.out; have hnc7 := NB163_161.out; obtain ⟨hcz8_0, hfz8_0⟩ := cz1_ BK161.out) | ((with_reducible refine gate_callee (f := 58) rfl ?_); refine gm_ (some 6) Try.func58 #[.slice A0_0 l0_0.length c0_0] rfl ?_; (with_reducible refine (laws_toIntS.calls k _ _ l0_0 t164 _ ?side1 HC0_0.out A2.out).mono ?_); (case side1 => exact cb_ HR0_0.out HB.out); rintro e w9 ⟨v165, rfl, ho0, hb⟩; refine ⟨_, rfl, ?_⟩; have HO166 := Aside0.mk (Kd.R_lower ho0 (bz_ HB.out)); replace BK161 := Aside0.mk (bk_ BK161.out hb); replace BK162 := Aside0.mk (bk_ BK162.out hb); replace BK163 := Aside0.mk (bk_ BK163.out hb); replace HB := Aside0.mk (bs_ HB.out hb); (try clear hb); (try clear ho0); obtain ⟨Ao10, co10, eo10⟩ := Kd.R_slice HO166.out; subst eo10; have hnb11 := NB163_162.out; have hnc11 := NB162_163.out; obtain ⟨hcz12_0, hfz12_0⟩ := cz1_ BK163.out; obtain ⟨hcz13_0, hfz13_0⟩ := cz1_ BK162.out))
 refine bodyPost_ret (results_cell_row rfl _ _ gb162 30 #[.slice Ao10 t164.length co10] (0, 0) _ rfl (by (with_reducible repeat (first | refine blk_drewN ?_ _ | refine blk_drew ?_ | refine blk_alloc ?_ _)); refine blk_put (cs := #[.slice none 0 0]) ?_ 0 _ rfl; (with_reducible repeat (first | refine blk_drewN ?_ _ | refine blk_drew ?_ | refine blk_alloc ?_ _)); refine blk_far ?_ NB162_163.out _; (with_reducible repeat (first | refine blk_drewN ?_ _ | refine blk_drew ?_ | refine blk_alloc ?_ _)); exact BK162.out) Try.underlying30 rfl (by kernel_rfl)) rfl ?_
 exact ⟨_, fin_, rm_ (Kd.R_types (Kd.R_types HO166.out BK163.out (by decide)) BK162.out (by decide)) (fun _ hk => trivial), bb_ HB.out⟩

/-! ### laws_toClasses: function 20 -/
def laws_toClasses.f (k : Nat) (l0_0 : List Int) (l0_1 : List Int) : Option (List Int × List Int) := (laws_toTable.f k l0_0).bind fun t170 => ((laws_toTable.f k l0_1).bind fun t173 => (some (t170, t173)))
theorem laws_toClasses.mono : ∀ a0 a1 k, LeO (laws_toClasses.f k a0 a1) (laws_toClasses.f (k + 1) a0 a1) := by
 intro a0 a1 k
 unfold laws_toClasses.f
 repeat' first
   | (with_reducible exact laws_toTable.mono _ _)
   | (with_reducible exact LeO.refl _)
   | (with_reducible exact LeO.none _)
   | (with_reducible refine LeO.ite ?_ ?_)
   | (with_reducible refine LeO.bind ?_ (fun _ => ?_))
   | exact laws_toTable.mono _ _
   | exact LeO.none _
   | refine LeO.ite ?_ ?_
   | refine LeO.bind ?_ (fun _ => ?_)
set_option maxHeartbeats 8000000 in
set_option maxRecDepth 100000 in
theorem laws_toClasses.calls (k : Nat) (A0_0 : Option Addr) (c0_0 : Nat) (l0_0 : List Int) (A0_1 : Option Addr) (c0_1 : Nat) (l0_1 : List Int) (r1 : List Int) (r2 : List Int) (w : World) (hr0_0 : Kd.C (Kd.int .i64) w A0_0 l0_0.length l0_0) (hc0_0 : l0_0.length ≤ c0_0) (hr0_1 : Kd.C (Kd.int .i64) w A0_1 l0_1.length l0_1) (hc0_1 : l0_1.length ≤ c0_1) (h : laws_toClasses.f k l0_0 l0_1 = some (r1, r2)) :
  Calls Try.prog 20 #[.agg #[.slice A0_0 l0_0.length c0_0, .slice A0_1 l0_1.length c0_1]] w fun e w' => ∃ v0_ v1_ : Value, e = .returned (.agg #[v0_, v1_]) ∧ Kd.R (Kd.int .i64) 3 w' w.heap.size (fun k_ => some k_ ≠ (v1_ : Value).ownBlock) v0_ r1 ∧ Kd.R (Kd.int .i64) 3 w' w.heap.size (fun k_ => some k_ ≠ (v0_ : Value).ownBlock) v1_ r2 ∧ Below w.heap.size w w' := by
 have hu49 := Try.underlying49
 have hu32 := Try.underlying32
 have hu47 := Try.underlying47
 have hu30 := Try.underlying30
 have HR0_0 := Aside0.mk hr0_0
 have HC0_0 := Aside0.mk hc0_0
 clear hr0_0 hc0_0
 have HR0_1 := Aside0.mk hr0_1
 have HC0_1 := Aside0.mk hc0_1
 clear hr0_1 hc0_1
 have HB := Aside0.mk (Below.refl w.heap.size w)
 have H : ((laws_toTable.f k l0_0).bind fun t170 => ((laws_toTable.f k l0_1).bind fun t173 => (some (t170, t173)))) = some (r1, r2) := h
 clear h
 replace H := Option.bind_eq_some_iff.mp H
 obtain ⟨t170, A20, H⟩ := H
 try dsimp only at H
 have A2 := Aside0.mk A20
 clear A20
 replace H := Option.bind_eq_some_iff.mp H
 obtain ⟨t173, A30, H⟩ := H
 try dsimp only at H
 have A3 := Aside0.mk A30
 clear A30
 simp only [Option.some.injEq, Prod.mk.injEq] at H
 obtain ⟨rfl, rfl⟩ := H
 go_enter Try.func20, Try.ntmps20
 go_wp2_with (first | ((with_reducible refine gate_dst (N := 1) rfl ?_); refine box_event ?hg (N := 1) ?hd (cs := #[.slice A0_0 l0_0.length c0_0, .slice A0_1 l0_1.length c0_1]) (t := 49) ?hr ?_; (case hd => rfl); (case hg => rfl); (case hr => first | (go_simp; done) | (go_simp; rfl)); intro gb167 hg w4 hbox hb; have BK167 := Aside0.mk (hbox); have GW167 := Aside0.mk ((by rw [hg]; exact (bz_ HB.out) : w.heap.size ≤ gb167)); have GE167 := Aside0.mk ((by rw [hg]; exact (bz_ HB.out) : w.heap.size ≤ gb167)); replace HB := Aside0.mk (bs_ HB.out hb); clear hb hbox hg) | ((with_reducible refine gate_dst (N := 2) rfl ?_); refine box_event ?hg (N := 2) ?hd (cs := #[.slice none 0 0, .slice none 0 0]) (t := 32) ?hr ?_; (case hd => rfl); (case hg => rfl); (case hr => first | (go_simp; done) | (go_simp; rfl)); intro gb168 hg w5 hbox hb; have BK168 := Aside0.mk (hbox); have GW168 := Aside0.mk ((by rw [hg]; exact (bz_ HB.out) : w.heap.size ≤ gb168)); have GE168 := Aside0.mk ((by rw [hg]; exact (bz_ HB.out) : w.heap.size ≤ gb168)); replace HB := Aside0.mk (bs_ HB.out hb); have NB167_168 := Aside0.mk ((by rw [hg]; exact Nat.ne_of_lt (bl_ BK167.out) : gb167 ≠ gb168)); have NB168_167 := Aside0.mk ((by rw [hg]; exact Nat.ne_of_gt (bl_ BK167.out) : gb168 ≠ gb167)); replace BK167 := Aside0.mk (bk_ BK167.out hb); clear hb hbox hg) | ((with_reducible refine gate_dst (N := 3) rfl ?_); refine box_event ?hg (N := 3) ?hd (cs := #[.slice none 0 0, .slice none 0 0]) (t := 32) ?hr ?_; (case hd => rfl); (case hg => rfl); (case hr => first | (go_simp; done) | (go_simp; rfl)); intro gb169 hg w6 hbox hb; have BK169 := Aside0.mk (hbox); have GW169 := Aside0.mk ((by rw [hg]; exact (bz_ HB.out) : w.heap.size ≤ gb169)); have GE169 := Aside0.mk ((by rw [hg]; exact (bz_ HB.out) : w.heap.size ≤ gb169)); replace HB := Aside0.mk (bs_ HB.out hb); have NB167_169 := Aside0.mk ((by rw [hg]; exact Nat.ne_of_lt (bl_ BK167.out) : gb167 ≠ gb169)); have NB169_167 := Aside0.mk ((by rw [hg]; exact Nat.ne_of_gt (bl_ BK167.out) : gb169 ≠ gb167)); replace BK167 := Aside0.mk (bk_ BK167.out hb); have NB168_169 := Aside0.mk ((by rw [hg]; exact Nat.ne_of_lt (bl_ BK168.out) : gb168 ≠ gb169)); have NB169_168 := Aside0.mk ((by rw [hg]; exact Nat.ne_of_gt (bl_ BK168.out) : gb169 ≠ gb168)); replace BK168 := Aside0.mk (bk_ BK168.out hb); clear hb hbox hg; have hnb7 := NB167_168.out; have hnc7 := NB168_167.out; have hnb8 := NB167_169.out; have hnc8 := NB169_167.out; obtain ⟨hcz9_0, hcz9_1, hfz9_0, hfz9_1⟩ := cz2_ BK167.out) | ((with_reducible refine gate_callee (f := 59) rfl ?_); refine gm_ (some 6) Try.func59 #[.agg #[.slice A0_0 l0_0.length c0_0]] rfl ?_; (with_reducible refine (laws_toTable.calls k _ _ l0_0 t170 _ ?side1 HC0_0.out A2.out).mono ?_); (case side1 => exact cb_ HR0_0.out HB.out); rintro e w10 ⟨v171, rfl, ho0, hb⟩; refine ⟨_, rfl, ?_⟩; have HO172 := Aside0.mk (Kd.R_lower ho0 (bz_ HB.out)); replace BK167 := Aside0.mk (bk_ BK167.out hb); replace BK168 := Aside0.mk (bk_ BK168.out hb); replace BK169 := Aside0.mk (bk_ BK169.out hb); replace HB := Aside0.mk (bs_ HB.out hb); (try clear hb); (try clear ho0); obtain ⟨Ao11, co11, eo11⟩ := Kd.R_slice HO172.out; subst eo11; have hnb12 := NB169_168.out; have hnc12 := NB168_169.out; obtain ⟨hcz13_0, hcz13_1, hfz13_0, hfz13_1⟩ := cz2_ BK169.out; obtain ⟨hcz14_0, hcz14_1, hfz14_0, hfz14_1⟩ := cz2_ BK167.out) | ((with_reducible refine gate_callee (f := 59) rfl ?_); refine gm_ (some 10) Try.func59 #[.agg #[.slice A0_1 l0_1.length c0_1]] rfl ?_; (with_reducible refine (laws_toTable.calls k _ _ l0_1 t173 _ ?side1 HC0_1.out A3.out).mono ?_); (case side1 => exact Kd.C_below HR0_1.out (by repeat (first | (with_reducible first | exact HB.out | apply below_alloc | apply pw_below_drewN | apply below_drew1 | refine below_set ?_ GE167.out | refine below_set ?_ GE168.out | refine below_set ?_ GE169.out) | exact HB.out))); rintro e w15 ⟨v174, rfl, ho0, hb⟩; refine ⟨_, rfl, ?_⟩; have HO175 := Aside0.mk (Kd.R_lower (Kd.R_new' ho0 (Kd.R_lt (rm_ (Kd.R_types HO172.out BK169.out (by decide)) (fun _ h_ => h_.1)))) (bz_ HB.out)); replace HO172 := Aside0.mk (Kd.R_elder' (rm_ (Kd.R_types HO172.out BK169.out (by decide)) (fun _ h_ => h_.1)) (Kd.R_base ho0) hb); replace BK167 := Aside0.mk (blk_below (bf_ BK167.out) hb); replace BK168 := Aside0.mk (blk_below (bf_ BK168.out) hb); replace BK169 := Aside0.mk (blk_below (g := gb169) (o := .cells #[.slice Ao11 t170.length co11, .slice none 0 0] 32 (0, 0)) (by (with_reducible repeat (first | refine blk_drewN ?_ _ | refine blk_drew ?_ | refine blk_alloc ?_ _)); refine blk_put (cs := #[.slice none 0 0, .slice none 0 0]) ?_ 0 _ rfl; (with_reducible repeat (first | refine blk_drewN ?_ _ | refine blk_drew ?_ | refine blk_alloc ?_ _)); exact BK169.out) hb); replace HB := Aside0.mk (bs_ HB.out hb); (try clear hb); (try clear ho0); obtain ⟨Ao16, co16, eo16⟩ := Kd.R_slice HO175.out; subst eo16; obtain ⟨hcz17_0, hcz17_1, hfz17_0, hfz17_1⟩ := cz2_ BK169.out; obtain ⟨hcz18_0, hcz18_1, hfz18_0, hfz18_1⟩ := cz2_ BK168.out))
 refine bodyPost_ret (results_cell_row rfl _ _ gb168 32 #[.slice Ao11 t170.length co11, .slice Ao16 t173.length co16] (0, 0) _ rfl (by (with_reducible repeat (first | refine blk_drewN ?_ _ | refine blk_drew ?_ | refine blk_alloc ?_ _)); refine blk_put (cs := #[.slice Ao11 t170.length co11, .slice none 0 0]) ?_ 1 _ rfl; (with_reducible repeat (first | refine blk_drewN ?_ _ | refine blk_drew ?_ | refine blk_alloc ?_ _)); refine blk_put (cs := #[.slice none 0 0, .slice none 0 0]) ?_ 0 _ rfl; (with_reducible repeat (first | refine blk_drewN ?_ _ | refine blk_drew ?_ | refine blk_alloc ?_ _)); refine blk_far ?_ NB168_169.out _; (with_reducible repeat (first | refine blk_drewN ?_ _ | refine blk_drew ?_ | refine blk_alloc ?_ _)); exact BK168.out) Try.underlying32 rfl (by kernel_rfl)) rfl ?_
 exact ⟨_, _, fin_, rm_ (Kd.R_types (Kd.R_types HO172.out BK169.out (by decide)) BK168.out (by decide)) (fun _ hk => hk.1.1.2), rm_ (Kd.R_types (Kd.R_types HO175.out BK169.out (by decide)) BK168.out (by decide)) (fun _ hk => hk.1.1.2), bb_ HB.out⟩

/-! ### laws_toFlit: function 114 -/
def laws_toFlit.f (a0_0 : Int) (a0_1 : Int) (a0_2 : Int) (a0_3 : Bool) (a0_4 : Bool) : Option (Int × Int × Int × Bool × Bool) := some (a0_0, a0_1, a0_2, a0_3, a0_4)
set_option maxHeartbeats 8000000 in
set_option maxRecDepth 100000 in
theorem laws_toFlit.calls (a0_0 : Int) (a0_1 : Int) (a0_2 : Int) (a0_3 : Bool) (a0_4 : Bool) (r1 : Int) (r2 : Int) (r3 : Int) (r4 : Bool) (r5 : Bool) (w : World) (h : laws_toFlit.f a0_0 a0_1 a0_2 a0_3 a0_4 = some (r1, r2, r3, r4, r5)) :
  Calls Try.prog 114 #[.agg #[.int .i64 a0_0, .int .i64 a0_1, .int .i64 a0_2, .bool a0_3, .bool a0_4]] w fun e w' => e = .returned (.agg #[.int .i64 r1, .int .i64 r2, .int .i64 r3, .bool r4, .bool r5]) ∧ Below w.heap.size w w' := by
 have hu133 := Try.underlying133
 have hu112 := Try.underlying112
 have HB := Aside0.mk (Below.refl w.heap.size w)
 have H : (some (a0_0, a0_1, a0_2, a0_3, a0_4)) = some (r1, r2, r3, r4, r5) := h
 clear h
 simp only [Option.some.injEq, Prod.mk.injEq] at H
 obtain ⟨rfl, rfl, rfl, rfl, rfl⟩ := H
 go_enter Try.func114, Try.ntmps114
 go_wp2_with (first | ((with_reducible refine gate_dst (N := 1) rfl ?_); refine box_event ?hg (N := 1) ?hd (cs := #[.int .i64 a0_0, .int .i64 a0_1, .int .i64 a0_2, .bool a0_3, .bool a0_4]) (t := 133) ?hr ?_; (case hd => rfl); (case hg => rfl); (case hr => first | (go_simp; done) | (go_simp; rfl)); intro gb176 hg w2 hbox hb; have BK176 := Aside0.mk (hbox); have GW176 := Aside0.mk ((by rw [hg]; exact (bz_ HB.out) : w.heap.size ≤ gb176)); have GE176 := Aside0.mk ((by rw [hg]; exact (bz_ HB.out) : w.heap.size ≤ gb176)); replace HB := Aside0.mk (bs_ HB.out hb); clear hb hbox hg) | ((with_reducible refine gate_dst (N := 2) rfl ?_); refine box_event ?hg (N := 2) ?hd (cs := #[.int .i64 0, .int .i64 0, .int .i64 0, .bool false, .bool false]) (t := 112) ?hr ?_; (case hd => rfl); (case hg => rfl); (case hr => first | (go_simp; done) | (go_simp; rfl)); intro gb177 hg w3 hbox hb; have BK177 := Aside0.mk (hbox); have GW177 := Aside0.mk ((by rw [hg]; exact (bz_ HB.out) : w.heap.size ≤ gb177)); have GE177 := Aside0.mk ((by rw [hg]; exact (bz_ HB.out) : w.heap.size ≤ gb177)); replace HB := Aside0.mk (bs_ HB.out hb); have NB176_177 := Aside0.mk ((by rw [hg]; exact Nat.ne_of_lt (bl_ BK176.out) : gb176 ≠ gb177)); have NB177_176 := Aside0.mk ((by rw [hg]; exact Nat.ne_of_gt (bl_ BK176.out) : gb177 ≠ gb176)); replace BK176 := Aside0.mk (bk_ BK176.out hb); clear hb hbox hg) | ((with_reducible refine gate_dst (N := 3) rfl ?_); refine box_event ?hg (N := 3) ?hd (cs := #[.int .i64 0, .int .i64 0, .int .i64 0, .bool false, .bool false]) (t := 112) ?hr ?_; (case hd => rfl); (case hg => rfl); (case hr => first | (go_simp; done) | (go_simp; rfl)); intro gb178 hg w4 hbox hb; have BK178 := Aside0.mk (hbox); have GW178 := Aside0.mk ((by rw [hg]; exact (bz_ HB.out) : w.heap.size ≤ gb178)); have GE178 := Aside0.mk ((by rw [hg]; exact (bz_ HB.out) : w.heap.size ≤ gb178)); replace HB := Aside0.mk (bs_ HB.out hb); have NB176_178 := Aside0.mk ((by rw [hg]; exact Nat.ne_of_lt (bl_ BK176.out) : gb176 ≠ gb178)); have NB178_176 := Aside0.mk ((by rw [hg]; exact Nat.ne_of_gt (bl_ BK176.out) : gb178 ≠ gb176)); replace BK176 := Aside0.mk (bk_ BK176.out hb); have NB177_178 := Aside0.mk ((by rw [hg]; exact Nat.ne_of_lt (bl_ BK177.out) : gb177 ≠ gb178)); have NB178_177 := Aside0.mk ((by rw [hg]; exact Nat.ne_of_gt (bl_ BK177.out) : gb178 ≠ gb177)); replace BK177 := Aside0.mk (bk_ BK177.out hb); clear hb hbox hg; have hnb5 := NB176_177.out; have hnc5 := NB177_176.out; have hnb6 := NB176_178.out; have hnc6 := NB178_176.out; obtain ⟨hcz7_0, hcz7_1, hcz7_2, hcz7_3, hcz7_4, hfz7_0, hfz7_1, hfz7_2, hfz7_3, hfz7_4⟩ := cz5_ BK176.out; have hnb8 := NB178_177.out; have hnc8 := NB177_178.out; obtain ⟨hcz9_0, hcz9_1, hcz9_2, hcz9_3, hcz9_4, hfz9_0, hfz9_1, hfz9_2, hfz9_3, hfz9_4⟩ := cz5_ BK178.out; obtain ⟨hcz10_0, hcz10_1, hcz10_2, hcz10_3, hcz10_4, hfz10_0, hfz10_1, hfz10_2, hfz10_3, hfz10_4⟩ := cz5_ BK177.out))
 refine bodyPost_ret (results_cell_row rfl _ _ gb177 112 #[.int .i64 a0_0, .int .i64 a0_1, .int .i64 a0_2, .bool a0_3, .bool a0_4] (0, 0) _ rfl (by (with_reducible repeat (first | refine blk_drewN ?_ _ | refine blk_drew ?_ | refine blk_alloc ?_ _)); refine blk_put (cs := #[.int .i64 a0_0, .int .i64 a0_1, .int .i64 a0_2, .bool a0_3, .bool false]) ?_ 4 _ rfl; (with_reducible repeat (first | refine blk_drewN ?_ _ | refine blk_drew ?_ | refine blk_alloc ?_ _)); refine blk_put (cs := #[.int .i64 a0_0, .int .i64 a0_1, .int .i64 a0_2, .bool false, .bool false]) ?_ 3 _ rfl; (with_reducible repeat (first | refine blk_drewN ?_ _ | refine blk_drew ?_ | refine blk_alloc ?_ _)); refine blk_put (cs := #[.int .i64 a0_0, .int .i64 a0_1, .int .i64 0, .bool false, .bool false]) ?_ 2 _ rfl; (with_reducible repeat (first | refine blk_drewN ?_ _ | refine blk_drew ?_ | refine blk_alloc ?_ _)); refine blk_put (cs := #[.int .i64 a0_0, .int .i64 0, .int .i64 0, .bool false, .bool false]) ?_ 1 _ rfl; (with_reducible repeat (first | refine blk_drewN ?_ _ | refine blk_drew ?_ | refine blk_alloc ?_ _)); refine blk_put (cs := #[.int .i64 0, .int .i64 0, .int .i64 0, .bool false, .bool false]) ?_ 0 _ rfl; (with_reducible repeat (first | refine blk_drewN ?_ _ | refine blk_drew ?_ | refine blk_alloc ?_ _)); refine blk_far ?_ NB177_178.out _; (with_reducible repeat (first | refine blk_drewN ?_ _ | refine blk_drew ?_ | refine blk_alloc ?_ _)); refine blk_far ?_ NB177_178.out _; (with_reducible repeat (first | refine blk_drewN ?_ _ | refine blk_drew ?_ | refine blk_alloc ?_ _)); refine blk_far ?_ NB177_178.out _; (with_reducible repeat (first | refine blk_drewN ?_ _ | refine blk_drew ?_ | refine blk_alloc ?_ _)); refine blk_far ?_ NB177_178.out _; (with_reducible repeat (first | refine blk_drewN ?_ _ | refine blk_drew ?_ | refine blk_alloc ?_ _)); refine blk_far ?_ NB177_178.out _; (with_reducible repeat (first | refine blk_drewN ?_ _ | refine blk_drew ?_ | refine blk_alloc ?_ _)); exact BK177.out) Try.underlying112 rfl (by kernel_rfl)) rfl ?_
 exact ⟨fin_, bb_ HB.out⟩

/-! ### laws_toFlitS: function 96 -/
def laws_toFlitS.l0 : Nat → List (S133) → List (S112) → Int → Option ((List (S112)))
 | 0, _, _, _ => none
 | k + 1, x0, x3, x4 => if x4 < (x0.length : Int) then (if 0 ≤ x4 then ((laws_toFlit.f ((rd_T133 x0 x4).f0) ((rd_T133 x0 x4).f1) ((rd_T133 x0 x4).f2) ((rd_T133 x0 x4).f3) ((rd_T133 x0 x4).f4)).bind fun bt183 => (if x4 < (x3.length : Int) then (laws_toFlitS.l0 k x0 (x3.set (x4 : Int).toNat (⟨bt183.1, bt183.2.1, bt183.2.2.1, bt183.2.2.2.1, bt183.2.2.2.2⟩ : S112)) (wrap64 (x4 + 1))) else (none))) else (none)) else (some x3)
def laws_toFlitS.f (k : Nat) (l0 : List (S133)) : Option ((List (S112))) := if 0 ≤ (l0.length : Int) then (if ((l0.length : Int) : Int).toNat ≤ 8796093022208 then (laws_toFlitS.l0 k l0 (List.replicate ((l0.length : Int) : Int).toNat z112) 0) else (none)) else (none)
theorem laws_toFlitS.mono_l : ∀ k, (∀ y0 y1 y2, LeO (laws_toFlitS.l0 k y0 y1 y2) (laws_toFlitS.l0 (k + 1) y0 y1 y2))
 | 0 => fun _ _ _ r h => by simp [laws_toFlitS.l0] at h
 | k + 1 => by
  have ih0 := laws_toFlitS.mono_l k
  ·intro y0 y1 y2
   unfold laws_toFlitS.l0
   repeat' first
   | (with_reducible exact ih0 _ _ _)
   | (with_reducible exact LeO.refl _)
   | (with_reducible exact LeO.none _)
   | (with_reducible refine LeO.ite ?_ ?_)
   | (with_reducible refine LeO.bind ?_ (fun _ => ?_))
   | exact ih0 _ _ _
   | exact LeO.none _
   | refine LeO.ite ?_ ?_
   | refine LeO.bind ?_ (fun _ => ?_)
theorem laws_toFlitS.mono : ∀ a0 k, LeO (laws_toFlitS.f k a0) (laws_toFlitS.f (k + 1) a0) := by
 intro a0 k
 have ih0 := laws_toFlitS.mono_l k
 unfold laws_toFlitS.f
 repeat' first
   | (with_reducible exact ih0 _ _ _)
   | (with_reducible exact LeO.refl _)
   | (with_reducible exact LeO.none _)
   | (with_reducible refine LeO.ite ?_ ?_)
   | (with_reducible refine LeO.bind ?_ (fun _ => ?_))
   | exact ih0 _ _ _
   | exact LeO.none _
   | refine LeO.ite ?_ ?_
   | refine LeO.bind ?_ (fun _ => ?_)
set_option maxHeartbeats 8000000 in
set_option maxRecDepth 100000 in
theorem laws_toFlitS.calls (k : Nat) (A0 : Option Addr) (c0 : Nat) (l0 : List (S133)) (r : List (S112)) (w : World) (hr0 : Kd.C k133 w A0 l0.length l0) (hc0 : l0.length ≤ c0) (h : laws_toFlitS.f k l0 = some r) :
  Calls Try.prog 96 #[.slice A0 l0.length c0] w fun e w' => ∃ v0_ : Value, e = .returned (v0_) ∧ Kd.R k112 112 w' w.heap.size (fun _ => True) v0_ r ∧ Below w.heap.size w w' := by
 have hu133 := Try.underlying133
 have hu112 := Try.underlying112
 have HR0 := Aside0.mk hr0
 have HC0 := Aside0.mk hc0
 clear hr0 hc0
 have HB := Aside0.mk (Below.refl w.heap.size w)
 have H : (if 0 ≤ (l0.length : Int) then (if ((l0.length : Int) : Int).toNat ≤ 8796093022208 then (laws_toFlitS.l0 k l0 (List.replicate ((l0.length : Int) : Int).toNat z112) 0) else (none)) else (none)) = some r := h
 clear h
 by_cases c2 : 0 ≤ (l0.length : Int)
 ·rw [if_pos c2] at H
  have c2b0 := eq_true c2
  have c2b1 : decide (0 ≤ (l0.length : Int)) = true := decide_eq_true c2
  clear c2
  by_cases c3 : ((l0.length : Int) : Int).toNat ≤ 8796093022208
  ·rw [if_pos c3] at H
   have c3b0 := eq_true c3
   have c3b1 : decide (((l0.length : Int) : Int).toNat ≤ 8796093022208) = true := decide_eq_true c3
   clear c3
   obtain ⟨y179, hy179⟩ : ∃ y_ : List (S112), y_ = (List.replicate ((l0.length : Int) : Int).toNat z112) := ⟨_, rfl⟩
   replace H : (laws_toFlitS.l0 k l0 y179 0) = some r := by first | (rw [hy179]; with_reducible exact H) | (have H2_ := (Option.bind_some _ _).symm.trans H; rw [hy179]; with_reducible exact H2_) | (have H2_ := (Option.bind_some _ _).symm.trans H; with_reducible exact H2_) | with_reducible exact H | (rw [hy179]; exact H) | exact H
   have Ny179 := Aside0.mk hy179
   clear hy179
   have H' := Aside0.mk H
   clear H
   go_enter Try.func96, Try.ntmps96
   go_wp2_with (first | ((with_reducible refine gate_dst (N := 7) rfl ?_); refine Kd.R_make k112 _ 112 rfl (N := 7) rfl 81 _ _ rfl (l0.length : Int) rfl rfl Try.underlying81 (.agg #[(.int .i64 0), (.int .i64 0), (.int .i64 0), (.bool false), (.bool false)]) 32 info112 rfl (by decide) (by omega) z112 (ok := fun _ => True) (okp := fun _ => True) (k112_mkM _ _ _ z112 ) (fun _ hk => hk) trivial (of_decide_eq_true dg_) (Nat.le_trans (Nat.mul_le_mul_right _ (of_decide_eq_true dg_ : (l0.length : Int).toNat ≤ 8796093022208)) (by omega)) (Below.refl _ _) (Nat.le_refl _) ?_; intro v180 w4 ho5 hb hg_ hnew_; clear hg_ hnew_; (first | rw [← Ny179.out] at ho5 | (simp only [Int.reduceToNat] at ho5; rw [← Ny179.out] at ho5)); have HO181 := Aside0.mk (Kd.R_lower ho5 (bz_ HB.out)); replace HB := Aside0.mk (bs_ HB.out hb); clear hb ho5))
   go_loopg [4] k (fun kq v4 w' => ∃ (x3_1 : List (S112)) (x4_1 : Int), v4 = .int .i64 x4_1 ∧ Aside0 (laws_toFlitS.l0 kq l0 x3_1 x4_1 = some r) ∧ Aside0 (kq ≤ k) ∧ Aside0 (Kd.R k112 112 w' w.heap.size (fun _ => True) v180 x3_1) ∧ Aside0 (Below w.heap.size w w'))
   case atStart => exact ⟨(y179), (0), ef_, H', ⟨Nat.le_refl _⟩, ⟨by (with_reducible repeat (first | apply Kd.R_alloc | apply Kd.R_drewN | apply Kd.R_drew)); exact HO181.out⟩, ⟨bb_ HB.out⟩⟩
   case round =>
    clear H'
    try clear c2
    try clear c2b0
    try clear c2b1
    try clear c3
    try clear c3b0
    try clear c3b1
    obtain ⟨x3_1, x4_1, rfl, HA, HK1, HO_3, HB⟩ := hrel
    cases gk with
    | zero => exact absurd HA.out (by simp [laws_toFlitS.l0])
    | succ k1 =>
     have H := HA.out
     clear HA
     simp only [laws_toFlitS.l0] at H
     by_cases c6 : x4_1 < (l0.length : Int)
     ·rw [if_pos c6] at H
      have c6b0 : decide (x4_1 < (l0.length : Int)) = true := decide_eq_true c6
      clear c6
      by_cases c7 : 0 ≤ x4_1
      ·rw [if_pos c7] at H
       have c7b0 : decide (0 ≤ x4_1) = true := decide_eq_true c7
       clear c7
       replace H := Option.bind_eq_some_iff.mp H
       obtain ⟨⟨t183, t184, t185, t186, t187⟩, A80, H⟩ := H
       try dsimp only at H
       have A8 := Aside0.mk A80
       clear A80
       by_cases c9 : x4_1 < (x3_1.length : Int)
       ·rw [if_pos c9] at H
        have c9b0 : decide (x4_1 < (x3_1.length : Int)) = true := decide_eq_true c9
        clear c9
        obtain ⟨y188, hy188⟩ : ∃ y_ : List (S112), y_ = (x3_1.set (x4_1 : Int).toNat (⟨t183, t184, t185, t186, t187⟩ : S112)) := ⟨_, rfl⟩
        replace H : (laws_toFlitS.l0 k1 l0 y188 (wrap64 (x4_1 + 1))) = some r := by first | (rw [hy188]; with_reducible exact H) | (have H2_ := (Option.bind_some _ _).symm.trans H; rw [hy188]; with_reducible exact H2_) | (have H2_ := (Option.bind_some _ _).symm.trans H; with_reducible exact H2_) | with_reducible exact H | (rw [hy188]; exact H) | exact H
        have Ny188 := Aside0.mk hy188
        clear hy188
        have H' := Aside0.mk H
        clear H
        have p182 : 0 ≤ (x4_1 : Int) := of_decide_eq_true dg_
        have q182 : x4_1 < (l0.length : Int) := of_decide_eq_true dg_
        obtain ⟨ad182, e182, hx182_0, hx182_1, hx182_2, hx182_3, hx182_4⟩ := at_T133 HR0.out x4_1 p182 q182
        cases e182
        replace hx182_0 := (HB.out.cell (World.block_lt_of_cell? w _ hx182_0)).trans hx182_0
        replace hx182_1 := (HB.out.cell (World.block_lt_of_cell? w _ hx182_1)).trans hx182_1
        replace hx182_2 := (HB.out.cell (World.block_lt_of_cell? w _ hx182_2)).trans hx182_2
        replace hx182_3 := (HB.out.cell (World.block_lt_of_cell? w _ hx182_3)).trans hx182_3
        replace hx182_4 := (HB.out.cell (World.block_lt_of_cell? w _ hx182_4)).trans hx182_4
        replace p182 := eq_true p182
        replace q182 := eq_true q182
        go_wp2_with (first | ((with_reducible refine gate_callee (f := 114) rfl ?_); refine gm_ (some 20) Try.func114 #[.agg #[.int .i64 ((rd_T133 l0 x4_1).f0), .int .i64 ((rd_T133 l0 x4_1).f1), .int .i64 ((rd_T133 l0 x4_1).f2), .bool ((rd_T133 l0 x4_1).f3), .bool ((rd_T133 l0 x4_1).f4)]] rfl ?_; (with_reducible refine (laws_toFlit.calls ((rd_T133 l0 x4_1).f0) ((rd_T133 l0 x4_1).f1) ((rd_T133 l0 x4_1).f2) ((rd_T133 l0 x4_1).f3) ((rd_T133 l0 x4_1).f4) t183 t184 t185 t186 t187 _ A8.out).mono ?_); rintro e w11 ⟨rfl, hb⟩; refine ⟨_, rfl, ?_⟩; replace HO_3 := Aside0.mk (Kd.R_below (ra_ HO_3.out) hb); replace HB := Aside0.mk (bs_ HB.out hb); (try clear hb); have p10 : 0 ≤ (x4_1 : Int) := of_decide_eq_true dg_; have q10 : (x4_1 : Int) < ((x3_1.length : Int) : Int) := of_decide_eq_true dg_; obtain ⟨go10, co10, eo10, gb10, gl10, cl10, HG10⟩ := Kd.R_form HO_3.out (by omega); (first | cases eo10 | (injection eo10 with ea_ en_ ec_; (first | subst ea_ | (injection ea_ with ea_; subst ea_)); subst ec_; clear en_)); have GB10 := Aside0.mk gb10; have GG10 := Aside0.mk HG10; clear gb10 gl10 HG10; obtain ⟨ce10, hcl10, hM10, hcc10, hfr10⟩ := Kd.R_elem HO_3.out z112 (x4_1 : Int) p10 q10; obtain rfl := k112_openM hM10; have hx10_0 : w11.cell? ⟨go10, (x4_1 : Int).toNat * 5, none⟩ = some (.int .i64 ((rd_T112 x3_1 x4_1).f0)) := hcc10 0 _ rfl; have hx10_1 : w11.cell? ⟨go10, (x4_1 : Int).toNat * 5 + 1, none⟩ = some (.int .i64 ((rd_T112 x3_1 x4_1).f1)) := hcc10 1 _ rfl; have hx10_2 : w11.cell? ⟨go10, (x4_1 : Int).toNat * 5 + 2, none⟩ = some (.int .i64 ((rd_T112 x3_1 x4_1).f2)) := hcc10 2 _ rfl; have hx10_3 : w11.cell? ⟨go10, (x4_1 : Int).toNat * 5 + 3, none⟩ = some (.bool ((rd_T112 x3_1 x4_1).f3)) := hcc10 3 _ rfl; have hx10_4 : w11.cell? ⟨go10, (x4_1 : Int).toNat * 5 + 4, none⟩ = some (.bool ((rd_T112 x3_1 x4_1).f4)) := hcc10 4 _ rfl; have hf10_0 : w11.frozen? ⟨go10, (x4_1 : Int).toNat * 5, none⟩ = false := hfr10 0; have hf10_1 : w11.frozen? ⟨go10, (x4_1 : Int).toNat * 5 + 1, none⟩ = false := hfr10 1; have hf10_2 : w11.frozen? ⟨go10, (x4_1 : Int).toNat * 5 + 2, none⟩ = false := hfr10 2; have hf10_3 : w11.frozen? ⟨go10, (x4_1 : Int).toNat * 5 + 3, none⟩ = false := hfr10 3; have hf10_4 : w11.frozen? ⟨go10, (x4_1 : Int).toNat * 5 + 4, none⟩ = false := hfr10 4; clear hcl10 hcc10 hfr10; (try clear hM10); replace p10 := eq_true p10; replace q10 := eq_true q10; have HX12 := Aside0.mk (show Kd.R k112 112 w11 w.heap.size (fun _ => True) (.slice (some ⟨go10, 0, none⟩) x3_1.length co10) x3_1 from (ra_ HO_3.out)); obtain ⟨ce12, hcl12, hM12, hcc12, hfr12⟩ := Kd.R_elem HX12.out z112 (x4_1 : Int) (of_decide_eq_true dg_) (by have h_ : (x4_1 : Int) < ((x3_1.length : Int) : Int) := of_decide_eq_true dg_; first | exact h_ | (have e_ := (Kd.R_reads' HO_3.out).1; omega) | simpa using h_); obtain rfl := k112_openM hM12; have HP12 := Kd.R_seg HX12.out (x4_1 : Int) (of_decide_eq_true dg_) (by have h_ : (x4_1 : Int) < ((x3_1.length : Int) : Int) := of_decide_eq_true dg_; first | exact h_ | (have e_ := (Kd.R_reads' HO_3.out).1; omega) | simpa using h_) (seg := [.int .i64 t183, .int .i64 t184, .int .i64 t185, .bool t186, .bool t187]) (j := 0) hcl12 hcc12 (show 5 ≤ 5 from by decide) (x' := (⟨t183, t184, t185, t186, t187⟩ : S112)) (k112_mkM _ _ _ (⟨t183, t184, t185, t186, t187⟩ : S112) ) (fun _ hk => hk); have hx12_0 := hcc12 0 _ rfl; (try simp only [show (k112).sz = 5 from rfl, Nat.mul_one, Nat.add_zero] at hx12_0); have hf12_0 := hfr12 0; (try simp only [show (k112).sz = 5 from rfl, Nat.mul_one, Nat.add_zero] at hf12_0); have hx12_1 := hcc12 1 _ rfl; (try simp only [show (k112).sz = 5 from rfl, Nat.mul_one, Nat.add_zero] at hx12_1); have hf12_1 := hfr12 1; (try simp only [show (k112).sz = 5 from rfl, Nat.mul_one, Nat.add_zero] at hf12_1); have hx12_2 := hcc12 2 _ rfl; (try simp only [show (k112).sz = 5 from rfl, Nat.mul_one, Nat.add_zero] at hx12_2); have hf12_2 := hfr12 2; (try simp only [show (k112).sz = 5 from rfl, Nat.mul_one, Nat.add_zero] at hf12_2); have hx12_3 := hcc12 3 _ rfl; (try simp only [show (k112).sz = 5 from rfl, Nat.mul_one, Nat.add_zero] at hx12_3); have hf12_3 := hfr12 3; (try simp only [show (k112).sz = 5 from rfl, Nat.mul_one, Nat.add_zero] at hf12_3); have hx12_4 := hcc12 4 _ rfl; (try simp only [show (k112).sz = 5 from rfl, Nat.mul_one, Nat.add_zero] at hx12_4); have hf12_4 := hfr12 4; (try simp only [show (k112).sz = 5 from rfl, Nat.mul_one, Nat.add_zero] at hf12_4); clear hcl12 hcc12 hfr12; (try clear hM12)) | ((with_reducible refine gate_store (t := 112) (p := 21) rfl ?_); refine store_event (t := 112) (p := 21) (v := ?vo_w13) (w1 := (((((w11.setCell ⟨go10, (x4_1 : Int).toNat * 5, none⟩ (.int .i64 t183)).setCell ⟨go10, (x4_1 : Int).toNat * 5 + 1, none⟩ (.int .i64 t184)).setCell ⟨go10, (x4_1 : Int).toNat * 5 + 2, none⟩ (.int .i64 t185)).setCell ⟨go10, (x4_1 : Int).toNat * 5 + 3, none⟩ (.bool t186)).setCell ⟨go10, (x4_1 : Int).toNat * 5 + 4, none⟩ (.bool t187))) ?hg ?ho ?hn ?hr ?_; (case ho => rfl); (case hg => rfl); (case hn => rfl); (case hr => first | (go_simp; done) | (go_simp; rfl)); intro w13 hw; have hg : w11.grownBy w13 (some go10) := (by rw [hw]; exact HP12.2); have hp_ : Kd.R k112 112 w13 w.heap.size (fun _ => True) (.slice (some ⟨go10, 0, none⟩) x3_1.length co10) y188 := (by rw [hw, Ny188.out]; exact HP12.1); clear HP12; replace HO_3 := Aside0.mk (hp_); replace HB := Aside0.mk ((by rw [hw]; exact below_set (below_set (below_set (below_set (below_set (HB.out) GB10.out) GB10.out) GB10.out) GB10.out) GB10.out : Below w.heap.size w w13)); clear hg hw hp_))
        go_roundg k1
        case measure => have := HK1.out; omega
        case rel => exact ⟨(y188), (wrap64 (x4_1 + 1)), ef_, H', ⟨by have := HK1.out; omega⟩, ⟨by (with_reducible repeat (first | apply Kd.R_alloc | apply Kd.R_drewN | apply Kd.R_drew)); exact HO_3.out⟩, ⟨bb_ HB.out⟩⟩
       ·rw [if_neg c9] at H
        exact absurd H (by simp)
      ·rw [if_neg c7] at H
       exact absurd H (by simp)
     ·rw [if_neg c6] at H
      have c6b0 : decide (x4_1 < (l0.length : Int)) = false := decide_eq_false c6
      clear c6
      obtain rfl := Option.some.inj H
      go_wp2
      go_ret
      exact ⟨_, fin_, by (with_reducible repeat (first | apply Kd.R_alloc | apply Kd.R_drewN | apply Kd.R_drew)); exact HO_3.out, bb_ HB.out⟩
  ·rw [if_neg c3] at H
   exact absurd H (by simp)
 ·rw [if_neg c2] at H
  exact absurd H (by simp)

/-! ### laws_toFlitSS: function 71 -/
def laws_toFlitSS.l0 : Nat → List (List (S133)) → List (List (S112)) → Int → Option ((List (List (S112))))
 | 0, _, _, _ => none
 | k + 1, x0, x3, x4 => if x4 < (x0.length : Int) then (if 0 ≤ x4 then ((laws_toFlitS.f k (rd_L5 x0 x4)).bind fun t193 => (if x4 < (x3.length : Int) then (laws_toFlitSS.l0 k x0 (x3.set (x4 : Int).toNat t193) (wrap64 (x4 + 1))) else (none))) else (none)) else (some x3)
def laws_toFlitSS.f (k : Nat) (l0 : List (List (S133))) : Option ((List (List (S112)))) := if 0 ≤ (l0.length : Int) then (if ((l0.length : Int) : Int).toNat ≤ 11728124029610 then (laws_toFlitSS.l0 k l0 (List.replicate ((l0.length : Int) : Int).toNat []) 0) else (none)) else (none)
theorem laws_toFlitSS.mono_l : ∀ k, (∀ y0 y1 y2, LeO (laws_toFlitSS.l0 k y0 y1 y2) (laws_toFlitSS.l0 (k + 1) y0 y1 y2))
 | 0 => fun _ _ _ r h => by simp [laws_toFlitSS.l0] at h
 | k + 1 => by
  have ih0 := laws_toFlitSS.mono_l k
  ·intro y0 y1 y2
   unfold laws_toFlitSS.l0
   repeat' first
   | (with_reducible exact ih0 _ _ _)
   | (with_reducible exact laws_toFlitS.mono _ _)
   | (with_reducible exact LeO.refl _)
   | (with_reducible exact LeO.none _)
   | (with_reducible refine LeO.ite ?_ ?_)
   | (with_reducible refine LeO.bind ?_ (fun _ => ?_))
   | exact ih0 _ _ _
   | exact laws_toFlitS.mono _ _
   | exact LeO.none _
   | refine LeO.ite ?_ ?_
   | refine LeO.bind ?_ (fun _ => ?_)
theorem laws_toFlitSS.mono : ∀ a0 k, LeO (laws_toFlitSS.f k a0) (laws_toFlitSS.f (k + 1) a0) := by
 intro a0 k
 have ih0 := laws_toFlitSS.mono_l k
 unfold laws_toFlitSS.f
 repeat' first
   | (with_reducible exact ih0 _ _ _)
   | (with_reducible exact laws_toFlitS.mono _ _)
   | (with_reducible exact LeO.refl _)
   | (with_reducible exact LeO.none _)
   | (with_reducible refine LeO.ite ?_ ?_)
   | (with_reducible refine LeO.bind ?_ (fun _ => ?_))
   | exact ih0 _ _ _
   | exact laws_toFlitS.mono _ _
   | exact LeO.none _
   | refine LeO.ite ?_ ?_
   | refine LeO.bind ?_ (fun _ => ?_)
set_option maxHeartbeats 8000000 in
set_option maxRecDepth 100000 in
theorem laws_toFlitSS.calls (k : Nat) (A0 : Option Addr) (c0 : Nat) (l0 : List (List (S133))) (r : List (List (S112))) (w : World) (hr0 : Kd.C (Kd.slice 133 k133) w A0 l0.length l0) (hc0 : l0.length ≤ c0) (h : laws_toFlitSS.f k l0 = some r) :
  Calls Try.prog 71 #[.slice A0 l0.length c0] w fun e w' => ∃ v0_ : Value, e = .returned (v0_) ∧ Kd.S (Kd.slice 112 k112) 81 w' w.heap.size (fun _ => True) v0_ r ∧ Below w.heap.size w w' := by
 have HR0 := Aside0.mk hr0
 have HC0 := Aside0.mk hc0
 clear hr0 hc0
 have HB := Aside0.mk (Below.refl w.heap.size w)
 have H : (if 0 ≤ (l0.length : Int) then (if ((l0.length : Int) : Int).toNat ≤ 11728124029610 then (laws_toFlitSS.l0 k l0 (List.replicate ((l0.length : Int) : Int).toNat []) 0) else (none)) else (none)) = some r := h
 clear h
 by_cases c2 : 0 ≤ (l0.length : Int)
 ·rw [if_pos c2] at H
  have c2b0 := eq_true c2
  have c2b1 : decide (0 ≤ (l0.length : Int)) = true := decide_eq_true c2
  clear c2
  by_cases c3 : ((l0.length : Int) : Int).toNat ≤ 11728124029610
  ·rw [if_pos c3] at H
   have c3b0 := eq_true c3
   have c3b1 : decide (((l0.length : Int) : Int).toNat ≤ 11728124029610) = true := decide_eq_true c3
   clear c3
   obtain ⟨y189, hy189⟩ : ∃ y_ : List (List (S112)), y_ = (List.replicate ((l0.length : Int) : Int).toNat []) := ⟨_, rfl⟩
   replace H : (laws_toFlitSS.l0 k l0 y189 0) = some r := by first | (rw [hy189]; with_reducible exact H) | (have H2_ := (Option.bind_some _ _).symm.trans H; rw [hy189]; with_reducible exact H2_) | (have H2_ := (Option.bind_some _ _).symm.trans H; with_reducible exact H2_) | with_reducible exact H | (rw [hy189]; exact H) | exact H
   have Ny189 := Aside0.mk hy189
   clear hy189
   have H' := Aside0.mk H
   clear H
   go_enter Try.func71, Try.ntmps71
   go_wp2_with (first | ((with_reducible refine gate_dst (N := 7) rfl ?_); refine Kd.S_make (Kd.slice 112 k112) _ 81 rfl (N := 7) rfl 35 _ _ rfl (l0.length : Int) rfl rfl Try.underlying35 (.slice none 0 0) 24 info81 rfl (by decide) (by omega) [] (ok := fun _ => True) (okp := fun _ => True) ⟨_, rfl, Kd.R_nil _ _ _ _ _⟩ (fun _ hk => hk) trivial (of_decide_eq_true dg_) (Nat.le_trans (Nat.mul_le_mul_right _ (of_decide_eq_true dg_ : (l0.length : Int).toNat ≤ 11728124029610)) (by omega)) (Below.refl _ _) (Nat.le_refl _) ?_; intro v190 w4 ho5 hb hg_ hnew_; clear hg_ hnew_; (first | rw [← Ny189.out] at ho5 | (simp only [Int.reduceToNat] at ho5; rw [← Ny189.out] at ho5)); have HO191 := Aside0.mk (Kd.S_lower ho5 (bz_ HB.out)); replace HB := Aside0.mk (bs_ HB.out hb); clear hb ho5))
   go_loopg [4] k (fun kq v4 w' => ∃ (x3_1 : List (List (S112))) (x4_1 : Int), v4 = .int .i64 x4_1 ∧ Aside0 (laws_toFlitSS.l0 kq l0 x3_1 x4_1 = some r) ∧ Aside0 (kq ≤ k) ∧ Aside0 (Kd.S (Kd.slice 112 k112) 81 w' w.heap.size (fun _ => True) v190 x3_1) ∧ Aside0 (Below w.heap.size w w'))
   case atStart => exact ⟨(y189), (0), ef_, H', ⟨Nat.le_refl _⟩, ⟨by (with_reducible repeat (first | apply Kd.S_alloc | apply Kd.S_drewN | apply Kd.S_drew)); exact HO191.out⟩, ⟨bb_ HB.out⟩⟩
   case round =>
    clear H'
    try clear c2
    try clear c2b0
    try clear c2b1
    try clear c3
    try clear c3b0
    try clear c3b1
    obtain ⟨x3_1, x4_1, rfl, HA, HK1, HO_3, HB⟩ := hrel
    cases gk with
    | zero => exact absurd HA.out (by simp [laws_toFlitSS.l0])
    | succ k1 =>
     have H := HA.out
     clear HA
     simp only [laws_toFlitSS.l0] at H
     by_cases c6 : x4_1 < (l0.length : Int)
     ·rw [if_pos c6] at H
      have c6b0 : decide (x4_1 < (l0.length : Int)) = true := decide_eq_true c6
      clear c6
      by_cases c7 : 0 ≤ x4_1
      ·rw [if_pos c7] at H
       have c7b0 : decide (0 ≤ x4_1) = true := decide_eq_true c7
       clear c7
       replace H := Option.bind_eq_some_iff.mp H
       obtain ⟨t193, A80, H⟩ := H
       try dsimp only at H
       have A8 := Aside0.mk A80
       clear A80
       by_cases c9 : x4_1 < (x3_1.length : Int)
       ·rw [if_pos c9] at H
        have c9b0 : decide (x4_1 < (x3_1.length : Int)) = true := decide_eq_true c9
        clear c9
        obtain ⟨y196, hy196⟩ : ∃ y_ : List (List (S112)), y_ = (x3_1.set (x4_1 : Int).toNat t193) := ⟨_, rfl⟩
        replace H : (laws_toFlitSS.l0 k1 l0 y196 (wrap64 (x4_1 + 1))) = some r := by first | (rw [hy196]; with_reducible exact H) | (have H2_ := (Option.bind_some _ _).symm.trans H; rw [hy196]; with_reducible exact H2_) | (have H2_ := (Option.bind_some _ _).symm.trans H; with_reducible exact H2_) | with_reducible exact H | (rw [hy196]; exact H) | exact H
        have Ny196 := Aside0.mk hy196
        clear hy196
        have H' := Aside0.mk H
        clear H
        have p192 : 0 ≤ (x4_1 : Int) := of_decide_eq_true dg_
        have q192 : x4_1 < (l0.length : Int) := of_decide_eq_true dg_
        obtain ⟨ad192, A192_0, c192_0, e192, hx192_0, hl192_0, hi192_0⟩ := at_L5 HR0.out x4_1 p192 q192
        cases e192
        replace hx192_0 := (HB.out.cell (World.block_lt_of_cell? w _ hx192_0)).trans hx192_0
        have HR192_0 := Aside0.mk hi192_0
        have HC192_0 := Aside0.mk hl192_0
        clear hi192_0 hl192_0
        replace p192 := eq_true p192
        replace q192 := eq_true q192
        go_wp2_with (first | ((with_reducible refine gate_callee (f := 96) rfl ?_); refine gm_ (some 20) Try.func96 #[.slice A192_0 (rd_L5 l0 x4_1).length c192_0] rfl ?_; (with_reducible refine (laws_toFlitS.calls k1 _ _ (rd_L5 l0 x4_1) t193 _ ?side1 HC192_0.out A8.out).mono ?_); (case side1 => exact cb_ HR192_0.out HB.out); rintro e w11 ⟨v194, rfl, ho0, hb⟩; refine ⟨_, rfl, ?_⟩; replace HO_3 := Aside0.mk (Kd.S_elder' (sa_ HO_3.out) (Kd.R_base ho0) hb); have HO195 := Aside0.mk (Kd.R_lower ho0 (bz_ HB.out)); replace HB := Aside0.mk (bs_ HB.out hb); (try clear hb); (try clear ho0); have p10 : 0 ≤ (x4_1 : Int) := of_decide_eq_true dg_; have q10 : (x4_1 : Int) < ((x3_1.length : Int) : Int) := of_decide_eq_true dg_; obtain ⟨go10, co10, eo10, gb10, gl10, cl10, HG10⟩ := Kd.S_form HO_3.out (by omega); (first | cases eo10 | (injection eo10 with ea_ en_ ec_; (first | subst ea_ | (injection ea_ with ea_; subst ea_)); subst ec_; clear en_)); have GB10 := Aside0.mk gb10; have GG10 := Aside0.mk HG10; clear gb10 gl10 HG10; obtain ⟨_, ce10, hcl10, hM10, hcc10, hfr10, _, _⟩ := Kd.S_elem HO_3.out [] (x4_1 : Int) p10 q10; obtain ⟨ve10_0, rfl, ge10_0⟩ := hM10; have hx10_0 := hcc10 0 _ rfl; have hf10_0 := hfr10 0; (try simp only [show ((Kd.slice 112 k112)).sz = 1 from rfl, Nat.mul_one, Nat.add_zero] at hx10_0); (try simp only [show ((Kd.slice 112 k112)).sz = 1 from rfl, Nat.mul_one, Nat.add_zero] at hf10_0); clear hcl10 hcc10 hfr10; (try clear hM10); replace p10 := eq_true p10; replace q10 := eq_true q10; have n_ := Aside0.mk (Kd.S_mono (ok' := (fun k_ => some k_ ≠ (v194 : Value).ownBlock)) HO_3.out (fun k_ hk => hk.2)); clear HO_3; have HO_3 := n_; clear n_; have HX12 := Aside0.mk (show Kd.S (Kd.slice 112 k112) 81 w11 w.heap.size (fun k_ => ((fun _ => True)) k_ ∧ ¬ ((fun k_ => some k_ = (v194 : Value).ownBlock)) k_) (.slice (some ⟨go10, 0, none⟩) x3_1.length co10) x3_1 from (by (with_reducible repeat (first | apply Kd.S_alloc | apply Kd.S_drewN | apply Kd.S_drew)); exact Kd.S_mono HO_3.out (fun k_ hk => ⟨trivial, fun e_ => hk e_⟩))); obtain ⟨oki12, ce12, hcl12, hM12, hcc12, hfr12, hoki12, hH12⟩ := Kd.S_elem HX12.out [] (x4_1 : Int) (of_decide_eq_true dg_) (by have h_ : (x4_1 : Int) < ((x3_1.length : Int) : Int) := of_decide_eq_true dg_; first | exact h_ | (have e_ := (Kd.S_reads' HO_3.out).1; omega) | simpa using h_); obtain ⟨ve12_0, rfl, ge12_0⟩ := hM12; have HP12 := Kd.S_seg hH12 (of_decide_eq_true dg_) (by have h_ : (x4_1 : Int) < ((x3_1.length : Int) : Int) := of_decide_eq_true dg_; first | exact h_ | (have e_ := (Kd.S_reads' HO_3.out).1; omega) | simpa using h_) (seg := [v194]) (j := 0) (show 1 ≤ 1 from by decide) (x' := t193) (Kd.M_row (Kd.R_mono (Kd.R_tight rfl (Kd.R_mono (ok' := fun k_ => ((fun _ => True)) k_ ∧ k_ ≠ go10) (Kd.R_apart' (HO195.out) (Kd.S_typed HO_3.out) (by decide)) (fun k_ hk => ⟨trivial, fun e_ => (hk.2) (by rw [e_]; rfl)⟩))) (fun _ h_ => Or.inr (h_)))) (fun _ hk => hk) (fun k_ hk_ => ((Kd.R_mono (ok' := fun k_ => ((fun _ => True)) k_ ∧ k_ ≠ go10) (Kd.R_apart' (HO195.out) (Kd.S_typed HO_3.out) (by decide)) (fun k_ hk => ⟨trivial, fun e_ => (hk.2) (by rw [e_]; rfl)⟩))).1 k_ hk_.symm); have hx12_0 := hcc12 0 _ rfl; (try simp only [show ((Kd.slice 112 k112)).sz = 1 from rfl, Nat.mul_one, Nat.add_zero] at hx12_0); have hf12_0 := hfr12 0; (try simp only [show ((Kd.slice 112 k112)).sz = 1 from rfl, Nat.mul_one, Nat.add_zero] at hf12_0); clear hcl12 hcc12 hfr12 hoki12 hH12; (try clear hM12); (try simp only [show ((Kd.slice 112 k112)).sz = 1 from rfl, Nat.mul_one, Nat.add_zero] at HP12)) | ((with_reducible refine gate_store (t := 81) (p := 21) rfl ?_); refine store_event (t := 81) (p := 21) (v := ?vo_w13) (w1 := (w11.setCell ⟨go10, (x4_1 : Int).toNat, none⟩ (v194))) ?hg ?ho ?hn ?hr ?_; (case ho => rfl); (case hg => rfl); (case hn => rfl); (case hr => first | (go_simp; done) | (go_simp; rfl) | (obtain ⟨_, _, ev_⟩ := Kd.R_slice (v := v194) (Aside0.out (by assumption)); subst ev_; first | (go_simp; done) | (go_simp; rfl))); intro w13 hw; have hg : w11.grownBy w13 (some go10) := (by rw [hw]; exact HP12.2); have hp_ : Kd.S (Kd.slice 112 k112) 81 w13 w.heap.size (fun _ => True) (.slice (some ⟨go10, 0, none⟩) x3_1.length co10) y196 := (by rw [hw, Ny196.out]; exact HP12.1); clear HP12; have n0_ := Aside0.mk (hp_); have n1_ := Aside0.mk ((by rw [hw]; exact below_set (HB.out) GB10.out : Below w.heap.size w w13)); clear HO_3; clear HB; clear HO195; have HO_3 := n0_; have HB := n1_; clear n0_ n1_; clear hg hw hp_))
        go_roundg k1
        case measure => have := HK1.out; omega
        case rel => exact ⟨(y196), (wrap64 (x4_1 + 1)), ef_, H', ⟨by have := HK1.out; omega⟩, ⟨by (with_reducible repeat (first | apply Kd.S_alloc | apply Kd.S_drewN | apply Kd.S_drew)); exact HO_3.out⟩, ⟨bb_ HB.out⟩⟩
       ·rw [if_neg c9] at H
        exact absurd H (by simp)
      ·rw [if_neg c7] at H
       exact absurd H (by simp)
     ·rw [if_neg c6] at H
      have c6b0 : decide (x4_1 < (l0.length : Int)) = false := decide_eq_false c6
      clear c6
      obtain rfl := Option.some.inj H
      go_wp2
      go_ret
      exact ⟨_, fin_, by (with_reducible repeat (first | apply Kd.S_alloc | apply Kd.S_drewN | apply Kd.S_drew)); exact HO_3.out, bb_ HB.out⟩
  ·rw [if_neg c3] at H
   exact absurd H (by simp)
 ·rw [if_neg c2] at H
  exact absurd H (by simp)

/-! ### a network's rows, told apart by a tag for each block -/
structure Marks (T : Nat → Nat) (B : Nat) (w : World) (v2 v3 v4 v5 v6 v7 v8 v9 : Value) (l2 l3 l4 : List Int) (l5 : List (List S112)) (l6 l7 : List Int) (l8 l9 : List (List S112)) : Prop where
  lo : ∀ k, T k ≠ 0 → B ≤ k
  hi : ∀ k, T k ≠ 0 → k < w.heap.size
  h2 : Kd.R (Kd.int .i64) 3 w B (fun k => T k = 2) v2 l2
  h3 : Kd.R (Kd.int .i64) 3 w B (fun k => T k = 3) v3 l3
  h4 : Kd.R (Kd.int .i64) 3 w B (fun k => T k = 4) v4 l4
  h5 : Kd.S (Kd.slice 112 k112) 81 w B (fun k => T k = 5) v5 l5
  h6 : Kd.R (Kd.int .i64) 3 w B (fun k => T k = 6) v6 l6
  h7 : Kd.R (Kd.int .i64) 3 w B (fun k => T k = 7) v7 l7
  h8 : Kd.S (Kd.slice 112 k112) 81 w B (fun k => T k = 8) v8 l8
  h9 : Kd.S (Kd.slice 112 k112) 81 w B (fun k => T k = 9) v9 l9
section
variable {T : Nat → Nat} {B : Nat} {w w1 : World} {v2 v3 v4 v5 v6 v7 v8 v9 : Value} {l2 l3 l4 : List Int} {l5 : List (List S112)} {l6 l7 : List Int} {l8 l9 : List (List S112)}
theorem Marks.below (h : Marks T B w v2 v3 v4 v5 v6 v7 v8 v9 l2 l3 l4 l5 l6 l7 l8 l9) (hb : Below w.heap.size w w1) : Marks T B w1 v2 v3 v4 v5 v6 v7 v8 v9 l2 l3 l4 l5 l6 l7 l8 l9 :=
  ⟨h.lo, fun k hk => Nat.lt_of_lt_of_le (h.hi k hk) hb.size, Kd.R_below h.h2 hb, Kd.R_below h.h3 hb, Kd.R_below h.h4 hb, Kd.S_below h.h5 hb, Kd.R_below h.h6 hb, Kd.R_below h.h7 hb, Kd.S_below h.h8 hb, Kd.S_below h.h9 hb⟩
theorem Marks.lower {B' : Nat} (h : Marks T B w v2 v3 v4 v5 v6 v7 v8 v9 l2 l3 l4 l5 l6 l7 l8 l9) (hb : B' ≤ B) : Marks T B' w v2 v3 v4 v5 v6 v7 v8 v9 l2 l3 l4 l5 l6 l7 l8 l9 :=
  ⟨fun k hk => Nat.le_trans hb (h.lo k hk), h.hi, Kd.R_lower h.h2 hb, Kd.R_lower h.h3 hb, Kd.R_lower h.h4 hb, Kd.S_lower h.h5 hb, Kd.R_lower h.h6 hb, Kd.R_lower h.h7 hb, Kd.S_lower h.h8 hb, Kd.S_lower h.h9 hb⟩
theorem sq_ {α : Type} {d : Kd α} {e base : Nat} {ok : Nat → Prop} {v : Value} {xs : List α} (h : Kd.S d e w base ok v xs) : Kd.S d e w base (fun k => base ≤ k ∧ k < w.heap.size) v xs := Kd.S_mono (Kd.S_bound h) (fun _ hk => ⟨hk.2.1, hk.2.2.1⟩)
open Classical in
theorem marks_of {a5 b5 a8 b8 a9 b9 : Nat} {o2 o3 o4 o6 o7 : Nat → Prop}
    (h2 : Kd.R (Kd.int .i64) 3 w B o2 v2 l2)
    (h3 : Kd.R (Kd.int .i64) 3 w B o3 v3 l3) (p3 : ∀ k, o3 k → some k ≠ v2.ownBlock)
    (h4 : Kd.R (Kd.int .i64) 3 w B o4 v4 l4) (p4 : ∀ k, o4 k → some k ≠ v2.ownBlock ∧ some k ≠ v3.ownBlock)
    (h5 : Kd.S (Kd.slice 112 k112) 81 w B (fun k => a5 ≤ k ∧ k < b5) v5 l5)
    (h6 : Kd.R (Kd.int .i64) 3 w B o6 v6 l6) (p6 : ∀ k, o6 k → some k ≠ v2.ownBlock ∧ some k ≠ v3.ownBlock ∧ some k ≠ v4.ownBlock)
    (h7 : Kd.R (Kd.int .i64) 3 w B o7 v7 l7) (p7 : ∀ k, o7 k → some k ≠ v2.ownBlock ∧ some k ≠ v3.ownBlock ∧ some k ≠ v4.ownBlock ∧ some k ≠ v6.ownBlock)
    (h8 : Kd.S (Kd.slice 112 k112) 81 w B (fun k => a8 ≤ k ∧ k < b8) v8 l8)
    (h9 : Kd.S (Kd.slice 112 k112) 81 w B (fun k => a9 ≤ k ∧ k < b9) v9 l9) (z8 : b5 ≤ a8) (z9 : b8 ≤ a9) (z85 : a8 ≤ b8) :
    ∃ T, Marks T B w v2 v3 v4 v5 v6 v7 v8 v9 l2 l3 l4 l5 l6 l7 l8 l9 := by
  have t2 := Kd.R_typed h2
  have t3 := Kd.R_typed h3
  have t4 := Kd.R_typed h4
  have t6 := Kd.R_typed h6
  have t7 := Kd.R_typed h7
  have S5 := Kd.S_bound (Kd.S_apart' (Kd.S_apart' (Kd.S_apart' (Kd.S_apart' (Kd.S_apart' h5 t2 (by decide)) t3 (by decide)) t4 (by decide)) t6 (by decide)) t7 (by decide))
  have S8 := Kd.S_bound (Kd.S_apart' (Kd.S_apart' (Kd.S_apart' (Kd.S_apart' (Kd.S_apart' h8 t2 (by decide)) t3 (by decide)) t4 (by decide)) t6 (by decide)) t7 (by decide))
  have S9 := Kd.S_bound (Kd.S_apart' (Kd.S_apart' (Kd.S_apart' (Kd.S_apart' (Kd.S_apart' h9 t2 (by decide)) t3 (by decide)) t4 (by decide)) t6 (by decide)) t7 (by decide))
  let T : Nat → Nat := fun k => if some k = v2.ownBlock then 2 else if some k = v3.ownBlock then 3 else if some k = v4.ownBlock then 4 else if some k = v6.ownBlock then 6 else if some k = v7.ownBlock then 7
    else if B ≤ k ∧ k < w.heap.size then (if a5 ≤ k ∧ k < b5 then 5 else if a8 ≤ k ∧ k < b8 then 8 else if a9 ≤ k ∧ k < b9 then 9 else 0) else 0
  have hT : ∀ k, T k ≠ 0 → B ≤ k ∧ k < w.heap.size := by
    intro k hk
    simp only [T] at hk
    split at hk
    · rename_i e; exact ⟨Kd.R_base h2 k e.symm, Kd.R_lt h2 k e.symm⟩
    split at hk
    · rename_i e; exact ⟨Kd.R_base h3 k e.symm, Kd.R_lt h3 k e.symm⟩
    split at hk
    · rename_i e; exact ⟨Kd.R_base h4 k e.symm, Kd.R_lt h4 k e.symm⟩
    split at hk
    · rename_i e; exact ⟨Kd.R_base h6 k e.symm, Kd.R_lt h6 k e.symm⟩
    split at hk
    · rename_i e; exact ⟨Kd.R_base h7 k e.symm, Kd.R_lt h7 k e.symm⟩
    split at hk
    · rename_i e; exact e
    · exact absurd rfl hk
  refine ⟨T, fun k hk => (hT k hk).1, fun k hk => (hT k hk).2, ?_, ?_, ?_, ?_, ?_, ?_, ?_, ?_⟩
  · exact Kd.R_mono (Kd.R_tight rfl h2) (fun k e => if_pos e)
  · refine Kd.R_mono (Kd.R_tight rfl h3) (fun k e => ?_)
    have n2 := p3 k (h3.1 k e.symm)
    simp only [T, if_neg n2, if_pos e]
  · refine Kd.R_mono (Kd.R_tight rfl h4) (fun k e => ?_)
    obtain ⟨n2, n3⟩ := p4 k (h4.1 k e.symm)
    simp only [T, if_neg n2, if_neg n3, if_pos e]
  · refine Kd.S_mono S5 (fun k hk => ?_)
    obtain ⟨⟨⟨⟨⟨⟨c, n2⟩, n3⟩, n4⟩, n6⟩, n7⟩, c1, c2, _⟩ := hk
    simp only [T, if_neg n2, if_neg n3, if_neg n4, if_neg n6, if_neg n7, if_pos c, if_pos (And.intro c1 c2)]
  · refine Kd.R_mono (Kd.R_tight rfl h6) (fun k e => ?_)
    obtain ⟨n2, n3, n4⟩ := p6 k (h6.1 k e.symm)
    simp only [T, if_neg n2, if_neg n3, if_neg n4, if_pos e]
  · refine Kd.R_mono (Kd.R_tight rfl h7) (fun k e => ?_)
    obtain ⟨n2, n3, n4, n6⟩ := p7 k (h7.1 k e.symm)
    simp only [T, if_neg n2, if_neg n3, if_neg n4, if_neg n6, if_pos e]
  · refine Kd.S_mono S8 (fun k hk => ?_)
    obtain ⟨⟨⟨⟨⟨⟨c, n2⟩, n3⟩, n4⟩, n6⟩, n7⟩, c1, c2, _⟩ := hk
    simp only [T, if_neg n2, if_neg n3, if_neg n4, if_neg n6, if_neg n7, if_pos c, if_pos (And.intro c1 c2)]
    rw [if_neg (by omega)]
  · refine Kd.S_mono S9 (fun k hk => ?_)
    obtain ⟨⟨⟨⟨⟨⟨c, n2⟩, n3⟩, n4⟩, n6⟩, n7⟩, c1, c2, _⟩ := hk
    simp only [T, if_neg n2, if_neg n3, if_neg n4, if_neg n6, if_neg n7, if_pos c, if_pos (And.intro c1 c2)]
    rw [if_neg (by omega), if_neg (by omega)]
theorem Marks.set2 {ok' ok'' : Nat → Prop} {r2 : List Int} (h : Marks T B w v2 v3 v4 v5 v6 v7 v8 v9 l2 l3 l4 l5 l6 l7 l8 l9) (k : Kept w w1 (fun k => T k = 2)) (q2 : Kd.R (Kd.int .i64) 3 w1 B ok' v2 r2) : Marks T B w1 v2 v3 v4 v5 v6 v7 v8 v9 r2 l3 l4 l5 l6 l7 l8 l9 :=
  ⟨h.lo, fun q hq => Nat.lt_of_lt_of_le (h.hi q hq) k.1, Kd.R_reok rfl q2 (fun q e => h.h2.1 q e), Kd.R_kept h.h3 k (fun q a b => absurd (a.symm.trans b) (by decide)), Kd.R_kept h.h4 k (fun q a b => absurd (a.symm.trans b) (by decide)), Kd.S_kept h.h5 k (fun q a b => absurd (a.symm.trans b) (by decide)), Kd.R_kept h.h6 k (fun q a b => absurd (a.symm.trans b) (by decide)), Kd.R_kept h.h7 k (fun q a b => absurd (a.symm.trans b) (by decide)), Kd.S_kept h.h8 k (fun q a b => absurd (a.symm.trans b) (by decide)), Kd.S_kept h.h9 k (fun q a b => absurd (a.symm.trans b) (by decide))⟩
theorem Marks.set34 {ok' ok'' : Nat → Prop} {r3 r4 : List Int} (h : Marks T B w v2 v3 v4 v5 v6 v7 v8 v9 l2 l3 l4 l5 l6 l7 l8 l9) (k : Kept w w1 (fun k => T k = 3 ∨ T k = 4)) (q3 : Kd.R (Kd.int .i64) 3 w1 B ok' v3 r3) (q4 : Kd.R (Kd.int .i64) 3 w1 B ok'' v4 r4) : Marks T B w1 v2 v3 v4 v5 v6 v7 v8 v9 l2 r3 r4 l5 l6 l7 l8 l9 :=
  ⟨h.lo, fun q hq => Nat.lt_of_lt_of_le (h.hi q hq) k.1, Kd.R_kept h.h2 k (fun q a b => b.elim (fun b => absurd (a.symm.trans b) (by decide)) (fun b => absurd (a.symm.trans b) (by decide))), Kd.R_reok rfl q3 (fun q e => h.h3.1 q e), Kd.R_reok rfl q4 (fun q e => h.h4.1 q e), Kd.S_kept h.h5 k (fun q a b => b.elim (fun b => absurd (a.symm.trans b) (by decide)) (fun b => absurd (a.symm.trans b) (by decide))), Kd.R_kept h.h6 k (fun q a b => b.elim (fun b => absurd (a.symm.trans b) (by decide)) (fun b => absurd (a.symm.trans b) (by decide))), Kd.R_kept h.h7 k (fun q a b => b.elim (fun b => absurd (a.symm.trans b) (by decide)) (fun b => absurd (a.symm.trans b) (by decide))), Kd.S_kept h.h8 k (fun q a b => b.elim (fun b => absurd (a.symm.trans b) (by decide)) (fun b => absurd (a.symm.trans b) (by decide))), Kd.S_kept h.h9 k (fun q a b => b.elim (fun b => absurd (a.symm.trans b) (by decide)) (fun b => absurd (a.symm.trans b) (by decide)))⟩
theorem Marks.set5 {ok' ok'' : Nat → Prop} {r5 : List (List S112)} (h : Marks T B w v2 v3 v4 v5 v6 v7 v8 v9 l2 l3 l4 l5 l6 l7 l8 l9) (k : Kept w w1 (fun k => T k = 5)) (q5 : Kd.S (Kd.slice 112 k112) 81 w1 B (fun k => T k = 5) v5 r5) : Marks T B w1 v2 v3 v4 v5 v6 v7 v8 v9 l2 l3 l4 r5 l6 l7 l8 l9 :=
  ⟨h.lo, fun q hq => Nat.lt_of_lt_of_le (h.hi q hq) k.1, Kd.R_kept h.h2 k (fun q a b => absurd (a.symm.trans b) (by decide)), Kd.R_kept h.h3 k (fun q a b => absurd (a.symm.trans b) (by decide)), Kd.R_kept h.h4 k (fun q a b => absurd (a.symm.trans b) (by decide)), q5, Kd.R_kept h.h6 k (fun q a b => absurd (a.symm.trans b) (by decide)), Kd.R_kept h.h7 k (fun q a b => absurd (a.symm.trans b) (by decide)), Kd.S_kept h.h8 k (fun q a b => absurd (a.symm.trans b) (by decide)), Kd.S_kept h.h9 k (fun q a b => absurd (a.symm.trans b) (by decide))⟩
theorem Marks.set6 {ok' ok'' : Nat → Prop} {r6 : List Int} (h : Marks T B w v2 v3 v4 v5 v6 v7 v8 v9 l2 l3 l4 l5 l6 l7 l8 l9) (k : Kept w w1 (fun k => T k = 6)) (q6 : Kd.R (Kd.int .i64) 3 w1 B ok' v6 r6) : Marks T B w1 v2 v3 v4 v5 v6 v7 v8 v9 l2 l3 l4 l5 r6 l7 l8 l9 :=
  ⟨h.lo, fun q hq => Nat.lt_of_lt_of_le (h.hi q hq) k.1, Kd.R_kept h.h2 k (fun q a b => absurd (a.symm.trans b) (by decide)), Kd.R_kept h.h3 k (fun q a b => absurd (a.symm.trans b) (by decide)), Kd.R_kept h.h4 k (fun q a b => absurd (a.symm.trans b) (by decide)), Kd.S_kept h.h5 k (fun q a b => absurd (a.symm.trans b) (by decide)), Kd.R_reok rfl q6 (fun q e => h.h6.1 q e), Kd.R_kept h.h7 k (fun q a b => absurd (a.symm.trans b) (by decide)), Kd.S_kept h.h8 k (fun q a b => absurd (a.symm.trans b) (by decide)), Kd.S_kept h.h9 k (fun q a b => absurd (a.symm.trans b) (by decide))⟩
theorem Marks.set7 {ok' ok'' : Nat → Prop} {r7 : List Int} (h : Marks T B w v2 v3 v4 v5 v6 v7 v8 v9 l2 l3 l4 l5 l6 l7 l8 l9) (k : Kept w w1 (fun k => T k = 7)) (q7 : Kd.R (Kd.int .i64) 3 w1 B ok' v7 r7) : Marks T B w1 v2 v3 v4 v5 v6 v7 v8 v9 l2 l3 l4 l5 l6 r7 l8 l9 :=
  ⟨h.lo, fun q hq => Nat.lt_of_lt_of_le (h.hi q hq) k.1, Kd.R_kept h.h2 k (fun q a b => absurd (a.symm.trans b) (by decide)), Kd.R_kept h.h3 k (fun q a b => absurd (a.symm.trans b) (by decide)), Kd.R_kept h.h4 k (fun q a b => absurd (a.symm.trans b) (by decide)), Kd.S_kept h.h5 k (fun q a b => absurd (a.symm.trans b) (by decide)), Kd.R_kept h.h6 k (fun q a b => absurd (a.symm.trans b) (by decide)), Kd.R_reok rfl q7 (fun q e => h.h7.1 q e), Kd.S_kept h.h8 k (fun q a b => absurd (a.symm.trans b) (by decide)), Kd.S_kept h.h9 k (fun q a b => absurd (a.symm.trans b) (by decide))⟩
theorem Marks.set8 {ok' ok'' : Nat → Prop} {r8 : List (List S112)} (h : Marks T B w v2 v3 v4 v5 v6 v7 v8 v9 l2 l3 l4 l5 l6 l7 l8 l9) (k : Kept w w1 (fun k => T k = 8)) (q8 : Kd.S (Kd.slice 112 k112) 81 w1 B (fun k => T k = 8) v8 r8) : Marks T B w1 v2 v3 v4 v5 v6 v7 v8 v9 l2 l3 l4 l5 l6 l7 r8 l9 :=
  ⟨h.lo, fun q hq => Nat.lt_of_lt_of_le (h.hi q hq) k.1, Kd.R_kept h.h2 k (fun q a b => absurd (a.symm.trans b) (by decide)), Kd.R_kept h.h3 k (fun q a b => absurd (a.symm.trans b) (by decide)), Kd.R_kept h.h4 k (fun q a b => absurd (a.symm.trans b) (by decide)), Kd.S_kept h.h5 k (fun q a b => absurd (a.symm.trans b) (by decide)), Kd.R_kept h.h6 k (fun q a b => absurd (a.symm.trans b) (by decide)), Kd.R_kept h.h7 k (fun q a b => absurd (a.symm.trans b) (by decide)), q8, Kd.S_kept h.h9 k (fun q a b => absurd (a.symm.trans b) (by decide))⟩
theorem Marks.set9 {ok' ok'' : Nat → Prop} {r9 : List (List S112)} (h : Marks T B w v2 v3 v4 v5 v6 v7 v8 v9 l2 l3 l4 l5 l6 l7 l8 l9) (k : Kept w w1 (fun k => T k = 9)) (q9 : Kd.S (Kd.slice 112 k112) 81 w1 B (fun k => T k = 9) v9 r9) : Marks T B w1 v2 v3 v4 v5 v6 v7 v8 v9 l2 l3 l4 l5 l6 l7 l8 r9 :=
  ⟨h.lo, fun q hq => Nat.lt_of_lt_of_le (h.hi q hq) k.1, Kd.R_kept h.h2 k (fun q a b => absurd (a.symm.trans b) (by decide)), Kd.R_kept h.h3 k (fun q a b => absurd (a.symm.trans b) (by decide)), Kd.R_kept h.h4 k (fun q a b => absurd (a.symm.trans b) (by decide)), Kd.S_kept h.h5 k (fun q a b => absurd (a.symm.trans b) (by decide)), Kd.R_kept h.h6 k (fun q a b => absurd (a.symm.trans b) (by decide)), Kd.R_kept h.h7 k (fun q a b => absurd (a.symm.trans b) (by decide)), Kd.S_kept h.h8 k (fun q a b => absurd (a.symm.trans b) (by decide)), q9⟩
end

/-! ### laws_toNet: function 30 -/
def laws_toNet.f (k : Nat) (a0_0 : Int) (a0_1 : Int) (l0_2 : List Int) (l0_3 : List Int) (l0_4 : List Int) (l0_5 : List (List (S133))) (l0_6 : List Int) (l0_7 : List Int) (l0_8 : List (List (S133))) (l0_9 : List (List (S133))) (a0_10 : Int) : Option (Int × Int × List Int × List Int × List Int × (List (List (S112))) × List Int × List Int × (List (List (S112))) × (List (List (S112))) × Int) := (laws_toMesh.f k a0_0 a0_1 l0_2).bind fun bt200 => ((laws_toClasses.f k l0_3 l0_4).bind fun bt205 => ((laws_toFlitSS.f k l0_5).bind fun t211 => ((laws_toIntS.f k l0_6).bind fun t214 => ((laws_toIntS.f k l0_7).bind fun t217 => ((laws_toFlitSS.f k l0_8).bind fun t220 => ((laws_toFlitSS.f k l0_9).bind fun t223 => (some (bt200.1, bt200.2.1, bt200.2.2, bt205.1, bt205.2, t211, t214, t217, t220, t223, a0_10))))))))
theorem laws_toNet.mono : ∀ a0 a1 a2 a3 a4 a5 a6 a7 a8 a9 a10 k, LeO (laws_toNet.f k a0 a1 a2 a3 a4 a5 a6 a7 a8 a9 a10) (laws_toNet.f (k + 1) a0 a1 a2 a3 a4 a5 a6 a7 a8 a9 a10) := by
 intro a0 a1 a2 a3 a4 a5 a6 a7 a8 a9 a10 k
 unfold laws_toNet.f
 repeat' first
   | (with_reducible exact laws_toClasses.mono _ _ _)
   | (with_reducible exact laws_toFlitSS.mono _ _)
   | (with_reducible exact laws_toIntS.mono _ _)
   | (with_reducible exact laws_toMesh.mono _ _ _ _)
   | (with_reducible exact LeO.refl _)
   | (with_reducible exact LeO.none _)
   | (with_reducible refine LeO.ite ?_ ?_)
   | (with_reducible refine LeO.bind ?_ (fun _ => ?_))
   | exact laws_toClasses.mono _ _ _
   | exact laws_toFlitSS.mono _ _
   | exact laws_toIntS.mono _ _
   | exact laws_toMesh.mono _ _ _ _
   | exact LeO.none _
   | refine LeO.ite ?_ ?_
   | refine LeO.bind ?_ (fun _ => ?_)
set_option maxHeartbeats 8000000 in
set_option maxRecDepth 100000 in
theorem laws_toNet.calls (k : Nat) (a0_0 : Int) (a0_1 : Int) (A0_2 : Option Addr) (c0_2 : Nat) (l0_2 : List Int) (A0_3 : Option Addr) (c0_3 : Nat) (l0_3 : List Int) (A0_4 : Option Addr) (c0_4 : Nat) (l0_4 : List Int) (A0_5 : Option Addr) (c0_5 : Nat) (l0_5 : List (List (S133))) (A0_6 : Option Addr) (c0_6 : Nat) (l0_6 : List Int) (A0_7 : Option Addr) (c0_7 : Nat) (l0_7 : List Int) (A0_8 : Option Addr) (c0_8 : Nat) (l0_8 : List (List (S133))) (A0_9 : Option Addr) (c0_9 : Nat) (l0_9 : List (List (S133))) (a0_10 : Int) (r1 : Int) (r2 : Int) (r3 : List Int) (r4 : List Int) (r5 : List Int) (r6 : List (List (S112))) (r7 : List Int) (r8 : List Int) (r9 : List (List (S112))) (r10 : List (List (S112))) (r11 : Int) (w : World) (hr0_2 : Kd.C (Kd.int .i64) w A0_2 l0_2.length l0_2) (hc0_2 : l0_2.length ≤ c0_2) (hr0_3 : Kd.C (Kd.int .i64) w A0_3 l0_3.length l0_3) (hc0_3 : l0_3.length ≤ c0_3) (hr0_4 : Kd.C (Kd.int .i64) w A0_4 l0_4.length l0_4) (hc0_4 : l0_4.length ≤ c0_4) (hr0_5 : Kd.C (Kd.slice 133 k133) w A0_5 l0_5.length l0_5) (hc0_5 : l0_5.length ≤ c0_5) (hr0_6 : Kd.C (Kd.int .i64) w A0_6 l0_6.length l0_6) (hc0_6 : l0_6.length ≤ c0_6) (hr0_7 : Kd.C (Kd.int .i64) w A0_7 l0_7.length l0_7) (hc0_7 : l0_7.length ≤ c0_7) (hr0_8 : Kd.C (Kd.slice 133 k133) w A0_8 l0_8.length l0_8) (hc0_8 : l0_8.length ≤ c0_8) (hr0_9 : Kd.C (Kd.slice 133 k133) w A0_9 l0_9.length l0_9) (hc0_9 : l0_9.length ≤ c0_9) (h : laws_toNet.f k a0_0 a0_1 l0_2 l0_3 l0_4 l0_5 l0_6 l0_7 l0_8 l0_9 a0_10 = some (r1, r2, r3, r4, r5, r6, r7, r8, r9, r10, r11)) :
  Calls Try.prog 30 #[.agg #[.int .i64 a0_0, .int .i64 a0_1, .slice A0_2 l0_2.length c0_2, .slice A0_3 l0_3.length c0_3, .slice A0_4 l0_4.length c0_4, .slice A0_5 l0_5.length c0_5, .slice A0_6 l0_6.length c0_6, .slice A0_7 l0_7.length c0_7, .slice A0_8 l0_8.length c0_8, .slice A0_9 l0_9.length c0_9, .int .i64 a0_10]] w fun e w' => ∃ v2_ v3_ v4_ v5_ v6_ v7_ v8_ v9_ : Value, e = .returned (.agg #[.int .i64 r1, .int .i64 r2, v2_, v3_, v4_, v5_, v6_, v7_, v8_, v9_, .int .i64 r11]) ∧ Kd.R (Kd.int .i64) 3 w' w.heap.size (fun k_ => some k_ ≠ (v3_ : Value).ownBlock ∧ some k_ ≠ (v4_ : Value).ownBlock ∧ some k_ ≠ (v6_ : Value).ownBlock ∧ some k_ ≠ (v7_ : Value).ownBlock) v2_ r3 ∧ Kd.R (Kd.int .i64) 3 w' w.heap.size (fun k_ => some k_ ≠ (v2_ : Value).ownBlock ∧ some k_ ≠ (v4_ : Value).ownBlock ∧ some k_ ≠ (v6_ : Value).ownBlock ∧ some k_ ≠ (v7_ : Value).ownBlock) v3_ r4 ∧ Kd.R (Kd.int .i64) 3 w' w.heap.size (fun k_ => some k_ ≠ (v2_ : Value).ownBlock ∧ some k_ ≠ (v3_ : Value).ownBlock ∧ some k_ ≠ (v6_ : Value).ownBlock ∧ some k_ ≠ (v7_ : Value).ownBlock) v4_ r5 ∧ Kd.S (Kd.slice 112 k112) 81 w' w.heap.size (fun k_ => some k_ ≠ (v8_ : Value).ownBlock ∧ some k_ ≠ (v9_ : Value).ownBlock) v5_ r6 ∧ Kd.R (Kd.int .i64) 3 w' w.heap.size (fun k_ => some k_ ≠ (v2_ : Value).ownBlock ∧ some k_ ≠ (v3_ : Value).ownBlock ∧ some k_ ≠ (v4_ : Value).ownBlock ∧ some k_ ≠ (v7_ : Value).ownBlock) v6_ r7 ∧ Kd.R (Kd.int .i64) 3 w' w.heap.size (fun k_ => some k_ ≠ (v2_ : Value).ownBlock ∧ some k_ ≠ (v3_ : Value).ownBlock ∧ some k_ ≠ (v4_ : Value).ownBlock ∧ some k_ ≠ (v6_ : Value).ownBlock) v7_ r8 ∧ Kd.S (Kd.slice 112 k112) 81 w' w.heap.size (fun k_ => some k_ ≠ (v5_ : Value).ownBlock ∧ some k_ ≠ (v9_ : Value).ownBlock) v8_ r9 ∧ Kd.S (Kd.slice 112 k112) 81 w' w.heap.size (fun k_ => some k_ ≠ (v5_ : Value).ownBlock ∧ some k_ ≠ (v8_ : Value).ownBlock) v9_ r10 ∧ Below w.heap.size w w' := by
 have hu63 := Try.underlying63
 have hu37 := Try.underlying37
 have hu46 := Try.underlying46
 have hu28 := Try.underlying28
 have hu49 := Try.underlying49
 have hu32 := Try.underlying32
 have HR0_2 := Aside0.mk hr0_2
 have HC0_2 := Aside0.mk hc0_2
 clear hr0_2 hc0_2
 have HR0_3 := Aside0.mk hr0_3
 have HC0_3 := Aside0.mk hc0_3
 clear hr0_3 hc0_3
 have HR0_4 := Aside0.mk hr0_4
 have HC0_4 := Aside0.mk hc0_4
 clear hr0_4 hc0_4
 have HR0_5 := Aside0.mk hr0_5
 have HC0_5 := Aside0.mk hc0_5
 clear hr0_5 hc0_5
 have HR0_6 := Aside0.mk hr0_6
 have HC0_6 := Aside0.mk hc0_6
 clear hr0_6 hc0_6
 have HR0_7 := Aside0.mk hr0_7
 have HC0_7 := Aside0.mk hc0_7
 clear hr0_7 hc0_7
 have HR0_8 := Aside0.mk hr0_8
 have HC0_8 := Aside0.mk hc0_8
 clear hr0_8 hc0_8
 have HR0_9 := Aside0.mk hr0_9
 have HC0_9 := Aside0.mk hc0_9
 clear hr0_9 hc0_9
 have HB := Aside0.mk (Below.refl w.heap.size w)
 have H : ((laws_toMesh.f k a0_0 a0_1 l0_2).bind fun bt200 => ((laws_toClasses.f k l0_3 l0_4).bind fun bt205 => ((laws_toFlitSS.f k l0_5).bind fun t211 => ((laws_toIntS.f k l0_6).bind fun t214 => ((laws_toIntS.f k l0_7).bind fun t217 => ((laws_toFlitSS.f k l0_8).bind fun t220 => ((laws_toFlitSS.f k l0_9).bind fun t223 => (some (bt200.1, bt200.2.1, bt200.2.2, bt205.1, bt205.2, t211, t214, t217, t220, t223, a0_10))))))))) = some (r1, r2, r3, r4, r5, r6, r7, r8, r9, r10, r11) := h
 clear h
 replace H := Option.bind_eq_some_iff.mp H
 obtain ⟨⟨t200, t201, t202⟩, A20, H⟩ := H
 try dsimp only at H
 have A2 := Aside0.mk A20
 clear A20
 replace H := Option.bind_eq_some_iff.mp H
 obtain ⟨⟨t205, t208⟩, A30, H⟩ := H
 try dsimp only at H
 have A3 := Aside0.mk A30
 clear A30
 replace H := Option.bind_eq_some_iff.mp H
 obtain ⟨t211, A40, H⟩ := H
 try dsimp only at H
 have A4 := Aside0.mk A40
 clear A40
 replace H := Option.bind_eq_some_iff.mp H
 obtain ⟨t214, A50, H⟩ := H
 try dsimp only at H
 have A5 := Aside0.mk A50
 clear A50
 replace H := Option.bind_eq_some_iff.mp H
 obtain ⟨t217, A60, H⟩ := H
 try dsimp only at H
 have A6 := Aside0.mk A60
 clear A60
 replace H := Option.bind_eq_some_iff.mp H
 obtain ⟨t220, A70, H⟩ := H
 try dsimp only at H
 have A7 := Aside0.mk A70
 clear A70
 replace H := Option.bind_eq_some_iff.mp H
 obtain ⟨t223, A80, H⟩ := H
 try dsimp only at H
 have A8 := Aside0.mk A80
 clear A80
 simp only [Option.some.injEq, Prod.mk.injEq] at H
 obtain ⟨rfl, rfl, rfl, rfl, rfl, rfl, rfl, rfl, rfl, rfl, rfl⟩ := H
 go_enter Try.func30, Try.ntmps30
 go_wp2_with (first | ((with_reducible refine gate_dst (N := 1) rfl ?_); refine box_event ?hg (N := 1) ?hd (cs := #[.int .i64 a0_0, .int .i64 a0_1, .slice A0_2 l0_2.length c0_2, .slice A0_3 l0_3.length c0_3, .slice A0_4 l0_4.length c0_4, .slice A0_5 l0_5.length c0_5, .slice A0_6 l0_6.length c0_6, .slice A0_7 l0_7.length c0_7, .slice A0_8 l0_8.length c0_8, .slice A0_9 l0_9.length c0_9, .int .i64 a0_10]) (t := 63) ?hr ?_; (case hd => rfl); (case hg => rfl); (case hr => first | (go_simp; done) | (go_simp; rfl)); intro gb197 hg w9 hbox hb; have BK197 := Aside0.mk (hbox); have GW197 := Aside0.mk ((by rw [hg]; exact (bz_ HB.out) : w.heap.size ≤ gb197)); have GE197 := Aside0.mk ((by rw [hg]; exact (bz_ HB.out) : w.heap.size ≤ gb197)); replace HB := Aside0.mk (bs_ HB.out hb); clear hb hbox hg) | ((with_reducible refine gate_dst (N := 2) rfl ?_); refine box_event ?hg (N := 2) ?hd (cs := #[.int .i64 0, .int .i64 0, .slice none 0 0, .slice none 0 0, .slice none 0 0, .slice none 0 0, .slice none 0 0, .slice none 0 0, .slice none 0 0, .slice none 0 0, .int .i64 0]) (t := 37) ?hr ?_; (case hd => rfl); (case hg => rfl); (case hr => first | (go_simp; done) | (go_simp; rfl)); intro gb198 hg w10 hbox hb; have BK198 := Aside0.mk (hbox); have GW198 := Aside0.mk ((by rw [hg]; exact (bz_ HB.out) : w.heap.size ≤ gb198)); have GE198 := Aside0.mk ((by rw [hg]; exact (bz_ HB.out) : w.heap.size ≤ gb198)); replace HB := Aside0.mk (bs_ HB.out hb); have NB197_198 := Aside0.mk ((by rw [hg]; exact Nat.ne_of_lt (bl_ BK197.out) : gb197 ≠ gb198)); have NB198_197 := Aside0.mk ((by rw [hg]; exact Nat.ne_of_gt (bl_ BK197.out) : gb198 ≠ gb197)); replace BK197 := Aside0.mk (bk_ BK197.out hb); clear hb hbox hg) | ((with_reducible refine gate_dst (N := 3) rfl ?_); refine box_event ?hg (N := 3) ?hd (cs := #[.int .i64 0, .int .i64 0, .slice none 0 0, .slice none 0 0, .slice none 0 0, .slice none 0 0, .slice none 0 0, .slice none 0 0, .slice none 0 0, .slice none 0 0, .int .i64 0]) (t := 37) ?hr ?_; (case hd => rfl); (case hg => rfl); (case hr => first | (go_simp; done) | (go_simp; rfl)); intro gb199 hg w11 hbox hb; have BK199 := Aside0.mk (hbox); have GW199 := Aside0.mk ((by rw [hg]; exact (bz_ HB.out) : w.heap.size ≤ gb199)); have GE199 := Aside0.mk ((by rw [hg]; exact (bz_ HB.out) : w.heap.size ≤ gb199)); replace HB := Aside0.mk (bs_ HB.out hb); have NB197_199 := Aside0.mk ((by rw [hg]; exact Nat.ne_of_lt (bl_ BK197.out) : gb197 ≠ gb199)); have NB199_197 := Aside0.mk ((by rw [hg]; exact Nat.ne_of_gt (bl_ BK197.out) : gb199 ≠ gb197)); replace BK197 := Aside0.mk (bk_ BK197.out hb); have NB198_199 := Aside0.mk ((by rw [hg]; exact Nat.ne_of_lt (bl_ BK198.out) : gb198 ≠ gb199)); have NB199_198 := Aside0.mk ((by rw [hg]; exact Nat.ne_of_gt (bl_ BK198.out) : gb199 ≠ gb198)); replace BK198 := Aside0.mk (bk_ BK198.out hb); clear hb hbox hg; have hnb12 := NB197_198.out; have hnc12 := NB198_197.out; have hnb13 := NB197_199.out; have hnc13 := NB199_197.out; obtain ⟨hcz14_0, hcz14_1, hcz14_2, hcz14_3, hcz14_4, hcz14_5, hcz14_6, hcz14_7, hcz14_8, hcz14_9, hcz14_10, hfz14_0, hfz14_1, hfz14_2, hfz14_3, hfz14_4, hfz14_5, hfz14_6, hfz14_7, hfz14_8, hfz14_9, hfz14_10⟩ := cz11_ BK197.out) | ((with_reducible refine gate_callee (f := 19) rfl ?_); refine gm_ (some 6) Try.func19 #[.agg #[.int .i64 a0_0, .int .i64 a0_1, .slice A0_2 l0_2.length c0_2]] rfl ?_; (with_reducible refine (laws_toMesh.calls k a0_0 a0_1 _ _ l0_2 t200 t201 t202 _ ?side1 HC0_2.out A2.out).mono ?_); (case side1 => exact cb_ HR0_2.out HB.out); rintro e w15 ⟨v203, rfl, ho0, hb⟩; refine ⟨_, rfl, ?_⟩; have HO204 := Aside0.mk (Kd.R_lower ho0 (bz_ HB.out)); replace BK197 := Aside0.mk (bk_ BK197.out hb); replace BK198 := Aside0.mk (bk_ BK198.out hb); replace BK199 := Aside0.mk (bk_ BK199.out hb); replace HB := Aside0.mk (bs_ HB.out hb); (try clear hb); (try clear ho0); have hnb16 := NB199_198.out; have hnc16 := NB198_199.out; obtain ⟨hcz17_0, hcz17_1, hcz17_2, hcz17_3, hcz17_4, hcz17_5, hcz17_6, hcz17_7, hcz17_8, hcz17_9, hcz17_10, hfz17_0, hfz17_1, hfz17_2, hfz17_3, hfz17_4, hfz17_5, hfz17_6, hfz17_7, hfz17_8, hfz17_9, hfz17_10⟩ := cz11_ BK199.out; obtain ⟨Ao18, co18, eo18⟩ := Kd.R_slice HO204.out; subst eo18; obtain ⟨hcz19_0, hcz19_1, hcz19_2, hcz19_3, hcz19_4, hcz19_5, hcz19_6, hcz19_7, hcz19_8, hcz19_9, hcz19_10, hfz19_0, hfz19_1, hfz19_2, hfz19_3, hfz19_4, hfz19_5, hfz19_6, hfz19_7, hfz19_8, hfz19_9, hfz19_10⟩ := cz11_ BK197.out) | ((with_reducible refine gate_callee (f := 20) rfl ?_); refine gm_ (some 10) Try.func20 #[.agg #[.slice A0_3 l0_3.length c0_3, .slice A0_4 l0_4.length c0_4]] rfl ?_; (with_reducible refine (laws_toClasses.calls k _ _ l0_3 _ _ l0_4 t205 t208 _ ?side1 HC0_3.out ?side3 HC0_4.out A3.out).mono ?_); (case side1 => exact Kd.C_below HR0_3.out (by repeat (first | (with_reducible first | exact HB.out | apply below_alloc | apply pw_below_drewN | apply below_drew1 | refine below_set ?_ GE197.out | refine below_set ?_ GE198.out | refine below_set ?_ GE199.out) | exact HB.out))); (case side3 => exact Kd.C_below HR0_4.out (by repeat (first | (with_reducible first | exact HB.out | apply below_alloc | apply pw_below_drewN | apply below_drew1 | refine below_set ?_ GE197.out | refine below_set ?_ GE198.out | refine below_set ?_ GE199.out) | exact HB.out))); rintro e w20 ⟨v206, v209, rfl, ho0, ho1, hb⟩; refine ⟨_, rfl, ?_⟩; have HO207 := Aside0.mk (Kd.R_lower (Kd.R_new' ho0 (Kd.R_lt (rm_ (Kd.R_types HO204.out BK199.out (by decide)) (fun _ h_ => h_.1)))) (bz_ HB.out)); have HO210 := Aside0.mk (Kd.R_lower (Kd.R_new' ho1 (Kd.R_lt (rm_ (Kd.R_types HO204.out BK199.out (by decide)) (fun _ h_ => h_.1)))) (bz_ HB.out)); replace HO204 := Aside0.mk (Kd.R_mono (Kd.R_told (Kd.R_told (Kd.R_old (rm_ (Kd.R_types HO204.out BK199.out (by decide)) (fun _ h_ => h_.1)) hb) (Kd.R_base ho0)) (Kd.R_base ho1)) (fun _ h_ => h_.1)); replace BK197 := Aside0.mk (blk_below (bf_ BK197.out) hb); replace BK198 := Aside0.mk (blk_below (bf_ BK198.out) hb); replace BK199 := Aside0.mk (blk_below (g := gb199) (o := .cells #[.int .i64 t200, .int .i64 t201, .slice Ao18 t202.length co18, .slice none 0 0, .slice none 0 0, .slice none 0 0, .slice none 0 0, .slice none 0 0, .slice none 0 0, .slice none 0 0, .int .i64 0] 37 (0, 0)) (by (with_reducible repeat (first | refine blk_drewN ?_ _ | refine blk_drew ?_ | refine blk_alloc ?_ _)); refine blk_put (cs := #[.int .i64 t200, .int .i64 t201, .slice none 0 0, .slice none 0 0, .slice none 0 0, .slice none 0 0, .slice none 0 0, .slice none 0 0, .slice none 0 0, .slice none 0 0, .int .i64 0]) ?_ 2 _ rfl; (with_reducible repeat (first | refine blk_drewN ?_ _ | refine blk_drew ?_ | refine blk_alloc ?_ _)); refine blk_put (cs := #[.int .i64 t200, .int .i64 0, .slice none 0 0, .slice none 0 0, .slice none 0 0, .slice none 0 0, .slice none 0 0, .slice none 0 0, .slice none 0 0, .slice none 0 0, .int .i64 0]) ?_ 1 _ rfl; (with_reducible repeat (first | refine blk_drewN ?_ _ | refine blk_drew ?_ | refine blk_alloc ?_ _)); refine blk_put (cs := #[.int .i64 0, .int .i64 0, .slice none 0 0, .slice none 0 0, .slice none 0 0, .slice none 0 0, .slice none 0 0, .slice none 0 0, .slice none 0 0, .slice none 0 0, .int .i64 0]) ?_ 0 _ rfl; (with_reducible repeat (first | refine blk_drewN ?_ _ | refine blk_drew ?_ | refine blk_alloc ?_ _)); exact BK199.out) hb); replace HB := Aside0.mk (bs_ HB.out hb); (try clear hb); (try clear ho0); (try clear ho1); obtain ⟨Ao21, co21, eo21⟩ := Kd.R_slice HO207.out; subst eo21; obtain ⟨hcz22_0, hcz22_1, hcz22_2, hcz22_3, hcz22_4, hcz22_5, hcz22_6, hcz22_7, hcz22_8, hcz22_9, hcz22_10, hfz22_0, hfz22_1, hfz22_2, hfz22_3, hfz22_4, hfz22_5, hfz22_6, hfz22_7, hfz22_8, hfz22_9, hfz22_10⟩ := cz11_ BK199.out; obtain ⟨Ao23, co23, eo23⟩ := Kd.R_slice HO210.out; subst eo23; obtain ⟨hcz24_0, hcz24_1, hcz24_2, hcz24_3, hcz24_4, hcz24_5, hcz24_6, hcz24_7, hcz24_8, hcz24_9, hcz24_10, hfz24_0, hfz24_1, hfz24_2, hfz24_3, hfz24_4, hfz24_5, hfz24_6, hfz24_7, hfz24_8, hfz24_9, hfz24_10⟩ := cz11_ BK197.out) | ((with_reducible refine gate_callee (f := 71) rfl ?_); refine gm_ (some 14) Try.func71 #[.slice A0_5 l0_5.length c0_5] rfl ?_; (with_reducible refine (laws_toFlitSS.calls k _ _ l0_5 t211 _ ?side1 HC0_5.out A4.out).mono ?_); (case side1 => exact Kd.C_below HR0_5.out (by repeat (first | (with_reducible first | exact HB.out | apply below_alloc | apply pw_below_drewN | apply below_drew1 | refine below_set ?_ GE197.out | refine below_set ?_ GE198.out | refine below_set ?_ GE199.out) | exact HB.out))); rintro e w25 ⟨v212, rfl, ho0, hb⟩; refine ⟨_, rfl, ?_⟩; replace HO204 := Aside0.mk (Kd.R_below (rm_ (Kd.R_types HO204.out BK199.out (by decide)) (fun _ h_ => h_.1)) hb); replace HO207 := Aside0.mk (Kd.R_below (rm_ (Kd.R_types HO207.out BK199.out (by decide)) (fun _ h_ => h_.1)) hb); replace HO210 := Aside0.mk (Kd.R_below (rm_ (Kd.R_types HO210.out BK199.out (by decide)) (fun _ h_ => h_.1)) hb); have HO213 := Aside0.mk (Kd.S_lower ho0 (bz_ HB.out)); replace BK197 := Aside0.mk (blk_below (bf_ BK197.out) hb); replace BK198 := Aside0.mk (blk_below (bf_ BK198.out) hb); replace BK199 := Aside0.mk (blk_below (g := gb199) (o := .cells #[.int .i64 t200, .int .i64 t201, .slice Ao18 t202.length co18, .slice Ao21 t205.length co21, .slice Ao23 t208.length co23, .slice none 0 0, .slice none 0 0, .slice none 0 0, .slice none 0 0, .slice none 0 0, .int .i64 0] 37 (0, 0)) (by (with_reducible repeat (first | refine blk_drewN ?_ _ | refine blk_drew ?_ | refine blk_alloc ?_ _)); refine blk_put (cs := #[.int .i64 t200, .int .i64 t201, .slice Ao18 t202.length co18, .slice Ao21 t205.length co21, .slice none 0 0, .slice none 0 0, .slice none 0 0, .slice none 0 0, .slice none 0 0, .slice none 0 0, .int .i64 0]) ?_ 4 _ rfl; (with_reducible repeat (first | refine blk_drewN ?_ _ | refine blk_drew ?_ | refine blk_alloc ?_ _)); refine blk_put (cs := #[.int .i64 t200, .int .i64 t201, .slice Ao18 t202.length co18, .slice none 0 0, .slice none 0 0, .slice none 0 0, .slice none 0 0, .slice none 0 0, .slice none 0 0, .slice none 0 0, .int .i64 0]) ?_ 3 _ rfl; (with_reducible repeat (first | refine blk_drewN ?_ _ | refine blk_drew ?_ | refine blk_alloc ?_ _)); exact BK199.out) hb); replace HB := Aside0.mk (bs_ HB.out hb); (try clear hb); (try clear ho0); obtain ⟨Ao26, co26, eo26⟩ := Kd.S_slice HO213.out; subst eo26; obtain ⟨hcz27_0, hcz27_1, hcz27_2, hcz27_3, hcz27_4, hcz27_5, hcz27_6, hcz27_7, hcz27_8, hcz27_9, hcz27_10, hfz27_0, hfz27_1, hfz27_2, hfz27_3, hfz27_4, hfz27_5, hfz27_6, hfz27_7, hfz27_8, hfz27_9, hfz27_10⟩ := cz11_ BK199.out; obtain ⟨hcz28_0, hcz28_1, hcz28_2, hcz28_3, hcz28_4, hcz28_5, hcz28_6, hcz28_7, hcz28_8, hcz28_9, hcz28_10, hfz28_0, hfz28_1, hfz28_2, hfz28_3, hfz28_4, hfz28_5, hfz28_6, hfz28_7, hfz28_8, hfz28_9, hfz28_10⟩ := cz11_ BK197.out) | ((with_reducible refine gate_callee (f := 58) rfl ?_); refine gm_ (some 18) Try.func58 #[.slice A0_6 l0_6.length c0_6] rfl ?_; (with_reducible refine (laws_toIntS.calls k _ _ l0_6 t214 _ ?side1 HC0_6.out A5.out).mono ?_); (case side1 => exact Kd.C_below HR0_6.out (by repeat (first | (with_reducible first | exact HB.out | apply below_alloc | apply pw_below_drewN | apply below_drew1 | refine below_set ?_ GE197.out | refine below_set ?_ GE198.out | refine below_set ?_ GE199.out) | exact HB.out))); rintro e w29 ⟨v215, rfl, ho0, hb⟩; refine ⟨_, rfl, ?_⟩; replace HO213 := Aside0.mk (Kd.S_below (sm_ (Kd.S_types HO213.out BK199.out (by decide)) (fun _ h_ => h_.1)) hb); have HO216 := Aside0.mk (Kd.R_lower (Kd.R_new' (Kd.R_new' (Kd.R_new' ho0 (Kd.R_lt (rm_ (Kd.R_types HO204.out BK199.out (by decide)) (fun _ h_ => h_.1)))) (Kd.R_lt (rm_ (Kd.R_types HO207.out BK199.out (by decide)) (fun _ h_ => h_.1)))) (Kd.R_lt (rm_ (Kd.R_types HO210.out BK199.out (by decide)) (fun _ h_ => h_.1)))) (bz_ HB.out)); replace HO204 := Aside0.mk (Kd.R_elder' (rm_ (Kd.R_types HO204.out BK199.out (by decide)) (fun _ h_ => h_.1)) (Kd.R_base ho0) hb); replace HO207 := Aside0.mk (Kd.R_elder' (rm_ (Kd.R_types HO207.out BK199.out (by decide)) (fun _ h_ => h_.1)) (Kd.R_base ho0) hb); replace HO210 := Aside0.mk (Kd.R_elder' (rm_ (Kd.R_types HO210.out BK199.out (by decide)) (fun _ h_ => h_.1)) (Kd.R_base ho0) hb); replace BK197 := Aside0.mk (blk_below (bf_ BK197.out) hb); replace BK198 := Aside0.mk (blk_below (bf_ BK198.out) hb); replace BK199 := Aside0.mk (blk_below (g := gb199) (o := .cells #[.int .i64 t200, .int .i64 t201, .slice Ao18 t202.length co18, .slice Ao21 t205.length co21, .slice Ao23 t208.length co23, .slice Ao26 t211.length co26, .slice none 0 0, .slice none 0 0, .slice none 0 0, .slice none 0 0, .int .i64 0] 37 (0, 0)) (by (with_reducible repeat (first | refine blk_drewN ?_ _ | refine blk_drew ?_ | refine blk_alloc ?_ _)); refine blk_put (cs := #[.int .i64 t200, .int .i64 t201, .slice Ao18 t202.length co18, .slice Ao21 t205.length co21, .slice Ao23 t208.length co23, .slice none 0 0, .slice none 0 0, .slice none 0 0, .slice none 0 0, .slice none 0 0, .int .i64 0]) ?_ 5 _ rfl; (with_reducible repeat (first | refine blk_drewN ?_ _ | refine blk_drew ?_ | refine blk_alloc ?_ _)); exact BK199.out) hb); replace HB := Aside0.mk (bs_ HB.out hb); (try clear hb); (try clear ho0); obtain ⟨Ao30, co30, eo30⟩ := Kd.R_slice HO216.out; subst eo30; obtain ⟨hcz31_0, hcz31_1, hcz31_2, hcz31_3, hcz31_4, hcz31_5, hcz31_6, hcz31_7, hcz31_8, hcz31_9, hcz31_10, hfz31_0, hfz31_1, hfz31_2, hfz31_3, hfz31_4, hfz31_5, hfz31_6, hfz31_7, hfz31_8, hfz31_9, hfz31_10⟩ := cz11_ BK199.out; obtain ⟨hcz32_0, hcz32_1, hcz32_2, hcz32_3, hcz32_4, hcz32_5, hcz32_6, hcz32_7, hcz32_8, hcz32_9, hcz32_10, hfz32_0, hfz32_1, hfz32_2, hfz32_3, hfz32_4, hfz32_5, hfz32_6, hfz32_7, hfz32_8, hfz32_9, hfz32_10⟩ := cz11_ BK197.out) | ((with_reducible refine gate_callee (f := 58) rfl ?_); refine gm_ (some 22) Try.func58 #[.slice A0_7 l0_7.length c0_7] rfl ?_; (with_reducible refine (laws_toIntS.calls k _ _ l0_7 t217 _ ?side1 HC0_7.out A6.out).mono ?_); (case side1 => exact Kd.C_below HR0_7.out (by repeat (first | (with_reducible first | exact HB.out | apply below_alloc | apply pw_below_drewN | apply below_drew1 | refine below_set ?_ GE197.out | refine below_set ?_ GE198.out | refine below_set ?_ GE199.out) | exact HB.out))); rintro e w33 ⟨v218, rfl, ho0, hb⟩; refine ⟨_, rfl, ?_⟩; replace HO213 := Aside0.mk (Kd.S_below (sm_ (Kd.S_types HO213.out BK199.out (by decide)) (fun _ h_ => h_.1)) hb); have HO219 := Aside0.mk (Kd.R_lower (Kd.R_new' (Kd.R_new' (Kd.R_new' (Kd.R_new' ho0 (Kd.R_lt (rm_ (Kd.R_types HO204.out BK199.out (by decide)) (fun _ h_ => h_.1)))) (Kd.R_lt (rm_ (Kd.R_types HO207.out BK199.out (by decide)) (fun _ h_ => h_.1)))) (Kd.R_lt (rm_ (Kd.R_types HO210.out BK199.out (by decide)) (fun _ h_ => h_.1)))) (Kd.R_lt (rm_ (Kd.R_types HO216.out BK199.out (by decide)) (fun _ h_ => h_.1)))) (bz_ HB.out)); replace HO204 := Aside0.mk (Kd.R_elder' (rm_ (Kd.R_types HO204.out BK199.out (by decide)) (fun _ h_ => h_.1)) (Kd.R_base ho0) hb); replace HO207 := Aside0.mk (Kd.R_elder' (rm_ (Kd.R_types HO207.out BK199.out (by decide)) (fun _ h_ => h_.1)) (Kd.R_base ho0) hb); replace HO210 := Aside0.mk (Kd.R_elder' (rm_ (Kd.R_types HO210.out BK199.out (by decide)) (fun _ h_ => h_.1)) (Kd.R_base ho0) hb); replace HO216 := Aside0.mk (Kd.R_elder' (rm_ (Kd.R_types HO216.out BK199.out (by decide)) (fun _ h_ => h_.1)) (Kd.R_base ho0) hb); replace BK197 := Aside0.mk (blk_below (bf_ BK197.out) hb); replace BK198 := Aside0.mk (blk_below (bf_ BK198.out) hb); replace BK199 := Aside0.mk (blk_below (g := gb199) (o := .cells #[.int .i64 t200, .int .i64 t201, .slice Ao18 t202.length co18, .slice Ao21 t205.length co21, .slice Ao23 t208.length co23, .slice Ao26 t211.length co26, .slice Ao30 t214.length co30, .slice none 0 0, .slice none 0 0, .slice none 0 0, .int .i64 0] 37 (0, 0)) (by (with_reducible repeat (first | refine blk_drewN ?_ _ | refine blk_drew ?_ | refine blk_alloc ?_ _)); refine blk_put (cs := #[.int .i64 t200, .int .i64 t201, .slice Ao18 t202.length co18, .slice Ao21 t205.length co21, .slice Ao23 t208.length co23, .slice Ao26 t211.length co26, .slice none 0 0, .slice none 0 0, .slice none 0 0, .slice none 0 0, .int .i64 0]) ?_ 6 _ rfl; (with_reducible repeat (first | refine blk_drewN ?_ _ | refine blk_drew ?_ | refine blk_alloc ?_ _)); exact BK199.out) hb); replace HB := Aside0.mk (bs_ HB.out hb); (try clear hb); (try clear ho0); obtain ⟨Ao34, co34, eo34⟩ := Kd.R_slice HO219.out; subst eo34; obtain ⟨hcz35_0, hcz35_1, hcz35_2, hcz35_3, hcz35_4, hcz35_5, hcz35_6, hcz35_7, hcz35_8, hcz35_9, hcz35_10, hfz35_0, hfz35_1, hfz35_2, hfz35_3, hfz35_4, hfz35_5, hfz35_6, hfz35_7, hfz35_8, hfz35_9, hfz35_10⟩ := cz11_ BK199.out; obtain ⟨hcz36_0, hcz36_1, hcz36_2, hcz36_3, hcz36_4, hcz36_5, hcz36_6, hcz36_7, hcz36_8, hcz36_9, hcz36_10, hfz36_0, hfz36_1, hfz36_2, hfz36_3, hfz36_4, hfz36_5, hfz36_6, hfz36_7, hfz36_8, hfz36_9, hfz36_10⟩ := cz11_ BK197.out) | ((with_reducible refine gate_callee (f := 71) rfl ?_); refine gm_ (some 26) Try.func71 #[.slice A0_8 l0_8.length c0_8] rfl ?_; (with_reducible refine (laws_toFlitSS.calls k _ _ l0_8 t220 _ ?side1 HC0_8.out A7.out).mono ?_); (case side1 => exact Kd.C_below HR0_8.out (by repeat (first | (with_reducible first | exact HB.out | apply below_alloc | apply pw_below_drewN | apply below_drew1 | refine below_set ?_ GE197.out | refine below_set ?_ GE198.out | refine below_set ?_ GE199.out) | exact HB.out))); rintro e w37 ⟨v221, rfl, ho0, hb⟩; refine ⟨_, rfl, ?_⟩; replace HO204 := Aside0.mk (Kd.R_below (rm_ (Kd.R_types HO204.out BK199.out (by decide)) (fun _ h_ => h_.1)) hb); replace HO207 := Aside0.mk (Kd.R_below (rm_ (Kd.R_types HO207.out BK199.out (by decide)) (fun _ h_ => h_.1)) hb); replace HO210 := Aside0.mk (Kd.R_below (rm_ (Kd.R_types HO210.out BK199.out (by decide)) (fun _ h_ => h_.1)) hb); replace HO216 := Aside0.mk (Kd.R_below (rm_ (Kd.R_types HO216.out BK199.out (by decide)) (fun _ h_ => h_.1)) hb); replace HO219 := Aside0.mk (Kd.R_below (rm_ (Kd.R_types HO219.out BK199.out (by decide)) (fun _ h_ => h_.1)) hb); have HO222 := Aside0.mk (Kd.S_lower (Kd.S_new' ho0 (Kd.S_lt (sm_ (Kd.S_types HO213.out BK199.out (by decide)) (fun _ h_ => h_.1)))) (bz_ HB.out)); replace HO213 := Aside0.mk (Kd.S_elder' (sm_ (Kd.S_types HO213.out BK199.out (by decide)) (fun _ h_ => h_.1)) (Kd.S_base ho0) hb); replace BK197 := Aside0.mk (blk_below (bf_ BK197.out) hb); replace BK198 := Aside0.mk (blk_below (bf_ BK198.out) hb); replace BK199 := Aside0.mk (blk_below (g := gb199) (o := .cells #[.int .i64 t200, .int .i64 t201, .slice Ao18 t202.length co18, .slice Ao21 t205.length co21, .slice Ao23 t208.length co23, .slice Ao26 t211.length co26, .slice Ao30 t214.length co30, .slice Ao34 t217.length co34, .slice none 0 0, .slice none 0 0, .int .i64 0] 37 (0, 0)) (by (with_reducible repeat (first | refine blk_drewN ?_ _ | refine blk_drew ?_ | refine blk_alloc ?_ _)); refine blk_put (cs := #[.int .i64 t200, .int .i64 t201, .slice Ao18 t202.length co18, .slice Ao21 t205.length co21, .slice Ao23 t208.length co23, .slice Ao26 t211.length co26, .slice Ao30 t214.length co30, .slice none 0 0, .slice none 0 0, .slice none 0 0, .int .i64 0]) ?_ 7 _ rfl; (with_reducible repeat (first | refine blk_drewN ?_ _ | refine blk_drew ?_ | refine blk_alloc ?_ _)); exact BK199.out) hb); replace HB := Aside0.mk (bs_ HB.out hb); (try clear hb); (try clear ho0); obtain ⟨Ao38, co38, eo38⟩ := Kd.S_slice HO222.out; subst eo38; obtain ⟨hcz39_0, hcz39_1, hcz39_2, hcz39_3, hcz39_4, hcz39_5, hcz39_6, hcz39_7, hcz39_8, hcz39_9, hcz39_10, hfz39_0, hfz39_1, hfz39_2, hfz39_3, hfz39_4, hfz39_5, hfz39_6, hfz39_7, hfz39_8, hfz39_9, hfz39_10⟩ := cz11_ BK199.out; obtain ⟨hcz40_0, hcz40_1, hcz40_2, hcz40_3, hcz40_4, hcz40_5, hcz40_6, hcz40_7, hcz40_8, hcz40_9, hcz40_10, hfz40_0, hfz40_1, hfz40_2, hfz40_3, hfz40_4, hfz40_5, hfz40_6, hfz40_7, hfz40_8, hfz40_9, hfz40_10⟩ := cz11_ BK197.out) | ((with_reducible refine gate_callee (f := 71) rfl ?_); refine gm_ (some 30) Try.func71 #[.slice A0_9 l0_9.length c0_9] rfl ?_; (with_reducible refine (laws_toFlitSS.calls k _ _ l0_9 t223 _ ?side1 HC0_9.out A8.out).mono ?_); (case side1 => exact Kd.C_below HR0_9.out (by repeat (first | (with_reducible first | exact HB.out | apply below_alloc | apply pw_below_drewN | apply below_drew1 | refine below_set ?_ GE197.out | refine below_set ?_ GE198.out | refine below_set ?_ GE199.out) | exact HB.out))); rintro e w41 ⟨v224, rfl, ho0, hb⟩; refine ⟨_, rfl, ?_⟩; replace HO204 := Aside0.mk (Kd.R_below (rm_ (Kd.R_types HO204.out BK199.out (by decide)) (fun _ h_ => h_.1)) hb); replace HO207 := Aside0.mk (Kd.R_below (rm_ (Kd.R_types HO207.out BK199.out (by decide)) (fun _ h_ => h_.1)) hb); replace HO210 := Aside0.mk (Kd.R_below (rm_ (Kd.R_types HO210.out BK199.out (by decide)) (fun _ h_ => h_.1)) hb); replace HO216 := Aside0.mk (Kd.R_below (rm_ (Kd.R_types HO216.out BK199.out (by decide)) (fun _ h_ => h_.1)) hb); replace HO219 := Aside0.mk (Kd.R_below (rm_ (Kd.R_types HO219.out BK199.out (by decide)) (fun _ h_ => h_.1)) hb); have HO225 := Aside0.mk (Kd.S_lower (Kd.S_new' (Kd.S_new' ho0 (Kd.S_lt (sm_ (Kd.S_types HO213.out BK199.out (by decide)) (fun _ h_ => h_.1)))) (Kd.S_lt (sm_ (Kd.S_types HO222.out BK199.out (by decide)) (fun _ h_ => h_.1)))) (bz_ HB.out)); replace HO213 := Aside0.mk (Kd.S_elder' (sm_ (Kd.S_types HO213.out BK199.out (by decide)) (fun _ h_ => h_.1)) (Kd.S_base ho0) hb); replace HO222 := Aside0.mk (Kd.S_elder' (sm_ (Kd.S_types HO222.out BK199.out (by decide)) (fun _ h_ => h_.1)) (Kd.S_base ho0) hb); replace BK197 := Aside0.mk (blk_below (bf_ BK197.out) hb); replace BK198 := Aside0.mk (blk_below (bf_ BK198.out) hb); replace BK199 := Aside0.mk (blk_below (g := gb199) (o := .cells #[.int .i64 t200, .int .i64 t201, .slice Ao18 t202.length co18, .slice Ao21 t205.length co21, .slice Ao23 t208.length co23, .slice Ao26 t211.length co26, .slice Ao30 t214.length co30, .slice Ao34 t217.length co34, .slice Ao38 t220.length co38, .slice none 0 0, .int .i64 0] 37 (0, 0)) (by (with_reducible repeat (first | refine blk_drewN ?_ _ | refine blk_drew ?_ | refine blk_alloc ?_ _)); refine blk_put (cs := #[.int .i64 t200, .int .i64 t201, .slice Ao18 t202.length co18, .slice Ao21 t205.length co21, .slice Ao23 t208.length co23, .slice Ao26 t211.length co26, .slice Ao30 t214.length co30, .slice Ao34 t217.length co34, .slice none 0 0, .slice none 0 0, .int .i64 0]) ?_ 8 _ rfl; (with_reducible repeat (first | refine blk_drewN ?_ _ | refine blk_drew ?_ | refine blk_alloc ?_ _)); exact BK199.out) hb); replace HB := Aside0.mk (bs_ HB.out hb); (try clear hb); (try clear ho0); obtain ⟨Ao42, co42, eo42⟩ := Kd.S_slice HO225.out; subst eo42; obtain ⟨hcz43_0, hcz43_1, hcz43_2, hcz43_3, hcz43_4, hcz43_5, hcz43_6, hcz43_7, hcz43_8, hcz43_9, hcz43_10, hfz43_0, hfz43_1, hfz43_2, hfz43_3, hfz43_4, hfz43_5, hfz43_6, hfz43_7, hfz43_8, hfz43_9, hfz43_10⟩ := cz11_ BK199.out; obtain ⟨hcz44_0, hcz44_1, hcz44_2, hcz44_3, hcz44_4, hcz44_5, hcz44_6, hcz44_7, hcz44_8, hcz44_9, hcz44_10, hfz44_0, hfz44_1, hfz44_2, hfz44_3, hfz44_4, hfz44_5, hfz44_6, hfz44_7, hfz44_8, hfz44_9, hfz44_10⟩ := cz11_ BK197.out; obtain ⟨hcz45_0, hcz45_1, hcz45_2, hcz45_3, hcz45_4, hcz45_5, hcz45_6, hcz45_7, hcz45_8, hcz45_9, hcz45_10, hfz45_0, hfz45_1, hfz45_2, hfz45_3, hfz45_4, hfz45_5, hfz45_6, hfz45_7, hfz45_8, hfz45_9, hfz45_10⟩ := cz11_ BK198.out))
 refine bodyPost_ret (results_cell_row rfl _ _ gb198 37 #[.int .i64 t200, .int .i64 t201, .slice Ao18 t202.length co18, .slice Ao21 t205.length co21, .slice Ao23 t208.length co23, .slice Ao26 t211.length co26, .slice Ao30 t214.length co30, .slice Ao34 t217.length co34, .slice Ao38 t220.length co38, .slice Ao42 t223.length co42, .int .i64 a0_10] (0, 0) _ rfl (by (with_reducible repeat (first | refine blk_drewN ?_ _ | refine blk_drew ?_ | refine blk_alloc ?_ _)); refine blk_put (cs := #[.int .i64 t200, .int .i64 t201, .slice Ao18 t202.length co18, .slice Ao21 t205.length co21, .slice Ao23 t208.length co23, .slice Ao26 t211.length co26, .slice Ao30 t214.length co30, .slice Ao34 t217.length co34, .slice Ao38 t220.length co38, .slice Ao42 t223.length co42, .int .i64 0]) ?_ 10 _ rfl; (with_reducible repeat (first | refine blk_drewN ?_ _ | refine blk_drew ?_ | refine blk_alloc ?_ _)); refine blk_put (cs := #[.int .i64 t200, .int .i64 t201, .slice Ao18 t202.length co18, .slice Ao21 t205.length co21, .slice Ao23 t208.length co23, .slice Ao26 t211.length co26, .slice Ao30 t214.length co30, .slice Ao34 t217.length co34, .slice Ao38 t220.length co38, .slice none 0 0, .int .i64 0]) ?_ 9 _ rfl; (with_reducible repeat (first | refine blk_drewN ?_ _ | refine blk_drew ?_ | refine blk_alloc ?_ _)); refine blk_put (cs := #[.int .i64 t200, .int .i64 t201, .slice Ao18 t202.length co18, .slice Ao21 t205.length co21, .slice Ao23 t208.length co23, .slice Ao26 t211.length co26, .slice Ao30 t214.length co30, .slice Ao34 t217.length co34, .slice none 0 0, .slice none 0 0, .int .i64 0]) ?_ 8 _ rfl; (with_reducible repeat (first | refine blk_drewN ?_ _ | refine blk_drew ?_ | refine blk_alloc ?_ _)); refine blk_put (cs := #[.int .i64 t200, .int .i64 t201, .slice Ao18 t202.length co18, .slice Ao21 t205.length co21, .slice Ao23 t208.length co23, .slice Ao26 t211.length co26, .slice Ao30 t214.length co30, .slice none 0 0, .slice none 0 0, .slice none 0 0, .int .i64 0]) ?_ 7 _ rfl; (with_reducible repeat (first | refine blk_drewN ?_ _ | refine blk_drew ?_ | refine blk_alloc ?_ _)); refine blk_put (cs := #[.int .i64 t200, .int .i64 t201, .slice Ao18 t202.length co18, .slice Ao21 t205.length co21, .slice Ao23 t208.length co23, .slice Ao26 t211.length co26, .slice none 0 0, .slice none 0 0, .slice none 0 0, .slice none 0 0, .int .i64 0]) ?_ 6 _ rfl; (with_reducible repeat (first | refine blk_drewN ?_ _ | refine blk_drew ?_ | refine blk_alloc ?_ _)); refine blk_put (cs := #[.int .i64 t200, .int .i64 t201, .slice Ao18 t202.length co18, .slice Ao21 t205.length co21, .slice Ao23 t208.length co23, .slice none 0 0, .slice none 0 0, .slice none 0 0, .slice none 0 0, .slice none 0 0, .int .i64 0]) ?_ 5 _ rfl; (with_reducible repeat (first | refine blk_drewN ?_ _ | refine blk_drew ?_ | refine blk_alloc ?_ _)); refine blk_put (cs := #[.int .i64 t200, .int .i64 t201, .slice Ao18 t202.length co18, .slice Ao21 t205.length co21, .slice none 0 0, .slice none 0 0, .slice none 0 0, .slice none 0 0, .slice none 0 0, .slice none 0 0, .int .i64 0]) ?_ 4 _ rfl; (with_reducible repeat (first | refine blk_drewN ?_ _ | refine blk_drew ?_ | refine blk_alloc ?_ _)); refine blk_put (cs := #[.int .i64 t200, .int .i64 t201, .slice Ao18 t202.length co18, .slice none 0 0, .slice none 0 0, .slice none 0 0, .slice none 0 0, .slice none 0 0, .slice none 0 0, .slice none 0 0, .int .i64 0]) ?_ 3 _ rfl; (with_reducible repeat (first | refine blk_drewN ?_ _ | refine blk_drew ?_ | refine blk_alloc ?_ _)); refine blk_put (cs := #[.int .i64 t200, .int .i64 t201, .slice none 0 0, .slice none 0 0, .slice none 0 0, .slice none 0 0, .slice none 0 0, .slice none 0 0, .slice none 0 0, .slice none 0 0, .int .i64 0]) ?_ 2 _ rfl; (with_reducible repeat (first | refine blk_drewN ?_ _ | refine blk_drew ?_ | refine blk_alloc ?_ _)); refine blk_put (cs := #[.int .i64 t200, .int .i64 0, .slice none 0 0, .slice none 0 0, .slice none 0 0, .slice none 0 0, .slice none 0 0, .slice none 0 0, .slice none 0 0, .slice none 0 0, .int .i64 0]) ?_ 1 _ rfl; (with_reducible repeat (first | refine blk_drewN ?_ _ | refine blk_drew ?_ | refine blk_alloc ?_ _)); refine blk_put (cs := #[.int .i64 0, .int .i64 0, .slice none 0 0, .slice none 0 0, .slice none 0 0, .slice none 0 0, .slice none 0 0, .slice none 0 0, .slice none 0 0, .slice none 0 0, .int .i64 0]) ?_ 0 _ rfl; (with_reducible repeat (first | refine blk_drewN ?_ _ | refine blk_drew ?_ | refine blk_alloc ?_ _)); refine blk_far ?_ NB198_199.out _; (with_reducible repeat (first | refine blk_drewN ?_ _ | refine blk_drew ?_ | refine blk_alloc ?_ _)); refine blk_far ?_ NB198_199.out _; (with_reducible repeat (first | refine blk_drewN ?_ _ | refine blk_drew ?_ | refine blk_alloc ?_ _)); exact BK198.out) Try.underlying37 rfl (by kernel_rfl)) rfl ?_
 exact ⟨_, _, _, _, _, _, _, _, fin_, rm_ (Kd.R_types (Kd.R_types HO204.out BK199.out (by decide)) BK198.out (by decide)) (fun _ hk => ⟨hk.1.1.1.1.1.2, ⟨hk.1.1.1.1.2, ⟨hk.1.1.1.2, hk.1.1.2⟩⟩⟩), rm_ (Kd.R_types (Kd.R_types HO207.out BK199.out (by decide)) BK198.out (by decide)) (fun _ hk => ⟨hk.1.1.1.1.2, ⟨hk.1.1.1.1.1, ⟨hk.1.1.1.2, hk.1.1.2⟩⟩⟩), rm_ (Kd.R_types (Kd.R_types HO210.out BK199.out (by decide)) BK198.out (by decide)) (fun _ hk => ⟨hk.1.1.1.1.2, ⟨hk.1.1.1.1.1, ⟨hk.1.1.1.2, hk.1.1.2⟩⟩⟩), sm_ (Kd.S_types (Kd.S_types HO213.out BK199.out (by decide)) BK198.out (by decide)) (fun _ hk => ⟨hk.1.1.1.2, hk.1.1.2⟩), rm_ (Kd.R_types (Kd.R_types HO216.out BK199.out (by decide)) BK198.out (by decide)) (fun _ hk => ⟨hk.1.1.1.1.1.2, ⟨hk.1.1.1.1.2, ⟨hk.1.1.1.2, hk.1.1.2⟩⟩⟩), rm_ (Kd.R_types (Kd.R_types HO219.out BK199.out (by decide)) BK198.out (by decide)) (fun _ hk => ⟨hk.1.1.1.1.1.2, ⟨hk.1.1.1.1.2, ⟨hk.1.1.1.2, hk.1.1.2⟩⟩⟩), sm_ (Kd.S_types (Kd.S_types HO222.out BK199.out (by decide)) BK198.out (by decide)) (fun _ hk => ⟨hk.1.1.1.2, hk.1.1.2⟩), sm_ (Kd.S_types (Kd.S_types HO225.out BK199.out (by decide)) BK198.out (by decide)) (fun _ hk => ⟨hk.1.1.1.2, hk.1.1.2⟩), bb_ HB.out⟩
set_option maxHeartbeats 8000000 in
set_option maxRecDepth 100000 in
theorem laws_toNet.callsQ (k : Nat) (a0_0 : Int) (a0_1 : Int) (A0_2 : Option Addr) (c0_2 : Nat) (l0_2 : List Int) (A0_3 : Option Addr) (c0_3 : Nat) (l0_3 : List Int) (A0_4 : Option Addr) (c0_4 : Nat) (l0_4 : List Int) (A0_5 : Option Addr) (c0_5 : Nat) (l0_5 : List (List (S133))) (A0_6 : Option Addr) (c0_6 : Nat) (l0_6 : List Int) (A0_7 : Option Addr) (c0_7 : Nat) (l0_7 : List Int) (A0_8 : Option Addr) (c0_8 : Nat) (l0_8 : List (List (S133))) (A0_9 : Option Addr) (c0_9 : Nat) (l0_9 : List (List (S133))) (a0_10 : Int) (r1 : Int) (r2 : Int) (r3 : List Int) (r4 : List Int) (r5 : List Int) (r6 : List (List (S112))) (r7 : List Int) (r8 : List Int) (r9 : List (List (S112))) (r10 : List (List (S112))) (r11 : Int) (w : World) (hr0_2 : Kd.C (Kd.int .i64) w A0_2 l0_2.length l0_2) (hc0_2 : l0_2.length ≤ c0_2) (hr0_3 : Kd.C (Kd.int .i64) w A0_3 l0_3.length l0_3) (hc0_3 : l0_3.length ≤ c0_3) (hr0_4 : Kd.C (Kd.int .i64) w A0_4 l0_4.length l0_4) (hc0_4 : l0_4.length ≤ c0_4) (hr0_5 : Kd.C (Kd.slice 133 k133) w A0_5 l0_5.length l0_5) (hc0_5 : l0_5.length ≤ c0_5) (hr0_6 : Kd.C (Kd.int .i64) w A0_6 l0_6.length l0_6) (hc0_6 : l0_6.length ≤ c0_6) (hr0_7 : Kd.C (Kd.int .i64) w A0_7 l0_7.length l0_7) (hc0_7 : l0_7.length ≤ c0_7) (hr0_8 : Kd.C (Kd.slice 133 k133) w A0_8 l0_8.length l0_8) (hc0_8 : l0_8.length ≤ c0_8) (hr0_9 : Kd.C (Kd.slice 133 k133) w A0_9 l0_9.length l0_9) (hc0_9 : l0_9.length ≤ c0_9) (h : laws_toNet.f k a0_0 a0_1 l0_2 l0_3 l0_4 l0_5 l0_6 l0_7 l0_8 l0_9 a0_10 = some (r1, r2, r3, r4, r5, r6, r7, r8, r9, r10, r11)) :
  Calls Try.prog 30 #[.agg #[.int .i64 a0_0, .int .i64 a0_1, .slice A0_2 l0_2.length c0_2, .slice A0_3 l0_3.length c0_3, .slice A0_4 l0_4.length c0_4, .slice A0_5 l0_5.length c0_5, .slice A0_6 l0_6.length c0_6, .slice A0_7 l0_7.length c0_7, .slice A0_8 l0_8.length c0_8, .slice A0_9 l0_9.length c0_9, .int .i64 a0_10]] w fun e w' => ∃ v2_ v3_ v4_ v5_ v6_ v7_ v8_ v9_ : Value, ∃ a5_ b5_ a8_ b8_ a9_ b9_ : Nat, e = .returned (.agg #[.int .i64 r1, .int .i64 r2, v2_, v3_, v4_, v5_, v6_, v7_, v8_, v9_, .int .i64 r11]) ∧ Kd.R (Kd.int .i64) 3 w' w.heap.size (fun k_ => some k_ ≠ (v3_ : Value).ownBlock ∧ some k_ ≠ (v4_ : Value).ownBlock ∧ some k_ ≠ (v6_ : Value).ownBlock ∧ some k_ ≠ (v7_ : Value).ownBlock) v2_ r3 ∧ Kd.R (Kd.int .i64) 3 w' w.heap.size (fun k_ => some k_ ≠ (v2_ : Value).ownBlock ∧ some k_ ≠ (v4_ : Value).ownBlock ∧ some k_ ≠ (v6_ : Value).ownBlock ∧ some k_ ≠ (v7_ : Value).ownBlock) v3_ r4 ∧ Kd.R (Kd.int .i64) 3 w' w.heap.size (fun k_ => some k_ ≠ (v2_ : Value).ownBlock ∧ some k_ ≠ (v3_ : Value).ownBlock ∧ some k_ ≠ (v6_ : Value).ownBlock ∧ some k_ ≠ (v7_ : Value).ownBlock) v4_ r5 ∧ Kd.S (Kd.slice 112 k112) 81 w' w.heap.size (fun k_ => a5_ ≤ k_ ∧ k_ < b5_) v5_ r6 ∧ Kd.R (Kd.int .i64) 3 w' w.heap.size (fun k_ => some k_ ≠ (v2_ : Value).ownBlock ∧ some k_ ≠ (v3_ : Value).ownBlock ∧ some k_ ≠ (v4_ : Value).ownBlock ∧ some k_ ≠ (v7_ : Value).ownBlock) v6_ r7 ∧ Kd.R (Kd.int .i64) 3 w' w.heap.size (fun k_ => some k_ ≠ (v2_ : Value).ownBlock ∧ some k_ ≠ (v3_ : Value).ownBlock ∧ some k_ ≠ (v4_ : Value).ownBlock ∧ some k_ ≠ (v6_ : Value).ownBlock) v7_ r8 ∧ Kd.S (Kd.slice 112 k112) 81 w' w.heap.size (fun k_ => a8_ ≤ k_ ∧ k_ < b8_) v8_ r9 ∧ Kd.S (Kd.slice 112 k112) 81 w' w.heap.size (fun k_ => a9_ ≤ k_ ∧ k_ < b9_) v9_ r10 ∧ Below w.heap.size w w' ∧ b5_ ≤ a8_ ∧ b8_ ≤ a9_ ∧ a8_ ≤ b8_ := by
 have hu63 := Try.underlying63
 have hu37 := Try.underlying37
 have hu46 := Try.underlying46
 have hu28 := Try.underlying28
 have hu49 := Try.underlying49
 have hu32 := Try.underlying32
 have HR0_2 := Aside0.mk hr0_2
 have HC0_2 := Aside0.mk hc0_2
 clear hr0_2 hc0_2
 have HR0_3 := Aside0.mk hr0_3
 have HC0_3 := Aside0.mk hc0_3
 clear hr0_3 hc0_3
 have HR0_4 := Aside0.mk hr0_4
 have HC0_4 := Aside0.mk hc0_4
 clear hr0_4 hc0_4
 have HR0_5 := Aside0.mk hr0_5
 have HC0_5 := Aside0.mk hc0_5
 clear hr0_5 hc0_5
 have HR0_6 := Aside0.mk hr0_6
 have HC0_6 := Aside0.mk hc0_6
 clear hr0_6 hc0_6
 have HR0_7 := Aside0.mk hr0_7
 have HC0_7 := Aside0.mk hc0_7
 clear hr0_7 hc0_7
 have HR0_8 := Aside0.mk hr0_8
 have HC0_8 := Aside0.mk hc0_8
 clear hr0_8 hc0_8
 have HR0_9 := Aside0.mk hr0_9
 have HC0_9 := Aside0.mk hc0_9
 clear hr0_9 hc0_9
 have HB := Aside0.mk (Below.refl w.heap.size w)
 have H : ((laws_toMesh.f k a0_0 a0_1 l0_2).bind fun bt200 => ((laws_toClasses.f k l0_3 l0_4).bind fun bt205 => ((laws_toFlitSS.f k l0_5).bind fun t211 => ((laws_toIntS.f k l0_6).bind fun t214 => ((laws_toIntS.f k l0_7).bind fun t217 => ((laws_toFlitSS.f k l0_8).bind fun t220 => ((laws_toFlitSS.f k l0_9).bind fun t223 => (some (bt200.1, bt200.2.1, bt200.2.2, bt205.1, bt205.2, t211, t214, t217, t220, t223, a0_10))))))))) = some (r1, r2, r3, r4, r5, r6, r7, r8, r9, r10, r11) := h
 clear h
 replace H := Option.bind_eq_some_iff.mp H
 obtain ⟨⟨t200, t201, t202⟩, A20, H⟩ := H
 try dsimp only at H
 have A2 := Aside0.mk A20
 clear A20
 replace H := Option.bind_eq_some_iff.mp H
 obtain ⟨⟨t205, t208⟩, A30, H⟩ := H
 try dsimp only at H
 have A3 := Aside0.mk A30
 clear A30
 replace H := Option.bind_eq_some_iff.mp H
 obtain ⟨t211, A40, H⟩ := H
 try dsimp only at H
 have A4 := Aside0.mk A40
 clear A40
 replace H := Option.bind_eq_some_iff.mp H
 obtain ⟨t214, A50, H⟩ := H
 try dsimp only at H
 have A5 := Aside0.mk A50
 clear A50
 replace H := Option.bind_eq_some_iff.mp H
 obtain ⟨t217, A60, H⟩ := H
 try dsimp only at H
 have A6 := Aside0.mk A60
 clear A60
 replace H := Option.bind_eq_some_iff.mp H
 obtain ⟨t220, A70, H⟩ := H
 try dsimp only at H
 have A7 := Aside0.mk A70
 clear A70
 replace H := Option.bind_eq_some_iff.mp H
 obtain ⟨t223, A80, H⟩ := H
 try dsimp only at H
 have A8 := Aside0.mk A80
 clear A80
 simp only [Option.some.injEq, Prod.mk.injEq] at H
 obtain ⟨rfl, rfl, rfl, rfl, rfl, rfl, rfl, rfl, rfl, rfl, rfl⟩ := H
 go_enter Try.func30, Try.ntmps30
 go_wp2_with (first | ((with_reducible refine gate_dst (N := 1) rfl ?_); refine box_event ?hg (N := 1) ?hd (cs := #[.int .i64 a0_0, .int .i64 a0_1, .slice A0_2 l0_2.length c0_2, .slice A0_3 l0_3.length c0_3, .slice A0_4 l0_4.length c0_4, .slice A0_5 l0_5.length c0_5, .slice A0_6 l0_6.length c0_6, .slice A0_7 l0_7.length c0_7, .slice A0_8 l0_8.length c0_8, .slice A0_9 l0_9.length c0_9, .int .i64 a0_10]) (t := 63) ?hr ?_; (case hd => rfl); (case hg => rfl); (case hr => first | (go_simp; done) | (go_simp; rfl)); intro gb197 hg w9 hbox hb; have BK197 := Aside0.mk (hbox); have GW197 := Aside0.mk ((by rw [hg]; exact (bz_ HB.out) : w.heap.size ≤ gb197)); have GE197 := Aside0.mk ((by rw [hg]; exact (bz_ HB.out) : w.heap.size ≤ gb197)); replace HB := Aside0.mk (bs_ HB.out hb); clear hb hbox hg) | ((with_reducible refine gate_dst (N := 2) rfl ?_); refine box_event ?hg (N := 2) ?hd (cs := #[.int .i64 0, .int .i64 0, .slice none 0 0, .slice none 0 0, .slice none 0 0, .slice none 0 0, .slice none 0 0, .slice none 0 0, .slice none 0 0, .slice none 0 0, .int .i64 0]) (t := 37) ?hr ?_; (case hd => rfl); (case hg => rfl); (case hr => first | (go_simp; done) | (go_simp; rfl)); intro gb198 hg w10 hbox hb; have BK198 := Aside0.mk (hbox); have GW198 := Aside0.mk ((by rw [hg]; exact (bz_ HB.out) : w.heap.size ≤ gb198)); have GE198 := Aside0.mk ((by rw [hg]; exact (bz_ HB.out) : w.heap.size ≤ gb198)); replace HB := Aside0.mk (bs_ HB.out hb); have NB197_198 := Aside0.mk ((by rw [hg]; exact Nat.ne_of_lt (bl_ BK197.out) : gb197 ≠ gb198)); have NB198_197 := Aside0.mk ((by rw [hg]; exact Nat.ne_of_gt (bl_ BK197.out) : gb198 ≠ gb197)); replace BK197 := Aside0.mk (bk_ BK197.out hb); clear hb hbox hg) | ((with_reducible refine gate_dst (N := 3) rfl ?_); refine box_event ?hg (N := 3) ?hd (cs := #[.int .i64 0, .int .i64 0, .slice none 0 0, .slice none 0 0, .slice none 0 0, .slice none 0 0, .slice none 0 0, .slice none 0 0, .slice none 0 0, .slice none 0 0, .int .i64 0]) (t := 37) ?hr ?_; (case hd => rfl); (case hg => rfl); (case hr => first | (go_simp; done) | (go_simp; rfl)); intro gb199 hg w11 hbox hb; have BK199 := Aside0.mk (hbox); have GW199 := Aside0.mk ((by rw [hg]; exact (bz_ HB.out) : w.heap.size ≤ gb199)); have GE199 := Aside0.mk ((by rw [hg]; exact (bz_ HB.out) : w.heap.size ≤ gb199)); replace HB := Aside0.mk (bs_ HB.out hb); have NB197_199 := Aside0.mk ((by rw [hg]; exact Nat.ne_of_lt (bl_ BK197.out) : gb197 ≠ gb199)); have NB199_197 := Aside0.mk ((by rw [hg]; exact Nat.ne_of_gt (bl_ BK197.out) : gb199 ≠ gb197)); replace BK197 := Aside0.mk (bk_ BK197.out hb); have NB198_199 := Aside0.mk ((by rw [hg]; exact Nat.ne_of_lt (bl_ BK198.out) : gb198 ≠ gb199)); have NB199_198 := Aside0.mk ((by rw [hg]; exact Nat.ne_of_gt (bl_ BK198.out) : gb199 ≠ gb198)); replace BK198 := Aside0.mk (bk_ BK198.out hb); clear hb hbox hg; have hnb12 := NB197_198.out; have hnc12 := NB198_197.out; have hnb13 := NB197_199.out; have hnc13 := NB199_197.out; obtain ⟨hcz14_0, hcz14_1, hcz14_2, hcz14_3, hcz14_4, hcz14_5, hcz14_6, hcz14_7, hcz14_8, hcz14_9, hcz14_10, hfz14_0, hfz14_1, hfz14_2, hfz14_3, hfz14_4, hfz14_5, hfz14_6, hfz14_7, hfz14_8, hfz14_9, hfz14_10⟩ := cz11_ BK197.out) | ((with_reducible refine gate_callee (f := 19) rfl ?_); refine gm_ (some 6) Try.func19 #[.agg #[.int .i64 a0_0, .int .i64 a0_1, .slice A0_2 l0_2.length c0_2]] rfl ?_; (with_reducible refine (laws_toMesh.calls k a0_0 a0_1 _ _ l0_2 t200 t201 t202 _ ?side1 HC0_2.out A2.out).mono ?_); (case side1 => exact cb_ HR0_2.out HB.out); rintro e w15 ⟨v203, rfl, ho0, hb⟩; refine ⟨_, rfl, ?_⟩; have HZ1 := Aside0.mk hb.size; have HO204 := Aside0.mk (Kd.R_lower ho0 (bz_ HB.out)); replace BK197 := Aside0.mk (bk_ BK197.out hb); replace BK198 := Aside0.mk (bk_ BK198.out hb); replace BK199 := Aside0.mk (bk_ BK199.out hb); replace HB := Aside0.mk (bs_ HB.out hb); (try clear hb); (try clear ho0); have hnb16 := NB199_198.out; have hnc16 := NB198_199.out; obtain ⟨hcz17_0, hcz17_1, hcz17_2, hcz17_3, hcz17_4, hcz17_5, hcz17_6, hcz17_7, hcz17_8, hcz17_9, hcz17_10, hfz17_0, hfz17_1, hfz17_2, hfz17_3, hfz17_4, hfz17_5, hfz17_6, hfz17_7, hfz17_8, hfz17_9, hfz17_10⟩ := cz11_ BK199.out; obtain ⟨Ao18, co18, eo18⟩ := Kd.R_slice HO204.out; subst eo18; obtain ⟨hcz19_0, hcz19_1, hcz19_2, hcz19_3, hcz19_4, hcz19_5, hcz19_6, hcz19_7, hcz19_8, hcz19_9, hcz19_10, hfz19_0, hfz19_1, hfz19_2, hfz19_3, hfz19_4, hfz19_5, hfz19_6, hfz19_7, hfz19_8, hfz19_9, hfz19_10⟩ := cz11_ BK197.out) | ((with_reducible refine gate_callee (f := 20) rfl ?_); refine gm_ (some 10) Try.func20 #[.agg #[.slice A0_3 l0_3.length c0_3, .slice A0_4 l0_4.length c0_4]] rfl ?_; (with_reducible refine (laws_toClasses.calls k _ _ l0_3 _ _ l0_4 t205 t208 _ ?side1 HC0_3.out ?side3 HC0_4.out A3.out).mono ?_); (case side1 => exact Kd.C_below HR0_3.out (by repeat (first | (with_reducible first | exact HB.out | apply below_alloc | apply pw_below_drewN | apply below_drew1 | refine below_set ?_ GE197.out | refine below_set ?_ GE198.out | refine below_set ?_ GE199.out) | exact HB.out))); (case side3 => exact Kd.C_below HR0_4.out (by repeat (first | (with_reducible first | exact HB.out | apply below_alloc | apply pw_below_drewN | apply below_drew1 | refine below_set ?_ GE197.out | refine below_set ?_ GE198.out | refine below_set ?_ GE199.out) | exact HB.out))); rintro e w20 ⟨v206, v209, rfl, ho0, ho1, hb⟩; refine ⟨_, rfl, ?_⟩; have HZ2 := Aside0.mk hb.size; have HO207 := Aside0.mk (Kd.R_lower (Kd.R_new' ho0 (Kd.R_lt (rm_ (Kd.R_types HO204.out BK199.out (by decide)) (fun _ h_ => h_.1)))) (bz_ HB.out)); have HO210 := Aside0.mk (Kd.R_lower (Kd.R_new' ho1 (Kd.R_lt (rm_ (Kd.R_types HO204.out BK199.out (by decide)) (fun _ h_ => h_.1)))) (bz_ HB.out)); replace HO204 := Aside0.mk (Kd.R_mono (Kd.R_told (Kd.R_told (Kd.R_old (rm_ (Kd.R_types HO204.out BK199.out (by decide)) (fun _ h_ => h_.1)) hb) (Kd.R_base ho0)) (Kd.R_base ho1)) (fun _ h_ => h_.1)); replace BK197 := Aside0.mk (blk_below (bf_ BK197.out) hb); replace BK198 := Aside0.mk (blk_below (bf_ BK198.out) hb); replace BK199 := Aside0.mk (blk_below (g := gb199) (o := .cells #[.int .i64 t200, .int .i64 t201, .slice Ao18 t202.length co18, .slice none 0 0, .slice none 0 0, .slice none 0 0, .slice none 0 0, .slice none 0 0, .slice none 0 0, .slice none 0 0, .int .i64 0] 37 (0, 0)) (by (with_reducible repeat (first | refine blk_drewN ?_ _ | refine blk_drew ?_ | refine blk_alloc ?_ _)); refine blk_put (cs := #[.int .i64 t200, .int .i64 t201, .slice none 0 0, .slice none 0 0, .slice none 0 0, .slice none 0 0, .slice none 0 0, .slice none 0 0, .slice none 0 0, .slice none 0 0, .int .i64 0]) ?_ 2 _ rfl; (with_reducible repeat (first | refine blk_drewN ?_ _ | refine blk_drew ?_ | refine blk_alloc ?_ _)); refine blk_put (cs := #[.int .i64 t200, .int .i64 0, .slice none 0 0, .slice none 0 0, .slice none 0 0, .slice none 0 0, .slice none 0 0, .slice none 0 0, .slice none 0 0, .slice none 0 0, .int .i64 0]) ?_ 1 _ rfl; (with_reducible repeat (first | refine blk_drewN ?_ _ | refine blk_drew ?_ | refine blk_alloc ?_ _)); refine blk_put (cs := #[.int .i64 0, .int .i64 0, .slice none 0 0, .slice none 0 0, .slice none 0 0, .slice none 0 0, .slice none 0 0, .slice none 0 0, .slice none 0 0, .slice none 0 0, .int .i64 0]) ?_ 0 _ rfl; (with_reducible repeat (first | refine blk_drewN ?_ _ | refine blk_drew ?_ | refine blk_alloc ?_ _)); exact BK199.out) hb); replace HB := Aside0.mk (bs_ HB.out hb); (try clear hb); (try clear ho0); (try clear ho1); obtain ⟨Ao21, co21, eo21⟩ := Kd.R_slice HO207.out; subst eo21; obtain ⟨hcz22_0, hcz22_1, hcz22_2, hcz22_3, hcz22_4, hcz22_5, hcz22_6, hcz22_7, hcz22_8, hcz22_9, hcz22_10, hfz22_0, hfz22_1, hfz22_2, hfz22_3, hfz22_4, hfz22_5, hfz22_6, hfz22_7, hfz22_8, hfz22_9, hfz22_10⟩ := cz11_ BK199.out; obtain ⟨Ao23, co23, eo23⟩ := Kd.R_slice HO210.out; subst eo23; obtain ⟨hcz24_0, hcz24_1, hcz24_2, hcz24_3, hcz24_4, hcz24_5, hcz24_6, hcz24_7, hcz24_8, hcz24_9, hcz24_10, hfz24_0, hfz24_1, hfz24_2, hfz24_3, hfz24_4, hfz24_5, hfz24_6, hfz24_7, hfz24_8, hfz24_9, hfz24_10⟩ := cz11_ BK197.out) | ((with_reducible refine gate_callee (f := 71) rfl ?_); refine gm_ (some 14) Try.func71 #[.slice A0_5 l0_5.length c0_5] rfl ?_; (with_reducible refine (laws_toFlitSS.calls k _ _ l0_5 t211 _ ?side1 HC0_5.out A4.out).mono ?_); (case side1 => exact Kd.C_below HR0_5.out (by repeat (first | (with_reducible first | exact HB.out | apply below_alloc | apply pw_below_drewN | apply below_drew1 | refine below_set ?_ GE197.out | refine below_set ?_ GE198.out | refine below_set ?_ GE199.out) | exact HB.out))); rintro e w25 ⟨v212, rfl, ho0, hb⟩; refine ⟨_, rfl, ?_⟩; have HZ3 := Aside0.mk hb.size; replace ho0 := sq_ ho0; replace HO204 := Aside0.mk (Kd.R_below (rm_ (Kd.R_types HO204.out BK199.out (by decide)) (fun _ h_ => h_.1)) hb); replace HO207 := Aside0.mk (Kd.R_below (rm_ (Kd.R_types HO207.out BK199.out (by decide)) (fun _ h_ => h_.1)) hb); replace HO210 := Aside0.mk (Kd.R_below (rm_ (Kd.R_types HO210.out BK199.out (by decide)) (fun _ h_ => h_.1)) hb); have HO213 := Aside0.mk (Kd.S_lower ho0 (bz_ HB.out)); replace BK197 := Aside0.mk (blk_below (bf_ BK197.out) hb); replace BK198 := Aside0.mk (blk_below (bf_ BK198.out) hb); replace BK199 := Aside0.mk (blk_below (g := gb199) (o := .cells #[.int .i64 t200, .int .i64 t201, .slice Ao18 t202.length co18, .slice Ao21 t205.length co21, .slice Ao23 t208.length co23, .slice none 0 0, .slice none 0 0, .slice none 0 0, .slice none 0 0, .slice none 0 0, .int .i64 0] 37 (0, 0)) (by (with_reducible repeat (first | refine blk_drewN ?_ _ | refine blk_drew ?_ | refine blk_alloc ?_ _)); refine blk_put (cs := #[.int .i64 t200, .int .i64 t201, .slice Ao18 t202.length co18, .slice Ao21 t205.length co21, .slice none 0 0, .slice none 0 0, .slice none 0 0, .slice none 0 0, .slice none 0 0, .slice none 0 0, .int .i64 0]) ?_ 4 _ rfl; (with_reducible repeat (first | refine blk_drewN ?_ _ | refine blk_drew ?_ | refine blk_alloc ?_ _)); refine blk_put (cs := #[.int .i64 t200, .int .i64 t201, .slice Ao18 t202.length co18, .slice none 0 0, .slice none 0 0, .slice none 0 0, .slice none 0 0, .slice none 0 0, .slice none 0 0, .slice none 0 0, .int .i64 0]) ?_ 3 _ rfl; (with_reducible repeat (first | refine blk_drewN ?_ _ | refine blk_drew ?_ | refine blk_alloc ?_ _)); exact BK199.out) hb); replace HB := Aside0.mk (bs_ HB.out hb); (try clear hb); (try clear ho0); obtain ⟨Ao26, co26, eo26⟩ := Kd.S_slice HO213.out; subst eo26; obtain ⟨hcz27_0, hcz27_1, hcz27_2, hcz27_3, hcz27_4, hcz27_5, hcz27_6, hcz27_7, hcz27_8, hcz27_9, hcz27_10, hfz27_0, hfz27_1, hfz27_2, hfz27_3, hfz27_4, hfz27_5, hfz27_6, hfz27_7, hfz27_8, hfz27_9, hfz27_10⟩ := cz11_ BK199.out; obtain ⟨hcz28_0, hcz28_1, hcz28_2, hcz28_3, hcz28_4, hcz28_5, hcz28_6, hcz28_7, hcz28_8, hcz28_9, hcz28_10, hfz28_0, hfz28_1, hfz28_2, hfz28_3, hfz28_4, hfz28_5, hfz28_6, hfz28_7, hfz28_8, hfz28_9, hfz28_10⟩ := cz11_ BK197.out) | ((with_reducible refine gate_callee (f := 58) rfl ?_); refine gm_ (some 18) Try.func58 #[.slice A0_6 l0_6.length c0_6] rfl ?_; (with_reducible refine (laws_toIntS.calls k _ _ l0_6 t214 _ ?side1 HC0_6.out A5.out).mono ?_); (case side1 => exact Kd.C_below HR0_6.out (by repeat (first | (with_reducible first | exact HB.out | apply below_alloc | apply pw_below_drewN | apply below_drew1 | refine below_set ?_ GE197.out | refine below_set ?_ GE198.out | refine below_set ?_ GE199.out) | exact HB.out))); rintro e w29 ⟨v215, rfl, ho0, hb⟩; refine ⟨_, rfl, ?_⟩; have HZ4 := Aside0.mk hb.size; replace HO213 := Aside0.mk (Kd.S_below (sm_ (Kd.S_types HO213.out BK199.out (by decide)) (fun _ h_ => h_.1)) hb); have HO216 := Aside0.mk (Kd.R_lower (Kd.R_new' (Kd.R_new' (Kd.R_new' ho0 (Kd.R_lt (rm_ (Kd.R_types HO204.out BK199.out (by decide)) (fun _ h_ => h_.1)))) (Kd.R_lt (rm_ (Kd.R_types HO207.out BK199.out (by decide)) (fun _ h_ => h_.1)))) (Kd.R_lt (rm_ (Kd.R_types HO210.out BK199.out (by decide)) (fun _ h_ => h_.1)))) (bz_ HB.out)); replace HO204 := Aside0.mk (Kd.R_elder' (rm_ (Kd.R_types HO204.out BK199.out (by decide)) (fun _ h_ => h_.1)) (Kd.R_base ho0) hb); replace HO207 := Aside0.mk (Kd.R_elder' (rm_ (Kd.R_types HO207.out BK199.out (by decide)) (fun _ h_ => h_.1)) (Kd.R_base ho0) hb); replace HO210 := Aside0.mk (Kd.R_elder' (rm_ (Kd.R_types HO210.out BK199.out (by decide)) (fun _ h_ => h_.1)) (Kd.R_base ho0) hb); replace BK197 := Aside0.mk (blk_below (bf_ BK197.out) hb); replace BK198 := Aside0.mk (blk_below (bf_ BK198.out) hb); replace BK199 := Aside0.mk (blk_below (g := gb199) (o := .cells #[.int .i64 t200, .int .i64 t201, .slice Ao18 t202.length co18, .slice Ao21 t205.length co21, .slice Ao23 t208.length co23, .slice Ao26 t211.length co26, .slice none 0 0, .slice none 0 0, .slice none 0 0, .slice none 0 0, .int .i64 0] 37 (0, 0)) (by (with_reducible repeat (first | refine blk_drewN ?_ _ | refine blk_drew ?_ | refine blk_alloc ?_ _)); refine blk_put (cs := #[.int .i64 t200, .int .i64 t201, .slice Ao18 t202.length co18, .slice Ao21 t205.length co21, .slice Ao23 t208.length co23, .slice none 0 0, .slice none 0 0, .slice none 0 0, .slice none 0 0, .slice none 0 0, .int .i64 0]) ?_ 5 _ rfl; (with_reducible repeat (first | refine blk_drewN ?_ _ | refine blk_drew ?_ | refine blk_alloc ?_ _)); exact BK199.out) hb); replace HB := Aside0.mk (bs_ HB.out hb); (try clear hb); (try clear ho0); obtain ⟨Ao30, co30, eo30⟩ := Kd.R_slice HO216.out; subst eo30; obtain ⟨hcz31_0, hcz31_1, hcz31_2, hcz31_3, hcz31_4, hcz31_5, hcz31_6, hcz31_7, hcz31_8, hcz31_9, hcz31_10, hfz31_0, hfz31_1, hfz31_2, hfz31_3, hfz31_4, hfz31_5, hfz31_6, hfz31_7, hfz31_8, hfz31_9, hfz31_10⟩ := cz11_ BK199.out; obtain ⟨hcz32_0, hcz32_1, hcz32_2, hcz32_3, hcz32_4, hcz32_5, hcz32_6, hcz32_7, hcz32_8, hcz32_9, hcz32_10, hfz32_0, hfz32_1, hfz32_2, hfz32_3, hfz32_4, hfz32_5, hfz32_6, hfz32_7, hfz32_8, hfz32_9, hfz32_10⟩ := cz11_ BK197.out) | ((with_reducible refine gate_callee (f := 58) rfl ?_); refine gm_ (some 22) Try.func58 #[.slice A0_7 l0_7.length c0_7] rfl ?_; (with_reducible refine (laws_toIntS.calls k _ _ l0_7 t217 _ ?side1 HC0_7.out A6.out).mono ?_); (case side1 => exact Kd.C_below HR0_7.out (by repeat (first | (with_reducible first | exact HB.out | apply below_alloc | apply pw_below_drewN | apply below_drew1 | refine below_set ?_ GE197.out | refine below_set ?_ GE198.out | refine below_set ?_ GE199.out) | exact HB.out))); rintro e w33 ⟨v218, rfl, ho0, hb⟩; refine ⟨_, rfl, ?_⟩; have HZ5 := Aside0.mk hb.size; replace HO213 := Aside0.mk (Kd.S_below (sm_ (Kd.S_types HO213.out BK199.out (by decide)) (fun _ h_ => h_.1)) hb); have HO219 := Aside0.mk (Kd.R_lower (Kd.R_new' (Kd.R_new' (Kd.R_new' (Kd.R_new' ho0 (Kd.R_lt (rm_ (Kd.R_types HO204.out BK199.out (by decide)) (fun _ h_ => h_.1)))) (Kd.R_lt (rm_ (Kd.R_types HO207.out BK199.out (by decide)) (fun _ h_ => h_.1)))) (Kd.R_lt (rm_ (Kd.R_types HO210.out BK199.out (by decide)) (fun _ h_ => h_.1)))) (Kd.R_lt (rm_ (Kd.R_types HO216.out BK199.out (by decide)) (fun _ h_ => h_.1)))) (bz_ HB.out)); replace HO204 := Aside0.mk (Kd.R_elder' (rm_ (Kd.R_types HO204.out BK199.out (by decide)) (fun _ h_ => h_.1)) (Kd.R_base ho0) hb); replace HO207 := Aside0.mk (Kd.R_elder' (rm_ (Kd.R_types HO207.out BK199.out (by decide)) (fun _ h_ => h_.1)) (Kd.R_base ho0) hb); replace HO210 := Aside0.mk (Kd.R_elder' (rm_ (Kd.R_types HO210.out BK199.out (by decide)) (fun _ h_ => h_.1)) (Kd.R_base ho0) hb); replace HO216 := Aside0.mk (Kd.R_elder' (rm_ (Kd.R_types HO216.out BK199.out (by decide)) (fun _ h_ => h_.1)) (Kd.R_base ho0) hb); replace BK197 := Aside0.mk (blk_below (bf_ BK197.out) hb); replace BK198 := Aside0.mk (blk_below (bf_ BK198.out) hb); replace BK199 := Aside0.mk (blk_below (g := gb199) (o := .cells #[.int .i64 t200, .int .i64 t201, .slice Ao18 t202.length co18, .slice Ao21 t205.length co21, .slice Ao23 t208.length co23, .slice Ao26 t211.length co26, .slice Ao30 t214.length co30, .slice none 0 0, .slice none 0 0, .slice none 0 0, .int .i64 0] 37 (0, 0)) (by (with_reducible repeat (first | refine blk_drewN ?_ _ | refine blk_drew ?_ | refine blk_alloc ?_ _)); refine blk_put (cs := #[.int .i64 t200, .int .i64 t201, .slice Ao18 t202.length co18, .slice Ao21 t205.length co21, .slice Ao23 t208.length co23, .slice Ao26 t211.length co26, .slice none 0 0, .slice none 0 0, .slice none 0 0, .slice none 0 0, .int .i64 0]) ?_ 6 _ rfl; (with_reducible repeat (first | refine blk_drewN ?_ _ | refine blk_drew ?_ | refine blk_alloc ?_ _)); exact BK199.out) hb); replace HB := Aside0.mk (bs_ HB.out hb); (try clear hb); (try clear ho0); obtain ⟨Ao34, co34, eo34⟩ := Kd.R_slice HO219.out; subst eo34; obtain ⟨hcz35_0, hcz35_1, hcz35_2, hcz35_3, hcz35_4, hcz35_5, hcz35_6, hcz35_7, hcz35_8, hcz35_9, hcz35_10, hfz35_0, hfz35_1, hfz35_2, hfz35_3, hfz35_4, hfz35_5, hfz35_6, hfz35_7, hfz35_8, hfz35_9, hfz35_10⟩ := cz11_ BK199.out; obtain ⟨hcz36_0, hcz36_1, hcz36_2, hcz36_3, hcz36_4, hcz36_5, hcz36_6, hcz36_7, hcz36_8, hcz36_9, hcz36_10, hfz36_0, hfz36_1, hfz36_2, hfz36_3, hfz36_4, hfz36_5, hfz36_6, hfz36_7, hfz36_8, hfz36_9, hfz36_10⟩ := cz11_ BK197.out) | ((with_reducible refine gate_callee (f := 71) rfl ?_); refine gm_ (some 26) Try.func71 #[.slice A0_8 l0_8.length c0_8] rfl ?_; (with_reducible refine (laws_toFlitSS.calls k _ _ l0_8 t220 _ ?side1 HC0_8.out A7.out).mono ?_); (case side1 => exact Kd.C_below HR0_8.out (by repeat (first | (with_reducible first | exact HB.out | apply below_alloc | apply pw_below_drewN | apply below_drew1 | refine below_set ?_ GE197.out | refine below_set ?_ GE198.out | refine below_set ?_ GE199.out) | exact HB.out))); rintro e w37 ⟨v221, rfl, ho0, hb⟩; refine ⟨_, rfl, ?_⟩; have HZ6 := Aside0.mk hb.size; replace ho0 := sq_ ho0; replace HO204 := Aside0.mk (Kd.R_below (rm_ (Kd.R_types HO204.out BK199.out (by decide)) (fun _ h_ => h_.1)) hb); replace HO207 := Aside0.mk (Kd.R_below (rm_ (Kd.R_types HO207.out BK199.out (by decide)) (fun _ h_ => h_.1)) hb); replace HO210 := Aside0.mk (Kd.R_below (rm_ (Kd.R_types HO210.out BK199.out (by decide)) (fun _ h_ => h_.1)) hb); replace HO216 := Aside0.mk (Kd.R_below (rm_ (Kd.R_types HO216.out BK199.out (by decide)) (fun _ h_ => h_.1)) hb); replace HO219 := Aside0.mk (Kd.R_below (rm_ (Kd.R_types HO219.out BK199.out (by decide)) (fun _ h_ => h_.1)) hb); have HO222 := Aside0.mk (Kd.S_lower (Kd.S_new' ho0 (Kd.S_lt (sm_ (Kd.S_types HO213.out BK199.out (by decide)) (fun _ h_ => h_.1)))) (bz_ HB.out)); replace HO213 := Aside0.mk (Kd.S_elder' (sm_ (Kd.S_types HO213.out BK199.out (by decide)) (fun _ h_ => h_.1)) (Kd.S_base ho0) hb); replace BK197 := Aside0.mk (blk_below (bf_ BK197.out) hb); replace BK198 := Aside0.mk (blk_below (bf_ BK198.out) hb); replace BK199 := Aside0.mk (blk_below (g := gb199) (o := .cells #[.int .i64 t200, .int .i64 t201, .slice Ao18 t202.length co18, .slice Ao21 t205.length co21, .slice Ao23 t208.length co23, .slice Ao26 t211.length co26, .slice Ao30 t214.length co30, .slice Ao34 t217.length co34, .slice none 0 0, .slice none 0 0, .int .i64 0] 37 (0, 0)) (by (with_reducible repeat (first | refine blk_drewN ?_ _ | refine blk_drew ?_ | refine blk_alloc ?_ _)); refine blk_put (cs := #[.int .i64 t200, .int .i64 t201, .slice Ao18 t202.length co18, .slice Ao21 t205.length co21, .slice Ao23 t208.length co23, .slice Ao26 t211.length co26, .slice Ao30 t214.length co30, .slice none 0 0, .slice none 0 0, .slice none 0 0, .int .i64 0]) ?_ 7 _ rfl; (with_reducible repeat (first | refine blk_drewN ?_ _ | refine blk_drew ?_ | refine blk_alloc ?_ _)); exact BK199.out) hb); replace HB := Aside0.mk (bs_ HB.out hb); (try clear hb); (try clear ho0); obtain ⟨Ao38, co38, eo38⟩ := Kd.S_slice HO222.out; subst eo38; obtain ⟨hcz39_0, hcz39_1, hcz39_2, hcz39_3, hcz39_4, hcz39_5, hcz39_6, hcz39_7, hcz39_8, hcz39_9, hcz39_10, hfz39_0, hfz39_1, hfz39_2, hfz39_3, hfz39_4, hfz39_5, hfz39_6, hfz39_7, hfz39_8, hfz39_9, hfz39_10⟩ := cz11_ BK199.out; obtain ⟨hcz40_0, hcz40_1, hcz40_2, hcz40_3, hcz40_4, hcz40_5, hcz40_6, hcz40_7, hcz40_8, hcz40_9, hcz40_10, hfz40_0, hfz40_1, hfz40_2, hfz40_3, hfz40_4, hfz40_5, hfz40_6, hfz40_7, hfz40_8, hfz40_9, hfz40_10⟩ := cz11_ BK197.out) | ((with_reducible refine gate_callee (f := 71) rfl ?_); refine gm_ (some 30) Try.func71 #[.slice A0_9 l0_9.length c0_9] rfl ?_; (with_reducible refine (laws_toFlitSS.calls k _ _ l0_9 t223 _ ?side1 HC0_9.out A8.out).mono ?_); (case side1 => exact Kd.C_below HR0_9.out (by repeat (first | (with_reducible first | exact HB.out | apply below_alloc | apply pw_below_drewN | apply below_drew1 | refine below_set ?_ GE197.out | refine below_set ?_ GE198.out | refine below_set ?_ GE199.out) | exact HB.out))); rintro e w41 ⟨v224, rfl, ho0, hb⟩; refine ⟨_, rfl, ?_⟩; have HZ7 := Aside0.mk hb.size; replace ho0 := sq_ ho0; replace HO204 := Aside0.mk (Kd.R_below (rm_ (Kd.R_types HO204.out BK199.out (by decide)) (fun _ h_ => h_.1)) hb); replace HO207 := Aside0.mk (Kd.R_below (rm_ (Kd.R_types HO207.out BK199.out (by decide)) (fun _ h_ => h_.1)) hb); replace HO210 := Aside0.mk (Kd.R_below (rm_ (Kd.R_types HO210.out BK199.out (by decide)) (fun _ h_ => h_.1)) hb); replace HO216 := Aside0.mk (Kd.R_below (rm_ (Kd.R_types HO216.out BK199.out (by decide)) (fun _ h_ => h_.1)) hb); replace HO219 := Aside0.mk (Kd.R_below (rm_ (Kd.R_types HO219.out BK199.out (by decide)) (fun _ h_ => h_.1)) hb); have HO225 := Aside0.mk (Kd.S_lower (Kd.S_new' (Kd.S_new' ho0 (Kd.S_lt (sm_ (Kd.S_types HO213.out BK199.out (by decide)) (fun _ h_ => h_.1)))) (Kd.S_lt (sm_ (Kd.S_types HO222.out BK199.out (by decide)) (fun _ h_ => h_.1)))) (bz_ HB.out)); replace HO213 := Aside0.mk (Kd.S_elder' (sm_ (Kd.S_types HO213.out BK199.out (by decide)) (fun _ h_ => h_.1)) (Kd.S_base ho0) hb); replace HO222 := Aside0.mk (Kd.S_elder' (sm_ (Kd.S_types HO222.out BK199.out (by decide)) (fun _ h_ => h_.1)) (Kd.S_base ho0) hb); replace BK197 := Aside0.mk (blk_below (bf_ BK197.out) hb); replace BK198 := Aside0.mk (blk_below (bf_ BK198.out) hb); replace BK199 := Aside0.mk (blk_below (g := gb199) (o := .cells #[.int .i64 t200, .int .i64 t201, .slice Ao18 t202.length co18, .slice Ao21 t205.length co21, .slice Ao23 t208.length co23, .slice Ao26 t211.length co26, .slice Ao30 t214.length co30, .slice Ao34 t217.length co34, .slice Ao38 t220.length co38, .slice none 0 0, .int .i64 0] 37 (0, 0)) (by (with_reducible repeat (first | refine blk_drewN ?_ _ | refine blk_drew ?_ | refine blk_alloc ?_ _)); refine blk_put (cs := #[.int .i64 t200, .int .i64 t201, .slice Ao18 t202.length co18, .slice Ao21 t205.length co21, .slice Ao23 t208.length co23, .slice Ao26 t211.length co26, .slice Ao30 t214.length co30, .slice Ao34 t217.length co34, .slice none 0 0, .slice none 0 0, .int .i64 0]) ?_ 8 _ rfl; (with_reducible repeat (first | refine blk_drewN ?_ _ | refine blk_drew ?_ | refine blk_alloc ?_ _)); exact BK199.out) hb); replace HB := Aside0.mk (bs_ HB.out hb); (try clear hb); (try clear ho0); obtain ⟨Ao42, co42, eo42⟩ := Kd.S_slice HO225.out; subst eo42; obtain ⟨hcz43_0, hcz43_1, hcz43_2, hcz43_3, hcz43_4, hcz43_5, hcz43_6, hcz43_7, hcz43_8, hcz43_9, hcz43_10, hfz43_0, hfz43_1, hfz43_2, hfz43_3, hfz43_4, hfz43_5, hfz43_6, hfz43_7, hfz43_8, hfz43_9, hfz43_10⟩ := cz11_ BK199.out; obtain ⟨hcz44_0, hcz44_1, hcz44_2, hcz44_3, hcz44_4, hcz44_5, hcz44_6, hcz44_7, hcz44_8, hcz44_9, hcz44_10, hfz44_0, hfz44_1, hfz44_2, hfz44_3, hfz44_4, hfz44_5, hfz44_6, hfz44_7, hfz44_8, hfz44_9, hfz44_10⟩ := cz11_ BK197.out; obtain ⟨hcz45_0, hcz45_1, hcz45_2, hcz45_3, hcz45_4, hcz45_5, hcz45_6, hcz45_7, hcz45_8, hcz45_9, hcz45_10, hfz45_0, hfz45_1, hfz45_2, hfz45_3, hfz45_4, hfz45_5, hfz45_6, hfz45_7, hfz45_8, hfz45_9, hfz45_10⟩ := cz11_ BK198.out))
 refine bodyPost_ret (results_cell_row rfl _ _ gb198 37 #[.int .i64 t200, .int .i64 t201, .slice Ao18 t202.length co18, .slice Ao21 t205.length co21, .slice Ao23 t208.length co23, .slice Ao26 t211.length co26, .slice Ao30 t214.length co30, .slice Ao34 t217.length co34, .slice Ao38 t220.length co38, .slice Ao42 t223.length co42, .int .i64 a0_10] (0, 0) _ rfl (by (with_reducible repeat (first | refine blk_drewN ?_ _ | refine blk_drew ?_ | refine blk_alloc ?_ _)); refine blk_put (cs := #[.int .i64 t200, .int .i64 t201, .slice Ao18 t202.length co18, .slice Ao21 t205.length co21, .slice Ao23 t208.length co23, .slice Ao26 t211.length co26, .slice Ao30 t214.length co30, .slice Ao34 t217.length co34, .slice Ao38 t220.length co38, .slice Ao42 t223.length co42, .int .i64 0]) ?_ 10 _ rfl; (with_reducible repeat (first | refine blk_drewN ?_ _ | refine blk_drew ?_ | refine blk_alloc ?_ _)); refine blk_put (cs := #[.int .i64 t200, .int .i64 t201, .slice Ao18 t202.length co18, .slice Ao21 t205.length co21, .slice Ao23 t208.length co23, .slice Ao26 t211.length co26, .slice Ao30 t214.length co30, .slice Ao34 t217.length co34, .slice Ao38 t220.length co38, .slice none 0 0, .int .i64 0]) ?_ 9 _ rfl; (with_reducible repeat (first | refine blk_drewN ?_ _ | refine blk_drew ?_ | refine blk_alloc ?_ _)); refine blk_put (cs := #[.int .i64 t200, .int .i64 t201, .slice Ao18 t202.length co18, .slice Ao21 t205.length co21, .slice Ao23 t208.length co23, .slice Ao26 t211.length co26, .slice Ao30 t214.length co30, .slice Ao34 t217.length co34, .slice none 0 0, .slice none 0 0, .int .i64 0]) ?_ 8 _ rfl; (with_reducible repeat (first | refine blk_drewN ?_ _ | refine blk_drew ?_ | refine blk_alloc ?_ _)); refine blk_put (cs := #[.int .i64 t200, .int .i64 t201, .slice Ao18 t202.length co18, .slice Ao21 t205.length co21, .slice Ao23 t208.length co23, .slice Ao26 t211.length co26, .slice Ao30 t214.length co30, .slice none 0 0, .slice none 0 0, .slice none 0 0, .int .i64 0]) ?_ 7 _ rfl; (with_reducible repeat (first | refine blk_drewN ?_ _ | refine blk_drew ?_ | refine blk_alloc ?_ _)); refine blk_put (cs := #[.int .i64 t200, .int .i64 t201, .slice Ao18 t202.length co18, .slice Ao21 t205.length co21, .slice Ao23 t208.length co23, .slice Ao26 t211.length co26, .slice none 0 0, .slice none 0 0, .slice none 0 0, .slice none 0 0, .int .i64 0]) ?_ 6 _ rfl; (with_reducible repeat (first | refine blk_drewN ?_ _ | refine blk_drew ?_ | refine blk_alloc ?_ _)); refine blk_put (cs := #[.int .i64 t200, .int .i64 t201, .slice Ao18 t202.length co18, .slice Ao21 t205.length co21, .slice Ao23 t208.length co23, .slice none 0 0, .slice none 0 0, .slice none 0 0, .slice none 0 0, .slice none 0 0, .int .i64 0]) ?_ 5 _ rfl; (with_reducible repeat (first | refine blk_drewN ?_ _ | refine blk_drew ?_ | refine blk_alloc ?_ _)); refine blk_put (cs := #[.int .i64 t200, .int .i64 t201, .slice Ao18 t202.length co18, .slice Ao21 t205.length co21, .slice none 0 0, .slice none 0 0, .slice none 0 0, .slice none 0 0, .slice none 0 0, .slice none 0 0, .int .i64 0]) ?_ 4 _ rfl; (with_reducible repeat (first | refine blk_drewN ?_ _ | refine blk_drew ?_ | refine blk_alloc ?_ _)); refine blk_put (cs := #[.int .i64 t200, .int .i64 t201, .slice Ao18 t202.length co18, .slice none 0 0, .slice none 0 0, .slice none 0 0, .slice none 0 0, .slice none 0 0, .slice none 0 0, .slice none 0 0, .int .i64 0]) ?_ 3 _ rfl; (with_reducible repeat (first | refine blk_drewN ?_ _ | refine blk_drew ?_ | refine blk_alloc ?_ _)); refine blk_put (cs := #[.int .i64 t200, .int .i64 t201, .slice none 0 0, .slice none 0 0, .slice none 0 0, .slice none 0 0, .slice none 0 0, .slice none 0 0, .slice none 0 0, .slice none 0 0, .int .i64 0]) ?_ 2 _ rfl; (with_reducible repeat (first | refine blk_drewN ?_ _ | refine blk_drew ?_ | refine blk_alloc ?_ _)); refine blk_put (cs := #[.int .i64 t200, .int .i64 0, .slice none 0 0, .slice none 0 0, .slice none 0 0, .slice none 0 0, .slice none 0 0, .slice none 0 0, .slice none 0 0, .slice none 0 0, .int .i64 0]) ?_ 1 _ rfl; (with_reducible repeat (first | refine blk_drewN ?_ _ | refine blk_drew ?_ | refine blk_alloc ?_ _)); refine blk_put (cs := #[.int .i64 0, .int .i64 0, .slice none 0 0, .slice none 0 0, .slice none 0 0, .slice none 0 0, .slice none 0 0, .slice none 0 0, .slice none 0 0, .slice none 0 0, .int .i64 0]) ?_ 0 _ rfl; (with_reducible repeat (first | refine blk_drewN ?_ _ | refine blk_drew ?_ | refine blk_alloc ?_ _)); refine blk_far ?_ NB198_199.out _; (with_reducible repeat (first | refine blk_drewN ?_ _ | refine blk_drew ?_ | refine blk_alloc ?_ _)); refine blk_far ?_ NB198_199.out _; (with_reducible repeat (first | refine blk_drewN ?_ _ | refine blk_drew ?_ | refine blk_alloc ?_ _)); exact BK198.out) Try.underlying37 rfl (by kernel_rfl)) rfl ?_
 have HZ1_ := HZ1.out
 have HZ2_ := HZ2.out
 have HZ3_ := HZ3.out
 have HZ4_ := HZ4.out
 have HZ5_ := HZ5.out
 have HZ6_ := HZ6.out
 have HZ7_ := HZ7.out
 simp only [World.setCell, Array.size_modify] at HZ1_ HZ2_ HZ3_ HZ4_ HZ5_ HZ6_ HZ7_
 refine ⟨_, _, _, _, _, _, _, _, _, _, _, _, _, _, fin_, rm_ (Kd.R_types (Kd.R_types HO204.out BK199.out (by decide)) BK198.out (by decide)) (fun _ hk => ⟨hk.1.1.1.1.1.2, ⟨hk.1.1.1.1.2, ⟨hk.1.1.1.2, hk.1.1.2⟩⟩⟩), rm_ (Kd.R_types (Kd.R_types HO207.out BK199.out (by decide)) BK198.out (by decide)) (fun _ hk => ⟨hk.1.1.1.1.2, ⟨hk.1.1.1.1.1, ⟨hk.1.1.1.2, hk.1.1.2⟩⟩⟩), rm_ (Kd.R_types (Kd.R_types HO210.out BK199.out (by decide)) BK198.out (by decide)) (fun _ hk => ⟨hk.1.1.1.1.2, ⟨hk.1.1.1.1.1, ⟨hk.1.1.1.2, hk.1.1.2⟩⟩⟩), sm_ (Kd.S_types (Kd.S_types HO213.out BK199.out (by decide)) BK198.out (by decide)) (fun _ hk => hk.1.1.1.1), rm_ (Kd.R_types (Kd.R_types HO216.out BK199.out (by decide)) BK198.out (by decide)) (fun _ hk => ⟨hk.1.1.1.1.1.2, ⟨hk.1.1.1.1.2, ⟨hk.1.1.1.2, hk.1.1.2⟩⟩⟩), rm_ (Kd.R_types (Kd.R_types HO219.out BK199.out (by decide)) BK198.out (by decide)) (fun _ hk => ⟨hk.1.1.1.1.1.2, ⟨hk.1.1.1.1.2, ⟨hk.1.1.1.2, hk.1.1.2⟩⟩⟩), sm_ (Kd.S_types (Kd.S_types HO222.out BK199.out (by decide)) BK198.out (by decide)) (fun _ hk => hk.1.1.1.1), sm_ (Kd.S_types (Kd.S_types HO225.out BK199.out (by decide)) BK198.out (by decide)) (fun _ hk => hk.1.1.1.1), bb_ HB.out, ?_, ?_, ?_⟩
 all_goals (simp only [World.setCell, Array.size_modify]; omega)
theorem laws_toNet.callsT (k : Nat) (a0_0 : Int) (a0_1 : Int) (A0_2 : Option Addr) (c0_2 : Nat) (l0_2 : List Int) (A0_3 : Option Addr) (c0_3 : Nat) (l0_3 : List Int) (A0_4 : Option Addr) (c0_4 : Nat) (l0_4 : List Int) (A0_5 : Option Addr) (c0_5 : Nat) (l0_5 : List (List (S133))) (A0_6 : Option Addr) (c0_6 : Nat) (l0_6 : List Int) (A0_7 : Option Addr) (c0_7 : Nat) (l0_7 : List Int) (A0_8 : Option Addr) (c0_8 : Nat) (l0_8 : List (List (S133))) (A0_9 : Option Addr) (c0_9 : Nat) (l0_9 : List (List (S133))) (a0_10 : Int) (r1 : Int) (r2 : Int) (r3 : List Int) (r4 : List Int) (r5 : List Int) (r6 : List (List (S112))) (r7 : List Int) (r8 : List Int) (r9 : List (List (S112))) (r10 : List (List (S112))) (r11 : Int) (w : World) (hr0_2 : Kd.C (Kd.int .i64) w A0_2 l0_2.length l0_2) (hc0_2 : l0_2.length ≤ c0_2) (hr0_3 : Kd.C (Kd.int .i64) w A0_3 l0_3.length l0_3) (hc0_3 : l0_3.length ≤ c0_3) (hr0_4 : Kd.C (Kd.int .i64) w A0_4 l0_4.length l0_4) (hc0_4 : l0_4.length ≤ c0_4) (hr0_5 : Kd.C (Kd.slice 133 k133) w A0_5 l0_5.length l0_5) (hc0_5 : l0_5.length ≤ c0_5) (hr0_6 : Kd.C (Kd.int .i64) w A0_6 l0_6.length l0_6) (hc0_6 : l0_6.length ≤ c0_6) (hr0_7 : Kd.C (Kd.int .i64) w A0_7 l0_7.length l0_7) (hc0_7 : l0_7.length ≤ c0_7) (hr0_8 : Kd.C (Kd.slice 133 k133) w A0_8 l0_8.length l0_8) (hc0_8 : l0_8.length ≤ c0_8) (hr0_9 : Kd.C (Kd.slice 133 k133) w A0_9 l0_9.length l0_9) (hc0_9 : l0_9.length ≤ c0_9) (h : laws_toNet.f k a0_0 a0_1 l0_2 l0_3 l0_4 l0_5 l0_6 l0_7 l0_8 l0_9 a0_10 = some (r1, r2, r3, r4, r5, r6, r7, r8, r9, r10, r11)) :
  Calls Try.prog 30 #[.agg #[.int .i64 a0_0, .int .i64 a0_1, .slice A0_2 l0_2.length c0_2, .slice A0_3 l0_3.length c0_3, .slice A0_4 l0_4.length c0_4, .slice A0_5 l0_5.length c0_5, .slice A0_6 l0_6.length c0_6, .slice A0_7 l0_7.length c0_7, .slice A0_8 l0_8.length c0_8, .slice A0_9 l0_9.length c0_9, .int .i64 a0_10]] w fun e w' => ∃ (T_ : Nat → Nat) (v2_ v3_ v4_ v5_ v6_ v7_ v8_ v9_ : Value), e = .returned (.agg #[.int .i64 r1, .int .i64 r2, v2_, v3_, v4_, v5_, v6_, v7_, v8_, v9_, .int .i64 r11]) ∧ Marks T_ w.heap.size w' v2_ v3_ v4_ v5_ v6_ v7_ v8_ v9_ r3 r4 r5 r6 r7 r8 r9 r10 ∧ Below w.heap.size w w' := by
 refine (laws_toNet.callsQ k a0_0 a0_1 A0_2 c0_2 l0_2 A0_3 c0_3 l0_3 A0_4 c0_4 l0_4 A0_5 c0_5 l0_5 A0_6 c0_6 l0_6 A0_7 c0_7 l0_7 A0_8 c0_8 l0_8 A0_9 c0_9 l0_9 a0_10 r1 r2 r3 r4 r5 r6 r7 r8 r9 r10 r11 w hr0_2 hc0_2 hr0_3 hc0_3 hr0_4 hc0_4 hr0_5 hc0_5 hr0_6 hc0_6 hr0_7 hc0_7 hr0_8 hc0_8 hr0_9 hc0_9 h).mono ?_
 rintro e w' ⟨v2_, v3_, v4_, v5_, v6_, v7_, v8_, v9_, a5_, b5_, a8_, b8_, a9_, b9_, he, x2, x3, x4, x5, x6, x7, x8, x9, hb, z1, z2, z3⟩
 obtain ⟨T_, hT_⟩ := marks_of x2 x3 (fun _ h_ => h_.1) x4 (fun _ h_ => ⟨h_.1, h_.2.1⟩) x5 x6 (fun _ h_ => ⟨h_.1, h_.2.1, h_.2.2.1⟩) x7 (fun _ h_ => ⟨h_.1, h_.2.1, h_.2.2.1, h_.2.2.2⟩) x8 x9 z1 z2 z3
 exact ⟨T_, v2_, v3_, v4_, v5_, v6_, v7_, v8_, v9_, he, hT_, hb⟩


/-! ### laws_markFlitS: function 91 -/
def laws_markFlitS.l0 : Nat → List (S112) → Int → Int → Option (Int × (List (S112)))
 | 0, _, _, _ => none
 | k + 1, x0, x1, x5 => if x5 < (x0.length : Int) then (if 0 ≤ x5 then ((some (x0.set (x5 : Int).toNat (⟨x1, (rd_T112 x0 x5).f1, (rd_T112 x0 x5).f2, (rd_T112 x0 x5).f3, (rd_T112 x0 x5).f4⟩ : S112) : List (S112))).bind fun y226 => ((some (y226.set (x5 : Int).toNat (⟨(rd_T112 y226 x5).f0, wrap64 (x1 + 1), (rd_T112 y226 x5).f2, (rd_T112 y226 x5).f3, (rd_T112 y226 x5).f4⟩ : S112) : List (S112))).bind fun y227 => ((some (y227.set (x5 : Int).toNat (⟨(rd_T112 y227 x5).f0, (rd_T112 y227 x5).f1, wrap64 ((wrap64 (x1 + 1)) + 1), (rd_T112 y227 x5).f3, (rd_T112 y227 x5).f4⟩ : S112) : List (S112))).bind fun y228 => ((some (y228.set (x5 : Int).toNat (⟨(rd_T112 y228 x5).f0, (rd_T112 y228 x5).f1, (rd_T112 y228 x5).f2, ((Int.tmod (wrap64 ((wrap64 ((wrap64 (x1 + 1)) + 1)) + 1)) 3) == 0), (rd_T112 y228 x5).f4⟩ : S112) : List (S112))).bind fun y229 => (laws_markFlitS.l0 k (y229.set (x5 : Int).toNat (⟨(rd_T112 y229 x5).f0, (rd_T112 y229 x5).f1, (rd_T112 y229 x5).f2, (rd_T112 y229 x5).f3, ((Int.tmod (wrap64 ((wrap64 ((wrap64 ((wrap64 (x1 + 1)) + 1)) + 1)) + 1)) 3) == 0)⟩ : S112)) (wrap64 ((wrap64 ((wrap64 ((wrap64 ((wrap64 (x1 + 1)) + 1)) + 1)) + 1)) + 1)) (wrap64 (x5 + 1))))))) else (none)) else (some (x1, x0))
def laws_markFlitS.f (k : Nat) (l0 : List (S112)) (a1 : Int) : Option (Int × (List (S112))) := laws_markFlitS.l0 k l0 a1 0
theorem laws_markFlitS.mono_l : ∀ k, (∀ y0 y1 y2, LeO (laws_markFlitS.l0 k y0 y1 y2) (laws_markFlitS.l0 (k + 1) y0 y1 y2))
 | 0 => fun _ _ _ r h => by simp [laws_markFlitS.l0] at h
 | k + 1 => by
  have ih0 := laws_markFlitS.mono_l k
  ·intro y0 y1 y2
   unfold laws_markFlitS.l0
   repeat' first
   | (with_reducible exact ih0 _ _ _)
   | (with_reducible exact LeO.refl _)
   | (with_reducible exact LeO.none _)
   | (with_reducible refine LeO.ite ?_ ?_)
   | (with_reducible refine LeO.bind ?_ (fun _ => ?_))
   | exact ih0 _ _ _
   | exact LeO.none _
   | refine LeO.ite ?_ ?_
   | refine LeO.bind ?_ (fun _ => ?_)
theorem laws_markFlitS.mono : ∀ a0 a1 k, LeO (laws_markFlitS.f k a0 a1) (laws_markFlitS.f (k + 1) a0 a1) := by
 intro a0 a1 k
 have ih0 := laws_markFlitS.mono_l k
 unfold laws_markFlitS.f
 repeat' first
   | (with_reducible exact ih0 _ _ _)
   | (with_reducible exact LeO.refl _)
   | (with_reducible exact LeO.none _)
   | (with_reducible refine LeO.ite ?_ ?_)
   | (with_reducible refine LeO.bind ?_ (fun _ => ?_))
   | exact ih0 _ _ _
   | exact LeO.none _
   | refine LeO.ite ?_ ?_
   | refine LeO.bind ?_ (fun _ => ?_)
set_option maxHeartbeats 8000000 in
set_option maxRecDepth 100000 in
theorem laws_markFlitS.calls (k : Nat) (P0_ : Nat → Prop) (u9000_ : Value) (l0 : List (S112)) (a1 : Int) (r1 : Int) (r2 : List (S112)) (w0 w : World) (hB : Below w0.heap.size w0 w) (ho0 : Kd.R k112 112 w w0.heap.size P0_ u9000_ l0) (h : laws_markFlitS.f k l0 a1 = some (r1, r2)) :
  Calls Try.prog 91 #[u9000_, .int .i64 a1] w fun e w' => e = .returned (.int .i64 r1) ∧ Kd.R k112 112 w' w0.heap.size (fun k_ => (P0_ k_ ∨ w.heap.size ≤ k_)) u9000_ r2 ∧ Below w0.heap.size w0 w' ∧ Kept w w' (fun k_ => P0_ k_) := by
 have HO0 := Aside0.mk (show Kd.R k112 112 w w0.heap.size (fun k_ => (P0_ k_ ∨ w.heap.size ≤ k_)) u9000_ l0 from Kd.R_mono ho0 (fun k_ hk => (.inl hk)))
 have HK := Aside0.mk (Kept.refl w (fun k_ => P0_ k_))
 have HW0 := Aside0.mk hB.size
 have HB := Aside0.mk hB
 clear hB
 have H : (laws_markFlitS.l0 k l0 a1 0) = some (r1, r2) := h
 clear h
 have H' := Aside0.mk H
 clear H
 go_enter Try.func91, Try.ntmps91
 go_wp2
 go_loopg [1, 5] k (fun kq v1 v5 w' => ∃ (x0_1 : List (S112)) (x1_1 : Int) (x5_1 : Int), v1 = .int .i64 x1_1 ∧ v5 = .int .i64 x5_1 ∧ Aside0 (laws_markFlitS.l0 kq x0_1 x1_1 x5_1 = some (r1, r2)) ∧ Aside0 (kq ≤ k) ∧ Aside0 (Kd.R k112 112 w' w0.heap.size (fun k_ => (P0_ k_ ∨ w.heap.size ≤ k_)) u9000_ x0_1) ∧ Aside0 (Kept w w' (fun k_ => P0_ k_)) ∧ Aside0 (Below w0.heap.size w0 w'))
 case atStart => exact ⟨(l0), (a1), (0), ef_, ef_, H', ⟨Nat.le_refl _⟩, ⟨by (with_reducible repeat (first | apply Kd.R_alloc | apply Kd.R_drewN | apply Kd.R_drew)); exact HO0.out⟩, ⟨by repeat (first | (with_reducible first | exact HK.out | apply Kept.alloc | apply Kept.drewN | apply Kept.drew) | exact HK.out)⟩, ⟨bb_ HB.out⟩⟩
 case round =>
  clear H'
  obtain ⟨x0_1, x1_1, x5_1, rfl, rfl, HA, HK1, HO_0, HK, HB⟩ := hrel
  cases gk with
  | zero => exact absurd HA.out (by simp [laws_markFlitS.l0])
  | succ k1 =>
   have H := HA.out
   clear HA
   simp only [laws_markFlitS.l0] at H
   by_cases c3 : x5_1 < (x0_1.length : Int)
   ·rw [if_pos c3] at H
    have c3b0 : decide (x5_1 < (x0_1.length : Int)) = true := decide_eq_true c3
    clear c3
    by_cases c4 : 0 ≤ x5_1
    ·rw [if_pos c4] at H
     have c4b0 : decide (0 ≤ x5_1) = true := decide_eq_true c4
     clear c4
     obtain ⟨y226, hy226⟩ : ∃ y_ : List (S112), y_ = (x0_1.set (x5_1 : Int).toNat (⟨x1_1, (rd_T112 x0_1 x5_1).f1, (rd_T112 x0_1 x5_1).f2, (rd_T112 x0_1 x5_1).f3, (rd_T112 x0_1 x5_1).f4⟩ : S112)) := ⟨_, rfl⟩
     replace H : ((some (y226.set (x5_1 : Int).toNat (⟨(rd_T112 y226 x5_1).f0, wrap64 (x1_1 + 1), (rd_T112 y226 x5_1).f2, (rd_T112 y226 x5_1).f3, (rd_T112 y226 x5_1).f4⟩ : S112) : List (S112))).bind fun y227 => ((some (y227.set (x5_1 : Int).toNat (⟨(rd_T112 y227 x5_1).f0, (rd_T112 y227 x5_1).f1, wrap64 ((wrap64 (x1_1 + 1)) + 1), (rd_T112 y227 x5_1).f3, (rd_T112 y227 x5_1).f4⟩ : S112) : List (S112))).bind fun y228 => ((some (y228.set (x5_1 : Int).toNat (⟨(rd_T112 y228 x5_1).f0, (rd_T112 y228 x5_1).f1, (rd_T112 y228 x5_1).f2, ((Int.tmod (wrap64 ((wrap64 ((wrap64 (x1_1 + 1)) + 1)) + 1)) 3) == 0), (rd_T112 y228 x5_1).f4⟩ : S112) : List (S112))).bind fun y229 => (laws_markFlitS.l0 k1 (y229.set (x5_1 : Int).toNat (⟨(rd_T112 y229 x5_1).f0, (rd_T112 y229 x5_1).f1, (rd_T112 y229 x5_1).f2, (rd_T112 y229 x5_1).f3, ((Int.tmod (wrap64 ((wrap64 ((wrap64 ((wrap64 (x1_1 + 1)) + 1)) + 1)) + 1)) 3) == 0)⟩ : S112)) (wrap64 ((wrap64 ((wrap64 ((wrap64 ((wrap64 (x1_1 + 1)) + 1)) + 1)) + 1)) + 1)) (wrap64 (x5_1 + 1)))))) = some (r1, r2) := by first | (rw [hy226]; with_reducible exact H) | (have H2_ := (Option.bind_some _ _).symm.trans H; rw [hy226]; with_reducible exact H2_) | (have H2_ := (Option.bind_some _ _).symm.trans H; with_reducible exact H2_) | with_reducible exact H | (rw [hy226]; exact H) | exact H
     have Ny226 := Aside0.mk hy226
     clear hy226
     obtain ⟨y227, hy227⟩ : ∃ y_ : List (S112), y_ = (y226.set (x5_1 : Int).toNat (⟨(rd_T112 y226 x5_1).f0, wrap64 (x1_1 + 1), (rd_T112 y226 x5_1).f2, (rd_T112 y226 x5_1).f3, (rd_T112 y226 x5_1).f4⟩ : S112)) := ⟨_, rfl⟩
     replace H : ((some (y227.set (x5_1 : Int).toNat (⟨(rd_T112 y227 x5_1).f0, (rd_T112 y227 x5_1).f1, wrap64 ((wrap64 (x1_1 + 1)) + 1), (rd_T112 y227 x5_1).f3, (rd_T112 y227 x5_1).f4⟩ : S112) : List (S112))).bind fun y228 => ((some (y228.set (x5_1 : Int).toNat (⟨(rd_T112 y228 x5_1).f0, (rd_T112 y228 x5_1).f1, (rd_T112 y228 x5_1).f2, ((Int.tmod (wrap64 ((wrap64 ((wrap64 (x1_1 + 1)) + 1)) + 1)) 3) == 0), (rd_T112 y228 x5_1).f4⟩ : S112) : List (S112))).bind fun y229 => (laws_markFlitS.l0 k1 (y229.set (x5_1 : Int).toNat (⟨(rd_T112 y229 x5_1).f0, (rd_T112 y229 x5_1).f1, (rd_T112 y229 x5_1).f2, (rd_T112 y229 x5_1).f3, ((Int.tmod (wrap64 ((wrap64 ((wrap64 ((wrap64 (x1_1 + 1)) + 1)) + 1)) + 1)) 3) == 0)⟩ : S112)) (wrap64 ((wrap64 ((wrap64 ((wrap64 ((wrap64 (x1_1 + 1)) + 1)) + 1)) + 1)) + 1)) (wrap64 (x5_1 + 1))))) = some (r1, r2) := by first | (rw [hy227]; with_reducible exact H) | (have H2_ := (Option.bind_some _ _).symm.trans H; rw [hy227]; with_reducible exact H2_) | (have H2_ := (Option.bind_some _ _).symm.trans H; with_reducible exact H2_) | with_reducible exact H | (rw [hy227]; exact H) | exact H
     have Ny227 := Aside0.mk hy227
     clear hy227
     obtain ⟨y228, hy228⟩ : ∃ y_ : List (S112), y_ = (y227.set (x5_1 : Int).toNat (⟨(rd_T112 y227 x5_1).f0, (rd_T112 y227 x5_1).f1, wrap64 ((wrap64 (x1_1 + 1)) + 1), (rd_T112 y227 x5_1).f3, (rd_T112 y227 x5_1).f4⟩ : S112)) := ⟨_, rfl⟩
     replace H : ((some (y228.set (x5_1 : Int).toNat (⟨(rd_T112 y228 x5_1).f0, (rd_T112 y228 x5_1).f1, (rd_T112 y228 x5_1).f2, ((Int.tmod (wrap64 ((wrap64 ((wrap64 (x1_1 + 1)) + 1)) + 1)) 3) == 0), (rd_T112 y228 x5_1).f4⟩ : S112) : List (S112))).bind fun y229 => (laws_markFlitS.l0 k1 (y229.set (x5_1 : Int).toNat (⟨(rd_T112 y229 x5_1).f0, (rd_T112 y229 x5_1).f1, (rd_T112 y229 x5_1).f2, (rd_T112 y229 x5_1).f3, ((Int.tmod (wrap64 ((wrap64 ((wrap64 ((wrap64 (x1_1 + 1)) + 1)) + 1)) + 1)) 3) == 0)⟩ : S112)) (wrap64 ((wrap64 ((wrap64 ((wrap64 ((wrap64 (x1_1 + 1)) + 1)) + 1)) + 1)) + 1)) (wrap64 (x5_1 + 1)))) = some (r1, r2) := by first | (rw [hy228]; with_reducible exact H) | (have H2_ := (Option.bind_some _ _).symm.trans H; rw [hy228]; with_reducible exact H2_) | (have H2_ := (Option.bind_some _ _).symm.trans H; with_reducible exact H2_) | with_reducible exact H | (rw [hy228]; exact H) | exact H
     have Ny228 := Aside0.mk hy228
     clear hy228
     obtain ⟨y229, hy229⟩ : ∃ y_ : List (S112), y_ = (y228.set (x5_1 : Int).toNat (⟨(rd_T112 y228 x5_1).f0, (rd_T112 y228 x5_1).f1, (rd_T112 y228 x5_1).f2, ((Int.tmod (wrap64 ((wrap64 ((wrap64 (x1_1 + 1)) + 1)) + 1)) 3) == 0), (rd_T112 y228 x5_1).f4⟩ : S112)) := ⟨_, rfl⟩
     replace H : (laws_markFlitS.l0 k1 (y229.set (x5_1 : Int).toNat (⟨(rd_T112 y229 x5_1).f0, (rd_T112 y229 x5_1).f1, (rd_T112 y229 x5_1).f2, (rd_T112 y229 x5_1).f3, ((Int.tmod (wrap64 ((wrap64 ((wrap64 ((wrap64 (x1_1 + 1)) + 1)) + 1)) + 1)) 3) == 0)⟩ : S112)) (wrap64 ((wrap64 ((wrap64 ((wrap64 ((wrap64 (x1_1 + 1)) + 1)) + 1)) + 1)) + 1)) (wrap64 (x5_1 + 1))) = some (r1, r2) := by first | (rw [hy229]; with_reducible exact H) | (have H2_ := (Option.bind_some _ _).symm.trans H; rw [hy229]; with_reducible exact H2_) | (have H2_ := (Option.bind_some _ _).symm.trans H; with_reducible exact H2_) | with_reducible exact H | (rw [hy229]; exact H) | exact H
     have Ny229 := Aside0.mk hy229
     clear hy229
     obtain ⟨y230, hy230⟩ : ∃ y_ : List (S112), y_ = (y229.set (x5_1 : Int).toNat (⟨(rd_T112 y229 x5_1).f0, (rd_T112 y229 x5_1).f1, (rd_T112 y229 x5_1).f2, (rd_T112 y229 x5_1).f3, ((Int.tmod (wrap64 ((wrap64 ((wrap64 ((wrap64 (x1_1 + 1)) + 1)) + 1)) + 1)) 3) == 0)⟩ : S112)) := ⟨_, rfl⟩
     replace H : (laws_markFlitS.l0 k1 y230 (wrap64 ((wrap64 ((wrap64 ((wrap64 ((wrap64 (x1_1 + 1)) + 1)) + 1)) + 1)) + 1)) (wrap64 (x5_1 + 1))) = some (r1, r2) := by first | (rw [hy230]; with_reducible exact H) | (have H2_ := (Option.bind_some _ _).symm.trans H; rw [hy230]; with_reducible exact H2_) | (have H2_ := (Option.bind_some _ _).symm.trans H; with_reducible exact H2_) | with_reducible exact H | (rw [hy230]; exact H) | exact H
     have Ny230 := Aside0.mk hy230
     clear hy230
     have H' := Aside0.mk H
     clear H
     obtain ⟨Ao10, co10, eo10⟩ := Kd.R_slice HO_0.out
     subst eo10
     have p5 : 0 ≤ (x5_1 : Int) := of_decide_eq_true dg_
     have q5 : (x5_1 : Int) < ((x0_1.length : Int) : Int) := of_decide_eq_true dg_
     obtain ⟨go5, co5, eo5, gb5, gl5, cl5, HG5⟩ := Kd.R_form HO_0.out (by omega)
     (first | cases eo5 | (injection eo5 with ea_ en_ ec_; (first | subst ea_ | (injection ea_ with ea_; subst ea_)); subst ec_; clear en_))
     have GB5 := Aside0.mk gb5
     have GG5 := Aside0.mk HG5
     clear gb5 gl5 HG5
     have HMgo5 := Aside0.mk (show (P0_ go5 ∨ w.heap.size ≤ go5) from (HO_0.out.1 _ rfl))
     obtain ⟨ce5, hcl5, hM5, hcc5, hfr5⟩ := Kd.R_elem HO_0.out z112 (x5_1 : Int) p5 q5
     obtain rfl := k112_openM hM5
     have hx5_0 : wr.cell? ⟨go5, (x5_1 : Int).toNat * 5, none⟩ = some (.int .i64 ((rd_T112 x0_1 x5_1).f0)) := hcc5 0 _ rfl
     have hx5_1 : wr.cell? ⟨go5, (x5_1 : Int).toNat * 5 + 1, none⟩ = some (.int .i64 ((rd_T112 x0_1 x5_1).f1)) := hcc5 1 _ rfl
     have hx5_2 : wr.cell? ⟨go5, (x5_1 : Int).toNat * 5 + 2, none⟩ = some (.int .i64 ((rd_T112 x0_1 x5_1).f2)) := hcc5 2 _ rfl
     have hx5_3 : wr.cell? ⟨go5, (x5_1 : Int).toNat * 5 + 3, none⟩ = some (.bool ((rd_T112 x0_1 x5_1).f3)) := hcc5 3 _ rfl
     have hx5_4 : wr.cell? ⟨go5, (x5_1 : Int).toNat * 5 + 4, none⟩ = some (.bool ((rd_T112 x0_1 x5_1).f4)) := hcc5 4 _ rfl
     have hf5_0 : wr.frozen? ⟨go5, (x5_1 : Int).toNat * 5, none⟩ = false := hfr5 0
     have hf5_1 : wr.frozen? ⟨go5, (x5_1 : Int).toNat * 5 + 1, none⟩ = false := hfr5 1
     have hf5_2 : wr.frozen? ⟨go5, (x5_1 : Int).toNat * 5 + 2, none⟩ = false := hfr5 2
     have hf5_3 : wr.frozen? ⟨go5, (x5_1 : Int).toNat * 5 + 3, none⟩ = false := hfr5 3
     have hf5_4 : wr.frozen? ⟨go5, (x5_1 : Int).toNat * 5 + 4, none⟩ = false := hfr5 4
     clear hcl5 hcc5 hfr5; (try clear hM5)
     replace p5 := eq_true p5
     replace q5 := eq_true q5
     have HX11 := Aside0.mk (show Kd.R k112 112 wr w0.heap.size (fun k_ => (P0_ k_ ∨ w.heap.size ≤ k_)) (.slice (some ⟨go5, 0, none⟩) x0_1.length co10) x0_1 from (ra_ HO_0.out))
     obtain ⟨ce11, hcl11, hM11, hcc11, hfr11⟩ := Kd.R_elem HX11.out z112 (x5_1 : Int) (of_decide_eq_true dg_) (by have h_ : (x5_1 : Int) < ((x0_1.length : Int) : Int) := of_decide_eq_true dg_; first | exact h_ | (have e_ := (Kd.R_reads' HO_0.out).1; omega) | simpa using h_)
     obtain rfl := k112_openM hM11
     have HP11 := Kd.R_seg HX11.out (x5_1 : Int) (of_decide_eq_true dg_) (by have h_ : (x5_1 : Int) < ((x0_1.length : Int) : Int) := of_decide_eq_true dg_; first | exact h_ | (have e_ := (Kd.R_reads' HO_0.out).1; omega) | simpa using h_) (seg := [.int .i64 x1_1]) (j := 0) hcl11 hcc11 (show 1 ≤ 5 from by decide) (x' := (⟨x1_1, (rd_T112 x0_1 x5_1).f1, (rd_T112 x0_1 x5_1).f2, (rd_T112 x0_1 x5_1).f3, (rd_T112 x0_1 x5_1).f4⟩ : S112)) (k112_mkM _ _ _ (⟨x1_1, (rd_T112 x0_1 x5_1).f1, (rd_T112 x0_1 x5_1).f2, (rd_T112 x0_1 x5_1).f3, (rd_T112 x0_1 x5_1).f4⟩ : S112) ) (fun _ hk => hk)
     have hx11_0 := hcc11 0 _ rfl
     (try simp only [show (k112).sz = 5 from rfl, Nat.mul_one, Nat.add_zero] at hx11_0)
     have hf11_0 := hfr11 0
     (try simp only [show (k112).sz = 5 from rfl, Nat.mul_one, Nat.add_zero] at hf11_0)
     clear hcl11 hcc11 hfr11; (try clear hM11)
     go_wp2_with (first | ((with_reducible refine gate_store (t := 3) (p := 16) rfl ?_); refine store_event (t := 3) (p := 16) (v := ?vo_w12) (w1 := (wr.setCell ⟨go5, (x5_1 : Int).toNat * 5, none⟩ (.int .i64 x1_1))) ?hg ?ho ?hn ?hr ?_; (case ho => rfl); (case hg => rfl); (case hn => rfl); (case hr => first | (go_simp; done) | (go_simp; rfl)); intro w12 hw; have hg : wr.grownBy w12 (some go5) := (by rw [hw]; exact HP11.2); have hp_ : Kd.R k112 112 w12 w0.heap.size (fun k_ => (P0_ k_ ∨ w.heap.size ≤ k_)) (.slice (some ⟨go5, 0, none⟩) x0_1.length co10) y226 := (by rw [hw, Ny226.out]; exact HP11.1); clear HP11; replace HB := Aside0.mk ((by rw [hw]; exact below_set (HB.out) GB5.out : Below w0.heap.size w0 w12)); replace HK := Aside0.mk (Kept.of_grown (S := (fun k_ => P0_ k_)) hg (by repeat (first | (with_reducible first | exact HK.out | apply Kept.alloc | apply Kept.drewN | apply Kept.drew) | exact HK.out)) (fun k_ e_ => (HO_0.out.1 k_ e_))); replace HO_0 := Aside0.mk (hp_); clear hg hw hp_; have p6 : 0 ≤ (x5_1 : Int) := of_decide_eq_true dg_; have q6 : (x5_1 : Int) < ((x0_1.length : Int) : Int) := of_decide_eq_true dg_; obtain ⟨ce6, hcl6, hM6, hcc6, hfr6⟩ := Kd.R_elem HO_0.out z112 (x5_1 : Int) p6 q6; obtain rfl := k112_openM hM6; have hx6_0 : w12.cell? ⟨go5, (x5_1 : Int).toNat * 5, none⟩ = some (.int .i64 ((rd_T112 y226 x5_1).f0)) := hcc6 0 _ rfl; have hx6_1 : w12.cell? ⟨go5, (x5_1 : Int).toNat * 5 + 1, none⟩ = some (.int .i64 ((rd_T112 y226 x5_1).f1)) := hcc6 1 _ rfl; have hx6_2 : w12.cell? ⟨go5, (x5_1 : Int).toNat * 5 + 2, none⟩ = some (.int .i64 ((rd_T112 y226 x5_1).f2)) := hcc6 2 _ rfl; have hx6_3 : w12.cell? ⟨go5, (x5_1 : Int).toNat * 5 + 3, none⟩ = some (.bool ((rd_T112 y226 x5_1).f3)) := hcc6 3 _ rfl; have hx6_4 : w12.cell? ⟨go5, (x5_1 : Int).toNat * 5 + 4, none⟩ = some (.bool ((rd_T112 y226 x5_1).f4)) := hcc6 4 _ rfl; have hf6_0 : w12.frozen? ⟨go5, (x5_1 : Int).toNat * 5, none⟩ = false := hfr6 0; have hf6_1 : w12.frozen? ⟨go5, (x5_1 : Int).toNat * 5 + 1, none⟩ = false := hfr6 1; have hf6_2 : w12.frozen? ⟨go5, (x5_1 : Int).toNat * 5 + 2, none⟩ = false := hfr6 2; have hf6_3 : w12.frozen? ⟨go5, (x5_1 : Int).toNat * 5 + 3, none⟩ = false := hfr6 3; have hf6_4 : w12.frozen? ⟨go5, (x5_1 : Int).toNat * 5 + 4, none⟩ = false := hfr6 4; clear hcl6 hcc6 hfr6; (try clear hM6); replace p6 := eq_true p6; replace q6 := eq_true q6; have HX13 := Aside0.mk (show Kd.R k112 112 w12 w0.heap.size (fun k_ => (P0_ k_ ∨ w.heap.size ≤ k_)) (.slice (some ⟨go5, 0, none⟩) x0_1.length co10) y226 from (ra_ HO_0.out)); obtain ⟨ce13, hcl13, hM13, hcc13, hfr13⟩ := Kd.R_elem HX13.out z112 (x5_1 : Int) (of_decide_eq_true dg_) (by have h_ : (x5_1 : Int) < ((x0_1.length : Int) : Int) := of_decide_eq_true dg_; first | exact h_ | (have e_ := (Kd.R_reads' HO_0.out).1; omega) | simpa using h_); obtain rfl := k112_openM hM13; have HP13 := Kd.R_seg HX13.out (x5_1 : Int) (of_decide_eq_true dg_) (by have h_ : (x5_1 : Int) < ((x0_1.length : Int) : Int) := of_decide_eq_true dg_; first | exact h_ | (have e_ := (Kd.R_reads' HO_0.out).1; omega) | simpa using h_) (seg := [.int .i64 (wrap64 (x1_1 + 1))]) (j := 1) hcl13 hcc13 (show 2 ≤ 5 from by decide) (x' := (⟨(rd_T112 y226 x5_1).f0, wrap64 (x1_1 + 1), (rd_T112 y226 x5_1).f2, (rd_T112 y226 x5_1).f3, (rd_T112 y226 x5_1).f4⟩ : S112)) (k112_mkM _ _ _ (⟨(rd_T112 y226 x5_1).f0, wrap64 (x1_1 + 1), (rd_T112 y226 x5_1).f2, (rd_T112 y226 x5_1).f3, (rd_T112 y226 x5_1).f4⟩ : S112) ) (fun _ hk => hk); have hx13_1 := hcc13 1 _ rfl; (try simp only [show (k112).sz = 5 from rfl, Nat.mul_one, Nat.add_zero] at hx13_1); have hf13_1 := hfr13 1; (try simp only [show (k112).sz = 5 from rfl, Nat.mul_one, Nat.add_zero] at hf13_1); clear hcl13 hcc13 hfr13; (try clear hM13)) | ((with_reducible refine gate_store (t := 3) (p := 23) rfl ?_); refine store_event (t := 3) (p := 23) (v := ?vo_w14) (w1 := (w12.setCell ⟨go5, (x5_1 : Int).toNat * 5 + 1, none⟩ (.int .i64 (wrap64 (x1_1 + 1))))) ?hg ?ho ?hn ?hr ?_; (case ho => rfl); (case hg => rfl); (case hn => rfl); (case hr => first | (go_simp; done) | (go_simp; rfl)); intro w14 hw; have hg : w12.grownBy w14 (some go5) := (by rw [hw]; exact HP13.2); have hp_ : Kd.R k112 112 w14 w0.heap.size (fun k_ => (P0_ k_ ∨ w.heap.size ≤ k_)) (.slice (some ⟨go5, 0, none⟩) x0_1.length co10) y227 := (by rw [hw, Ny227.out]; exact HP13.1); clear HP13; replace HB := Aside0.mk ((by rw [hw]; exact below_set (HB.out) GB5.out : Below w0.heap.size w0 w14)); replace HK := Aside0.mk (Kept.of_grown (S := (fun k_ => P0_ k_)) hg (by repeat (first | (with_reducible first | exact HK.out | apply Kept.alloc | apply Kept.drewN | apply Kept.drew) | exact HK.out)) (fun k_ e_ => (HO_0.out.1 k_ e_))); replace HO_0 := Aside0.mk (hp_); clear hg hw hp_; have p7 : 0 ≤ (x5_1 : Int) := of_decide_eq_true dg_; have q7 : (x5_1 : Int) < ((x0_1.length : Int) : Int) := of_decide_eq_true dg_; obtain ⟨ce7, hcl7, hM7, hcc7, hfr7⟩ := Kd.R_elem HO_0.out z112 (x5_1 : Int) p7 q7; obtain rfl := k112_openM hM7; have hx7_0 : w14.cell? ⟨go5, (x5_1 : Int).toNat * 5, none⟩ = some (.int .i64 ((rd_T112 y227 x5_1).f0)) := hcc7 0 _ rfl; have hx7_1 : w14.cell? ⟨go5, (x5_1 : Int).toNat * 5 + 1, none⟩ = some (.int .i64 ((rd_T112 y227 x5_1).f1)) := hcc7 1 _ rfl; have hx7_2 : w14.cell? ⟨go5, (x5_1 : Int).toNat * 5 + 2, none⟩ = some (.int .i64 ((rd_T112 y227 x5_1).f2)) := hcc7 2 _ rfl; have hx7_3 : w14.cell? ⟨go5, (x5_1 : Int).toNat * 5 + 3, none⟩ = some (.bool ((rd_T112 y227 x5_1).f3)) := hcc7 3 _ rfl; have hx7_4 : w14.cell? ⟨go5, (x5_1 : Int).toNat * 5 + 4, none⟩ = some (.bool ((rd_T112 y227 x5_1).f4)) := hcc7 4 _ rfl; have hf7_0 : w14.frozen? ⟨go5, (x5_1 : Int).toNat * 5, none⟩ = false := hfr7 0; have hf7_1 : w14.frozen? ⟨go5, (x5_1 : Int).toNat * 5 + 1, none⟩ = false := hfr7 1; have hf7_2 : w14.frozen? ⟨go5, (x5_1 : Int).toNat * 5 + 2, none⟩ = false := hfr7 2; have hf7_3 : w14.frozen? ⟨go5, (x5_1 : Int).toNat * 5 + 3, none⟩ = false := hfr7 3; have hf7_4 : w14.frozen? ⟨go5, (x5_1 : Int).toNat * 5 + 4, none⟩ = false := hfr7 4; clear hcl7 hcc7 hfr7; (try clear hM7); replace p7 := eq_true p7; replace q7 := eq_true q7; have HX15 := Aside0.mk (show Kd.R k112 112 w14 w0.heap.size (fun k_ => (P0_ k_ ∨ w.heap.size ≤ k_)) (.slice (some ⟨go5, 0, none⟩) x0_1.length co10) y227 from (ra_ HO_0.out)); obtain ⟨ce15, hcl15, hM15, hcc15, hfr15⟩ := Kd.R_elem HX15.out z112 (x5_1 : Int) (of_decide_eq_true dg_) (by have h_ : (x5_1 : Int) < ((x0_1.length : Int) : Int) := of_decide_eq_true dg_; first | exact h_ | (have e_ := (Kd.R_reads' HO_0.out).1; omega) | simpa using h_); obtain rfl := k112_openM hM15; have HP15 := Kd.R_seg HX15.out (x5_1 : Int) (of_decide_eq_true dg_) (by have h_ : (x5_1 : Int) < ((x0_1.length : Int) : Int) := of_decide_eq_true dg_; first | exact h_ | (have e_ := (Kd.R_reads' HO_0.out).1; omega) | simpa using h_) (seg := [.int .i64 (wrap64 ((wrap64 (x1_1 + 1)) + 1))]) (j := 2) hcl15 hcc15 (show 3 ≤ 5 from by decide) (x' := (⟨(rd_T112 y227 x5_1).f0, (rd_T112 y227 x5_1).f1, wrap64 ((wrap64 (x1_1 + 1)) + 1), (rd_T112 y227 x5_1).f3, (rd_T112 y227 x5_1).f4⟩ : S112)) (k112_mkM _ _ _ (⟨(rd_T112 y227 x5_1).f0, (rd_T112 y227 x5_1).f1, wrap64 ((wrap64 (x1_1 + 1)) + 1), (rd_T112 y227 x5_1).f3, (rd_T112 y227 x5_1).f4⟩ : S112) ) (fun _ hk => hk); have hx15_2 := hcc15 2 _ rfl; (try simp only [show (k112).sz = 5 from rfl, Nat.mul_one, Nat.add_zero] at hx15_2); have hf15_2 := hfr15 2; (try simp only [show (k112).sz = 5 from rfl, Nat.mul_one, Nat.add_zero] at hf15_2); clear hcl15 hcc15 hfr15; (try clear hM15)) | ((with_reducible refine gate_store (t := 3) (p := 30) rfl ?_); refine store_event (t := 3) (p := 30) (v := ?vo_w16) (w1 := (w14.setCell ⟨go5, (x5_1 : Int).toNat * 5 + 2, none⟩ (.int .i64 (wrap64 ((wrap64 (x1_1 + 1)) + 1))))) ?hg ?ho ?hn ?hr ?_; (case ho => rfl); (case hg => rfl); (case hn => rfl); (case hr => first | (go_simp; done) | (go_simp; rfl)); intro w16 hw; have hg : w14.grownBy w16 (some go5) := (by rw [hw]; exact HP15.2); have hp_ : Kd.R k112 112 w16 w0.heap.size (fun k_ => (P0_ k_ ∨ w.heap.size ≤ k_)) (.slice (some ⟨go5, 0, none⟩) x0_1.length co10) y228 := (by rw [hw, Ny228.out]; exact HP15.1); clear HP15; replace HB := Aside0.mk ((by rw [hw]; exact below_set (HB.out) GB5.out : Below w0.heap.size w0 w16)); replace HK := Aside0.mk (Kept.of_grown (S := (fun k_ => P0_ k_)) hg (by repeat (first | (with_reducible first | exact HK.out | apply Kept.alloc | apply Kept.drewN | apply Kept.drew) | exact HK.out)) (fun k_ e_ => (HO_0.out.1 k_ e_))); replace HO_0 := Aside0.mk (hp_); clear hg hw hp_; have p8 : 0 ≤ (x5_1 : Int) := of_decide_eq_true dg_; have q8 : (x5_1 : Int) < ((x0_1.length : Int) : Int) := of_decide_eq_true dg_; obtain ⟨ce8, hcl8, hM8, hcc8, hfr8⟩ := Kd.R_elem HO_0.out z112 (x5_1 : Int) p8 q8; obtain rfl := k112_openM hM8; have hx8_0 : w16.cell? ⟨go5, (x5_1 : Int).toNat * 5, none⟩ = some (.int .i64 ((rd_T112 y228 x5_1).f0)) := hcc8 0 _ rfl; have hx8_1 : w16.cell? ⟨go5, (x5_1 : Int).toNat * 5 + 1, none⟩ = some (.int .i64 ((rd_T112 y228 x5_1).f1)) := hcc8 1 _ rfl; have hx8_2 : w16.cell? ⟨go5, (x5_1 : Int).toNat * 5 + 2, none⟩ = some (.int .i64 ((rd_T112 y228 x5_1).f2)) := hcc8 2 _ rfl; have hx8_3 : w16.cell? ⟨go5, (x5_1 : Int).toNat * 5 + 3, none⟩ = some (.bool ((rd_T112 y228 x5_1).f3)) := hcc8 3 _ rfl; have hx8_4 : w16.cell? ⟨go5, (x5_1 : Int).toNat * 5 + 4, none⟩ = some (.bool ((rd_T112 y228 x5_1).f4)) := hcc8 4 _ rfl; have hf8_0 : w16.frozen? ⟨go5, (x5_1 : Int).toNat * 5, none⟩ = false := hfr8 0; have hf8_1 : w16.frozen? ⟨go5, (x5_1 : Int).toNat * 5 + 1, none⟩ = false := hfr8 1; have hf8_2 : w16.frozen? ⟨go5, (x5_1 : Int).toNat * 5 + 2, none⟩ = false := hfr8 2; have hf8_3 : w16.frozen? ⟨go5, (x5_1 : Int).toNat * 5 + 3, none⟩ = false := hfr8 3; have hf8_4 : w16.frozen? ⟨go5, (x5_1 : Int).toNat * 5 + 4, none⟩ = false := hfr8 4; clear hcl8 hcc8 hfr8; (try clear hM8); replace p8 := eq_true p8; replace q8 := eq_true q8; have HX17 := Aside0.mk (show Kd.R k112 112 w16 w0.heap.size (fun k_ => (P0_ k_ ∨ w.heap.size ≤ k_)) (.slice (some ⟨go5, 0, none⟩) x0_1.length co10) y228 from (ra_ HO_0.out)); obtain ⟨ce17, hcl17, hM17, hcc17, hfr17⟩ := Kd.R_elem HX17.out z112 (x5_1 : Int) (of_decide_eq_true dg_) (by have h_ : (x5_1 : Int) < ((x0_1.length : Int) : Int) := of_decide_eq_true dg_; first | exact h_ | (have e_ := (Kd.R_reads' HO_0.out).1; omega) | simpa using h_); obtain rfl := k112_openM hM17; have HP17 := Kd.R_seg HX17.out (x5_1 : Int) (of_decide_eq_true dg_) (by have h_ : (x5_1 : Int) < ((x0_1.length : Int) : Int) := of_decide_eq_true dg_; first | exact h_ | (have e_ := (Kd.R_reads' HO_0.out).1; omega) | simpa using h_) (seg := [.bool ((Int.tmod (wrap64 ((wrap64 ((wrap64 (x1_1 + 1)) + 1)) + 1)) 3) == 0)]) (j := 3) hcl17 hcc17 (show 4 ≤ 5 from by decide) (x' := (⟨(rd_T112 y228 x5_1).f0, (rd_T112 y228 x5_1).f1, (rd_T112 y228 x5_1).f2, ((Int.tmod (wrap64 ((wrap64 ((wrap64 (x1_1 + 1)) + 1)) + 1)) 3) == 0), (rd_T112 y228 x5_1).f4⟩ : S112)) (k112_mkM _ _ _ (⟨(rd_T112 y228 x5_1).f0, (rd_T112 y228 x5_1).f1, (rd_T112 y228 x5_1).f2, ((Int.tmod (wrap64 ((wrap64 ((wrap64 (x1_1 + 1)) + 1)) + 1)) 3) == 0), (rd_T112 y228 x5_1).f4⟩ : S112) ) (fun _ hk => hk); have hx17_3 := hcc17 3 _ rfl; (try simp only [show (k112).sz = 5 from rfl, Nat.mul_one, Nat.add_zero] at hx17_3); have hf17_3 := hfr17 3; (try simp only [show (k112).sz = 5 from rfl, Nat.mul_one, Nat.add_zero] at hf17_3); clear hcl17 hcc17 hfr17; (try clear hM17)) | ((with_reducible refine gate_store (t := 4) (p := 39) rfl ?_); refine store_event (t := 4) (p := 39) (v := ?vo_w18) (w1 := (w16.setCell ⟨go5, (x5_1 : Int).toNat * 5 + 3, none⟩ (.bool ((Int.tmod (wrap64 ((wrap64 ((wrap64 (x1_1 + 1)) + 1)) + 1)) 3) == 0)))) ?hg ?ho ?hn ?hr ?_; (case ho => rfl); (case hg => rfl); (case hn => rfl); (case hr => first | (go_simp; done) | (go_simp; rfl)); intro w18 hw; have hg : w16.grownBy w18 (some go5) := (by rw [hw]; exact HP17.2); have hp_ : Kd.R k112 112 w18 w0.heap.size (fun k_ => (P0_ k_ ∨ w.heap.size ≤ k_)) (.slice (some ⟨go5, 0, none⟩) x0_1.length co10) y229 := (by rw [hw, Ny229.out]; exact HP17.1); clear HP17; replace HB := Aside0.mk ((by rw [hw]; exact below_set (HB.out) GB5.out : Below w0.heap.size w0 w18)); replace HK := Aside0.mk (Kept.of_grown (S := (fun k_ => P0_ k_)) hg (by repeat (first | (with_reducible first | exact HK.out | apply Kept.alloc | apply Kept.drewN | apply Kept.drew) | exact HK.out)) (fun k_ e_ => (HO_0.out.1 k_ e_))); replace HO_0 := Aside0.mk (hp_); clear hg hw hp_; have p9 : 0 ≤ (x5_1 : Int) := of_decide_eq_true dg_; have q9 : (x5_1 : Int) < ((x0_1.length : Int) : Int) := of_decide_eq_true dg_; obtain ⟨ce9, hcl9, hM9, hcc9, hfr9⟩ := Kd.R_elem HO_0.out z112 (x5_1 : Int) p9 q9; obtain rfl := k112_openM hM9; have hx9_0 : w18.cell? ⟨go5, (x5_1 : Int).toNat * 5, none⟩ = some (.int .i64 ((rd_T112 y229 x5_1).f0)) := hcc9 0 _ rfl; have hx9_1 : w18.cell? ⟨go5, (x5_1 : Int).toNat * 5 + 1, none⟩ = some (.int .i64 ((rd_T112 y229 x5_1).f1)) := hcc9 1 _ rfl; have hx9_2 : w18.cell? ⟨go5, (x5_1 : Int).toNat * 5 + 2, none⟩ = some (.int .i64 ((rd_T112 y229 x5_1).f2)) := hcc9 2 _ rfl; have hx9_3 : w18.cell? ⟨go5, (x5_1 : Int).toNat * 5 + 3, none⟩ = some (.bool ((rd_T112 y229 x5_1).f3)) := hcc9 3 _ rfl; have hx9_4 : w18.cell? ⟨go5, (x5_1 : Int).toNat * 5 + 4, none⟩ = some (.bool ((rd_T112 y229 x5_1).f4)) := hcc9 4 _ rfl; have hf9_0 : w18.frozen? ⟨go5, (x5_1 : Int).toNat * 5, none⟩ = false := hfr9 0; have hf9_1 : w18.frozen? ⟨go5, (x5_1 : Int).toNat * 5 + 1, none⟩ = false := hfr9 1; have hf9_2 : w18.frozen? ⟨go5, (x5_1 : Int).toNat * 5 + 2, none⟩ = false := hfr9 2; have hf9_3 : w18.frozen? ⟨go5, (x5_1 : Int).toNat * 5 + 3, none⟩ = false := hfr9 3; have hf9_4 : w18.frozen? ⟨go5, (x5_1 : Int).toNat * 5 + 4, none⟩ = false := hfr9 4; clear hcl9 hcc9 hfr9; (try clear hM9); replace p9 := eq_true p9; replace q9 := eq_true q9; have HX19 := Aside0.mk (show Kd.R k112 112 w18 w0.heap.size (fun k_ => (P0_ k_ ∨ w.heap.size ≤ k_)) (.slice (some ⟨go5, 0, none⟩) x0_1.length co10) y229 from (ra_ HO_0.out)); obtain ⟨ce19, hcl19, hM19, hcc19, hfr19⟩ := Kd.R_elem HX19.out z112 (x5_1 : Int) (of_decide_eq_true dg_) (by have h_ : (x5_1 : Int) < ((x0_1.length : Int) : Int) := of_decide_eq_true dg_; first | exact h_ | (have e_ := (Kd.R_reads' HO_0.out).1; omega) | simpa using h_); obtain rfl := k112_openM hM19; have HP19 := Kd.R_seg HX19.out (x5_1 : Int) (of_decide_eq_true dg_) (by have h_ : (x5_1 : Int) < ((x0_1.length : Int) : Int) := of_decide_eq_true dg_; first | exact h_ | (have e_ := (Kd.R_reads' HO_0.out).1; omega) | simpa using h_) (seg := [.bool ((Int.tmod (wrap64 ((wrap64 ((wrap64 ((wrap64 (x1_1 + 1)) + 1)) + 1)) + 1)) 3) == 0)]) (j := 4) hcl19 hcc19 (show 5 ≤ 5 from by decide) (x' := (⟨(rd_T112 y229 x5_1).f0, (rd_T112 y229 x5_1).f1, (rd_T112 y229 x5_1).f2, (rd_T112 y229 x5_1).f3, ((Int.tmod (wrap64 ((wrap64 ((wrap64 ((wrap64 (x1_1 + 1)) + 1)) + 1)) + 1)) 3) == 0)⟩ : S112)) (k112_mkM _ _ _ (⟨(rd_T112 y229 x5_1).f0, (rd_T112 y229 x5_1).f1, (rd_T112 y229 x5_1).f2, (rd_T112 y229 x5_1).f3, ((Int.tmod (wrap64 ((wrap64 ((wrap64 ((wrap64 (x1_1 + 1)) + 1)) + 1)) + 1)) 3) == 0)⟩ : S112) ) (fun _ hk => hk); have hx19_4 := hcc19 4 _ rfl; (try simp only [show (k112).sz = 5 from rfl, Nat.mul_one, Nat.add_zero] at hx19_4); have hf19_4 := hfr19 4; (try simp only [show (k112).sz = 5 from rfl, Nat.mul_one, Nat.add_zero] at hf19_4); clear hcl19 hcc19 hfr19; (try clear hM19)) | ((with_reducible refine gate_store (t := 4) (p := 48) rfl ?_); refine store_event (t := 4) (p := 48) (v := ?vo_w20) (w1 := (w18.setCell ⟨go5, (x5_1 : Int).toNat * 5 + 4, none⟩ (.bool ((Int.tmod (wrap64 ((wrap64 ((wrap64 ((wrap64 (x1_1 + 1)) + 1)) + 1)) + 1)) 3) == 0)))) ?hg ?ho ?hn ?hr ?_; (case ho => rfl); (case hg => rfl); (case hn => rfl); (case hr => first | (go_simp; done) | (go_simp; rfl)); intro w20 hw; have hg : w18.grownBy w20 (some go5) := (by rw [hw]; exact HP19.2); have hp_ : Kd.R k112 112 w20 w0.heap.size (fun k_ => (P0_ k_ ∨ w.heap.size ≤ k_)) (.slice (some ⟨go5, 0, none⟩) x0_1.length co10) y230 := (by rw [hw, Ny230.out]; exact HP19.1); clear HP19; replace HB := Aside0.mk ((by rw [hw]; exact below_set (HB.out) GB5.out : Below w0.heap.size w0 w20)); replace HK := Aside0.mk (Kept.of_grown (S := (fun k_ => P0_ k_)) hg (by repeat (first | (with_reducible first | exact HK.out | apply Kept.alloc | apply Kept.drewN | apply Kept.drew) | exact HK.out)) (fun k_ e_ => (HO_0.out.1 k_ e_))); replace HO_0 := Aside0.mk (hp_); clear hg hw hp_))
     go_roundg k1
     case measure => have := HK1.out; omega
     case rel => exact ⟨(y230), (wrap64 ((wrap64 ((wrap64 ((wrap64 ((wrap64 (x1_1 + 1)) + 1)) + 1)) + 1)) + 1)), (wrap64 (x5_1 + 1)), ef_, ef_, H', ⟨by have := HK1.out; omega⟩, ⟨by (with_reducible repeat (first | apply Kd.R_alloc | apply Kd.R_drewN | apply Kd.R_drew)); exact HO_0.out⟩, ⟨by repeat (first | (with_reducible first | exact HK.out | apply Kept.alloc | apply Kept.drewN | apply Kept.drew) | exact HK.out)⟩, ⟨bb_ HB.out⟩⟩
    ·rw [if_neg c4] at H
     exact absurd H (by simp)
   ·rw [if_neg c3] at H
    have c3b0 : decide (x5_1 < (x0_1.length : Int)) = false := decide_eq_false c3
    clear c3
    simp only [Option.some.injEq, Prod.mk.injEq] at H
    obtain ⟨rfl, rfl⟩ := H
    obtain ⟨Ao21, co21, eo21⟩ := Kd.R_slice HO_0.out
    subst eo21
    go_wp2
    go_ret
    exact ⟨fin_, by (with_reducible repeat (first | apply Kd.R_alloc | apply Kd.R_drewN | apply Kd.R_drew)); exact HO_0.out, bb_ HB.out, by repeat (first | (with_reducible first | exact HK.out | apply Kept.alloc | apply Kept.drewN | apply Kept.drew) | exact HK.out)⟩

/-! ### laws_markFlitSS: function 64 -/
def laws_markFlitSS.l0 : Nat → List (List S112) → Int → Int → Option (Int × List (List S112))
 | 0, _, _, _ => none
 | k + 1, x0, x1, x2 => if x2 < (x0.length : Int) then (if 0 ≤ x2 then ((laws_markFlitS.f k (x0.getD x2.toNat []) x1).bind fun b => laws_markFlitSS.l0 k (x0.set x2.toNat b.2) b.1 (wrap64 (x2 + 1))) else none) else some (x1, x0)
def laws_markFlitSS.f (k : Nat) (l0 : List (List S112)) (a1 : Int) : Option (Int × List (List S112)) := laws_markFlitSS.l0 k l0 a1 0
theorem laws_markFlitSS.mono_l : ∀ k x0 x1 x2, LeO (laws_markFlitSS.l0 k x0 x1 x2) (laws_markFlitSS.l0 (k + 1) x0 x1 x2)
 | 0, _, _, _ => fun r h => by simp [laws_markFlitSS.l0] at h
 | k + 1, x0, x1, x2 => by
  unfold laws_markFlitSS.l0
  exact LeO.ite (LeO.ite (LeO.bind (laws_markFlitS.mono _ _ _) (fun _ => laws_markFlitSS.mono_l k _ _ _)) (LeO.none _)) (LeO.refl _)
theorem laws_markFlitSS.mono (l0 : List (List S112)) (a1 : Int) : ∀ k, LeO (laws_markFlitSS.f k l0 a1) (laws_markFlitSS.f (k + 1) l0 a1) := fun k => laws_markFlitSS.mono_l k _ _ _
set_option maxHeartbeats 4000000 in
set_option maxRecDepth 100000 in
theorem laws_markFlitSS.calls (k : Nat) (P0_ : Nat → Prop) (u9000_ : Value) (l0 : List (List S112)) (a1 : Int) (r1 : Int) (r2 : List (List S112)) (w0 w : World) (hB : Below w0.heap.size w0 w) (ho0 : Kd.S (Kd.slice 112 k112) 81 w w0.heap.size P0_ u9000_ l0) (h : laws_markFlitSS.f k l0 a1 = some (r1, r2)) :
  Calls Try.prog 64 #[u9000_, .int .i64 a1] w fun e w' => e = .returned (.int .i64 r1) ∧ Kd.S (Kd.slice 112 k112) 81 w' w0.heap.size P0_ u9000_ r2 ∧ Below w0.heap.size w0 w' ∧ Kept w w' P0_ := by
 have HO0 := Aside0.mk ho0
 have HK := Aside0.mk (Kept.refl w P0_)
 have HB := Aside0.mk hB
 have H' := Aside0.mk (show laws_markFlitSS.l0 k l0 a1 0 = some (r1, r2) from h)
 clear ho0 hB h
 go_enter Try.func64, Try.ntmps64
 go_wp2
 go_loopg [1, 5] k (fun kq v1 v5 w' => ∃ (x0 : List (List S112)) (x1 : Int) (x2 : Int), v1 = .int .i64 x1 ∧ v5 = .int .i64 x2 ∧ Aside0 (laws_markFlitSS.l0 kq x0 x1 x2 = some (r1, r2)) ∧ Aside0 (kq ≤ k) ∧ Aside0 (Kd.S (Kd.slice 112 k112) 81 w' w0.heap.size P0_ u9000_ x0) ∧ Aside0 (Kept w w' P0_) ∧ Aside0 (Below w0.heap.size w0 w'))
 case atStart => exact ⟨l0, a1, 0, rfl, rfl, H', ⟨Nat.le_refl _⟩, ⟨sa_ HO0.out⟩, ⟨HK.out⟩, ⟨bb_ HB.out⟩⟩
 case round =>
  clear H' HO0 HK HB
  obtain ⟨x0, x1, x2, rfl, rfl, HA, HK1, HO, HK, HB⟩ := hrel
  cases gk with
  | zero => exact absurd HA.out (by simp [laws_markFlitSS.l0])
  | succ k1 =>
   have H := HA.out
   clear HA
   simp only [laws_markFlitSS.l0] at H
   by_cases c1 : x2 < (x0.length : Int)
   ·rw [if_pos c1] at H
    by_cases c2 : 0 ≤ x2
    ·rw [if_pos c2] at H
     obtain ⟨⟨n1, y1⟩, A1, H⟩ := Option.bind_eq_some_iff.1 H
     have A1_ := Aside0.mk A1
     have H' := Aside0.mk H
     clear A1 H
     obtain ⟨g, cap, eg, gb, gl, cl, HG⟩ := Kd.S_form HO.out (by omega)
     subst eg
     have hS := HO.out
     obtain ⟨oki, ce, hcl, hM, hcc, hfr, hoki, hH⟩ := Kd.S_elem hS [] x2 c2 c1
     obtain ⟨ve, rfl, hR⟩ := hM
     have hx := hcc 0 _ rfl
     simp only [show (Kd.slice 112 k112).sz = 1 from rfl, Nat.mul_one, Nat.add_zero] at hx
     have HR := Aside0.mk hR
     have HH := Aside0.mk hH
     have HI := Aside0.mk hoki
     have c1d : decide (x2 < (x0.length : Int)) = true := decide_eq_true c1
     clear hcl hcc hfr hR hH hoki hS HG
     go_wp2_with (first | (go_at_call 91; (with_reducible refine (laws_markFlitS.calls k1 oki ve (x0.getD x2.toNat []) x1 _ _ w0 _ ?side1 ?side2 A1_.out).mono ?_); (case side1 => exact bb_ HB.out); (case side2 => exact ra_ HR.out); rintro e w1 ⟨rfl, hR1, hb1, hk1⟩; have HO1 := Aside0.mk (Kd.H_back (Kd.H_kept (Kd.H_drewN HH.out 0) hk1 (fun _ _ h1 h2 => h1 h2)) ⟨ve, rfl, Kd.R_reok rfl hR1 (fun k_ e_ => HR.out.1 k_ e_)⟩ (fun _ h_ => h_)); have HK2 := Aside0.mk (HK.out.then_ hk1 (fun k_ h_ => Or.inl (HI.out k_ h_).1)); have HB2 := Aside0.mk hb1; clear hR1 hk1 hb1))
     go_roundg k1
     case measure => have := HK1.out; omega
     case rel => exact ⟨_, _, _, rfl, rfl, H', ⟨by have := HK1.out; omega⟩, ⟨HO1.out⟩, ⟨HK2.out⟩, ⟨bb_ HB2.out⟩⟩
    ·rw [if_neg c2] at H
     cases H
   ·rw [if_neg c1] at H
    obtain ⟨rfl, rfl⟩ := Prod.mk.inj (Option.some.inj H)
    have c1d : decide (x2 < (x0.length : Int)) = false := decide_eq_false c1
    obtain ⟨A, c, eg⟩ := Kd.S_slice HO.out
    subst eg
    go_wp2
    go_ret
    exact ⟨rfl, sa_ HO.out, bb_ HB.out, HK.out⟩

/-! ### laws_markNet: function 26 -/
def laws_markNet.f (k : Nat) (a0_0 a0_1 : Int) (l2 : List Int) (l3 : List Int) (l4 : List Int) (l5 : List (List S112)) (l6 : List Int) (l7 : List Int) (l8 : List (List S112)) (l9 : List (List S112)) (a0_10 a1 : Int) : Option (Int × List Int × List Int × List Int × List (List S112) × List Int × List Int × List (List S112) × List (List S112)) :=
 (laws_markMesh.f k a0_0 a0_1 l2 a1).bind fun b2 => (laws_markClasses.f k l3 l4 b2.1).bind fun b3 => (laws_markFlitSS.f k l5 b3.1).bind fun b5 => (laws_markIntS.f k l6 b5.1).bind fun b6 => (laws_markIntS.f k l7 b6.1).bind fun b7 => (laws_markFlitSS.f k l8 b7.1).bind fun b8 => (laws_markFlitSS.f k l9 b8.1).bind fun b9 => some (b9.1, b2.2, b3.2.1, b3.2.2, b5.2, b6.2, b7.2, b8.2, b9.2)
theorem laws_markNet.mono (a0_0 a0_1 : Int) (l2 : List Int) (l3 : List Int) (l4 : List Int) (l5 : List (List S112)) (l6 : List Int) (l7 : List Int) (l8 : List (List S112)) (l9 : List (List S112)) (a0_10 a1 : Int) : ∀ k, LeO (laws_markNet.f k a0_0 a0_1 l2 l3 l4 l5 l6 l7 l8 l9 a0_10 a1) (laws_markNet.f (k + 1) a0_0 a0_1 l2 l3 l4 l5 l6 l7 l8 l9 a0_10 a1) := by
 intro k
 unfold laws_markNet.f
 exact LeO.bind (laws_markMesh.mono _ _ _ _ _) (fun _ => LeO.bind (laws_markClasses.mono _ _ _ _) (fun _ => LeO.bind (laws_markFlitSS.mono _ _ _) (fun _ => LeO.bind (laws_markIntS.mono _ _ _) (fun _ => LeO.bind (laws_markIntS.mono _ _ _) (fun _ => LeO.bind (laws_markFlitSS.mono _ _ _) (fun _ => LeO.bind (laws_markFlitSS.mono _ _ _) (fun _ => LeO.refl _)))))))
set_option maxHeartbeats 4000000 in
set_option maxRecDepth 100000 in
theorem laws_markNet.calls (k : Nat) (T : Nat → Nat) (v2 v3 v4 v5 v6 v7 v8 v9 : Value) (a0_0 a0_1 : Int) (l2 : List Int) (l3 : List Int) (l4 : List Int) (l5 : List (List S112)) (l6 : List Int) (l7 : List Int) (l8 : List (List S112)) (l9 : List (List S112)) (a0_10 a1 r1 : Int) (r2 : List Int) (r3 : List Int) (r4 : List Int) (r5 : List (List S112)) (r6 : List Int) (r7 : List Int) (r8 : List (List S112)) (r9 : List (List S112)) (w0 w : World) (hB : Below w0.heap.size w0 w) (hM : Marks T w0.heap.size w v2 v3 v4 v5 v6 v7 v8 v9 l2 l3 l4 l5 l6 l7 l8 l9) (h : laws_markNet.f k a0_0 a0_1 l2 l3 l4 l5 l6 l7 l8 l9 a0_10 a1 = some (r1, r2, r3, r4, r5, r6, r7, r8, r9)) :
  Calls Try.prog 26 #[.agg #[.int .i64 a0_0, .int .i64 a0_1, v2, v3, v4, v5, v6, v7, v8, v9, .int .i64 a0_10], .int .i64 a1] w fun e w' => e = .returned (.int .i64 r1) ∧ Marks T w0.heap.size w' v2 v3 v4 v5 v6 v7 v8 v9 r2 r3 r4 r5 r6 r7 r8 r9 ∧ Below w0.heap.size w0 w' ∧ Kept w w' (fun k => T k ≠ 0) := by
 obtain ⟨A2, c2, rfl⟩ := Kd.R_slice hM.h2
 obtain ⟨A3, c3, rfl⟩ := Kd.R_slice hM.h3
 obtain ⟨A4, c4, rfl⟩ := Kd.R_slice hM.h4
 obtain ⟨A5, c5, rfl⟩ := Kd.S_slice hM.h5
 obtain ⟨A6, c6, rfl⟩ := Kd.R_slice hM.h6
 obtain ⟨A7, c7, rfl⟩ := Kd.R_slice hM.h7
 obtain ⟨A8, c8, rfl⟩ := Kd.S_slice hM.h8
 obtain ⟨A9, c9, rfl⟩ := Kd.S_slice hM.h9
 have HB := Aside0.mk hB
 have M := Aside0.mk hM
 have KP := Aside0.mk (Kept.refl w (fun k => T k ≠ 0))
 unfold laws_markNet.f at h
 obtain ⟨⟨m2, y2⟩, e2, h⟩ := Option.bind_eq_some_iff.1 h
 obtain ⟨⟨m3, y3, y4⟩, e3, h⟩ := Option.bind_eq_some_iff.1 h
 obtain ⟨⟨m5, y5⟩, e5, h⟩ := Option.bind_eq_some_iff.1 h
 obtain ⟨⟨m6, y6⟩, e6, h⟩ := Option.bind_eq_some_iff.1 h
 obtain ⟨⟨m7, y7⟩, e7, h⟩ := Option.bind_eq_some_iff.1 h
 obtain ⟨⟨m8, y8⟩, e8, h⟩ := Option.bind_eq_some_iff.1 h
 obtain ⟨⟨m9, y9⟩, e9, h⟩ := Option.bind_eq_some_iff.1 h
 simp only [Option.some.injEq, Prod.mk.injEq] at h
 obtain ⟨rfl, rfl, rfl, rfl, rfl, rfl, rfl, rfl, rfl⟩ := h
 have E2 := Aside0.mk e2
 have E3 := Aside0.mk e3
 have E5 := Aside0.mk e5
 have E6 := Aside0.mk e6
 have E7 := Aside0.mk e7
 have E8 := Aside0.mk e8
 have E9 := Aside0.mk e9
 clear hB hM e2 e3 e5 e6 e7 e8 e9
 have hu37 := Try.underlying37
 go_enter Try.func26, Try.ntmps26
 go_wp2_with (first | ((with_reducible refine gate_dst (N := 2) rfl ?_); refine box_event ?hg (N := 2) ?hd (cs := #[.int .i64 a0_0, .int .i64 a0_1, .slice A2 l2.length c2, .slice A3 l3.length c3, .slice A4 l4.length c4, .slice A5 l5.length c5, .slice A6 l6.length c6, .slice A7 l7.length c7, .slice A8 l8.length c8, .slice A9 l9.length c9, .int .i64 a0_10]) (t := 37) ?hr ?_; (case hd => rfl); (case hg => rfl); (case hr => first | (go_simp; done) | (go_simp; rfl)); intro gb hg w1 hbox hb; have BK := Aside0.mk hbox; have TG := Aside0.mk (show T gb = 0 from Classical.byContradiction (fun h_ => by have := M.out.hi gb h_; rw [hg] at this; exact Nat.lt_irrefl _ this)); replace M := Aside0.mk (M.out.below hb); replace KP := Aside0.mk (KP.out.below hb); replace HB := Aside0.mk (bs_ HB.out hb); clear hb hbox hg; obtain ⟨z0, z1, z2, z3, z4, z5, z6, z7, z8, z9, z10, f0, f1, f2, f3, f4, f5, f6, f7, f8, f9, f10⟩ := cz11_ BK.out) | (go_at_call 24; (with_reducible refine (laws_markMesh.calls k a0_0 a0_1 (fun k => T k = 2) _ l2 a1 _ _ w0 _ ?side1 ?side2 E2.out).mono ?_); (case side1 => exact bb_ HB.out); (case side2 => exact ra_ M.out.h2); rintro e w1 ⟨rfl, hq, hb, hk⟩; have BK1 := Aside0.mk (blk_kept (bq_ BK.out) hk (fun (h_ : T gb = 2) => absurd (TG.out.symm.trans h_) (by decide))); clear z0 z1 z2 z3 z4 z5 z6 z7 z8 z9 z10 f0 f1 f2 f3 f4 f5 f6 f7 f8 f9 f10; replace KP := Aside0.mk (KP.out.then_ hk (fun k_ (h_ : T k_ = 2) => Or.inl (fun h0_ => absurd (h_.symm.trans h0_) (by decide)))); replace M := Aside0.mk (M.out.set2 (ok'' := fun _ => True) hk hq); replace HB := Aside0.mk hb; replace BK := BK1; clear hk hb BK1 hq; obtain ⟨z0, z1, z2, z3, z4, z5, z6, z7, z8, z9, z10, f0, f1, f2, f3, f4, f5, f6, f7, f8, f9, f10⟩ := cz11_ BK.out) | (go_at_call 25; (with_reducible refine (laws_markClasses.calls k (fun k => T k = 3) _ l3 (fun k => T k = 4) _ l4 m2 _ _ _ w0 _ ?side1 ?side2 ?side3 ?side4 ?side5 E3.out).mono ?_); (case side1 => exact bb_ HB.out); (case side2 => exact ra_ M.out.h3); (case side3 => exact (fun q a b => absurd (a.symm.trans b) (by decide))); (case side4 => exact ra_ M.out.h4); (case side5 => exact (fun q a b => absurd (a.symm.trans b) (by decide))); rintro e w1 ⟨rfl, hq, hq2, hb, hk⟩; have BK1 := Aside0.mk (blk_kept (bq_ BK.out) hk (fun (h_ : T gb = 3 ∨ T gb = 4) => h_.elim (fun h_ => absurd (TG.out.symm.trans h_) (by decide)) (fun h_ => absurd (TG.out.symm.trans h_) (by decide)))); clear z0 z1 z2 z3 z4 z5 z6 z7 z8 z9 z10 f0 f1 f2 f3 f4 f5 f6 f7 f8 f9 f10; replace KP := Aside0.mk (KP.out.then_ hk (fun k_ (h_ : T k_ = 3 ∨ T k_ = 4) => Or.inl (fun h0_ => h_.elim (fun h_ => absurd (h_.symm.trans h0_) (by decide)) (fun h_ => absurd (h_.symm.trans h0_) (by decide))))); replace M := Aside0.mk (M.out.set34 hk hq hq2); replace HB := Aside0.mk hb; replace BK := BK1; clear hk hb BK1 hq hq2; obtain ⟨z0, z1, z2, z3, z4, z5, z6, z7, z8, z9, z10, f0, f1, f2, f3, f4, f5, f6, f7, f8, f9, f10⟩ := cz11_ BK.out) | (go_at_call 64; (with_reducible refine (laws_markFlitSS.calls k (fun k => T k = 5) _ l5 m3 _ _ w0 _ ?side1 ?side2 E5.out).mono ?_); (case side1 => exact bb_ HB.out); (case side2 => exact sa_ M.out.h5); rintro e w1 ⟨rfl, hq, hb, hk⟩; have BK1 := Aside0.mk (blk_kept (bq_ BK.out) hk (fun (h_ : T gb = 5) => absurd (TG.out.symm.trans h_) (by decide))); clear z0 z1 z2 z3 z4 z5 z6 z7 z8 z9 z10 f0 f1 f2 f3 f4 f5 f6 f7 f8 f9 f10; replace KP := Aside0.mk (KP.out.then_ hk (fun k_ (h_ : T k_ = 5) => Or.inl (fun h0_ => absurd (h_.symm.trans h0_) (by decide)))); replace M := Aside0.mk (M.out.set5 (ok' := fun _ => True) (ok'' := fun _ => True) hk hq); replace HB := Aside0.mk hb; replace BK := BK1; clear hk hb BK1 hq; obtain ⟨z0, z1, z2, z3, z4, z5, z6, z7, z8, z9, z10, f0, f1, f2, f3, f4, f5, f6, f7, f8, f9, f10⟩ := cz11_ BK.out) | (go_at_call 33; (with_reducible refine (laws_markIntS.calls k (fun k => T k = 6) _ l6 m5 _ _ w0 _ ?side1 ?side2 E6.out).mono ?_); (case side1 => exact bb_ HB.out); (case side2 => exact ra_ M.out.h6); rintro e w1 ⟨rfl, hq, hb, hk⟩; have BK1 := Aside0.mk (blk_kept (bq_ BK.out) hk (fun (h_ : T gb = 6) => absurd (TG.out.symm.trans h_) (by decide))); clear z0 z1 z2 z3 z4 z5 z6 z7 z8 z9 z10 f0 f1 f2 f3 f4 f5 f6 f7 f8 f9 f10; replace KP := Aside0.mk (KP.out.then_ hk (fun k_ (h_ : T k_ = 6) => Or.inl (fun h0_ => absurd (h_.symm.trans h0_) (by decide)))); replace M := Aside0.mk (M.out.set6 (ok'' := fun _ => True) hk hq); replace HB := Aside0.mk hb; replace BK := BK1; clear hk hb BK1 hq; obtain ⟨z0, z1, z2, z3, z4, z5, z6, z7, z8, z9, z10, f0, f1, f2, f3, f4, f5, f6, f7, f8, f9, f10⟩ := cz11_ BK.out) | (go_at_call 33; (with_reducible refine (laws_markIntS.calls k (fun k => T k = 7) _ l7 m6 _ _ w0 _ ?side1 ?side2 E7.out).mono ?_); (case side1 => exact bb_ HB.out); (case side2 => exact ra_ M.out.h7); rintro e w1 ⟨rfl, hq, hb, hk⟩; have BK1 := Aside0.mk (blk_kept (bq_ BK.out) hk (fun (h_ : T gb = 7) => absurd (TG.out.symm.trans h_) (by decide))); clear z0 z1 z2 z3 z4 z5 z6 z7 z8 z9 z10 f0 f1 f2 f3 f4 f5 f6 f7 f8 f9 f10; replace KP := Aside0.mk (KP.out.then_ hk (fun k_ (h_ : T k_ = 7) => Or.inl (fun h0_ => absurd (h_.symm.trans h0_) (by decide)))); replace M := Aside0.mk (M.out.set7 (ok'' := fun _ => True) hk hq); replace HB := Aside0.mk hb; replace BK := BK1; clear hk hb BK1 hq; obtain ⟨z0, z1, z2, z3, z4, z5, z6, z7, z8, z9, z10, f0, f1, f2, f3, f4, f5, f6, f7, f8, f9, f10⟩ := cz11_ BK.out) | (go_at_call 64; (with_reducible refine (laws_markFlitSS.calls k (fun k => T k = 8) _ l8 m7 _ _ w0 _ ?side1 ?side2 E8.out).mono ?_); (case side1 => exact bb_ HB.out); (case side2 => exact sa_ M.out.h8); rintro e w1 ⟨rfl, hq, hb, hk⟩; have BK1 := Aside0.mk (blk_kept (bq_ BK.out) hk (fun (h_ : T gb = 8) => absurd (TG.out.symm.trans h_) (by decide))); clear z0 z1 z2 z3 z4 z5 z6 z7 z8 z9 z10 f0 f1 f2 f3 f4 f5 f6 f7 f8 f9 f10; replace KP := Aside0.mk (KP.out.then_ hk (fun k_ (h_ : T k_ = 8) => Or.inl (fun h0_ => absurd (h_.symm.trans h0_) (by decide)))); replace M := Aside0.mk (M.out.set8 (ok' := fun _ => True) (ok'' := fun _ => True) hk hq); replace HB := Aside0.mk hb; replace BK := BK1; clear hk hb BK1 hq; obtain ⟨z0, z1, z2, z3, z4, z5, z6, z7, z8, z9, z10, f0, f1, f2, f3, f4, f5, f6, f7, f8, f9, f10⟩ := cz11_ BK.out) | (go_at_call 64; (with_reducible refine (laws_markFlitSS.calls k (fun k => T k = 9) _ l9 m8 _ _ w0 _ ?side1 ?side2 E9.out).mono ?_); (case side1 => exact bb_ HB.out); (case side2 => exact sa_ M.out.h9); rintro e w1 ⟨rfl, hq, hb, hk⟩; have BK1 := Aside0.mk (blk_kept (bq_ BK.out) hk (fun (h_ : T gb = 9) => absurd (TG.out.symm.trans h_) (by decide))); clear z0 z1 z2 z3 z4 z5 z6 z7 z8 z9 z10 f0 f1 f2 f3 f4 f5 f6 f7 f8 f9 f10; replace KP := Aside0.mk (KP.out.then_ hk (fun k_ (h_ : T k_ = 9) => Or.inl (fun h0_ => absurd (h_.symm.trans h0_) (by decide)))); replace M := Aside0.mk (M.out.set9 (ok' := fun _ => True) (ok'' := fun _ => True) hk hq); replace HB := Aside0.mk hb; replace BK := BK1; clear hk hb BK1 hq; obtain ⟨z0, z1, z2, z3, z4, z5, z6, z7, z8, z9, z10, f0, f1, f2, f3, f4, f5, f6, f7, f8, f9, f10⟩ := cz11_ BK.out))
 go_ret
 exact ⟨rfl, M.out, bb_ HB.out, KP.out⟩

/-! ### laws_szIntS: function 51 -/
def laws_szIntS.f (l0 : List Int) (a1 : Int) : Option (Int) := if (wrap64 (a1 - (l0.length : Int))) < 0 then (some (-1)) else (some (wrap64 (a1 - (l0.length : Int))))
theorem laws_szIntS.e0 {P : Prop} (h : P := by
 go_enter Try.func51, Try.ntmps51
 go_wp2
 go_ret
 exact ⟨by first | rfl | (simp; done) | (simp [*]; done), by repeat (first | exact Drawn0.refl _ | apply Drawn0.step)⟩) : P := h
set_option maxHeartbeats 8000000 in
set_option maxRecDepth 100000 in
theorem laws_szIntS.calls (A0 : Option Addr) (c0 : Nat) (l0 : List Int) (a1 : Int) (r : Int) (w : World) (hr0 : Kd.C (Kd.int .i64) w A0 l0.length l0) (hc0 : l0.length ≤ c0) (h : laws_szIntS.f l0 a1 = some r) :
  Calls Try.prog 51 #[.slice A0 l0.length c0, .int .i64 a1] w fun e w' => e = .returned (.int .i64 r) ∧ Drawn0 w w' := by
 have HR0 := Aside0.mk hr0
 have HC0 := Aside0.mk hc0
 clear hr0 hc0
 have H : (if (wrap64 (a1 - (l0.length : Int))) < 0 then (some (-1)) else (some (wrap64 (a1 - (l0.length : Int))))) = some r := h
 clear h
 by_cases c3 : (wrap64 (a1 - (l0.length : Int))) < 0
 ·rw [if_pos c3] at H
  have c3b0 : decide ((wrap64 (a1 - (l0.length : Int))) < 0) = true := decide_eq_true c3
  clear c3
  obtain rfl := Option.some.inj H
  exact laws_szIntS.e0
 ·rw [if_neg c3] at H
  have c3b0 : decide ((wrap64 (a1 - (l0.length : Int))) < 0) = false := decide_eq_false c3
  clear c3
  obtain rfl := Option.some.inj H
  exact laws_szIntS.e0

/-! ### laws_szMesh: function 16 -/
def laws_szMesh.f (a0_0 : Int) (a0_1 : Int) (l0_2 : List Int) (a1 : Int) : Option (Int) := (laws_szIntS.f l0_2 a1).bind fun t232 => (if t232 < 0 then (some (-1)) else (some t232))
theorem laws_szMesh.e0 {P : Prop} (h : P := by
 go_enter Try.func16, Try.ntmps16
 go_wp2_with (first | ((with_reducible refine gate_dst (N := 2) rfl ?_); refine box_event ?hg (N := 2) ?hd (cs := #[.int .i64 a0_0, .int .i64 a0_1, .slice A0_2 l0_2.length c0_2]) (t := 46) ?hr ?_; (case hd => rfl); (case hg => rfl); (case hr => first | (go_simp; done) | (go_simp; rfl)); intro gb231 hg w_0 hbox hb; have BK231 := Aside0.mk (hbox); have GW231 := Aside0.mk ((by rw [hg]; exact (bz_ HB.out) : w.heap.size ≤ gb231)); have GE231 := Aside0.mk ((by rw [hg]; exact (bz_ HB.out) : w.heap.size ≤ gb231)); replace HB := Aside0.mk (bs_ HB.out hb); clear hb hbox hg; obtain ⟨hcz_0, hcz_1, hcz_2, hfz_0, hfz_1, hfz_2⟩ := cz3_ BK231.out) | ((with_reducible refine gate_callee (f := 51) rfl ?_); refine gm_ (some 8) Try.func51 #[.slice A0_2 l0_2.length c0_2, .int .i64 a1] rfl ?_; (with_reducible refine (laws_szIntS.calls _ _ l0_2 a1 t232 _ ?side1 HC0_2.out A3.out).mono ?_); (case side1 => exact cb_ HR0_2.out HB.out); rintro e w' ⟨rfl, ⟨nd, rfl⟩⟩; refine ⟨_, rfl, ?_⟩))
 go_ret
 exact ⟨fin_, bb_ HB.out⟩) : P := h
set_option maxHeartbeats 8000000 in
set_option maxRecDepth 100000 in
theorem laws_szMesh.calls (a0_0 : Int) (a0_1 : Int) (A0_2 : Option Addr) (c0_2 : Nat) (l0_2 : List Int) (a1 : Int) (r : Int) (w : World) (hr0_2 : Kd.C (Kd.int .i64) w A0_2 l0_2.length l0_2) (hc0_2 : l0_2.length ≤ c0_2) (h : laws_szMesh.f a0_0 a0_1 l0_2 a1 = some r) :
  Calls Try.prog 16 #[.agg #[.int .i64 a0_0, .int .i64 a0_1, .slice A0_2 l0_2.length c0_2], .int .i64 a1] w fun e w' => e = .returned (.int .i64 r) ∧ Below w.heap.size w w' := by
 have hu46 := Try.underlying46
 have HR0_2 := Aside0.mk hr0_2
 have HC0_2 := Aside0.mk hc0_2
 clear hr0_2 hc0_2
 have HB := Aside0.mk (Below.refl w.heap.size w)
 have H : ((laws_szIntS.f l0_2 a1).bind fun t232 => (if t232 < 0 then (some (-1)) else (some t232))) = some r := h
 clear h
 replace H := Option.bind_eq_some_iff.mp H
 obtain ⟨t232, A30, H⟩ := H
 try dsimp only at H
 have A3 := Aside0.mk A30
 clear A30
 by_cases c4 : t232 < 0
 ·rw [if_pos c4] at H
  have c4b0 : decide (t232 < 0) = true := decide_eq_true c4
  clear c4
  obtain rfl := Option.some.inj H
  exact laws_szMesh.e0
 ·rw [if_neg c4] at H
  have c4b0 : decide (t232 < 0) = false := decide_eq_false c4
  clear c4
  obtain rfl := Option.some.inj H
  exact laws_szMesh.e0

/-! ### laws_szTable: function 52 -/
def laws_szTable.f (l0_0 : List Int) (a1 : Int) : Option (Int) := (laws_szIntS.f l0_0 a1).bind fun t234 => (if t234 < 0 then (some (-1)) else (some t234))
theorem laws_szTable.e0 {P : Prop} (h : P := by
 go_enter Try.func52, Try.ntmps52
 go_wp2_with (first | ((with_reducible refine gate_dst (N := 2) rfl ?_); refine box_event ?hg (N := 2) ?hd (cs := #[.slice A0_0 l0_0.length c0_0]) (t := 47) ?hr ?_; (case hd => rfl); (case hg => rfl); (case hr => first | (go_simp; done) | (go_simp; rfl)); intro gb233 hg w_0 hbox hb; have BK233 := Aside0.mk (hbox); have GW233 := Aside0.mk ((by rw [hg]; exact (bz_ HB.out) : w.heap.size ≤ gb233)); have GE233 := Aside0.mk ((by rw [hg]; exact (bz_ HB.out) : w.heap.size ≤ gb233)); replace HB := Aside0.mk (bs_ HB.out hb); clear hb hbox hg; obtain ⟨hcz_0, hfz_0⟩ := cz1_ BK233.out) | ((with_reducible refine gate_callee (f := 51) rfl ?_); refine gm_ (some 8) Try.func51 #[.slice A0_0 l0_0.length c0_0, .int .i64 a1] rfl ?_; (with_reducible refine (laws_szIntS.calls _ _ l0_0 a1 t234 _ ?side1 HC0_0.out A3.out).mono ?_); (case side1 => exact cb_ HR0_0.out HB.out); rintro e w' ⟨rfl, ⟨nd, rfl⟩⟩; refine ⟨_, rfl, ?_⟩))
 go_ret
 exact ⟨fin_, bb_ HB.out⟩) : P := h
set_option maxHeartbeats 8000000 in
set_option maxRecDepth 100000 in
theorem laws_szTable.calls (A0_0 : Option Addr) (c0_0 : Nat) (l0_0 : List Int) (a1 : Int) (r : Int) (w : World) (hr0_0 : Kd.C (Kd.int .i64) w A0_0 l0_0.length l0_0) (hc0_0 : l0_0.length ≤ c0_0) (h : laws_szTable.f l0_0 a1 = some r) :
  Calls Try.prog 52 #[.agg #[.slice A0_0 l0_0.length c0_0], .int .i64 a1] w fun e w' => e = .returned (.int .i64 r) ∧ Below w.heap.size w w' := by
 have hu47 := Try.underlying47
 have HR0_0 := Aside0.mk hr0_0
 have HC0_0 := Aside0.mk hc0_0
 clear hr0_0 hc0_0
 have HB := Aside0.mk (Below.refl w.heap.size w)
 have H : ((laws_szIntS.f l0_0 a1).bind fun t234 => (if t234 < 0 then (some (-1)) else (some t234))) = some r := h
 clear h
 replace H := Option.bind_eq_some_iff.mp H
 obtain ⟨t234, A30, H⟩ := H
 try dsimp only at H
 have A3 := Aside0.mk A30
 clear A30
 by_cases c4 : t234 < 0
 ·rw [if_pos c4] at H
  have c4b0 : decide (t234 < 0) = true := decide_eq_true c4
  clear c4
  obtain rfl := Option.some.inj H
  exact laws_szTable.e0
 ·rw [if_neg c4] at H
  have c4b0 : decide (t234 < 0) = false := decide_eq_false c4
  clear c4
  obtain rfl := Option.some.inj H
  exact laws_szTable.e0

end Go.Proofs.Ytaofkfooijfjbaa.PFnExactArrivedAt
-- thin
