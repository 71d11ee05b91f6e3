/- The law's functions as plain functions, and their calls. No condition. -/
import Derived.Test.YtchhgfgebomegaaPFnSendsx0
import Derived.Test.YtchhgfgebomegaaPFnSendsx1
import Derived.Test.YtchhgfgebomegaaPFnSendsx2
namespace Go.Proofs.Ytchhgfgebomegaa.PFnSends
open Go.RowKit Go.Proofs.YtchhgfgebomegaaW.PrintWords Go.Proofs.YtchhgfgebomegaaW.PrintLast Go.Proofs.YtchhgfgebomegaaW.PrintMore
attribute [local go_sem] max2_int min2_int max_two min_two max_three min_three max_four min_four
set_option linter.unusedVariables false
set_option maxHeartbeats 8000000
set_option maxRecDepth 100000
set_option linter.unusedSimpArgs false

/-! ### spec_DrawTraffic: function 5 -/
def spec_DrawTraffic.f (k : Nat) (l0 : List Int) : Option (Int × Int × List Int × List Int × List Int × (List (S44))) := (spec_l01New.f k l0).bind fun bt194 => ((spec_l14Grid.f bt194.1 bt194.2.1 bt194.2.2).bind fun bt198 => ((spec_l01Below.f bt194.1 bt198.2.2.1 bt198.2.2.2 4).bind fun bt203 => ((spec_l05Make.f k bt198.1 bt198.2.1 (wrap64 (1 + bt203.1))).bind fun t206 => ((spec_l01Below.f bt194.1 bt203.2.1 bt203.2.2 4).bind fun bt209 => ((spec_l05Make.f k bt198.1 bt198.2.1 (wrap64 (1 + bt209.1))).bind fun t212 => ((spec_l16Packets.f k bt194.1 bt209.2.1 bt209.2.2 bt198.1 bt198.2.1).bind fun bt216 => (some (bt198.1, bt198.2.1, ([] : List Int), t206, t212, bt216.1))))))))
theorem spec_DrawTraffic.mono : ∀ a0 k, LeO (spec_DrawTraffic.f k a0) (spec_DrawTraffic.f (k + 1) a0) := by
 intro a0 k
 unfold spec_DrawTraffic.f
 repeat' (with_reducible first | exact spec_l01New.mono .. | exact spec_l05Make.mono .. | exact spec_l16Packets.mono .. | exact LeO.refl .. | exact LeO.none .. | refine LeO.ite ?_ ?_ | refine LeO.bind ?_ (fun _ => ?_))
def spec_DrawTraffic.T3 : Bool × List (List Nat × List Nat) := (true, [([], []), ([], []), ([1], [1]), ([2], [2]), ([0, 3, 2], [0, 3]), ([], []), ([], []), ([6, 4], [6]), ([7], [7]), ([5, 8, 7], [5, 8]), ([4, 9], [4, 9]), ([], []), ([11, 10, 9, 0, 1, 2, 3, 4, 5, 6, 7, 8, 9, 10, 11], [10, 11])])
def spec_DrawTraffic.B3 : List Nat := [0, 0, 2, 6, 15, 0, 0, 95, 223, 511, 1023, 0, 4095]
theorem spec_DrawTraffic.tab3 : rtab .any (opsOf Try.f5 3) = spec_DrawTraffic.T3 := by kernel_rfl
theorem spec_DrawTraffic.bits3 : waitsOk spec_DrawTraffic.T3.2 spec_DrawTraffic.B3 = true := by kernel_rfl
def spec_DrawTraffic.T4 : Bool × List (List Nat × List Nat) := (true, [([], []), ([0], [0]), ([], []), ([], []), ([], []), ([3, 4], [3, 4]), ([1, 5, 0, 1], [1]), ([2, 6, 0, 1, 2, 6], [2]), ([5, 7, 0, 1, 2, 3, 4, 5, 6, 7], [5])])
def spec_DrawTraffic.B4 : List Nat := [0, 1, 0, 0, 0, 24, 59, 127, 255]
theorem spec_DrawTraffic.tab4 : rtab .any (opsOf Try.f5 4) = spec_DrawTraffic.T4 := by kernel_rfl
theorem spec_DrawTraffic.bits4 : waitsOk spec_DrawTraffic.T4.2 spec_DrawTraffic.B4 = true := by kernel_rfl
theorem spec_DrawTraffic.calls (k : Nat) (A0 : Option Addr) (c0 : Nat) (l0 : List Int) (r1 : Int) (r2 : Int) (r3 : List Int) (r4 : List Int) (r5 : List Int) (r6 : List (S44)) (w : World) (hr0 : Kd.C (Kd.int .u8) w A0 l0.length l0) (hc0 : l0.length ≤ c0) (h : spec_DrawTraffic.f k l0 = some (r1, r2, r3, r4, r5, r6)) :
  Calls Try.prog 5 #[.slice A0 l0.length c0] w fun e w' => ∃ v2_ v3_ v4_ v5_ : Value, e = .returned (.tuple #[.agg #[.int .i64 r1, .int .i64 r2, v2_], .agg #[v3_, v4_], v5_]) ∧ Kd.R (Kd.int .i64) 3 w' w.heap.size (fun k_ => some k_ ≠ (v3_ : Value).ownBlock ∧ some k_ ≠ (v4_ : Value).ownBlock) v2_ r3 ∧ Kd.R (Kd.int .i64) 3 w' w.heap.size (fun k_ => some k_ ≠ (v2_ : Value).ownBlock ∧ some k_ ≠ (v4_ : Value).ownBlock) v3_ r4 ∧ Kd.R (Kd.int .i64) 3 w' w.heap.size (fun k_ => some k_ ≠ (v2_ : Value).ownBlock ∧ some k_ ≠ (v3_ : Value).ownBlock) v4_ r5 ∧ Kd.R k44 44 w' w.heap.size (fun _ => True) v5_ r6 ∧ Below w.heap.size w w' := by
 have hu28 := Try.underlying28
 have hu32 := Try.underlying32
 have hu25 := Try.underlying25
 have HR0 := Aside0.mk hr0
 have HC0 := Aside0.mk hc0
 clear hr0 hc0
 have HB := Aside0.mk (Below.refl w.heap.size w)
 have H : ((spec_l01New.f k l0).bind fun bt194 => ((spec_l14Grid.f bt194.1 bt194.2.1 bt194.2.2).bind fun bt198 => ((spec_l01Below.f bt194.1 bt198.2.2.1 bt198.2.2.2 4).bind fun bt203 => ((spec_l05Make.f k bt198.1 bt198.2.1 (wrap64 (1 + bt203.1))).bind fun t206 => ((spec_l01Below.f bt194.1 bt203.2.1 bt203.2.2 4).bind fun bt209 => ((spec_l05Make.f k bt198.1 bt198.2.1 (wrap64 (1 + bt209.1))).bind fun t212 => ((spec_l16Packets.f k bt194.1 bt209.2.1 bt209.2.2 bt198.1 bt198.2.1).bind fun bt216 => (some (bt198.1, bt198.2.1, ([] : List Int), t206, t212, bt216.1))))))))) = some (r1, r2, r3, r4, r5, r6) := h
 clear h
 obtain ⟨⟨t194, t195, t196⟩, A2, H⟩ := bi_ H
 try dsimp only at H
 obtain ⟨⟨t198, t199, t200, t201⟩, A3, H⟩ := bi_ H
 try dsimp only at H
 obtain ⟨⟨t203, t204, t205⟩, A4, H⟩ := bi_ H
 try dsimp only at H
 obtain ⟨t206, A5, H⟩ := bi_ H
 obtain ⟨⟨t209, t210, t211⟩, A6, H⟩ := bi_ H
 try dsimp only at H
 obtain ⟨t212, A7, H⟩ := bi_ H
 obtain ⟨⟨t216, t219, t220⟩, A8, H⟩ := bi_ H
 try dsimp only at H
 simp only [Option.some.injEq, Prod.mk.injEq] at H
 obtain ⟨rfl, rfl, rfl, rfl, rfl, rfl⟩ := H
 go_enter Try.func5, Try.ntmps5
 try go_wp2_with (first | ((with_reducible refine gate_dst (N := 2) rfl ?_); refine box_event ?hg (N := 2) ?hd (cs := #[.int .i64 0, .int .i64 0, .slice none 0 0]) (t := 28) ?hr ?_; (case hd => rfl); (case hg => rfl); (case hr => first | (go_simp; done) | (go_simp; rfl)); intro gb192 hg w9 hbox hb; have BK192 := Aside0.mk (hbox); have GW192 := gw_ hg HB; have GE192 := gw_ hg HB; replace HB := hs_ HB hb; clear hb hbox hg) | ((with_reducible refine gate_dst (N := 3) rfl ?_); refine box_event ?hg (N := 3) ?hd (cs := #[.slice none 0 0, .slice none 0 0]) (t := 32) ?hr ?_; (case hd => rfl); (case hg => rfl); (case hr => first | (go_simp; done) | (go_simp; rfl)); intro gb193 hg w10 hbox hb; have BK193 := Aside0.mk (hbox); have GW193 := gw_ hg HB; have GE193 := gw_ hg HB; replace HB := hs_ HB hb; have NB192_193 := nl_ hg BK192; have NB193_192 := ng_ hg BK192; replace BK192 := kb_ BK192 hb; clear hb hbox hg) | ((with_reducible refine gate_callee (f := 13) rfl ?_); refine gm_ (some 9) Try.func13 #[.slice A0 l0.length c0] rfl ?_; (with_reducible refine (spec_l01New.calls k _ _ l0 t194 t195 t196 w _ ?side1 ?side2 HC0.out A2.out).mono ?_); (case side1 => repeat (first | (with_reducible first | exact HB.out | apply below_alloc | apply pw_below_drewN | apply below_drew1 | refine below_set ?_ GE192.out | refine below_set ?_ GE193.out) | exact HB.out)); (case side2 => exact HR0.out); rintro e w11 ⟨g197, rfl, hi, hb, hb2⟩; refine ⟨_, rfl, ?_⟩; replace HB := Aside0.mk (hb); have HI197 := Aside0.mk (hi); have NB197_192 := Aside0.mk (IsS68.ne_blk hi (blk_below (g := gb192) (o := .cells #[.int .i64 0, .int .i64 0, .slice none 0 0] 28 (0, 0)) (by (with_reducible repeat (first | refine blk_drewN ?_ _ | refine blk_drew ?_ | refine blk_alloc ?_ _)); exact BK192.out) hb2) (by decide)); have NB192_197 := Aside0.mk (Ne.symm (IsS68.ne_blk hi (blk_below (g := gb192) (o := .cells #[.int .i64 0, .int .i64 0, .slice none 0 0] 28 (0, 0)) (by (with_reducible repeat (first | refine blk_drewN ?_ _ | refine blk_drew ?_ | refine blk_alloc ?_ _)); exact BK192.out) hb2) (by decide))); replace BK192 := Aside0.mk (blk_below (g := gb192) (o := .cells #[.int .i64 0, .int .i64 0, .slice none 0 0] 28 (0, 0)) (by (with_reducible repeat (first | refine blk_drewN ?_ _ | refine blk_drew ?_ | refine blk_alloc ?_ _)); exact BK192.out) hb2); have NB197_193 := Aside0.mk (IsS68.ne_blk hi (blk_below (g := gb193) (o := .cells #[.slice none 0 0, .slice none 0 0] 32 (0, 0)) (by (with_reducible repeat (first | refine blk_drewN ?_ _ | refine blk_drew ?_ | refine blk_alloc ?_ _)); exact BK193.out) hb2) (by decide)); have NB193_197 := Aside0.mk (Ne.symm (IsS68.ne_blk hi (blk_below (g := gb193) (o := .cells #[.slice none 0 0, .slice none 0 0] 32 (0, 0)) (by (with_reducible repeat (first | refine blk_drewN ?_ _ | refine blk_drew ?_ | refine blk_alloc ?_ _)); exact BK193.out) hb2) (by decide))); replace BK193 := Aside0.mk (blk_below (g := gb193) (o := .cells #[.slice none 0 0, .slice none 0 0] 32 (0, 0)) (by (with_reducible repeat (first | refine blk_drewN ?_ _ | refine blk_drew ?_ | refine blk_alloc ?_ _)); exact BK193.out) hb2); (try clear hb)) | ((with_reducible refine gate_callee (f := 14) rfl ?_); refine gm_ (some 11) Try.func14 #[.pointer (some ⟨g197, 0, none⟩)] rfl ?_; (with_reducible refine (spec_l14Grid.calls g197 t194 t195 t196 t198 t199 t200 t201 w _ ?side1 ?side2 A3.out).mono ?_); (case side1 => repeat (first | (with_reducible first | exact HI197.out | apply IsS68.alloc | apply IsS68.drewN | apply IsS68.drew | apply IsS68.set_1 | apply IsS68.set_2 | refine IsS68.far ?_ NB197_192.out _ | refine IsS68.far ?_ NB197_193.out _) | exact HI197.out)); (case side2 => repeat (first | (with_reducible first | exact HB.out | apply below_alloc | apply pw_below_drewN | apply below_drew1 | refine below_set ?_ (IsS68.ge HI197.out) | refine below_set ?_ GE192.out | refine below_set ?_ GE193.out) | exact HB.out)); rintro e w12 ⟨rfl, hi, hb, hk⟩; refine ⟨_, rfl, ?_⟩; replace BK192 := Aside0.mk (KeepBut.blk hk (g' := gb192) (o := .cells #[.int .i64 0, .int .i64 0, .slice none 0 0] 28 (0, 0)) (by (with_reducible repeat (first | refine blk_drewN ?_ _ | refine blk_drew ?_ | refine blk_alloc ?_ _)); exact BK192.out) NB192_197.out (by simp)); replace BK193 := Aside0.mk (KeepBut.blk hk (g' := gb193) (o := .cells #[.slice none 0 0, .slice none 0 0] 32 (0, 0)) (by (with_reducible repeat (first | refine blk_drewN ?_ _ | refine blk_drew ?_ | refine blk_alloc ?_ _)); exact BK193.out) NB193_197.out (by simp)); replace HB := Aside0.mk (hb); replace HI197 := Aside0.mk (hi); (try clear hb)) | ((with_reducible refine gate_dst (N := 6) rfl ?_); refine box_event ?hg (N := 6) ?hd (cs := #[.int .i64 0, .int .i64 0]) (t := 25) ?hr ?_; (case hd => rfl); (case hg => rfl); (case hr => first | (go_simp; done) | (go_simp; rfl)); intro gb202 hg w13 hbox hb; have BK202 := Aside0.mk (hbox); have GW202 := Aside0.mk ((by rw [hg]; exact (below_size (by repeat (first | (with_reducible first | exact HB.out | apply below_alloc | apply pw_below_drewN | apply below_drew1 | refine below_set ?_ (IsS68.ge HI197.out) | refine below_set ?_ GE192.out | refine below_set ?_ GE193.out) | exact HB.out))) : w.heap.size ≤ gb202)); have GE202 := Aside0.mk ((by rw [hg]; exact (below_size (by repeat (first | (with_reducible first | exact HB.out | apply below_alloc | apply pw_below_drewN | apply below_drew1 | refine below_set ?_ (IsS68.ge HI197.out) | refine below_set ?_ GE192.out | refine below_set ?_ GE193.out) | exact HB.out))) : w.heap.size ≤ gb202)); replace HB := Aside0.mk (below_step (by repeat (first | (with_reducible first | exact HB.out | apply below_alloc | apply pw_below_drewN | apply below_drew1 | refine below_set ?_ (IsS68.ge HI197.out) | refine below_set ?_ GE192.out | refine below_set ?_ GE193.out) | exact HB.out)) hb); have NB192_202 := nl_ hg BK192; have NB202_192 := ng_ hg BK192; replace BK192 := kb_ BK192 hb; have NB193_202 := nl_ hg BK193; have NB202_193 := ng_ hg BK193; replace BK193 := kb_ BK193 hb; have NB197_202 := Aside0.mk ((by rw [hg]; exact Nat.ne_of_lt (IsS68.lt (show IsS68 w _ g197 t194 t200 t201 from by repeat (first | (with_reducible first | exact HI197.out | apply IsS68.alloc | apply IsS68.drewN | apply IsS68.drew | apply IsS68.set_1 | apply IsS68.set_2 | refine IsS68.far ?_ NB197_192.out _ | refine IsS68.far ?_ NB197_193.out _) | exact HI197.out))) : g197 ≠ gb202)); have NB202_197 := Aside0.mk ((by rw [hg]; exact Nat.ne_of_gt (IsS68.lt (show IsS68 w _ g197 t194 t200 t201 from by repeat (first | (with_reducible first | exact HI197.out | apply IsS68.alloc | apply IsS68.drewN | apply IsS68.drew | apply IsS68.set_1 | apply IsS68.set_2 | refine IsS68.far ?_ NB197_192.out _ | refine IsS68.far ?_ NB197_193.out _) | exact HI197.out))) : gb202 ≠ g197)); replace HI197 := Aside0.mk (IsS68.below (by repeat (first | (with_reducible first | exact HI197.out | apply IsS68.alloc | apply IsS68.drewN | apply IsS68.drew | apply IsS68.set_1 | apply IsS68.set_2 | refine IsS68.far ?_ NB197_192.out _ | refine IsS68.far ?_ NB197_193.out _) | exact HI197.out)) hb); clear hb hbox hg; have hnb14 := NB202_192.out; have hnc14 := NB192_202.out; have hnb15 := NB202_193.out; have hnc15 := NB193_202.out; have hnb16 := NB202_197.out; have hnc16 := NB197_202.out; obtain ⟨hcz17_0, hcz17_1, hfz17_0, hfz17_1⟩ := cz2_ BK202.out))
 have n0_ : Aside0 (((w13.setCell ⟨gb202, 0, none⟩ (.int .i64 t198)).setCell ⟨gb202, 1, none⟩ (.int .i64 t199)).heap[gb192]? = some (.cells #[.int .i64 0, .int .i64 0, .slice none 0 0] 28 (0, 0))) := ⟨by (with_reducible repeat (first | refine blk_drewN ?_ _ | refine blk_drew ?_ | refine blk_alloc ?_ _)); refine blk_far ?_ NB192_202.out _; (with_reducible repeat (first | refine blk_drewN ?_ _ | refine blk_drew ?_ | refine blk_alloc ?_ _)); refine blk_far ?_ NB192_202.out _; (with_reducible repeat (first | refine blk_drewN ?_ _ | refine blk_drew ?_ | refine blk_alloc ?_ _)); exact BK192.out⟩
 have n1_ : Aside0 (((w13.setCell ⟨gb202, 0, none⟩ (.int .i64 t198)).setCell ⟨gb202, 1, none⟩ (.int .i64 t199)).heap[gb193]? = some (.cells #[.slice none 0 0, .slice none 0 0] 32 (0, 0))) := ⟨by (with_reducible repeat (first | refine blk_drewN ?_ _ | refine blk_drew ?_ | refine blk_alloc ?_ _)); refine blk_far ?_ NB193_202.out _; (with_reducible repeat (first | refine blk_drewN ?_ _ | refine blk_drew ?_ | refine blk_alloc ?_ _)); refine blk_far ?_ NB193_202.out _; (with_reducible repeat (first | refine blk_drewN ?_ _ | refine blk_drew ?_ | refine blk_alloc ?_ _)); exact BK193.out⟩
 have n2_ : Aside0 (((w13.setCell ⟨gb202, 0, none⟩ (.int .i64 t198)).setCell ⟨gb202, 1, none⟩ (.int .i64 t199)).heap[gb202]? = some (.cells #[.int .i64 t198, .int .i64 t199] 25 (0, 0))) := ⟨by (with_reducible repeat (first | refine blk_drewN ?_ _ | refine blk_drew ?_ | refine blk_alloc ?_ _)); refine blk_put (cs := #[.int .i64 t198, .int .i64 0]) ?_ 1 _ rfl; (with_reducible repeat (first | refine blk_drewN ?_ _ | refine blk_drew ?_ | refine blk_alloc ?_ _)); refine blk_put (cs := #[.int .i64 0, .int .i64 0]) ?_ 0 _ rfl; (with_reducible repeat (first | refine blk_drewN ?_ _ | refine blk_drew ?_ | refine blk_alloc ?_ _)); exact BK202.out⟩
 have n3_ : Aside0 (IsS68 w ((w13.setCell ⟨gb202, 0, none⟩ (.int .i64 t198)).setCell ⟨gb202, 1, none⟩ (.int .i64 t199)) g197 t194 t200 t201) := ⟨by repeat (first | (with_reducible first | exact HI197.out | apply IsS68.alloc | apply IsS68.drewN | apply IsS68.drew | apply IsS68.set_1 | apply IsS68.set_2 | refine IsS68.far ?_ NB197_192.out _ | refine IsS68.far ?_ NB197_193.out _ | refine IsS68.far ?_ NB197_202.out _) | exact HI197.out)⟩
 have n4_ : Aside0 (Below w.heap.size w ((w13.setCell ⟨gb202, 0, none⟩ (.int .i64 t198)).setCell ⟨gb202, 1, none⟩ (.int .i64 t199))) := ⟨by repeat (first | (with_reducible first | exact HB.out | apply below_alloc | apply pw_below_drewN | apply below_drew1 | refine below_set ?_ (IsS68.ge HI197.out) | refine below_set ?_ GE192.out | refine below_set ?_ GE193.out | refine below_set ?_ GE202.out) | exact HB.out)⟩
 (try clear BK192)
 (try clear BK193)
 (try clear BK202)
 (try clear HI197)
 (try clear HB)
 generalize ((w13.setCell ⟨gb202, 0, none⟩ (.int .i64 t198)).setCell ⟨gb202, 1, none⟩ (.int .i64 t199)) = w18 at n0_ n1_ n2_ n3_ n4_ ⊢
 have BK192 := n0_
 have BK193 := n1_
 have BK202 := n2_
 have HI197 := n3_
 have HB := n4_
 clear n0_ n1_ n2_ n3_ n4_
 replace BK192 := Aside0.mk (blk_drew BK192.out)
 replace BK193 := Aside0.mk (blk_drew BK193.out)
 replace BK202 := Aside0.mk (blk_drew BK202.out)
 replace HI197 := Aside0.mk (IsS68.drew HI197.out)
 replace HB := Aside0.mk (below_drew1 HB.out)
 refine start_ (n := 13) (S := fun w' => w'.cell? ⟨gb202, 0, none⟩ = some (.int .i64 t198) ∧ w'.cell? ⟨gb202, 1, none⟩ = some (.int .i64 t199)) (ds := []) #[false, false, false, false, false, false, false, false, false, false, false, false, false] (by kernel_rfl) rfl rfl ⟨(blk_cell BK202.out 0).trans rfl, (blk_cell BK202.out 1).trans rfl⟩ (fun hHeld => ?_); refine with_tabW spec_DrawTraffic.tab3 spec_DrawTraffic.bits3 (fun HT_ HW_ => ?_)
 generalize w18.drew = w19 at BK192 BK193 BK202 HI197 HB hHeld ⊢
 refine pu_ 1 13 (bt_ 13 2) HT_ ?_
 refine pu_ 6 18 (bt_ 13 66) HT_ ?_
 refine take_ (i := 0) (N := some 12) (v := ?_) (a' := ?_) (bt_ 13 67) rfl rfl (take_ofW HT_.out HW_.out (by kernel_rfl)) (fun _ _ _ h => h) (Or.inl ⟨by rfl, ?_⟩) hHeld ?_ ?_
 rotate_left
 ·rintro w' ⟨s0, s1⟩
  go_simp
  with_reducible rfl
 rotate_left
 ·simp only [Act.put, List.setIfInBounds_toArray, List.set_cons_zero, List.set_cons_succ, i64_w, i32_w]
  rfl
 refine take_ (i := 5) (N := some 17) (v := ?_) (a' := ?_) (bt_ 13 99) rfl rfl (take_ofW HT_.out HW_.out (by kernel_rfl)) (fun _ _ _ h => h) (Or.inl ⟨by rfl, ?_⟩) hHeld ?_ ?_
 rotate_left
 ·rintro w' ⟨s0, s1⟩
  go_simp
  with_reducible rfl
 rotate_left
 ·simp only [Act.put, List.setIfInBounds_toArray, List.set_cons_zero, List.set_cons_succ, i64_w, i32_w]
  rfl
 refine join_ (σ := Value × Value × Nat) 1 #[true, true, true, true, true, true, true, true, true, true, true, true, false] (fun s_ => [(14, .int .i64 t203), (16, .agg #[s_.1]), (19, .int .i64 t209), (21, .agg #[s_.2.1]), (7, .pointer (some ⟨s_.2.2, 0, none⟩)), (15, .int .i64 (wrap64 (1 + t203))), (20, .int .i64 (wrap64 (1 + t209))), (22, .agg #[s_.1, s_.2.1])]) (fun s_ w' => (w'.cell? ⟨gb202, 0, none⟩ = some (.int .i64 t198) ∧ w'.cell? ⟨gb202, 1, none⟩ = some (.int .i64 t199)) ∧ (Kd.R (Kd.int .i64) 3 w' w.heap.size (fun k_ => some k_ ≠ (s_.2.1 : Value).ownBlock) s_.1 t206) ∧ (Kd.R (Kd.int .i64) 3 w' w.heap.size (fun k_ => some k_ ≠ (s_.1 : Value).ownBlock) s_.2.1 t212) ∧ (w'.heap[gb192]? = some (.cells #[.int .i64 0, .int .i64 0, .slice none 0 0] 28 (0, 0))) ∧ (w'.heap[gb193]? = some (.cells #[.slice none 0 0, .slice none 0 0] 32 (0, 0))) ∧ (w'.heap[gb202]? = some (.cells #[.int .i64 t198, .int .i64 t199] 25 (0, 0))) ∧ (w'.heap[s_.2.2]? = some (.cells #[.slice none 0 0, .slice none 0 0] 32 (0, 0))) ∧ (w.heap.size ≤ s_.2.2) ∧ (w.heap.size ≤ s_.2.2) ∧ (g197 ≠ s_.2.2) ∧ (s_.2.2 ≠ g197) ∧ (gb192 ≠ s_.2.2) ∧ (s_.2.2 ≠ gb192) ∧ (gb193 ≠ s_.2.2) ∧ (s_.2.2 ≠ gb193) ∧ (gb202 ≠ s_.2.2) ∧ (s_.2.2 ≠ gb202) ∧ (IsS68 w w' g197 t194 t210 t211) ∧ (Below w.heap.size w w')) ?_ ?_
 rotate_left
 ·intro hJ2_4_7_9_11
  refine join_ (σ := Value × Value) 2 #[true, true, true, true, true, true, true, true, true, true, true, false, false] (fun s_ => [(14, .int .i64 t203), (16, .agg #[s_.1]), (19, .int .i64 t209), (21, .agg #[s_.2]), (15, .int .i64 (wrap64 (1 + t203))), (20, .int .i64 (wrap64 (1 + t209))), (22, .agg #[s_.1, s_.2])]) (fun s_ w' => (w'.cell? ⟨gb202, 0, none⟩ = some (.int .i64 t198) ∧ w'.cell? ⟨gb202, 1, none⟩ = some (.int .i64 t199)) ∧ (Kd.R (Kd.int .i64) 3 w' w.heap.size (fun k_ => some k_ ≠ (s_.2 : Value).ownBlock) s_.1 t206) ∧ (Kd.R (Kd.int .i64) 3 w' w.heap.size (fun k_ => some k_ ≠ (s_.1 : Value).ownBlock) s_.2 t212) ∧ (w'.heap[gb192]? = some (.cells #[.int .i64 0, .int .i64 0, .slice none 0 0] 28 (0, 0))) ∧ (w'.heap[gb193]? = some (.cells #[.slice none 0 0, .slice none 0 0] 32 (0, 0))) ∧ (w'.heap[gb202]? = some (.cells #[.int .i64 t198, .int .i64 t199] 25 (0, 0))) ∧ (IsS68 w w' g197 t194 t210 t211) ∧ (Below w.heap.size w w')) ?_ ?_
  rotate_left
  ·intro hJ2_4_7_9
   refine join_ (σ := Value × Nat) 3 #[true, true, true, true, true, true, true, true, true, false, false, true, false] (fun s_ => [(14, .int .i64 t203), (16, .agg #[s_.1]), (19, .int .i64 t209), (7, .pointer (some ⟨s_.2, 0, none⟩)), (15, .int .i64 (wrap64 (1 + t203))), (20, .int .i64 (wrap64 (1 + t209)))]) (fun s_ w' => (w'.cell? ⟨gb202, 0, none⟩ = some (.int .i64 t198) ∧ w'.cell? ⟨gb202, 1, none⟩ = some (.int .i64 t199)) ∧ (Kd.R (Kd.int .i64) 3 w' w.heap.size (fun _ => True) s_.1 t206) ∧ (w'.heap[gb192]? = some (.cells #[.int .i64 0, .int .i64 0, .slice none 0 0] 28 (0, 0))) ∧ (w'.heap[gb193]? = some (.cells #[.slice none 0 0, .slice none 0 0] 32 (0, 0))) ∧ (w'.heap[gb202]? = some (.cells #[.int .i64 t198, .int .i64 t199] 25 (0, 0))) ∧ (w'.heap[s_.2]? = some (.cells #[.slice none 0 0, .slice none 0 0] 32 (0, 0))) ∧ (w.heap.size ≤ s_.2) ∧ (w.heap.size ≤ s_.2) ∧ (g197 ≠ s_.2) ∧ (s_.2 ≠ g197) ∧ (gb192 ≠ s_.2) ∧ (s_.2 ≠ gb192) ∧ (gb193 ≠ s_.2) ∧ (s_.2 ≠ gb193) ∧ (gb202 ≠ s_.2) ∧ (s_.2 ≠ gb202) ∧ (IsS68 w w' g197 t194 t210 t211) ∧ (Below w.heap.size w w')) ?_ ?_
   rotate_left
   ·intro hJ2_4_7_11
    refine join_ (σ := Value) 4 #[true, true, true, true, true, true, true, true, true, false, false, false, false] (fun s_ => [(14, .int .i64 t203), (16, .agg #[s_]), (19, .int .i64 t209), (15, .int .i64 (wrap64 (1 + t203))), (20, .int .i64 (wrap64 (1 + t209)))]) (fun s_ w' => (w'.cell? ⟨gb202, 0, none⟩ = some (.int .i64 t198) ∧ w'.cell? ⟨gb202, 1, none⟩ = some (.int .i64 t199)) ∧ (Kd.R (Kd.int .i64) 3 w' w.heap.size (fun _ => True) s_ t206) ∧ (w'.heap[gb192]? = some (.cells #[.int .i64 0, .int .i64 0, .slice none 0 0] 28 (0, 0))) ∧ (w'.heap[gb193]? = some (.cells #[.slice none 0 0, .slice none 0 0] 32 (0, 0))) ∧ (w'.heap[gb202]? = some (.cells #[.int .i64 t198, .int .i64 t199] 25 (0, 0))) ∧ (IsS68 w w' g197 t194 t210 t211) ∧ (Below w.heap.size w w')) ?_ ?_
    rotate_left
    ·intro hJ2_4_7
     refine join_ (σ := Value × Nat) 5 #[true, true, true, true, true, true, true, false, false, false, false, true, false] (fun s_ => [(14, .int .i64 t203), (16, .agg #[s_.1]), (7, .pointer (some ⟨s_.2, 0, none⟩)), (15, .int .i64 (wrap64 (1 + t203)))]) (fun s_ w' => (w'.cell? ⟨gb202, 0, none⟩ = some (.int .i64 t198) ∧ w'.cell? ⟨gb202, 1, none⟩ = some (.int .i64 t199)) ∧ (Kd.R (Kd.int .i64) 3 w' w.heap.size (fun _ => True) s_.1 t206) ∧ (w'.heap[gb192]? = some (.cells #[.int .i64 0, .int .i64 0, .slice none 0 0] 28 (0, 0))) ∧ (w'.heap[gb193]? = some (.cells #[.slice none 0 0, .slice none 0 0] 32 (0, 0))) ∧ (w'.heap[gb202]? = some (.cells #[.int .i64 t198, .int .i64 t199] 25 (0, 0))) ∧ (w'.heap[s_.2]? = some (.cells #[.slice none 0 0, .slice none 0 0] 32 (0, 0))) ∧ (w.heap.size ≤ s_.2) ∧ (w.heap.size ≤ s_.2) ∧ (g197 ≠ s_.2) ∧ (s_.2 ≠ g197) ∧ (gb192 ≠ s_.2) ∧ (s_.2 ≠ gb192) ∧ (gb193 ≠ s_.2) ∧ (s_.2 ≠ gb193) ∧ (gb202 ≠ s_.2) ∧ (s_.2 ≠ gb202) ∧ (IsS68 w w' g197 t194 t204 t205) ∧ (Below w.heap.size w w')) ?_ ?_
     rotate_left
     ·intro hJ2_4_11
      refine join_ (σ := Value) 6 #[true, true, true, true, true, true, true, false, false, false, false, false, false] (fun s_ => [(14, .int .i64 t203), (16, .agg #[s_]), (15, .int .i64 (wrap64 (1 + t203)))]) (fun s_ w' => (w'.cell? ⟨gb202, 0, none⟩ = some (.int .i64 t198) ∧ w'.cell? ⟨gb202, 1, none⟩ = some (.int .i64 t199)) ∧ (Kd.R (Kd.int .i64) 3 w' w.heap.size (fun _ => True) s_ t206) ∧ (w'.heap[gb192]? = some (.cells #[.int .i64 0, .int .i64 0, .slice none 0 0] 28 (0, 0))) ∧ (w'.heap[gb193]? = some (.cells #[.slice none 0 0, .slice none 0 0] 32 (0, 0))) ∧ (w'.heap[gb202]? = some (.cells #[.int .i64 t198, .int .i64 t199] 25 (0, 0))) ∧ (IsS68 w w' g197 t194 t204 t205) ∧ (Below w.heap.size w w')) ?_ ?_
      rotate_left
      ·intro hJ2_4
       refine join_ (σ := Nat) 6 #[true, true, true, true, false, true, true, false, false, false, false, true, false] (fun s_ => [(14, .int .i64 t203), (7, .pointer (some ⟨s_, 0, none⟩)), (15, .int .i64 (wrap64 (1 + t203)))]) (fun s_ w' => (w'.cell? ⟨gb202, 0, none⟩ = some (.int .i64 t198) ∧ w'.cell? ⟨gb202, 1, none⟩ = some (.int .i64 t199)) ∧ (w'.heap[gb192]? = some (.cells #[.int .i64 0, .int .i64 0, .slice none 0 0] 28 (0, 0))) ∧ (w'.heap[gb193]? = some (.cells #[.slice none 0 0, .slice none 0 0] 32 (0, 0))) ∧ (w'.heap[gb202]? = some (.cells #[.int .i64 t198, .int .i64 t199] 25 (0, 0))) ∧ (w'.heap[s_]? = some (.cells #[.slice none 0 0, .slice none 0 0] 32 (0, 0))) ∧ (w.heap.size ≤ s_) ∧ (w.heap.size ≤ s_) ∧ (g197 ≠ s_) ∧ (s_ ≠ g197) ∧ (gb192 ≠ s_) ∧ (s_ ≠ gb192) ∧ (gb193 ≠ s_) ∧ (s_ ≠ gb193) ∧ (gb202 ≠ s_) ∧ (s_ ≠ gb202) ∧ (IsS68 w w' g197 t194 t204 t205) ∧ (Below w.heap.size w w')) ?_ ?_
       rotate_left
       ·intro hJ2_11
        refine join_ (σ := Unit) 7 #[true, true, true, true, false, true, true, false, false, false, false, false, false] (fun s_ => [(14, .int .i64 t203), (15, .int .i64 (wrap64 (1 + t203)))]) (fun s_ w' => (w'.cell? ⟨gb202, 0, none⟩ = some (.int .i64 t198) ∧ w'.cell? ⟨gb202, 1, none⟩ = some (.int .i64 t199)) ∧ (w'.heap[gb192]? = some (.cells #[.int .i64 0, .int .i64 0, .slice none 0 0] 28 (0, 0))) ∧ (w'.heap[gb193]? = some (.cells #[.slice none 0 0, .slice none 0 0] 32 (0, 0))) ∧ (w'.heap[gb202]? = some (.cells #[.int .i64 t198, .int .i64 t199] 25 (0, 0))) ∧ (IsS68 w w' g197 t194 t204 t205) ∧ (Below w.heap.size w w')) ?_ ?_
        rotate_left
        ·intro hJ2
         refine join_ (σ := Nat) 8 #[true, true, false, false, false, true, true, false, false, false, false, true, false] (fun s_ => [(7, .pointer (some ⟨s_, 0, none⟩))]) (fun s_ w' => (w'.cell? ⟨gb202, 0, none⟩ = some (.int .i64 t198) ∧ w'.cell? ⟨gb202, 1, none⟩ = some (.int .i64 t199)) ∧ (w'.heap[gb192]? = some (.cells #[.int .i64 0, .int .i64 0, .slice none 0 0] 28 (0, 0))) ∧ (w'.heap[gb193]? = some (.cells #[.slice none 0 0, .slice none 0 0] 32 (0, 0))) ∧ (w'.heap[gb202]? = some (.cells #[.int .i64 t198, .int .i64 t199] 25 (0, 0))) ∧ (w'.heap[s_]? = some (.cells #[.slice none 0 0, .slice none 0 0] 32 (0, 0))) ∧ (w.heap.size ≤ s_) ∧ (w.heap.size ≤ s_) ∧ (g197 ≠ s_) ∧ (s_ ≠ g197) ∧ (gb192 ≠ s_) ∧ (s_ ≠ gb192) ∧ (gb193 ≠ s_) ∧ (s_ ≠ gb193) ∧ (gb202 ≠ s_) ∧ (s_ ≠ gb202) ∧ (IsS68 w w' g197 t194 t200 t201) ∧ (Below w.heap.size w w')) ?_ ?_
         rotate_left
         ·intro hJ11
          refine two_ (i := 2) (j := 11) (Ni := some 14) (Nj := some 7) #[true, true, true, false, false, true, true, false, false, false, false, false, false] #[true, true, false, false, false, true, true, false, false, false, false, true, false] rfl rfl rfl rfl (two_of HT_.out (by kernel_rfl)) (by decide) (by decide) (fun K hK => ?_) (fun K hK => ?_)
          ·skip
           refine goes_ Try.func16 (by kernel_rfl) rfl #[.pointer (some ⟨g197, 0, none⟩), .int .i64 4] (by rfl) rfl rfl (by (try simp only [List.map_toArray, List.map_cons, List.map_nil]); first | done | rfl | (simp only [List.length_drop, List.length_take]; rfl)) ?_
           with_reducible refine (spec_l01Below.calls g197 t194 t200 t201 4 t203 t204 t205 w _ ?side1 ?side2 A4.out).mono ?_
           (case side1 => repeat (first | (with_reducible first | exact HI197.out | apply IsS68.alloc | apply IsS68.drewN | apply IsS68.drew | apply IsS68.set_1 | apply IsS68.set_2 | refine IsS68.far ?_ NB197_192.out _ | refine IsS68.far ?_ NB197_193.out _ | refine IsS68.far ?_ NB197_202.out _) | exact HI197.out))
           (case side2 => repeat (first | (with_reducible first | exact HB.out | apply below_alloc | apply pw_below_drewN | apply below_drew1 | refine below_set ?_ (IsS68.ge HI197.out) | refine below_set ?_ GE192.out | refine below_set ?_ GE193.out | refine below_set ?_ GE202.out) | exact HB.out))
           rintro e w20 ⟨rfl, hi, hb, hk⟩
           refine ⟨_, rfl, ?_⟩
           replace BK192 := Aside0.mk (KeepBut.blk hk (g' := gb192) (o := .cells #[.int .i64 0, .int .i64 0, .slice none 0 0] 28 (0, 0)) (by (with_reducible repeat (first | refine blk_drewN ?_ _ | refine blk_drew ?_ | refine blk_alloc ?_ _)); exact BK192.out) NB192_197.out (by simp))
           replace BK193 := Aside0.mk (KeepBut.blk hk (g' := gb193) (o := .cells #[.slice none 0 0, .slice none 0 0] 32 (0, 0)) (by (with_reducible repeat (first | refine blk_drewN ?_ _ | refine blk_drew ?_ | refine blk_alloc ?_ _)); exact BK193.out) NB193_197.out (by simp))
           replace BK202 := Aside0.mk (KeepBut.blk hk (g' := gb202) (o := .cells #[.int .i64 t198, .int .i64 t199] 25 (0, 0)) (by (with_reducible repeat (first | refine blk_drewN ?_ _ | refine blk_drew ?_ | refine blk_alloc ?_ _)); exact BK202.out) NB202_197.out (by simp))
           replace HB := Aside0.mk (hb)
           replace HI197 := Aside0.mk (hi)
           (try clear hb)
           (try clear hb2)
           (try clear hk)
           (try clear hi)
           refine hK.out _ _ ⟨(blk_cell BK202.out 0).trans rfl, (blk_cell BK202.out 1).trans rfl⟩ (fun hHeld => ?_)
           clear hK K
           refine norm_ (a' := ?_) ?_ ?_
           rotate_left
           ·show Act.put _ (some 14) _ = _
            simp only [Act.put, List.setIfInBounds_toArray, List.set_cons_zero, List.set_cons_succ, i64_w, i32_w]
            rfl
           refine pu_ 3 15 (bt_ 13 111) HT_ ?_
           exact norm_ (by first | (simp only [putAll, Act.put, List.setIfInBounds_toArray, List.set_cons_zero, List.set_cons_succ]; done) | (simp only [putAll, Act.put, List.setIfInBounds_toArray, List.set_cons_zero, List.set_cons_succ]; rfl)) (hJ2 () _ ⟨hHeld, (by (with_reducible repeat (first | refine blk_drewN ?_ _ | refine blk_drew ?_ | refine blk_alloc ?_ _)); exact BK192.out), (by (with_reducible repeat (first | refine blk_drewN ?_ _ | refine blk_drew ?_ | refine blk_alloc ?_ _)); exact BK193.out), (by (with_reducible repeat (first | refine blk_drewN ?_ _ | refine blk_drew ?_ | refine blk_alloc ?_ _)); exact BK202.out), (by repeat (first | (with_reducible first | exact HI197.out | apply IsS68.alloc | apply IsS68.drewN | apply IsS68.drew | apply IsS68.set_1 | apply IsS68.set_2 | refine IsS68.far ?_ NB197_192.out _ | refine IsS68.far ?_ NB197_193.out _ | refine IsS68.far ?_ NB197_202.out _) | exact HI197.out)), (by repeat (first | (with_reducible first | exact HB.out | apply below_alloc | apply pw_below_drewN | apply below_drew1 | refine below_set ?_ (IsS68.ge HI197.out) | refine below_set ?_ GE192.out | refine below_set ?_ GE193.out | refine below_set ?_ GE202.out) | exact HB.out))⟩)
          ·skip
           refine box_step ?hg (N := 7) ?hd (cs := #[.slice none 0 0, .slice none 0 0]) (t := 32) ?hr ?_; (case hd => rfl); (case hg => rfl); (case hr => first | (go_simp; done) | (go_simp; rfl))
           intro gb215 hg w20 hbox hb
           have n0_ := Aside0.mk (bk_ BK192.out hb)
           have n1_ := Aside0.mk (bk_ BK193.out hb)
           have n2_ := Aside0.mk (IsS68.below (by repeat (first | (with_reducible first | exact HI197.out | apply IsS68.alloc | apply IsS68.drewN | apply IsS68.drew | apply IsS68.set_1 | apply IsS68.set_2 | refine IsS68.far ?_ NB197_192.out _ | refine IsS68.far ?_ NB197_193.out _ | refine IsS68.far ?_ NB197_202.out _) | exact HI197.out)) hb)
           have n3_ := Aside0.mk (bk_ BK202.out hb)
           have n4_ := Aside0.mk (below_step (by repeat (first | (with_reducible first | exact HB.out | apply below_alloc | apply pw_below_drewN | apply below_drew1 | refine below_set ?_ (IsS68.ge HI197.out) | refine below_set ?_ GE192.out | refine below_set ?_ GE193.out | refine below_set ?_ GE202.out) | exact HB.out)) hb)
           have n5_ := Aside0.mk (hbox)
           have n6_ := Aside0.mk ((by rw [hg]; exact (below_size (by repeat (first | (with_reducible first | exact HB.out | apply below_alloc | apply pw_below_drewN | apply below_drew1 | refine below_set ?_ (IsS68.ge HI197.out) | refine below_set ?_ GE192.out | refine below_set ?_ GE193.out | refine below_set ?_ GE202.out) | exact HB.out))) : w.heap.size ≤ gb215))
           have n7_ := Aside0.mk ((by rw [hg]; exact (below_size (by repeat (first | (with_reducible first | exact HB.out | apply below_alloc | apply pw_below_drewN | apply below_drew1 | refine below_set ?_ (IsS68.ge HI197.out) | refine below_set ?_ GE192.out | refine below_set ?_ GE193.out | refine below_set ?_ GE202.out) | exact HB.out))) : w.heap.size ≤ gb215))
           have n8_ := Aside0.mk ((by rw [hg]; exact Nat.ne_of_lt (bl_ BK192.out) : gb192 ≠ gb215))
           have n9_ := Aside0.mk ((by rw [hg]; exact Nat.ne_of_gt (bl_ BK192.out) : gb215 ≠ gb192))
           have n10_ := Aside0.mk ((by rw [hg]; exact Nat.ne_of_lt (bl_ BK193.out) : gb193 ≠ gb215))
           have n11_ := Aside0.mk ((by rw [hg]; exact Nat.ne_of_gt (bl_ BK193.out) : gb215 ≠ gb193))
           have n12_ := Aside0.mk ((by rw [hg]; exact Nat.ne_of_lt (bl_ BK202.out) : gb202 ≠ gb215))
           have n13_ := Aside0.mk ((by rw [hg]; exact Nat.ne_of_gt (bl_ BK202.out) : gb215 ≠ gb202))
           have n14_ := Aside0.mk ((by rw [hg]; exact Nat.ne_of_lt (IsS68.lt (show IsS68 w _ g197 t194 t200 t201 from by repeat (first | (with_reducible first | exact HI197.out | apply IsS68.alloc | apply IsS68.drewN | apply IsS68.drew | apply IsS68.set_1 | apply IsS68.set_2 | refine IsS68.far ?_ NB197_192.out _ | refine IsS68.far ?_ NB197_193.out _ | refine IsS68.far ?_ NB197_202.out _) | exact HI197.out))) : g197 ≠ gb215))
           have n15_ := Aside0.mk ((by rw [hg]; exact Nat.ne_of_gt (IsS68.lt (show IsS68 w _ g197 t194 t200 t201 from by repeat (first | (with_reducible first | exact HI197.out | apply IsS68.alloc | apply IsS68.drewN | apply IsS68.drew | apply IsS68.set_1 | apply IsS68.set_2 | refine IsS68.far ?_ NB197_192.out _ | refine IsS68.far ?_ NB197_193.out _ | refine IsS68.far ?_ NB197_202.out _) | exact HI197.out))) : gb215 ≠ g197))
           clear BK192 BK193 HI197 BK202 HB
           have BK192 := n0_
           have BK193 := n1_
           have HI197 := n2_
           have BK202 := n3_
           have HB := n4_
           have BK215 := n5_
           have GW215 := n6_
           have GE215 := n7_
           have NB192_215 := n8_
           have NB215_192 := n9_
           have NB193_215 := n10_
           have NB215_193 := n11_
           have NB202_215 := n12_
           have NB215_202 := n13_
           have NB197_215 := n14_
           have NB215_197 := n15_
           clear n0_ n1_ n2_ n3_ n4_ n5_ n6_ n7_ n8_ n9_ n10_ n11_ n12_ n13_ n14_ n15_ hb hbox hg
           refine hK.out _ _ ⟨(blk_cell BK202.out 0).trans rfl, (blk_cell BK202.out 1).trans rfl⟩ (fun hHeld => ?_)
           clear hK K
           refine norm_ (a' := ?_) ?_ ?_
           rotate_left
           ·show Act.put _ (some 7) _ = _
            simp only [Act.put, List.setIfInBounds_toArray, List.set_cons_zero, List.set_cons_succ, i64_w, i32_w]
            rfl
           exact norm_ (by first | (simp only [putAll, Act.put, List.setIfInBounds_toArray, List.set_cons_zero, List.set_cons_succ]; done) | (simp only [putAll, Act.put, List.setIfInBounds_toArray, List.set_cons_zero, List.set_cons_succ]; rfl)) (hJ11 (gb215) _ ⟨hHeld, (by (with_reducible repeat (first | refine blk_drewN ?_ _ | refine blk_drew ?_ | refine blk_alloc ?_ _)); exact BK192.out), (by (with_reducible repeat (first | refine blk_drewN ?_ _ | refine blk_drew ?_ | refine blk_alloc ?_ _)); exact BK193.out), (by (with_reducible repeat (first | refine blk_drewN ?_ _ | refine blk_drew ?_ | refine blk_alloc ?_ _)); exact BK202.out), (by (with_reducible repeat (first | refine blk_drewN ?_ _ | refine blk_drew ?_ | refine blk_alloc ?_ _)); exact BK215.out), GW215.out, GE215.out, NB197_215.out, NB215_197.out, NB192_215.out, NB215_192.out, NB193_215.out, NB215_193.out, NB202_215.out, NB215_202.out, (by repeat (first | (with_reducible first | exact HI197.out | apply IsS68.alloc | apply IsS68.drewN | apply IsS68.drew | apply IsS68.set_1 | apply IsS68.set_2 | refine IsS68.far ?_ NB197_192.out _ | refine IsS68.far ?_ NB197_193.out _ | refine IsS68.far ?_ NB197_202.out _ | refine IsS68.far ?_ NB197_215.out _) | exact HI197.out)), (by repeat (first | (with_reducible first | exact HB.out | apply below_alloc | apply pw_below_drewN | apply below_drew1 | refine below_set ?_ (IsS68.ge HI197.out) | refine below_set ?_ GE192.out | refine below_set ?_ GE193.out | refine below_set ?_ GE202.out | refine below_set ?_ GE215.out) | exact HB.out))⟩)
         ·skip
          rintro gb215 w21 ⟨hS_, h0_, h1_, h2_, h3_, h4_, h5_, h6_, h7_, h8_, h9_, h10_, h11_, h12_, h13_, h14_, h15_⟩
          replace BK192 : Aside0 (w21.heap[gb192]? = some (.cells #[.int .i64 0, .int .i64 0, .slice none 0 0] 28 (0, 0))) := ⟨h0_⟩
          replace BK193 : Aside0 (w21.heap[gb193]? = some (.cells #[.slice none 0 0, .slice none 0 0] 32 (0, 0))) := ⟨h1_⟩
          replace BK202 : Aside0 (w21.heap[gb202]? = some (.cells #[.int .i64 t198, .int .i64 t199] 25 (0, 0))) := ⟨h2_⟩
          have BK215 : Aside0 (w21.heap[gb215]? = some (.cells #[.slice none 0 0, .slice none 0 0] 32 (0, 0))) := ⟨h3_⟩
          have GW215 : Aside0 (w.heap.size ≤ gb215) := ⟨h4_⟩
          have GE215 : Aside0 (w.heap.size ≤ gb215) := ⟨h5_⟩
          have NB197_215 : Aside0 (g197 ≠ gb215) := ⟨h6_⟩
          have NB215_197 : Aside0 (gb215 ≠ g197) := ⟨h7_⟩
          have NB192_215 : Aside0 (gb192 ≠ gb215) := ⟨h8_⟩
          have NB215_192 : Aside0 (gb215 ≠ gb192) := ⟨h9_⟩
          have NB193_215 : Aside0 (gb193 ≠ gb215) := ⟨h10_⟩
          have NB215_193 : Aside0 (gb215 ≠ gb193) := ⟨h11_⟩
          have NB202_215 : Aside0 (gb202 ≠ gb215) := ⟨h12_⟩
          have NB215_202 : Aside0 (gb215 ≠ gb202) := ⟨h13_⟩
          replace HI197 : Aside0 (IsS68 w w21 g197 t194 t200 t201) := ⟨h14_⟩
          replace HB : Aside0 (Below w.heap.size w w21) := ⟨h15_⟩
          clear h0_ h1_ h2_ h3_ h4_ h5_ h6_ h7_ h8_ h9_ h10_ h11_ h12_ h13_ h14_ h15_
          have hHeld : w21.cell? ⟨gb202, 0, none⟩ = some (.int .i64 t198) ∧ w21.cell? ⟨gb202, 1, none⟩ = some (.int .i64 t199) := hS_
          refine norm_ (a' := ?_) ?_ ?_
          rotate_left
          ·simp only [putAll, Act.put, List.setIfInBounds_toArray, List.set_cons_zero, List.set_cons_succ]
           rfl
          refine one_ (i := 2) (N := some 14) (bt_ 13 2151) rfl rfl (one_of HT_.out (by kernel_rfl)) (by decide) (fun K hK => ?_)
          refine goes_ Try.func16 (by kernel_rfl) rfl #[.pointer (some ⟨g197, 0, none⟩), .int .i64 4] (by rfl) rfl rfl (by (try simp only [List.map_toArray, List.map_cons, List.map_nil]); first | done | rfl | (simp only [List.length_drop, List.length_take]; rfl)) ?_
          with_reducible refine (spec_l01Below.calls g197 t194 t200 t201 4 t203 t204 t205 w _ ?side1 ?side2 A4.out).mono ?_
          (case side1 => repeat (first | (with_reducible first | exact HI197.out | apply IsS68.alloc | apply IsS68.drewN | apply IsS68.drew | apply IsS68.set_1 | apply IsS68.set_2 | refine IsS68.far ?_ NB197_192.out _ | refine IsS68.far ?_ NB197_193.out _ | refine IsS68.far ?_ NB197_202.out _ | refine IsS68.far ?_ NB197_215.out _) | exact HI197.out))
          (case side2 => repeat (first | (with_reducible first | exact HB.out | apply below_alloc | apply pw_below_drewN | apply below_drew1 | refine below_set ?_ (IsS68.ge HI197.out) | refine below_set ?_ GE192.out | refine below_set ?_ GE193.out | refine below_set ?_ GE202.out | refine below_set ?_ GE215.out) | exact HB.out))
          rintro e w22 ⟨rfl, hi, hb, hk⟩
          refine ⟨_, rfl, ?_⟩
          replace BK192 := Aside0.mk (KeepBut.blk hk (g' := gb192) (o := .cells #[.int .i64 0, .int .i64 0, .slice none 0 0] 28 (0, 0)) (by (with_reducible repeat (first | refine blk_drewN ?_ _ | refine blk_drew ?_ | refine blk_alloc ?_ _)); exact BK192.out) NB192_197.out (by simp))
          replace BK193 := Aside0.mk (KeepBut.blk hk (g' := gb193) (o := .cells #[.slice none 0 0, .slice none 0 0] 32 (0, 0)) (by (with_reducible repeat (first | refine blk_drewN ?_ _ | refine blk_drew ?_ | refine blk_alloc ?_ _)); exact BK193.out) NB193_197.out (by simp))
          replace BK202 := Aside0.mk (KeepBut.blk hk (g' := gb202) (o := .cells #[.int .i64 t198, .int .i64 t199] 25 (0, 0)) (by (with_reducible repeat (first | refine blk_drewN ?_ _ | refine blk_drew ?_ | refine blk_alloc ?_ _)); exact BK202.out) NB202_197.out (by simp))
          replace BK215 := Aside0.mk (KeepBut.blk hk (g' := gb215) (o := .cells #[.slice none 0 0, .slice none 0 0] 32 (0, 0)) (by (with_reducible repeat (first | refine blk_drewN ?_ _ | refine blk_drew ?_ | refine blk_alloc ?_ _)); exact BK215.out) NB215_197.out (by simp))
          replace HB := Aside0.mk (hb)
          replace HI197 := Aside0.mk (hi)
          (try clear hb)
          (try clear hb2)
          (try clear hk)
          (try clear hi)
          refine hK.out _ _ ⟨(blk_cell BK202.out 0).trans rfl, (blk_cell BK202.out 1).trans rfl⟩ (fun hHeld => ?_)
          clear hK K
          refine norm_ (a' := ?_) ?_ ?_
          rotate_left
          ·show Act.put _ (some 14) _ = _
           simp only [Act.put, List.setIfInBounds_toArray, List.set_cons_zero, List.set_cons_succ, i64_w, i32_w]
           rfl
          refine pu_ 3 15 (bt_ 13 2159) HT_ ?_
          exact norm_ (by first | (simp only [putAll, Act.put, List.setIfInBounds_toArray, List.set_cons_zero, List.set_cons_succ]; done) | (simp only [putAll, Act.put, List.setIfInBounds_toArray, List.set_cons_zero, List.set_cons_succ]; rfl)) (hJ2_11 (gb215) _ ⟨hHeld, (by (with_reducible repeat (first | refine blk_drewN ?_ _ | refine blk_drew ?_ | refine blk_alloc ?_ _)); exact BK192.out), (by (with_reducible repeat (first | refine blk_drewN ?_ _ | refine blk_drew ?_ | refine blk_alloc ?_ _)); exact BK193.out), (by (with_reducible repeat (first | refine blk_drewN ?_ _ | refine blk_drew ?_ | refine blk_alloc ?_ _)); exact BK202.out), (by (with_reducible repeat (first | refine blk_drewN ?_ _ | refine blk_drew ?_ | refine blk_alloc ?_ _)); exact BK215.out), GW215.out, GE215.out, NB197_215.out, NB215_197.out, NB192_215.out, NB215_192.out, NB193_215.out, NB215_193.out, NB202_215.out, NB215_202.out, (by repeat (first | (with_reducible first | exact HI197.out | apply IsS68.alloc | apply IsS68.drewN | apply IsS68.drew | apply IsS68.set_1 | apply IsS68.set_2 | refine IsS68.far ?_ NB197_192.out _ | refine IsS68.far ?_ NB197_193.out _ | refine IsS68.far ?_ NB197_202.out _ | refine IsS68.far ?_ NB197_215.out _) | exact HI197.out)), (by repeat (first | (with_reducible first | exact HB.out | apply below_alloc | apply pw_below_drewN | apply below_drew1 | refine below_set ?_ (IsS68.ge HI197.out) | refine below_set ?_ GE192.out | refine below_set ?_ GE193.out | refine below_set ?_ GE202.out | refine below_set ?_ GE215.out) | exact HB.out))⟩)
        ·skip
         rintro _ w21 ⟨hS_, h0_, h1_, h2_, h3_, h4_⟩
         replace BK192 : Aside0 (w21.heap[gb192]? = some (.cells #[.int .i64 0, .int .i64 0, .slice none 0 0] 28 (0, 0))) := ⟨h0_⟩
         replace BK193 : Aside0 (w21.heap[gb193]? = some (.cells #[.slice none 0 0, .slice none 0 0] 32 (0, 0))) := ⟨h1_⟩
         replace BK202 : Aside0 (w21.heap[gb202]? = some (.cells #[.int .i64 t198, .int .i64 t199] 25 (0, 0))) := ⟨h2_⟩
         replace HI197 : Aside0 (IsS68 w w21 g197 t194 t204 t205) := ⟨h3_⟩
         replace HB : Aside0 (Below w.heap.size w w21) := ⟨h4_⟩
         clear h0_ h1_ h2_ h3_ h4_
         have hHeld : w21.cell? ⟨gb202, 0, none⟩ = some (.int .i64 t198) ∧ w21.cell? ⟨gb202, 1, none⟩ = some (.int .i64 t199) := hS_
         refine norm_ (a' := ?_) ?_ ?_
         rotate_left
         ·simp only [putAll, Act.put, List.setIfInBounds_toArray, List.set_cons_zero, List.set_cons_succ]
          rfl
         refine two_ (i := 4) (j := 11) (Ni := some 16) (Nj := some 7) #[true, true, true, true, true, true, true, false, false, false, false, false, false] #[true, true, true, true, false, true, true, false, false, false, false, true, false] rfl rfl rfl rfl (two_of HT_.out (by kernel_rfl)) (by decide) (by decide) (fun K hK => ?_) (fun K hK => ?_)
         ·skip
          refine goes_ Try.func15 (by kernel_rfl) rfl #[.agg #[.int .i64 t198, .int .i64 t199], .int .i64 (wrap64 (1 + t203))] (by rfl) rfl rfl (by (try simp only [List.map_toArray, List.map_cons, List.map_nil]); first | done | rfl | (simp only [List.length_drop, List.length_take]; rfl)) ?_
          with_reducible refine (spec_l05Make.calls k t198 t199 (wrap64 (1 + t203)) t206 _ A5.out).mono ?_
          rintro e w22 ⟨v207, rfl, ho0, hb⟩
          refine ⟨_, rfl, ?_⟩
          have HO208 := Aside0.mk (Kd.R_lower ho0 (below_size (by repeat (first | (with_reducible first | exact HB.out | apply below_alloc | apply pw_below_drewN | apply below_drew1 | refine below_set ?_ (IsS68.ge HI197.out) | refine below_set ?_ GE192.out | refine below_set ?_ GE193.out | refine below_set ?_ GE202.out) | exact HB.out))))
          replace BK192 := kb_ BK192 hb
          replace BK193 := kb_ BK193 hb
          replace BK202 := kb_ BK202 hb
          replace HB := Aside0.mk (below_step (by repeat (first | (with_reducible first | exact HB.out | apply below_alloc | apply pw_below_drewN | apply below_drew1 | refine below_set ?_ (IsS68.ge HI197.out) | refine below_set ?_ GE192.out | refine below_set ?_ GE193.out | refine below_set ?_ GE202.out) | exact HB.out)) hb)
          replace HI197 := Aside0.mk (IsS68.below (by repeat (first | (with_reducible first | exact HI197.out | apply IsS68.alloc | apply IsS68.drewN | apply IsS68.drew | apply IsS68.set_1 | apply IsS68.set_2 | refine IsS68.far ?_ NB197_192.out _ | refine IsS68.far ?_ NB197_193.out _ | refine IsS68.far ?_ NB197_202.out _) | exact HI197.out)) hb)
          (try clear hb)
          (try clear hb2)
          (try clear hk)
          (try clear hi)
          (try clear ho0)
          refine hK.out _ _ ⟨(blk_cell BK202.out 0).trans rfl, (blk_cell BK202.out 1).trans rfl⟩ (fun hHeld => ?_)
          clear hK K
          refine norm_ (a' := ?_) ?_ ?_
          rotate_left
          ·show Act.put _ (some 16) _ = _
           simp only [Act.put, List.setIfInBounds_toArray, List.set_cons_zero, List.set_cons_succ, i64_w, i32_w]
           rfl
          exact norm_ (by first | (simp only [putAll, Act.put, List.setIfInBounds_toArray, List.set_cons_zero, List.set_cons_succ]; done) | (simp only [putAll, Act.put, List.setIfInBounds_toArray, List.set_cons_zero, List.set_cons_succ]; rfl)) (hJ2_4 (v207) _ ⟨hHeld, (ra_ HO208.out), (by (with_reducible repeat (first | refine blk_drewN ?_ _ | refine blk_drew ?_ | refine blk_alloc ?_ _)); exact BK192.out), (by (with_reducible repeat (first | refine blk_drewN ?_ _ | refine blk_drew ?_ | refine blk_alloc ?_ _)); exact BK193.out), (by (with_reducible repeat (first | refine blk_drewN ?_ _ | refine blk_drew ?_ | refine blk_alloc ?_ _)); exact BK202.out), (by repeat (first | (with_reducible first | exact HI197.out | apply IsS68.alloc | apply IsS68.drewN | apply IsS68.drew | apply IsS68.set_1 | apply IsS68.set_2 | refine IsS68.far ?_ NB197_192.out _ | refine IsS68.far ?_ NB197_193.out _ | refine IsS68.far ?_ NB197_202.out _) | exact HI197.out)), (by repeat (first | (with_reducible first | exact HB.out | apply below_alloc | apply pw_below_drewN | apply below_drew1 | refine below_set ?_ (IsS68.ge HI197.out) | refine below_set ?_ GE192.out | refine below_set ?_ GE193.out | refine below_set ?_ GE202.out) | exact HB.out))⟩)
         ·skip
          refine box_step ?hg (N := 7) ?hd (cs := #[.slice none 0 0, .slice none 0 0]) (t := 32) ?hr ?_; (case hd => rfl); (case hg => rfl); (case hr => first | (go_simp; done) | (go_simp; rfl))
          intro gb215 hg w22 hbox hb
          have n0_ := Aside0.mk (bk_ BK192.out hb)
          have n1_ := Aside0.mk (bk_ BK193.out hb)
          have n2_ := Aside0.mk (IsS68.below (by repeat (first | (with_reducible first | exact HI197.out | apply IsS68.alloc | apply IsS68.drewN | apply IsS68.drew | apply IsS68.set_1 | apply IsS68.set_2 | refine IsS68.far ?_ NB197_192.out _ | refine IsS68.far ?_ NB197_193.out _ | refine IsS68.far ?_ NB197_202.out _) | exact HI197.out)) hb)
          have n3_ := Aside0.mk (bk_ BK202.out hb)
          have n4_ := Aside0.mk (below_step (by repeat (first | (with_reducible first | exact HB.out | apply below_alloc | apply pw_below_drewN | apply below_drew1 | refine below_set ?_ (IsS68.ge HI197.out) | refine below_set ?_ GE192.out | refine below_set ?_ GE193.out | refine below_set ?_ GE202.out) | exact HB.out)) hb)
          have n5_ := Aside0.mk (hbox)
          have n6_ := Aside0.mk ((by rw [hg]; exact (below_size (by repeat (first | (with_reducible first | exact HB.out | apply below_alloc | apply pw_below_drewN | apply below_drew1 | refine below_set ?_ (IsS68.ge HI197.out) | refine below_set ?_ GE192.out | refine below_set ?_ GE193.out | refine below_set ?_ GE202.out) | exact HB.out))) : w.heap.size ≤ gb215))
          have n7_ := Aside0.mk ((by rw [hg]; exact (below_size (by repeat (first | (with_reducible first | exact HB.out | apply below_alloc | apply pw_below_drewN | apply below_drew1 | refine below_set ?_ (IsS68.ge HI197.out) | refine below_set ?_ GE192.out | refine below_set ?_ GE193.out | refine below_set ?_ GE202.out) | exact HB.out))) : w.heap.size ≤ gb215))
          have n8_ := Aside0.mk ((by rw [hg]; exact Nat.ne_of_lt (bl_ BK192.out) : gb192 ≠ gb215))
          have n9_ := Aside0.mk ((by rw [hg]; exact Nat.ne_of_gt (bl_ BK192.out) : gb215 ≠ gb192))
          have n10_ := Aside0.mk ((by rw [hg]; exact Nat.ne_of_lt (bl_ BK193.out) : gb193 ≠ gb215))
          have n11_ := Aside0.mk ((by rw [hg]; exact Nat.ne_of_gt (bl_ BK193.out) : gb215 ≠ gb193))
          have n12_ := Aside0.mk ((by rw [hg]; exact Nat.ne_of_lt (bl_ BK202.out) : gb202 ≠ gb215))
          have n13_ := Aside0.mk ((by rw [hg]; exact Nat.ne_of_gt (bl_ BK202.out) : gb215 ≠ gb202))
          have n14_ := Aside0.mk ((by rw [hg]; exact Nat.ne_of_lt (IsS68.lt (show IsS68 w _ g197 t194 t204 t205 from by repeat (first | (with_reducible first | exact HI197.out | apply IsS68.alloc | apply IsS68.drewN | apply IsS68.drew | apply IsS68.set_1 | apply IsS68.set_2 | refine IsS68.far ?_ NB197_192.out _ | refine IsS68.far ?_ NB197_193.out _ | refine IsS68.far ?_ NB197_202.out _) | exact HI197.out))) : g197 ≠ gb215))
          have n15_ := Aside0.mk ((by rw [hg]; exact Nat.ne_of_gt (IsS68.lt (show IsS68 w _ g197 t194 t204 t205 from by repeat (first | (with_reducible first | exact HI197.out | apply IsS68.alloc | apply IsS68.drewN | apply IsS68.drew | apply IsS68.set_1 | apply IsS68.set_2 | refine IsS68.far ?_ NB197_192.out _ | refine IsS68.far ?_ NB197_193.out _ | refine IsS68.far ?_ NB197_202.out _) | exact HI197.out))) : gb215 ≠ g197))
          clear BK192 BK193 HI197 BK202 HB
          have BK192 := n0_
          have BK193 := n1_
          have HI197 := n2_
          have BK202 := n3_
          have HB := n4_
          have BK215 := n5_
          have GW215 := n6_
          have GE215 := n7_
          have NB192_215 := n8_
          have NB215_192 := n9_
          have NB193_215 := n10_
          have NB215_193 := n11_
          have NB202_215 := n12_
          have NB215_202 := n13_
          have NB197_215 := n14_
          have NB215_197 := n15_
          clear n0_ n1_ n2_ n3_ n4_ n5_ n6_ n7_ n8_ n9_ n10_ n11_ n12_ n13_ n14_ n15_ hb hbox hg
          refine hK.out _ _ ⟨(blk_cell BK202.out 0).trans rfl, (blk_cell BK202.out 1).trans rfl⟩ (fun hHeld => ?_)
          clear hK K
          refine norm_ (a' := ?_) ?_ ?_
          rotate_left
          ·show Act.put _ (some 7) _ = _
           simp only [Act.put, List.setIfInBounds_toArray, List.set_cons_zero, List.set_cons_succ, i64_w, i32_w]
           rfl
          exact norm_ (by first | (simp only [putAll, Act.put, List.setIfInBounds_toArray, List.set_cons_zero, List.set_cons_succ]; done) | (simp only [putAll, Act.put, List.setIfInBounds_toArray, List.set_cons_zero, List.set_cons_succ]; rfl)) (hJ2_11 (gb215) _ ⟨hHeld, (by (with_reducible repeat (first | refine blk_drewN ?_ _ | refine blk_drew ?_ | refine blk_alloc ?_ _)); exact BK192.out), (by (with_reducible repeat (first | refine blk_drewN ?_ _ | refine blk_drew ?_ | refine blk_alloc ?_ _)); exact BK193.out), (by (with_reducible repeat (first | refine blk_drewN ?_ _ | refine blk_drew ?_ | refine blk_alloc ?_ _)); exact BK202.out), (by (with_reducible repeat (first | refine blk_drewN ?_ _ | refine blk_drew ?_ | refine blk_alloc ?_ _)); exact BK215.out), GW215.out, GE215.out, NB197_215.out, NB215_197.out, NB192_215.out, NB215_192.out, NB193_215.out, NB215_193.out, NB202_215.out, NB215_202.out, (by repeat (first | (with_reducible first | exact HI197.out | apply IsS68.alloc | apply IsS68.drewN | apply IsS68.drew | apply IsS68.set_1 | apply IsS68.set_2 | refine IsS68.far ?_ NB197_192.out _ | refine IsS68.far ?_ NB197_193.out _ | refine IsS68.far ?_ NB197_202.out _ | refine IsS68.far ?_ NB197_215.out _) | exact HI197.out)), (by repeat (first | (with_reducible first | exact HB.out | apply below_alloc | apply pw_below_drewN | apply below_drew1 | refine below_set ?_ (IsS68.ge HI197.out) | refine below_set ?_ GE192.out | refine below_set ?_ GE193.out | refine below_set ?_ GE202.out | refine below_set ?_ GE215.out) | exact HB.out))⟩)
       ·skip
        rintro gb215 w22 ⟨hS_, h0_, h1_, h2_, h3_, h4_, h5_, h6_, h7_, h8_, h9_, h10_, h11_, h12_, h13_, h14_, h15_⟩
        replace BK192 : Aside0 (w22.heap[gb192]? = some (.cells #[.int .i64 0, .int .i64 0, .slice none 0 0] 28 (0, 0))) := ⟨h0_⟩
        replace BK193 : Aside0 (w22.heap[gb193]? = some (.cells #[.slice none 0 0, .slice none 0 0] 32 (0, 0))) := ⟨h1_⟩
        replace BK202 : Aside0 (w22.heap[gb202]? = some (.cells #[.int .i64 t198, .int .i64 t199] 25 (0, 0))) := ⟨h2_⟩
        have BK215 : Aside0 (w22.heap[gb215]? = some (.cells #[.slice none 0 0, .slice none 0 0] 32 (0, 0))) := ⟨h3_⟩
        have GW215 : Aside0 (w.heap.size ≤ gb215) := ⟨h4_⟩
        have GE215 : Aside0 (w.heap.size ≤ gb215) := ⟨h5_⟩
        have NB197_215 : Aside0 (g197 ≠ gb215) := ⟨h6_⟩
        have NB215_197 : Aside0 (gb215 ≠ g197) := ⟨h7_⟩
        have NB192_215 : Aside0 (gb192 ≠ gb215) := ⟨h8_⟩
        have NB215_192 : Aside0 (gb215 ≠ gb192) := ⟨h9_⟩
        have NB193_215 : Aside0 (gb193 ≠ gb215) := ⟨h10_⟩
        have NB215_193 : Aside0 (gb215 ≠ gb193) := ⟨h11_⟩
        have NB202_215 : Aside0 (gb202 ≠ gb215) := ⟨h12_⟩
        have NB215_202 : Aside0 (gb215 ≠ gb202) := ⟨h13_⟩
        replace HI197 : Aside0 (IsS68 w w22 g197 t194 t204 t205) := ⟨h14_⟩
        replace HB : Aside0 (Below w.heap.size w w22) := ⟨h15_⟩
        clear h0_ h1_ h2_ h3_ h4_ h5_ h6_ h7_ h8_ h9_ h10_ h11_ h12_ h13_ h14_ h15_
        have hHeld : w22.cell? ⟨gb202, 0, none⟩ = some (.int .i64 t198) ∧ w22.cell? ⟨gb202, 1, none⟩ = some (.int .i64 t199) := hS_
        refine norm_ (a' := ?_) ?_ ?_
        rotate_left
        ·simp only [putAll, Act.put, List.setIfInBounds_toArray, List.set_cons_zero, List.set_cons_succ]
         rfl
        refine one_ (i := 4) (N := some 16) (bt_ 13 2175) rfl rfl (one_of HT_.out (by kernel_rfl)) (by decide) (fun K hK => ?_)
        refine goes_ Try.func15 (by kernel_rfl) rfl #[.agg #[.int .i64 t198, .int .i64 t199], .int .i64 (wrap64 (1 + t203))] (by rfl) rfl rfl (by (try simp only [List.map_toArray, List.map_cons, List.map_nil]); first | done | rfl | (simp only [List.length_drop, List.length_take]; rfl)) ?_
        with_reducible refine (spec_l05Make.calls k t198 t199 (wrap64 (1 + t203)) t206 _ A5.out).mono ?_
        rintro e w23 ⟨v207, rfl, ho0, hb⟩
        refine ⟨_, rfl, ?_⟩
        have HO208 := Aside0.mk (Kd.R_lower ho0 (below_size (by repeat (first | (with_reducible first | exact HB.out | apply below_alloc | apply pw_below_drewN | apply below_drew1 | refine below_set ?_ (IsS68.ge HI197.out) | refine below_set ?_ GE192.out | refine below_set ?_ GE193.out | refine below_set ?_ GE202.out | refine below_set ?_ GE215.out) | exact HB.out))))
        replace BK192 := kb_ BK192 hb
        replace BK193 := kb_ BK193 hb
        replace BK202 := kb_ BK202 hb
        replace BK215 := kb_ BK215 hb
        replace HB := Aside0.mk (below_step (by repeat (first | (with_reducible first | exact HB.out | apply below_alloc | apply pw_below_drewN | apply below_drew1 | refine below_set ?_ (IsS68.ge HI197.out) | refine below_set ?_ GE192.out | refine below_set ?_ GE193.out | refine below_set ?_ GE202.out | refine below_set ?_ GE215.out) | exact HB.out)) hb)
        replace HI197 := Aside0.mk (IsS68.below (by repeat (first | (with_reducible first | exact HI197.out | apply IsS68.alloc | apply IsS68.drewN | apply IsS68.drew | apply IsS68.set_1 | apply IsS68.set_2 | refine IsS68.far ?_ NB197_192.out _ | refine IsS68.far ?_ NB197_193.out _ | refine IsS68.far ?_ NB197_202.out _ | refine IsS68.far ?_ NB197_215.out _) | exact HI197.out)) hb)
        (try clear hb)
        (try clear hb2)
        (try clear hk)
        (try clear hi)
        (try clear ho0)
        refine hK.out _ _ ⟨(blk_cell BK202.out 0).trans rfl, (blk_cell BK202.out 1).trans rfl⟩ (fun hHeld => ?_)
        clear hK K
        refine norm_ (a' := ?_) ?_ ?_
        rotate_left
        ·show Act.put _ (some 16) _ = _
         simp only [Act.put, List.setIfInBounds_toArray, List.set_cons_zero, List.set_cons_succ, i64_w, i32_w]
         rfl
        exact norm_ (by first | (simp only [putAll, Act.put, List.setIfInBounds_toArray, List.set_cons_zero, List.set_cons_succ]; done) | (simp only [putAll, Act.put, List.setIfInBounds_toArray, List.set_cons_zero, List.set_cons_succ]; rfl)) (hJ2_4_11 (v207, gb215) _ ⟨hHeld, (ra_ HO208.out), (by (with_reducible repeat (first | refine blk_drewN ?_ _ | refine blk_drew ?_ | refine blk_alloc ?_ _)); exact BK192.out), (by (with_reducible repeat (first | refine blk_drewN ?_ _ | refine blk_drew ?_ | refine blk_alloc ?_ _)); exact BK193.out), (by (with_reducible repeat (first | refine blk_drewN ?_ _ | refine blk_drew ?_ | refine blk_alloc ?_ _)); exact BK202.out), (by (with_reducible repeat (first | refine blk_drewN ?_ _ | refine blk_drew ?_ | refine blk_alloc ?_ _)); exact BK215.out), GW215.out, GE215.out, NB197_215.out, NB215_197.out, NB192_215.out, NB215_192.out, NB193_215.out, NB215_193.out, NB202_215.out, NB215_202.out, (by repeat (first | (with_reducible first | exact HI197.out | apply IsS68.alloc | apply IsS68.drewN | apply IsS68.drew | apply IsS68.set_1 | apply IsS68.set_2 | refine IsS68.far ?_ NB197_192.out _ | refine IsS68.far ?_ NB197_193.out _ | refine IsS68.far ?_ NB197_202.out _ | refine IsS68.far ?_ NB197_215.out _) | exact HI197.out)), (by repeat (first | (with_reducible first | exact HB.out | apply below_alloc | apply pw_below_drewN | apply below_drew1 | refine below_set ?_ (IsS68.ge HI197.out) | refine below_set ?_ GE192.out | refine below_set ?_ GE193.out | refine below_set ?_ GE202.out | refine below_set ?_ GE215.out) | exact HB.out))⟩)
      ·skip
       rintro v207 w22 ⟨hS_, h0_, h1_, h2_, h3_, h4_, h5_⟩
       have HO208 : Aside0 (Kd.R (Kd.int .i64) 3 w22 w.heap.size (fun _ => True) v207 t206) := ⟨h0_⟩
       replace BK192 : Aside0 (w22.heap[gb192]? = some (.cells #[.int .i64 0, .int .i64 0, .slice none 0 0] 28 (0, 0))) := ⟨h1_⟩
       replace BK193 : Aside0 (w22.heap[gb193]? = some (.cells #[.slice none 0 0, .slice none 0 0] 32 (0, 0))) := ⟨h2_⟩
       replace BK202 : Aside0 (w22.heap[gb202]? = some (.cells #[.int .i64 t198, .int .i64 t199] 25 (0, 0))) := ⟨h3_⟩
       replace HI197 : Aside0 (IsS68 w w22 g197 t194 t204 t205) := ⟨h4_⟩
       replace HB : Aside0 (Below w.heap.size w w22) := ⟨h5_⟩
       clear h0_ h1_ h2_ h3_ h4_ h5_
       have hHeld : w22.cell? ⟨gb202, 0, none⟩ = some (.int .i64 t198) ∧ w22.cell? ⟨gb202, 1, none⟩ = some (.int .i64 t199) := hS_
       refine norm_ (a' := ?_) ?_ ?_
       rotate_left
       ·simp only [putAll, Act.put, List.setIfInBounds_toArray, List.set_cons_zero, List.set_cons_succ]
        rfl
       refine two_ (i := 7) (j := 11) (Ni := some 19) (Nj := some 7) #[true, true, true, true, true, true, true, true, false, false, false, false, false] #[true, true, true, true, true, true, true, false, false, false, false, true, false] rfl rfl rfl rfl (two_of HT_.out (by kernel_rfl)) (by decide) (by decide) (fun K hK => ?_) (fun K hK => ?_)
       ·skip
        refine goes_ Try.func16 (by kernel_rfl) rfl #[.pointer (some ⟨g197, 0, none⟩), .int .i64 4] (by rfl) rfl rfl (by (try simp only [List.map_toArray, List.map_cons, List.map_nil]); first | done | rfl | (simp only [List.length_drop, List.length_take]; rfl)) ?_
        with_reducible refine (spec_l01Below.calls g197 t194 t204 t205 4 t209 t210 t211 w _ ?side1 ?side2 A6.out).mono ?_
        (case side1 => repeat (first | (with_reducible first | exact HI197.out | apply IsS68.alloc | apply IsS68.drewN | apply IsS68.drew | apply IsS68.set_1 | apply IsS68.set_2 | refine IsS68.far ?_ NB197_192.out _ | refine IsS68.far ?_ NB197_193.out _ | refine IsS68.far ?_ NB197_202.out _) | exact HI197.out))
        (case side2 => repeat (first | (with_reducible first | exact HB.out | apply below_alloc | apply pw_below_drewN | apply below_drew1 | refine below_set ?_ (IsS68.ge HI197.out) | refine below_set ?_ GE192.out | refine below_set ?_ GE193.out | refine below_set ?_ GE202.out) | exact HB.out))
        rintro e w23 ⟨rfl, hi, hb, hk⟩
        refine ⟨_, rfl, ?_⟩
        replace BK192 := Aside0.mk (KeepBut.blk hk (g' := gb192) (o := .cells #[.int .i64 0, .int .i64 0, .slice none 0 0] 28 (0, 0)) (by (with_reducible repeat (first | refine blk_drewN ?_ _ | refine blk_drew ?_ | refine blk_alloc ?_ _)); exact BK192.out) NB192_197.out (by simp))
        replace BK193 := Aside0.mk (KeepBut.blk hk (g' := gb193) (o := .cells #[.slice none 0 0, .slice none 0 0] 32 (0, 0)) (by (with_reducible repeat (first | refine blk_drewN ?_ _ | refine blk_drew ?_ | refine blk_alloc ?_ _)); exact BK193.out) NB193_197.out (by simp))
        replace BK202 := Aside0.mk (KeepBut.blk hk (g' := gb202) (o := .cells #[.int .i64 t198, .int .i64 t199] 25 (0, 0)) (by (with_reducible repeat (first | refine blk_drewN ?_ _ | refine blk_drew ?_ | refine blk_alloc ?_ _)); exact BK202.out) NB202_197.out (by simp))
        replace HO208 := Aside0.mk (Kd.R_mono (Kd.R_keep (IsS68.apart (show IsS68 w _ g197 t194 t204 t205 from by repeat (first | (with_reducible first | exact HI197.out | apply IsS68.alloc | apply IsS68.drewN | apply IsS68.drew | apply IsS68.set_1 | apply IsS68.set_2 | refine IsS68.far ?_ NB197_192.out _ | refine IsS68.far ?_ NB197_193.out _ | refine IsS68.far ?_ NB197_202.out _) | exact HI197.out)) (ra_ HO208.out) (by decide)) hk (fun _ h => h.2)) (fun _ h => h.1))
        replace HB := Aside0.mk (hb)
        replace HI197 := Aside0.mk (hi)
        (try clear hb)
        (try clear hb2)
        (try clear hk)
        (try clear hi)
        refine hK.out _ _ ⟨(blk_cell BK202.out 0).trans rfl, (blk_cell BK202.out 1).trans rfl⟩ (fun hHeld => ?_)
        clear hK K
        refine norm_ (a' := ?_) ?_ ?_
        rotate_left
        ·show Act.put _ (some 19) _ = _
         simp only [Act.put, List.setIfInBounds_toArray, List.set_cons_zero, List.set_cons_succ, i64_w, i32_w]
         rfl
        refine pu_ 8 20 (bt_ 13 511) HT_ ?_
        exact norm_ (by first | (simp only [putAll, Act.put, List.setIfInBounds_toArray, List.set_cons_zero, List.set_cons_succ]; done) | (simp only [putAll, Act.put, List.setIfInBounds_toArray, List.set_cons_zero, List.set_cons_succ]; rfl)) (hJ2_4_7 (v207) _ ⟨hHeld, (ra_ HO208.out), (by (with_reducible repeat (first | refine blk_drewN ?_ _ | refine blk_drew ?_ | refine blk_alloc ?_ _)); exact BK192.out), (by (with_reducible repeat (first | refine blk_drewN ?_ _ | refine blk_drew ?_ | refine blk_alloc ?_ _)); exact BK193.out), (by (with_reducible repeat (first | refine blk_drewN ?_ _ | refine blk_drew ?_ | refine blk_alloc ?_ _)); exact BK202.out), (by repeat (first | (with_reducible first | exact HI197.out | apply IsS68.alloc | apply IsS68.drewN | apply IsS68.drew | apply IsS68.set_1 | apply IsS68.set_2 | refine IsS68.far ?_ NB197_192.out _ | refine IsS68.far ?_ NB197_193.out _ | refine IsS68.far ?_ NB197_202.out _) | exact HI197.out)), (by repeat (first | (with_reducible first | exact HB.out | apply below_alloc | apply pw_below_drewN | apply below_drew1 | refine below_set ?_ (IsS68.ge HI197.out) | refine below_set ?_ GE192.out | refine below_set ?_ GE193.out | refine below_set ?_ GE202.out) | exact HB.out))⟩)
       ·skip
        refine box_step ?hg (N := 7) ?hd (cs := #[.slice none 0 0, .slice none 0 0]) (t := 32) ?hr ?_; (case hd => rfl); (case hg => rfl); (case hr => first | (go_simp; done) | (go_simp; rfl))
        intro gb215 hg w23 hbox hb
        have n0_ := Aside0.mk (Kd.R_below (ra_ HO208.out) hb)
        have n1_ := Aside0.mk (bk_ BK192.out hb)
        have n2_ := Aside0.mk (bk_ BK193.out hb)
        have n3_ := Aside0.mk (IsS68.below (by repeat (first | (with_reducible first | exact HI197.out | apply IsS68.alloc | apply IsS68.drewN | apply IsS68.drew | apply IsS68.set_1 | apply IsS68.set_2 | refine IsS68.far ?_ NB197_192.out _ | refine IsS68.far ?_ NB197_193.out _ | refine IsS68.far ?_ NB197_202.out _) | exact HI197.out)) hb)
        have n4_ := Aside0.mk (bk_ BK202.out hb)
        have n5_ := Aside0.mk (below_step (by repeat (first | (with_reducible first | exact HB.out | apply below_alloc | apply pw_below_drewN | apply below_drew1 | refine below_set ?_ (IsS68.ge HI197.out) | refine below_set ?_ GE192.out | refine below_set ?_ GE193.out | refine below_set ?_ GE202.out) | exact HB.out)) hb)
        have n6_ := Aside0.mk (hbox)
        have n7_ := Aside0.mk ((by rw [hg]; exact (below_size (by repeat (first | (with_reducible first | exact HB.out | apply below_alloc | apply pw_below_drewN | apply below_drew1 | refine below_set ?_ (IsS68.ge HI197.out) | refine below_set ?_ GE192.out | refine below_set ?_ GE193.out | refine below_set ?_ GE202.out) | exact HB.out))) : w.heap.size ≤ gb215))
        have n8_ := Aside0.mk ((by rw [hg]; exact (below_size (by repeat (first | (with_reducible first | exact HB.out | apply below_alloc | apply pw_below_drewN | apply below_drew1 | refine below_set ?_ (IsS68.ge HI197.out) | refine below_set ?_ GE192.out | refine below_set ?_ GE193.out | refine below_set ?_ GE202.out) | exact HB.out))) : w.heap.size ≤ gb215))
        have n9_ := Aside0.mk ((by rw [hg]; exact Nat.ne_of_lt (bl_ BK192.out) : gb192 ≠ gb215))
        have n10_ := Aside0.mk ((by rw [hg]; exact Nat.ne_of_gt (bl_ BK192.out) : gb215 ≠ gb192))
        have n11_ := Aside0.mk ((by rw [hg]; exact Nat.ne_of_lt (bl_ BK193.out) : gb193 ≠ gb215))
        have n12_ := Aside0.mk ((by rw [hg]; exact Nat.ne_of_gt (bl_ BK193.out) : gb215 ≠ gb193))
        have n13_ := Aside0.mk ((by rw [hg]; exact Nat.ne_of_lt (bl_ BK202.out) : gb202 ≠ gb215))
        have n14_ := Aside0.mk ((by rw [hg]; exact Nat.ne_of_gt (bl_ BK202.out) : gb215 ≠ gb202))
        have n15_ := Aside0.mk ((by rw [hg]; exact Nat.ne_of_lt (IsS68.lt (show IsS68 w _ g197 t194 t204 t205 from by repeat (first | (with_reducible first | exact HI197.out | apply IsS68.alloc | apply IsS68.drewN | apply IsS68.drew | apply IsS68.set_1 | apply IsS68.set_2 | refine IsS68.far ?_ NB197_192.out _ | refine IsS68.far ?_ NB197_193.out _ | refine IsS68.far ?_ NB197_202.out _) | exact HI197.out))) : g197 ≠ gb215))
        have n16_ := Aside0.mk ((by rw [hg]; exact Nat.ne_of_gt (IsS68.lt (show IsS68 w _ g197 t194 t204 t205 from by repeat (first | (with_reducible first | exact HI197.out | apply IsS68.alloc | apply IsS68.drewN | apply IsS68.drew | apply IsS68.set_1 | apply IsS68.set_2 | refine IsS68.far ?_ NB197_192.out _ | refine IsS68.far ?_ NB197_193.out _ | refine IsS68.far ?_ NB197_202.out _) | exact HI197.out))) : gb215 ≠ g197))
        clear HO208 BK192 BK193 HI197 BK202 HB
        have HO208 := n0_
        have BK192 := n1_
        have BK193 := n2_
        have HI197 := n3_
        have BK202 := n4_
        have HB := n5_
        have BK215 := n6_
        have GW215 := n7_
        have GE215 := n8_
        have NB192_215 := n9_
        have NB215_192 := n10_
        have NB193_215 := n11_
        have NB215_193 := n12_
        have NB202_215 := n13_
        have NB215_202 := n14_
        have NB197_215 := n15_
        have NB215_197 := n16_
        clear n0_ n1_ n2_ n3_ n4_ n5_ n6_ n7_ n8_ n9_ n10_ n11_ n12_ n13_ n14_ n15_ n16_ hb hbox hg
        refine hK.out _ _ ⟨(blk_cell BK202.out 0).trans rfl, (blk_cell BK202.out 1).trans rfl⟩ (fun hHeld => ?_)
        clear hK K
        refine norm_ (a' := ?_) ?_ ?_
        rotate_left
        ·show Act.put _ (some 7) _ = _
         simp only [Act.put, List.setIfInBounds_toArray, List.set_cons_zero, List.set_cons_succ, i64_w, i32_w]
         rfl
        exact norm_ (by first | (simp only [putAll, Act.put, List.setIfInBounds_toArray, List.set_cons_zero, List.set_cons_succ]; done) | (simp only [putAll, Act.put, List.setIfInBounds_toArray, List.set_cons_zero, List.set_cons_succ]; rfl)) (hJ2_4_11 (v207, gb215) _ ⟨hHeld, (ra_ HO208.out), (by (with_reducible repeat (first | refine blk_drewN ?_ _ | refine blk_drew ?_ | refine blk_alloc ?_ _)); exact BK192.out), (by (with_reducible repeat (first | refine blk_drewN ?_ _ | refine blk_drew ?_ | refine blk_alloc ?_ _)); exact BK193.out), (by (with_reducible repeat (first | refine blk_drewN ?_ _ | refine blk_drew ?_ | refine blk_alloc ?_ _)); exact BK202.out), (by (with_reducible repeat (first | refine blk_drewN ?_ _ | refine blk_drew ?_ | refine blk_alloc ?_ _)); exact BK215.out), GW215.out, GE215.out, NB197_215.out, NB215_197.out, NB192_215.out, NB215_192.out, NB193_215.out, NB215_193.out, NB202_215.out, NB215_202.out, (by repeat (first | (with_reducible first | exact HI197.out | apply IsS68.alloc | apply IsS68.drewN | apply IsS68.drew | apply IsS68.set_1 | apply IsS68.set_2 | refine IsS68.far ?_ NB197_192.out _ | refine IsS68.far ?_ NB197_193.out _ | refine IsS68.far ?_ NB197_202.out _ | refine IsS68.far ?_ NB197_215.out _) | exact HI197.out)), (by repeat (first | (with_reducible first | exact HB.out | apply below_alloc | apply pw_below_drewN | apply below_drew1 | refine below_set ?_ (IsS68.ge HI197.out) | refine below_set ?_ GE192.out | refine below_set ?_ GE193.out | refine below_set ?_ GE202.out | refine below_set ?_ GE215.out) | exact HB.out))⟩)
     ·skip
      rintro ⟨v207, gb215⟩ w23 ⟨hS_, h0_, h1_, h2_, h3_, h4_, h5_, h6_, h7_, h8_, h9_, h10_, h11_, h12_, h13_, h14_, h15_, h16_⟩
      have HO208 : Aside0 (Kd.R (Kd.int .i64) 3 w23 w.heap.size (fun _ => True) v207 t206) := ⟨h0_⟩
      replace BK192 : Aside0 (w23.heap[gb192]? = some (.cells #[.int .i64 0, .int .i64 0, .slice none 0 0] 28 (0, 0))) := ⟨h1_⟩
      replace BK193 : Aside0 (w23.heap[gb193]? = some (.cells #[.slice none 0 0, .slice none 0 0] 32 (0, 0))) := ⟨h2_⟩
      replace BK202 : Aside0 (w23.heap[gb202]? = some (.cells #[.int .i64 t198, .int .i64 t199] 25 (0, 0))) := ⟨h3_⟩
      have BK215 : Aside0 (w23.heap[gb215]? = some (.cells #[.slice none 0 0, .slice none 0 0] 32 (0, 0))) := ⟨h4_⟩
      have GW215 : Aside0 (w.heap.size ≤ gb215) := ⟨h5_⟩
      have GE215 : Aside0 (w.heap.size ≤ gb215) := ⟨h6_⟩
      have NB197_215 : Aside0 (g197 ≠ gb215) := ⟨h7_⟩
      have NB215_197 : Aside0 (gb215 ≠ g197) := ⟨h8_⟩
      have NB192_215 : Aside0 (gb192 ≠ gb215) := ⟨h9_⟩
      have NB215_192 : Aside0 (gb215 ≠ gb192) := ⟨h10_⟩
      have NB193_215 : Aside0 (gb193 ≠ gb215) := ⟨h11_⟩
      have NB215_193 : Aside0 (gb215 ≠ gb193) := ⟨h12_⟩
      have NB202_215 : Aside0 (gb202 ≠ gb215) := ⟨h13_⟩
      have NB215_202 : Aside0 (gb215 ≠ gb202) := ⟨h14_⟩
      replace HI197 : Aside0 (IsS68 w w23 g197 t194 t204 t205) := ⟨h15_⟩
      replace HB : Aside0 (Below w.heap.size w w23) := ⟨h16_⟩
      clear h0_ h1_ h2_ h3_ h4_ h5_ h6_ h7_ h8_ h9_ h10_ h11_ h12_ h13_ h14_ h15_ h16_
      have hHeld : w23.cell? ⟨gb202, 0, none⟩ = some (.int .i64 t198) ∧ w23.cell? ⟨gb202, 1, none⟩ = some (.int .i64 t199) := hS_
      refine norm_ (a' := ?_) ?_ ?_
      rotate_left
      ·simp only [putAll, Act.put, List.setIfInBounds_toArray, List.set_cons_zero, List.set_cons_succ]
       rfl
      refine one_ (i := 7) (N := some 19) (bt_ 13 2303) rfl rfl (one_of HT_.out (by kernel_rfl)) (by decide) (fun K hK => ?_)
      refine goes_ Try.func16 (by kernel_rfl) rfl #[.pointer (some ⟨g197, 0, none⟩), .int .i64 4] (by rfl) rfl rfl (by (try simp only [List.map_toArray, List.map_cons, List.map_nil]); first | done | rfl | (simp only [List.length_drop, List.length_take]; rfl)) ?_
      with_reducible refine (spec_l01Below.calls g197 t194 t204 t205 4 t209 t210 t211 w _ ?side1 ?side2 A6.out).mono ?_
      (case side1 => repeat (first | (with_reducible first | exact HI197.out | apply IsS68.alloc | apply IsS68.drewN | apply IsS68.drew | apply IsS68.set_1 | apply IsS68.set_2 | refine IsS68.far ?_ NB197_192.out _ | refine IsS68.far ?_ NB197_193.out _ | refine IsS68.far ?_ NB197_202.out _ | refine IsS68.far ?_ NB197_215.out _) | exact HI197.out))
      (case side2 => repeat (first | (with_reducible first | exact HB.out | apply below_alloc | apply pw_below_drewN | apply below_drew1 | refine below_set ?_ (IsS68.ge HI197.out) | refine below_set ?_ GE192.out | refine below_set ?_ GE193.out | refine below_set ?_ GE202.out | refine below_set ?_ GE215.out) | exact HB.out))
      rintro e w24 ⟨rfl, hi, hb, hk⟩
      refine ⟨_, rfl, ?_⟩
      replace BK192 := Aside0.mk (KeepBut.blk hk (g' := gb192) (o := .cells #[.int .i64 0, .int .i64 0, .slice none 0 0] 28 (0, 0)) (by (with_reducible repeat (first | refine blk_drewN ?_ _ | refine blk_drew ?_ | refine blk_alloc ?_ _)); exact BK192.out) NB192_197.out (by simp))
      replace BK193 := Aside0.mk (KeepBut.blk hk (g' := gb193) (o := .cells #[.slice none 0 0, .slice none 0 0] 32 (0, 0)) (by (with_reducible repeat (first | refine blk_drewN ?_ _ | refine blk_drew ?_ | refine blk_alloc ?_ _)); exact BK193.out) NB193_197.out (by simp))
      replace BK202 := Aside0.mk (KeepBut.blk hk (g' := gb202) (o := .cells #[.int .i64 t198, .int .i64 t199] 25 (0, 0)) (by (with_reducible repeat (first | refine blk_drewN ?_ _ | refine blk_drew ?_ | refine blk_alloc ?_ _)); exact BK202.out) NB202_197.out (by simp))
      replace HO208 := Aside0.mk (Kd.R_mono (Kd.R_keep (IsS68.apart (show IsS68 w _ g197 t194 t204 t205 from by repeat (first | (with_reducible first | exact HI197.out | apply IsS68.alloc | apply IsS68.drewN | apply IsS68.drew | apply IsS68.set_1 | apply IsS68.set_2 | refine IsS68.far ?_ NB197_192.out _ | refine IsS68.far ?_ NB197_193.out _ | refine IsS68.far ?_ NB197_202.out _ | refine IsS68.far ?_ NB197_215.out _) | exact HI197.out)) (ra_ HO208.out) (by decide)) hk (fun _ h => h.2)) (fun _ h => h.1))
      replace BK215 := Aside0.mk (KeepBut.blk hk (g' := gb215) (o := .cells #[.slice none 0 0, .slice none 0 0] 32 (0, 0)) (by (with_reducible repeat (first | refine blk_drewN ?_ _ | refine blk_drew ?_ | refine blk_alloc ?_ _)); exact BK215.out) NB215_197.out (by simp))
      replace HB := Aside0.mk (hb)
      replace HI197 := Aside0.mk (hi)
      (try clear hb)
      (try clear hb2)
      (try clear hk)
      (try clear hi)
      refine hK.out _ _ ⟨(blk_cell BK202.out 0).trans rfl, (blk_cell BK202.out 1).trans rfl⟩ (fun hHeld => ?_)
      clear hK K
      refine norm_ (a' := ?_) ?_ ?_
      rotate_left
      ·show Act.put _ (some 19) _ = _
       simp only [Act.put, List.setIfInBounds_toArray, List.set_cons_zero, List.set_cons_succ, i64_w, i32_w]
       rfl
      refine pu_ 8 20 (bt_ 13 2559) HT_ ?_
      exact norm_ (by first | (simp only [putAll, Act.put, List.setIfInBounds_toArray, List.set_cons_zero, List.set_cons_succ]; done) | (simp only [putAll, Act.put, List.setIfInBounds_toArray, List.set_cons_zero, List.set_cons_succ]; rfl)) (hJ2_4_7_11 (v207, gb215) _ ⟨hHeld, (ra_ HO208.out), (by (with_reducible repeat (first | refine blk_drewN ?_ _ | refine blk_drew ?_ | refine blk_alloc ?_ _)); exact BK192.out), (by (with_reducible repeat (first | refine blk_drewN ?_ _ | refine blk_drew ?_ | refine blk_alloc ?_ _)); exact BK193.out), (by (with_reducible repeat (first | refine blk_drewN ?_ _ | refine blk_drew ?_ | refine blk_alloc ?_ _)); exact BK202.out), (by (with_reducible repeat (first | refine blk_drewN ?_ _ | refine blk_drew ?_ | refine blk_alloc ?_ _)); exact BK215.out), GW215.out, GE215.out, NB197_215.out, NB215_197.out, NB192_215.out, NB215_192.out, NB193_215.out, NB215_193.out, NB202_215.out, NB215_202.out, (by repeat (first | (with_reducible first | exact HI197.out | apply IsS68.alloc | apply IsS68.drewN | apply IsS68.drew | apply IsS68.set_1 | apply IsS68.set_2 | refine IsS68.far ?_ NB197_192.out _ | refine IsS68.far ?_ NB197_193.out _ | refine IsS68.far ?_ NB197_202.out _ | refine IsS68.far ?_ NB197_215.out _) | exact HI197.out)), (by repeat (first | (with_reducible first | exact HB.out | apply below_alloc | apply pw_below_drewN | apply below_drew1 | refine below_set ?_ (IsS68.ge HI197.out) | refine below_set ?_ GE192.out | refine below_set ?_ GE193.out | refine below_set ?_ GE202.out | refine below_set ?_ GE215.out) | exact HB.out))⟩)
    ·skip
     rintro v207 w23 ⟨hS_, h0_, h1_, h2_, h3_, h4_, h5_⟩
     have HO208 : Aside0 (Kd.R (Kd.int .i64) 3 w23 w.heap.size (fun _ => True) v207 t206) := ⟨h0_⟩
     replace BK192 : Aside0 (w23.heap[gb192]? = some (.cells #[.int .i64 0, .int .i64 0, .slice none 0 0] 28 (0, 0))) := ⟨h1_⟩
     replace BK193 : Aside0 (w23.heap[gb193]? = some (.cells #[.slice none 0 0, .slice none 0 0] 32 (0, 0))) := ⟨h2_⟩
     replace BK202 : Aside0 (w23.heap[gb202]? = some (.cells #[.int .i64 t198, .int .i64 t199] 25 (0, 0))) := ⟨h3_⟩
     replace HI197 : Aside0 (IsS68 w w23 g197 t194 t210 t211) := ⟨h4_⟩
     replace HB : Aside0 (Below w.heap.size w w23) := ⟨h5_⟩
     clear h0_ h1_ h2_ h3_ h4_ h5_
     have hHeld : w23.cell? ⟨gb202, 0, none⟩ = some (.int .i64 t198) ∧ w23.cell? ⟨gb202, 1, none⟩ = some (.int .i64 t199) := hS_
     refine norm_ (a' := ?_) ?_ ?_
     rotate_left
     ·simp only [putAll, Act.put, List.setIfInBounds_toArray, List.set_cons_zero, List.set_cons_succ]
      rfl
     refine two_ (i := 9) (j := 11) (Ni := some 21) (Nj := some 7) #[true, true, true, true, true, true, true, true, true, true, false, false, false] #[true, true, true, true, true, true, true, true, true, false, false, true, false] rfl rfl rfl rfl (two_of HT_.out (by kernel_rfl)) (by decide) (by decide) (fun K hK => ?_) (fun K hK => ?_)
     ·skip
      refine goes_ Try.func15 (by kernel_rfl) rfl #[.agg #[.int .i64 t198, .int .i64 t199], .int .i64 (wrap64 (1 + t209))] (by rfl) rfl rfl (by (try simp only [List.map_toArray, List.map_cons, List.map_nil]); first | done | rfl | (simp only [List.length_drop, List.length_take]; rfl)) ?_
      with_reducible refine (spec_l05Make.calls k t198 t199 (wrap64 (1 + t209)) t212 _ A7.out).mono ?_
      rintro e w24 ⟨v213, rfl, ho0, hb⟩
      refine ⟨_, rfl, ?_⟩
      have HO214 := Aside0.mk (Kd.R_lower (Kd.R_new' ho0 (rl_ HO208.out)) (below_size (by repeat (first | (with_reducible first | exact HB.out | apply below_alloc | apply pw_below_drewN | apply below_drew1 | refine below_set ?_ (IsS68.ge HI197.out) | refine below_set ?_ GE192.out | refine below_set ?_ GE193.out | refine below_set ?_ GE202.out) | exact HB.out))))
      replace HO208 := re_ HO208 ho0 hb
      replace BK192 := kb_ BK192 hb
      replace BK193 := kb_ BK193 hb
      replace BK202 := kb_ BK202 hb
      replace HB := Aside0.mk (below_step (by repeat (first | (with_reducible first | exact HB.out | apply below_alloc | apply pw_below_drewN | apply below_drew1 | refine below_set ?_ (IsS68.ge HI197.out) | refine below_set ?_ GE192.out | refine below_set ?_ GE193.out | refine below_set ?_ GE202.out) | exact HB.out)) hb)
      replace HI197 := Aside0.mk (IsS68.below (by repeat (first | (with_reducible first | exact HI197.out | apply IsS68.alloc | apply IsS68.drewN | apply IsS68.drew | apply IsS68.set_1 | apply IsS68.set_2 | refine IsS68.far ?_ NB197_192.out _ | refine IsS68.far ?_ NB197_193.out _ | refine IsS68.far ?_ NB197_202.out _) | exact HI197.out)) hb)
      (try clear hb)
      (try clear hb2)
      (try clear hk)
      (try clear hi)
      (try clear ho0)
      obtain ⟨Ao25, co25, eo25⟩ := Kd.R_slice HO214.out
      (first | subst eo25 | (injection eo25 with f1_ f2_ f3_; have f4_ := f1_.symm; have f5_ := f3_.symm; clear f1_ f2_ f3_; subst f4_; subst f5_))
      obtain ⟨Ao26, co26, eo26⟩ := Kd.R_slice HO208.out
      (first | subst eo26 | (injection eo26 with f1_ f2_ f3_; have f4_ := f1_.symm; have f5_ := f3_.symm; clear f1_ f2_ f3_; subst f4_; subst f5_))
      refine hK.out _ _ ⟨(blk_cell BK202.out 0).trans rfl, (blk_cell BK202.out 1).trans rfl⟩ (fun hHeld => ?_)
      clear hK K
      refine norm_ (a' := ?_) ?_ ?_
      rotate_left
      ·show Act.put _ (some 21) _ = _
       simp only [Act.put, List.setIfInBounds_toArray, List.set_cons_zero, List.set_cons_succ, i64_w, i32_w]
       rfl
      refine pu_ 10 22 (bt_ 13 2047) HT_ ?_
      exact norm_ (by first | (simp only [putAll, Act.put, List.setIfInBounds_toArray, List.set_cons_zero, List.set_cons_succ]; done) | (simp only [putAll, Act.put, List.setIfInBounds_toArray, List.set_cons_zero, List.set_cons_succ]; rfl)) (hJ2_4_7_9 (.slice Ao26 t206.length co26, .slice Ao25 t212.length co25) _ ⟨hHeld, (by (with_reducible repeat (first | apply Kd.R_alloc | apply Kd.R_drewN | apply Kd.R_drew)); exact Kd.R_mono HO208.out (fun _ hk => hk.2)), (by (with_reducible repeat (first | apply Kd.R_alloc | apply Kd.R_drewN | apply Kd.R_drew)); exact Kd.R_mono HO214.out (fun _ hk => hk.2)), (by (with_reducible repeat (first | refine blk_drewN ?_ _ | refine blk_drew ?_ | refine blk_alloc ?_ _)); exact BK192.out), (by (with_reducible repeat (first | refine blk_drewN ?_ _ | refine blk_drew ?_ | refine blk_alloc ?_ _)); exact BK193.out), (by (with_reducible repeat (first | refine blk_drewN ?_ _ | refine blk_drew ?_ | refine blk_alloc ?_ _)); exact BK202.out), (by repeat (first | (with_reducible first | exact HI197.out | apply IsS68.alloc | apply IsS68.drewN | apply IsS68.drew | apply IsS68.set_1 | apply IsS68.set_2 | refine IsS68.far ?_ NB197_192.out _ | refine IsS68.far ?_ NB197_193.out _ | refine IsS68.far ?_ NB197_202.out _) | exact HI197.out)), (by repeat (first | (with_reducible first | exact HB.out | apply below_alloc | apply pw_below_drewN | apply below_drew1 | refine below_set ?_ (IsS68.ge HI197.out) | refine below_set ?_ GE192.out | refine below_set ?_ GE193.out | refine below_set ?_ GE202.out) | exact HB.out))⟩)
     ·skip
      refine box_step ?hg (N := 7) ?hd (cs := #[.slice none 0 0, .slice none 0 0]) (t := 32) ?hr ?_; (case hd => rfl); (case hg => rfl); (case hr => first | (go_simp; done) | (go_simp; rfl))
      intro gb215 hg w24 hbox hb
      have n0_ := Aside0.mk (Kd.R_below (ra_ HO208.out) hb)
      have n1_ := Aside0.mk (bk_ BK192.out hb)
      have n2_ := Aside0.mk (bk_ BK193.out hb)
      have n3_ := Aside0.mk (IsS68.below (by repeat (first | (with_reducible first | exact HI197.out | apply IsS68.alloc | apply IsS68.drewN | apply IsS68.drew | apply IsS68.set_1 | apply IsS68.set_2 | refine IsS68.far ?_ NB197_192.out _ | refine IsS68.far ?_ NB197_193.out _ | refine IsS68.far ?_ NB197_202.out _) | exact HI197.out)) hb)
      have n4_ := Aside0.mk (bk_ BK202.out hb)
      have n5_ := Aside0.mk (below_step (by repeat (first | (with_reducible first | exact HB.out | apply below_alloc | apply pw_below_drewN | apply below_drew1 | refine below_set ?_ (IsS68.ge HI197.out) | refine below_set ?_ GE192.out | refine below_set ?_ GE193.out | refine below_set ?_ GE202.out) | exact HB.out)) hb)
      have n6_ := Aside0.mk (hbox)
      have n7_ := Aside0.mk ((by rw [hg]; exact (below_size (by repeat (first | (with_reducible first | exact HB.out | apply below_alloc | apply pw_below_drewN | apply below_drew1 | refine below_set ?_ (IsS68.ge HI197.out) | refine below_set ?_ GE192.out | refine below_set ?_ GE193.out | refine below_set ?_ GE202.out) | exact HB.out))) : w.heap.size ≤ gb215))
      have n8_ := Aside0.mk ((by rw [hg]; exact (below_size (by repeat (first | (with_reducible first | exact HB.out | apply below_alloc | apply pw_below_drewN | apply below_drew1 | refine below_set ?_ (IsS68.ge HI197.out) | refine below_set ?_ GE192.out | refine below_set ?_ GE193.out | refine below_set ?_ GE202.out) | exact HB.out))) : w.heap.size ≤ gb215))
      have n9_ := Aside0.mk ((by rw [hg]; exact Nat.ne_of_lt (bl_ BK192.out) : gb192 ≠ gb215))
      have n10_ := Aside0.mk ((by rw [hg]; exact Nat.ne_of_gt (bl_ BK192.out) : gb215 ≠ gb192))
      have n11_ := Aside0.mk ((by rw [hg]; exact Nat.ne_of_lt (bl_ BK193.out) : gb193 ≠ gb215))
      have n12_ := Aside0.mk ((by rw [hg]; exact Nat.ne_of_gt (bl_ BK193.out) : gb215 ≠ gb193))
      have n13_ := Aside0.mk ((by rw [hg]; exact Nat.ne_of_lt (bl_ BK202.out) : gb202 ≠ gb215))
      have n14_ := Aside0.mk ((by rw [hg]; exact Nat.ne_of_gt (bl_ BK202.out) : gb215 ≠ gb202))
      have n15_ := Aside0.mk ((by rw [hg]; exact Nat.ne_of_lt (IsS68.lt (show IsS68 w _ g197 t194 t210 t211 from by repeat (first | (with_reducible first | exact HI197.out | apply IsS68.alloc | apply IsS68.drewN | apply IsS68.drew | apply IsS68.set_1 | apply IsS68.set_2 | refine IsS68.far ?_ NB197_192.out _ | refine IsS68.far ?_ NB197_193.out _ | refine IsS68.far ?_ NB197_202.out _) | exact HI197.out))) : g197 ≠ gb215))
      have n16_ := Aside0.mk ((by rw [hg]; exact Nat.ne_of_gt (IsS68.lt (show IsS68 w _ g197 t194 t210 t211 from by repeat (first | (with_reducible first | exact HI197.out | apply IsS68.alloc | apply IsS68.drewN | apply IsS68.drew | apply IsS68.set_1 | apply IsS68.set_2 | refine IsS68.far ?_ NB197_192.out _ | refine IsS68.far ?_ NB197_193.out _ | refine IsS68.far ?_ NB197_202.out _) | exact HI197.out))) : gb215 ≠ g197))
      clear HO208 BK192 BK193 HI197 BK202 HB
      have HO208 := n0_
      have BK192 := n1_
      have BK193 := n2_
      have HI197 := n3_
      have BK202 := n4_
      have HB := n5_
      have BK215 := n6_
      have GW215 := n7_
      have GE215 := n8_
      have NB192_215 := n9_
      have NB215_192 := n10_
      have NB193_215 := n11_
      have NB215_193 := n12_
      have NB202_215 := n13_
      have NB215_202 := n14_
      have NB197_215 := n15_
      have NB215_197 := n16_
      clear n0_ n1_ n2_ n3_ n4_ n5_ n6_ n7_ n8_ n9_ n10_ n11_ n12_ n13_ n14_ n15_ n16_ hb hbox hg
      refine hK.out _ _ ⟨(blk_cell BK202.out 0).trans rfl, (blk_cell BK202.out 1).trans rfl⟩ (fun hHeld => ?_)
      clear hK K
      refine norm_ (a' := ?_) ?_ ?_
      rotate_left
      ·show Act.put _ (some 7) _ = _
       simp only [Act.put, List.setIfInBounds_toArray, List.set_cons_zero, List.set_cons_succ, i64_w, i32_w]
       rfl
      exact norm_ (by first | (simp only [putAll, Act.put, List.setIfInBounds_toArray, List.set_cons_zero, List.set_cons_succ]; done) | (simp only [putAll, Act.put, List.setIfInBounds_toArray, List.set_cons_zero, List.set_cons_succ]; rfl)) (hJ2_4_7_11 (v207, gb215) _ ⟨hHeld, (ra_ HO208.out), (by (with_reducible repeat (first | refine blk_drewN ?_ _ | refine blk_drew ?_ | refine blk_alloc ?_ _)); exact BK192.out), (by (with_reducible repeat (first | refine blk_drewN ?_ _ | refine blk_drew ?_ | refine blk_alloc ?_ _)); exact BK193.out), (by (with_reducible repeat (first | refine blk_drewN ?_ _ | refine blk_drew ?_ | refine blk_alloc ?_ _)); exact BK202.out), (by (with_reducible repeat (first | refine blk_drewN ?_ _ | refine blk_drew ?_ | refine blk_alloc ?_ _)); exact BK215.out), GW215.out, GE215.out, NB197_215.out, NB215_197.out, NB192_215.out, NB215_192.out, NB193_215.out, NB215_193.out, NB202_215.out, NB215_202.out, (by repeat (first | (with_reducible first | exact HI197.out | apply IsS68.alloc | apply IsS68.drewN | apply IsS68.drew | apply IsS68.set_1 | apply IsS68.set_2 | refine IsS68.far ?_ NB197_192.out _ | refine IsS68.far ?_ NB197_193.out _ | refine IsS68.far ?_ NB197_202.out _ | refine IsS68.far ?_ NB197_215.out _) | exact HI197.out)), (by repeat (first | (with_reducible first | exact HB.out | apply below_alloc | apply pw_below_drewN | apply below_drew1 | refine below_set ?_ (IsS68.ge HI197.out) | refine below_set ?_ GE192.out | refine below_set ?_ GE193.out | refine below_set ?_ GE202.out | refine below_set ?_ GE215.out) | exact HB.out))⟩)
   ·skip
    rintro ⟨v207, gb215⟩ w24 ⟨hS_, h0_, h1_, h2_, h3_, h4_, h5_, h6_, h7_, h8_, h9_, h10_, h11_, h12_, h13_, h14_, h15_, h16_⟩
    have HO208 : Aside0 (Kd.R (Kd.int .i64) 3 w24 w.heap.size (fun _ => True) v207 t206) := ⟨h0_⟩
    replace BK192 : Aside0 (w24.heap[gb192]? = some (.cells #[.int .i64 0, .int .i64 0, .slice none 0 0] 28 (0, 0))) := ⟨h1_⟩
    replace BK193 : Aside0 (w24.heap[gb193]? = some (.cells #[.slice none 0 0, .slice none 0 0] 32 (0, 0))) := ⟨h2_⟩
    replace BK202 : Aside0 (w24.heap[gb202]? = some (.cells #[.int .i64 t198, .int .i64 t199] 25 (0, 0))) := ⟨h3_⟩
    have BK215 : Aside0 (w24.heap[gb215]? = some (.cells #[.slice none 0 0, .slice none 0 0] 32 (0, 0))) := ⟨h4_⟩
    have GW215 : Aside0 (w.heap.size ≤ gb215) := ⟨h5_⟩
    have GE215 : Aside0 (w.heap.size ≤ gb215) := ⟨h6_⟩
    have NB197_215 : Aside0 (g197 ≠ gb215) := ⟨h7_⟩
    have NB215_197 : Aside0 (gb215 ≠ g197) := ⟨h8_⟩
    have NB192_215 : Aside0 (gb192 ≠ gb215) := ⟨h9_⟩
    have NB215_192 : Aside0 (gb215 ≠ gb192) := ⟨h10_⟩
    have NB193_215 : Aside0 (gb193 ≠ gb215) := ⟨h11_⟩
    have NB215_193 : Aside0 (gb215 ≠ gb193) := ⟨h12_⟩
    have NB202_215 : Aside0 (gb202 ≠ gb215) := ⟨h13_⟩
    have NB215_202 : Aside0 (gb215 ≠ gb202) := ⟨h14_⟩
    replace HI197 : Aside0 (IsS68 w w24 g197 t194 t210 t211) := ⟨h15_⟩
    replace HB : Aside0 (Below w.heap.size w w24) := ⟨h16_⟩
    clear h0_ h1_ h2_ h3_ h4_ h5_ h6_ h7_ h8_ h9_ h10_ h11_ h12_ h13_ h14_ h15_ h16_
    have hHeld : w24.cell? ⟨gb202, 0, none⟩ = some (.int .i64 t198) ∧ w24.cell? ⟨gb202, 1, none⟩ = some (.int .i64 t199) := hS_
    refine norm_ (a' := ?_) ?_ ?_
    rotate_left
    ·simp only [putAll, Act.put, List.setIfInBounds_toArray, List.set_cons_zero, List.set_cons_succ]
     rfl
    refine one_ (i := 9) (N := some 21) (bt_ 13 3071) rfl rfl (one_of HT_.out (by kernel_rfl)) (by decide) (fun K hK => ?_)
    refine goes_ Try.func15 (by kernel_rfl) rfl #[.agg #[.int .i64 t198, .int .i64 t199], .int .i64 (wrap64 (1 + t209))] (by rfl) rfl rfl (by (try simp only [List.map_toArray, List.map_cons, List.map_nil]); first | done | rfl | (simp only [List.length_drop, List.length_take]; rfl)) ?_
    with_reducible refine (spec_l05Make.calls k t198 t199 (wrap64 (1 + t209)) t212 _ A7.out).mono ?_
    rintro e w25 ⟨v213, rfl, ho0, hb⟩
    refine ⟨_, rfl, ?_⟩
    have HO214 := Aside0.mk (Kd.R_lower (Kd.R_new' ho0 (rl_ HO208.out)) (below_size (by repeat (first | (with_reducible first | exact HB.out | apply below_alloc | apply pw_below_drewN | apply below_drew1 | refine below_set ?_ (IsS68.ge HI197.out) | refine below_set ?_ GE192.out | refine below_set ?_ GE193.out | refine below_set ?_ GE202.out | refine below_set ?_ GE215.out) | exact HB.out))))
    replace HO208 := re_ HO208 ho0 hb
    replace BK192 := kb_ BK192 hb
    replace BK193 := kb_ BK193 hb
    replace BK202 := kb_ BK202 hb
    replace BK215 := kb_ BK215 hb
    replace HB := Aside0.mk (below_step (by repeat (first | (with_reducible first | exact HB.out | apply below_alloc | apply pw_below_drewN | apply below_drew1 | refine below_set ?_ (IsS68.ge HI197.out) | refine below_set ?_ GE192.out | refine below_set ?_ GE193.out | refine below_set ?_ GE202.out | refine below_set ?_ GE215.out) | exact HB.out)) hb)
    replace HI197 := Aside0.mk (IsS68.below (by repeat (first | (with_reducible first | exact HI197.out | apply IsS68.alloc | apply IsS68.drewN | apply IsS68.drew | apply IsS68.set_1 | apply IsS68.set_2 | refine IsS68.far ?_ NB197_192.out _ | refine IsS68.far ?_ NB197_193.out _ | refine IsS68.far ?_ NB197_202.out _ | refine IsS68.far ?_ NB197_215.out _) | exact HI197.out)) hb)
    (try clear hb)
    (try clear hb2)
    (try clear hk)
    (try clear hi)
    (try clear ho0)
    obtain ⟨Ao26, co26, eo26⟩ := Kd.R_slice HO214.out
    (first | subst eo26 | (injection eo26 with f1_ f2_ f3_; have f4_ := f1_.symm; have f5_ := f3_.symm; clear f1_ f2_ f3_; subst f4_; subst f5_))
    obtain ⟨Ao27, co27, eo27⟩ := Kd.R_slice HO208.out
    (first | subst eo27 | (injection eo27 with f1_ f2_ f3_; have f4_ := f1_.symm; have f5_ := f3_.symm; clear f1_ f2_ f3_; subst f4_; subst f5_))
    refine hK.out _ _ ⟨(blk_cell BK202.out 0).trans rfl, (blk_cell BK202.out 1).trans rfl⟩ (fun hHeld => ?_)
    clear hK K
    refine norm_ (a' := ?_) ?_ ?_
    rotate_left
    ·show Act.put _ (some 21) _ = _
     simp only [Act.put, List.setIfInBounds_toArray, List.set_cons_zero, List.set_cons_succ, i64_w, i32_w]
     rfl
    refine pu_ 10 22 (bt_ 13 4095) HT_ ?_
    exact norm_ (by first | (simp only [putAll, Act.put, List.setIfInBounds_toArray, List.set_cons_zero, List.set_cons_succ]; done) | (simp only [putAll, Act.put, List.setIfInBounds_toArray, List.set_cons_zero, List.set_cons_succ]; rfl)) (hJ2_4_7_9_11 (.slice Ao27 t206.length co27, .slice Ao26 t212.length co26, gb215) _ ⟨hHeld, (by (with_reducible repeat (first | apply Kd.R_alloc | apply Kd.R_drewN | apply Kd.R_drew)); exact Kd.R_mono HO208.out (fun _ hk => hk.2)), (by (with_reducible repeat (first | apply Kd.R_alloc | apply Kd.R_drewN | apply Kd.R_drew)); exact Kd.R_mono HO214.out (fun _ hk => hk.2)), (by (with_reducible repeat (first | refine blk_drewN ?_ _ | refine blk_drew ?_ | refine blk_alloc ?_ _)); exact BK192.out), (by (with_reducible repeat (first | refine blk_drewN ?_ _ | refine blk_drew ?_ | refine blk_alloc ?_ _)); exact BK193.out), (by (with_reducible repeat (first | refine blk_drewN ?_ _ | refine blk_drew ?_ | refine blk_alloc ?_ _)); exact BK202.out), (by (with_reducible repeat (first | refine blk_drewN ?_ _ | refine blk_drew ?_ | refine blk_alloc ?_ _)); exact BK215.out), GW215.out, GE215.out, NB197_215.out, NB215_197.out, NB192_215.out, NB215_192.out, NB193_215.out, NB215_193.out, NB202_215.out, NB215_202.out, (by repeat (first | (with_reducible first | exact HI197.out | apply IsS68.alloc | apply IsS68.drewN | apply IsS68.drew | apply IsS68.set_1 | apply IsS68.set_2 | refine IsS68.far ?_ NB197_192.out _ | refine IsS68.far ?_ NB197_193.out _ | refine IsS68.far ?_ NB197_202.out _ | refine IsS68.far ?_ NB197_215.out _) | exact HI197.out)), (by repeat (first | (with_reducible first | exact HB.out | apply below_alloc | apply pw_below_drewN | apply below_drew1 | refine below_set ?_ (IsS68.ge HI197.out) | refine below_set ?_ GE192.out | refine below_set ?_ GE193.out | refine below_set ?_ GE202.out | refine below_set ?_ GE215.out) | exact HB.out))⟩)
  ·skip
   rintro ⟨v207, v213⟩ w26 ⟨hS_, h0_, h1_, h2_, h3_, h4_, h5_, h6_⟩
   have HO208 : Aside0 (Kd.R (Kd.int .i64) 3 w26 w.heap.size (fun k_ => some k_ ≠ (v213 : Value).ownBlock) v207 t206) := ⟨h0_⟩
   have HO214 : Aside0 (Kd.R (Kd.int .i64) 3 w26 w.heap.size (fun k_ => some k_ ≠ (v207 : Value).ownBlock) v213 t212) := ⟨h1_⟩
   replace BK192 : Aside0 (w26.heap[gb192]? = some (.cells #[.int .i64 0, .int .i64 0, .slice none 0 0] 28 (0, 0))) := ⟨h2_⟩
   replace BK193 : Aside0 (w26.heap[gb193]? = some (.cells #[.slice none 0 0, .slice none 0 0] 32 (0, 0))) := ⟨h3_⟩
   replace BK202 : Aside0 (w26.heap[gb202]? = some (.cells #[.int .i64 t198, .int .i64 t199] 25 (0, 0))) := ⟨h4_⟩
   replace HI197 : Aside0 (IsS68 w w26 g197 t194 t210 t211) := ⟨h5_⟩
   replace HB : Aside0 (Below w.heap.size w w26) := ⟨h6_⟩
   clear h0_ h1_ h2_ h3_ h4_ h5_ h6_
   have hHeld : w26.cell? ⟨gb202, 0, none⟩ = some (.int .i64 t198) ∧ w26.cell? ⟨gb202, 1, none⟩ = some (.int .i64 t199) := hS_
   obtain ⟨Ao27, co27, eo27⟩ := Kd.R_slice HO214.out
   (first | subst eo27 | (injection eo27 with f1_ f2_ f3_; have f4_ := f1_.symm; have f5_ := f3_.symm; clear f1_ f2_ f3_; subst f4_; subst f5_))
   obtain ⟨Ao28, co28, eo28⟩ := Kd.R_slice HO208.out
   (first | subst eo28 | (injection eo28 with f1_ f2_ f3_; have f4_ := f1_.symm; have f5_ := f3_.symm; clear f1_ f2_ f3_; subst f4_; subst f5_))
   refine norm_ (a' := ?_) ?_ ?_
   rotate_left
   ·simp only [putAll, Act.put, List.setIfInBounds_toArray, List.set_cons_zero, List.set_cons_succ]
    rfl
   refine one_ (i := 11) (N := some 7) (bt_ 13 4095) rfl rfl (one_of HT_.out (by kernel_rfl)) (by decide) (fun K hK => ?_)
   refine box_step ?hg (N := 7) ?hd (cs := #[.slice none 0 0, .slice none 0 0]) (t := 32) ?hr ?_; (case hd => rfl); (case hg => rfl); (case hr => first | (go_simp; done) | (go_simp; rfl))
   intro gb215 hg w29 hbox hb
   have n0_ := Aside0.mk (Kd.R_below (ra_ HO208.out) hb)
   have n1_ := Aside0.mk (Kd.R_below (ra_ HO214.out) hb)
   have n2_ := Aside0.mk (bk_ BK192.out hb)
   have n3_ := Aside0.mk (bk_ BK193.out hb)
   have n4_ := Aside0.mk (IsS68.below (by repeat (first | (with_reducible first | exact HI197.out | apply IsS68.alloc | apply IsS68.drewN | apply IsS68.drew | apply IsS68.set_1 | apply IsS68.set_2 | refine IsS68.far ?_ NB197_192.out _ | refine IsS68.far ?_ NB197_193.out _ | refine IsS68.far ?_ NB197_202.out _) | exact HI197.out)) hb)
   have n5_ := Aside0.mk (bk_ BK202.out hb)
   have n6_ := Aside0.mk (below_step (by repeat (first | (with_reducible first | exact HB.out | apply below_alloc | apply pw_below_drewN | apply below_drew1 | refine below_set ?_ (IsS68.ge HI197.out) | refine below_set ?_ GE192.out | refine below_set ?_ GE193.out | refine below_set ?_ GE202.out) | exact HB.out)) hb)
   have n7_ := Aside0.mk (hbox)
   have n8_ := Aside0.mk ((by rw [hg]; exact (below_size (by repeat (first | (with_reducible first | exact HB.out | apply below_alloc | apply pw_below_drewN | apply below_drew1 | refine below_set ?_ (IsS68.ge HI197.out) | refine below_set ?_ GE192.out | refine below_set ?_ GE193.out | refine below_set ?_ GE202.out) | exact HB.out))) : w.heap.size ≤ gb215))
   have n9_ := Aside0.mk ((by rw [hg]; exact (below_size (by repeat (first | (with_reducible first | exact HB.out | apply below_alloc | apply pw_below_drewN | apply below_drew1 | refine below_set ?_ (IsS68.ge HI197.out) | refine below_set ?_ GE192.out | refine below_set ?_ GE193.out | refine below_set ?_ GE202.out) | exact HB.out))) : w.heap.size ≤ gb215))
   have n10_ := Aside0.mk ((by rw [hg]; exact Nat.ne_of_lt (bl_ BK192.out) : gb192 ≠ gb215))
   have n11_ := Aside0.mk ((by rw [hg]; exact Nat.ne_of_gt (bl_ BK192.out) : gb215 ≠ gb192))
   have n12_ := Aside0.mk ((by rw [hg]; exact Nat.ne_of_lt (bl_ BK193.out) : gb193 ≠ gb215))
   have n13_ := Aside0.mk ((by rw [hg]; exact Nat.ne_of_gt (bl_ BK193.out) : gb215 ≠ gb193))
   have n14_ := Aside0.mk ((by rw [hg]; exact Nat.ne_of_lt (bl_ BK202.out) : gb202 ≠ gb215))
   have n15_ := Aside0.mk ((by rw [hg]; exact Nat.ne_of_gt (bl_ BK202.out) : gb215 ≠ gb202))
   have n16_ := Aside0.mk ((by rw [hg]; exact Nat.ne_of_lt (IsS68.lt (show IsS68 w _ g197 t194 t210 t211 from by repeat (first | (with_reducible first | exact HI197.out | apply IsS68.alloc | apply IsS68.drewN | apply IsS68.drew | apply IsS68.set_1 | apply IsS68.set_2 | refine IsS68.far ?_ NB197_192.out _ | refine IsS68.far ?_ NB197_193.out _ | refine IsS68.far ?_ NB197_202.out _) | exact HI197.out))) : g197 ≠ gb215))
   have n17_ := Aside0.mk ((by rw [hg]; exact Nat.ne_of_gt (IsS68.lt (show IsS68 w _ g197 t194 t210 t211 from by repeat (first | (with_reducible first | exact HI197.out | apply IsS68.alloc | apply IsS68.drewN | apply IsS68.drew | apply IsS68.set_1 | apply IsS68.set_2 | refine IsS68.far ?_ NB197_192.out _ | refine IsS68.far ?_ NB197_193.out _ | refine IsS68.far ?_ NB197_202.out _) | exact HI197.out))) : gb215 ≠ g197))
   clear HO208 HO214 BK192 BK193 HI197 BK202 HB
   have HO208 := n0_
   have HO214 := n1_
   have BK192 := n2_
   have BK193 := n3_
   have HI197 := n4_
   have BK202 := n5_
   have HB := n6_
   have BK215 := n7_
   have GW215 := n8_
   have GE215 := n9_
   have NB192_215 := n10_
   have NB215_192 := n11_
   have NB193_215 := n12_
   have NB215_193 := n13_
   have NB202_215 := n14_
   have NB215_202 := n15_
   have NB197_215 := n16_
   have NB215_197 := n17_
   clear n0_ n1_ n2_ n3_ n4_ n5_ n6_ n7_ n8_ n9_ n10_ n11_ n12_ n13_ n14_ n15_ n16_ n17_ hb hbox hg
   refine hK.out _ _ ⟨(blk_cell BK202.out 0).trans rfl, (blk_cell BK202.out 1).trans rfl⟩ (fun hHeld => ?_)
   clear hK K
   refine norm_ (a' := ?_) ?_ ?_
   rotate_left
   ·show Act.put _ (some 7) _ = _
    simp only [Act.put, List.setIfInBounds_toArray, List.set_cons_zero, List.set_cons_succ, i64_w, i32_w]
    rfl
   exact norm_ (by first | (simp only [putAll, Act.put, List.setIfInBounds_toArray, List.set_cons_zero, List.set_cons_succ]; done) | (simp only [putAll, Act.put, List.setIfInBounds_toArray, List.set_cons_zero, List.set_cons_succ]; rfl)) (hJ2_4_7_9_11 (.slice Ao28 t206.length co28, .slice Ao27 t212.length co27, gb215) _ ⟨hHeld, (ra_ HO208.out), (ra_ HO214.out), (by (with_reducible repeat (first | refine blk_drewN ?_ _ | refine blk_drew ?_ | refine blk_alloc ?_ _)); exact BK192.out), (by (with_reducible repeat (first | refine blk_drewN ?_ _ | refine blk_drew ?_ | refine blk_alloc ?_ _)); exact BK193.out), (by (with_reducible repeat (first | refine blk_drewN ?_ _ | refine blk_drew ?_ | refine blk_alloc ?_ _)); exact BK202.out), (by (with_reducible repeat (first | refine blk_drewN ?_ _ | refine blk_drew ?_ | refine blk_alloc ?_ _)); exact BK215.out), GW215.out, GE215.out, NB197_215.out, NB215_197.out, NB192_215.out, NB215_192.out, NB193_215.out, NB215_193.out, NB202_215.out, NB215_202.out, (by repeat (first | (with_reducible first | exact HI197.out | apply IsS68.alloc | apply IsS68.drewN | apply IsS68.drew | apply IsS68.set_1 | apply IsS68.set_2 | refine IsS68.far ?_ NB197_192.out _ | refine IsS68.far ?_ NB197_193.out _ | refine IsS68.far ?_ NB197_202.out _ | refine IsS68.far ?_ NB197_215.out _) | exact HI197.out)), (by repeat (first | (with_reducible first | exact HB.out | apply below_alloc | apply pw_below_drewN | apply below_drew1 | refine below_set ?_ (IsS68.ge HI197.out) | refine below_set ?_ GE192.out | refine below_set ?_ GE193.out | refine below_set ?_ GE202.out | refine below_set ?_ GE215.out) | exact HB.out))⟩)
 rintro ⟨v207, v213, gb215⟩ w27 ⟨hS_, h0_, h1_, h2_, h3_, h4_, h5_, h6_, h7_, h8_, h9_, h10_, h11_, h12_, h13_, h14_, h15_, h16_, h17_⟩
 have HO208 : Aside0 (Kd.R (Kd.int .i64) 3 w27 w.heap.size (fun k_ => some k_ ≠ (v213 : Value).ownBlock) v207 t206) := ⟨h0_⟩
 have HO214 : Aside0 (Kd.R (Kd.int .i64) 3 w27 w.heap.size (fun k_ => some k_ ≠ (v207 : Value).ownBlock) v213 t212) := ⟨h1_⟩
 replace BK192 : Aside0 (w27.heap[gb192]? = some (.cells #[.int .i64 0, .int .i64 0, .slice none 0 0] 28 (0, 0))) := ⟨h2_⟩
 replace BK193 : Aside0 (w27.heap[gb193]? = some (.cells #[.slice none 0 0, .slice none 0 0] 32 (0, 0))) := ⟨h3_⟩
 replace BK202 : Aside0 (w27.heap[gb202]? = some (.cells #[.int .i64 t198, .int .i64 t199] 25 (0, 0))) := ⟨h4_⟩
 have BK215 : Aside0 (w27.heap[gb215]? = some (.cells #[.slice none 0 0, .slice none 0 0] 32 (0, 0))) := ⟨h5_⟩
 have GW215 : Aside0 (w.heap.size ≤ gb215) := ⟨h6_⟩
 have GE215 : Aside0 (w.heap.size ≤ gb215) := ⟨h7_⟩
 have NB197_215 : Aside0 (g197 ≠ gb215) := ⟨h8_⟩
 have NB215_197 : Aside0 (gb215 ≠ g197) := ⟨h9_⟩
 have NB192_215 : Aside0 (gb192 ≠ gb215) := ⟨h10_⟩
 have NB215_192 : Aside0 (gb215 ≠ gb192) := ⟨h11_⟩
 have NB193_215 : Aside0 (gb193 ≠ gb215) := ⟨h12_⟩
 have NB215_193 : Aside0 (gb215 ≠ gb193) := ⟨h13_⟩
 have NB202_215 : Aside0 (gb202 ≠ gb215) := ⟨h14_⟩
 have NB215_202 : Aside0 (gb215 ≠ gb202) := ⟨h15_⟩
 replace HI197 : Aside0 (IsS68 w w27 g197 t194 t210 t211) := ⟨h16_⟩
 replace HB : Aside0 (Below w.heap.size w w27) := ⟨h17_⟩
 clear h0_ h1_ h2_ h3_ h4_ h5_ h6_ h7_ h8_ h9_ h10_ h11_ h12_ h13_ h14_ h15_ h16_ h17_
 have hHeld : w27.cell? ⟨gb202, 0, none⟩ = some (.int .i64 t198) ∧ w27.cell? ⟨gb202, 1, none⟩ = some (.int .i64 t199) := hS_
 obtain ⟨Ao28, co28, eo28⟩ := Kd.R_slice HO214.out
 (first | subst eo28 | (injection eo28 with f1_ f2_ f3_; have f4_ := f1_.symm; have f5_ := f3_.symm; clear f1_ f2_ f3_; subst f4_; subst f5_))
 obtain ⟨Ao29, co29, eo29⟩ := Kd.R_slice HO208.out
 (first | subst eo29 | (injection eo29 with f1_ f2_ f3_; have f4_ := f1_.symm; have f5_ := f3_.symm; clear f1_ f2_ f3_; subst f4_; subst f5_))
 refine norm_ (a' := ?_) ?_ ?_
 rotate_left
 ·simp only [putAll, Act.put, List.setIfInBounds_toArray, List.set_cons_zero, List.set_cons_succ]
  rfl
 refine one_ (i := 12) (N := none) (bt_ 13 8191) rfl rfl (one_of HT_.out (by kernel_rfl)) (by decide) (fun K hK => ?_)
 have hs30 : w27.cell? ⟨gb215, 0, none⟩ = some (.slice none 0 0) := (blk_cell BK215.out 0).trans rfl
 have hfs30 := blk_frozen BK215.out 0
 have hns30_0 := NB192_215.out
 have hns30_1 := NB193_215.out
 have hns30_2 := NB202_215.out
 have hms30_0 := NB215_192.out
 have hms30_1 := NB215_193.out
 have hms30_2 := NB215_202.out
 have hs31 : w27.cell? ⟨gb215, 1, none⟩ = some (.slice none 0 0) := (blk_cell BK215.out 1).trans rfl
 have hfs31 := blk_frozen BK215.out 1
 have hns31_0 := NB192_215.out
 have hns31_1 := NB193_215.out
 have hns31_2 := NB202_215.out
 have hms31_0 := NB215_192.out
 have hms31_1 := NB215_193.out
 have hms31_2 := NB215_202.out
 refine skip_ (w1 := ?_) (by rfl) rfl ?_ ?_
 rotate_left
 ·go_simp
  rfl
 refine hK.out _ _ ⟨((cell_far (p := ⟨gb215, _, none⟩) NB202_215.out _).trans (((cell_far (p := ⟨gb215, _, none⟩) NB202_215.out _).trans (hHeld.1)))), ((cell_far (p := ⟨gb215, _, none⟩) NB202_215.out _).trans (((cell_far (p := ⟨gb215, _, none⟩) NB202_215.out _).trans (hHeld.2))))⟩ (fun hHeld => ?_)
 clear hK K
 refine done_ (done_of HT_.out (by kernel_rfl)) ?_
 try go_wp2
 have n0_ : Aside0 (Kd.R (Kd.int .i64) 3 ((w27.setCell ⟨gb215, 0, none⟩ (.slice Ao29 t206.length co29)).setCell ⟨gb215, 1, none⟩ (.slice Ao28 t212.length co28)) w.heap.size (fun k_ => some k_ ≠ (.slice Ao28 t212.length co28 : Value).ownBlock) (.slice Ao29 t206.length co29) t206) := ⟨rm_ (Kd.R_types HO208.out BK215.out (by decide)) (fun _ hk => hk.1)⟩
 have n1_ : Aside0 (Kd.R (Kd.int .i64) 3 ((w27.setCell ⟨gb215, 0, none⟩ (.slice Ao29 t206.length co29)).setCell ⟨gb215, 1, none⟩ (.slice Ao28 t212.length co28)) w.heap.size (fun k_ => some k_ ≠ (.slice Ao29 t206.length co29 : Value).ownBlock) (.slice Ao28 t212.length co28) t212) := ⟨rm_ (Kd.R_types HO214.out BK215.out (by decide)) (fun _ hk => hk.1)⟩
 have n2_ : Aside0 (((w27.setCell ⟨gb215, 0, none⟩ (.slice Ao29 t206.length co29)).setCell ⟨gb215, 1, none⟩ (.slice Ao28 t212.length co28)).heap[gb192]? = some (.cells #[.int .i64 0, .int .i64 0, .slice none 0 0] 28 (0, 0))) := ⟨by (with_reducible repeat (first | refine blk_drewN ?_ _ | refine blk_drew ?_ | refine blk_alloc ?_ _)); refine blk_far ?_ NB192_215.out _; (with_reducible repeat (first | refine blk_drewN ?_ _ | refine blk_drew ?_ | refine blk_alloc ?_ _)); refine blk_far ?_ NB192_215.out _; (with_reducible repeat (first | refine blk_drewN ?_ _ | refine blk_drew ?_ | refine blk_alloc ?_ _)); exact BK192.out⟩
 have n3_ : Aside0 (((w27.setCell ⟨gb215, 0, none⟩ (.slice Ao29 t206.length co29)).setCell ⟨gb215, 1, none⟩ (.slice Ao28 t212.length co28)).heap[gb193]? = some (.cells #[.slice none 0 0, .slice none 0 0] 32 (0, 0))) := ⟨by (with_reducible repeat (first | refine blk_drewN ?_ _ | refine blk_drew ?_ | refine blk_alloc ?_ _)); refine blk_far ?_ NB193_215.out _; (with_reducible repeat (first | refine blk_drewN ?_ _ | refine blk_drew ?_ | refine blk_alloc ?_ _)); refine blk_far ?_ NB193_215.out _; (with_reducible repeat (first | refine blk_drewN ?_ _ | refine blk_drew ?_ | refine blk_alloc ?_ _)); exact BK193.out⟩
 have n4_ : Aside0 (((w27.setCell ⟨gb215, 0, none⟩ (.slice Ao29 t206.length co29)).setCell ⟨gb215, 1, none⟩ (.slice Ao28 t212.length co28)).heap[gb202]? = some (.cells #[.int .i64 t198, .int .i64 t199] 25 (0, 0))) := ⟨by (with_reducible repeat (first | refine blk_drewN ?_ _ | refine blk_drew ?_ | refine blk_alloc ?_ _)); refine blk_far ?_ NB202_215.out _; (with_reducible repeat (first | refine blk_drewN ?_ _ | refine blk_drew ?_ | refine blk_alloc ?_ _)); refine blk_far ?_ NB202_215.out _; (with_reducible repeat (first | refine blk_drewN ?_ _ | refine blk_drew ?_ | refine blk_alloc ?_ _)); exact BK202.out⟩
 have n5_ : Aside0 (((w27.setCell ⟨gb215, 0, none⟩ (.slice Ao29 t206.length co29)).setCell ⟨gb215, 1, none⟩ (.slice Ao28 t212.length co28)).heap[gb215]? = some (.cells #[.slice Ao29 t206.length co29, .slice Ao28 t212.length co28] 32 (0, 0))) := ⟨by (with_reducible repeat (first | refine blk_drewN ?_ _ | refine blk_drew ?_ | refine blk_alloc ?_ _)); refine blk_put (cs := #[.slice Ao29 t206.length co29, .slice none 0 0]) ?_ 1 _ rfl; (with_reducible repeat (first | refine blk_drewN ?_ _ | refine blk_drew ?_ | refine blk_alloc ?_ _)); refine blk_put (cs := #[.slice none 0 0, .slice none 0 0]) ?_ 0 _ rfl; (with_reducible repeat (first | refine blk_drewN ?_ _ | refine blk_drew ?_ | refine blk_alloc ?_ _)); exact BK215.out⟩
 have n6_ : Aside0 (IsS68 w ((w27.setCell ⟨gb215, 0, none⟩ (.slice Ao29 t206.length co29)).setCell ⟨gb215, 1, none⟩ (.slice Ao28 t212.length co28)) g197 t194 t210 t211) := ⟨by repeat (first | (with_reducible first | exact HI197.out | apply IsS68.alloc | apply IsS68.drewN | apply IsS68.drew | apply IsS68.set_1 | apply IsS68.set_2 | refine IsS68.far ?_ NB197_192.out _ | refine IsS68.far ?_ NB197_193.out _ | refine IsS68.far ?_ NB197_202.out _ | refine IsS68.far ?_ NB197_215.out _) | exact HI197.out)⟩
 have n7_ : Aside0 (Below w.heap.size w ((w27.setCell ⟨gb215, 0, none⟩ (.slice Ao29 t206.length co29)).setCell ⟨gb215, 1, none⟩ (.slice Ao28 t212.length co28))) := ⟨by repeat (first | (with_reducible first | exact HB.out | apply below_alloc | apply pw_below_drewN | apply below_drew1 | refine below_set ?_ (IsS68.ge HI197.out) | refine below_set ?_ GE192.out | refine below_set ?_ GE193.out | refine below_set ?_ GE202.out | refine below_set ?_ GE215.out) | exact HB.out)⟩
 (try clear HO208)
 (try clear HO214)
 (try clear BK192)
 (try clear BK193)
 (try clear BK202)
 (try clear BK215)
 (try clear HI197)
 (try clear HB)
 generalize ((w27.setCell ⟨gb215, 0, none⟩ (.slice Ao29 t206.length co29)).setCell ⟨gb215, 1, none⟩ (.slice Ao28 t212.length co28)) = w32 at n0_ n1_ n2_ n3_ n4_ n5_ n6_ n7_ ⊢
 have HO208 := n0_
 have HO214 := n1_
 have BK192 := n2_
 have BK193 := n3_
 have BK202 := n4_
 have BK215 := n5_
 have HI197 := n6_
 have HB := n7_
 clear n0_ n1_ n2_ n3_ n4_ n5_ n6_ n7_
 replace HO208 := Aside0.mk (Kd.R_drew HO208.out)
 replace HO214 := Aside0.mk (Kd.R_drew HO214.out)
 replace BK192 := Aside0.mk (blk_drew BK192.out)
 replace BK193 := Aside0.mk (blk_drew BK193.out)
 replace BK202 := Aside0.mk (blk_drew BK202.out)
 replace BK215 := Aside0.mk (blk_drew BK215.out)
 replace HI197 := Aside0.mk (IsS68.drew HI197.out)
 replace HB := Aside0.mk (below_drew1 HB.out)
 refine start_ (n := 9) (S := fun w' => w'.cell? ⟨gb202, 0, none⟩ = some (.int .i64 t198) ∧ w'.cell? ⟨gb202, 1, none⟩ = some (.int .i64 t199) ∧ w'.cell? ⟨gb215, 0, none⟩ = some (.slice Ao29 t206.length co29) ∧ w'.cell? ⟨gb215, 1, none⟩ = some (.slice Ao28 t212.length co28)) (ds := []) #[false, false, false, false, false, false, false, false, false] (by kernel_rfl) rfl rfl ⟨(blk_cell BK202.out 0).trans rfl, (blk_cell BK202.out 1).trans rfl, (blk_cell BK215.out 0).trans rfl, (blk_cell BK215.out 1).trans rfl⟩ (fun hHeld => ?_); refine with_tabW spec_DrawTraffic.tab4 spec_DrawTraffic.bits4 (fun HT_ HW_ => ?_)
 generalize w32.drew = w33 at HO208 HO214 BK192 BK193 BK202 BK215 HI197 HB hHeld ⊢
 refine pu_ 3 26 (bt_ 9 8) HT_ ?_
 refine take_ (i := 0) (N := some 23) (v := ?_) (a' := ?_) (bt_ 9 9) rfl rfl (take_ofW HT_.out HW_.out (by kernel_rfl)) (fun _ _ _ h => h) (Or.inl ⟨by rfl, ?_⟩) hHeld ?_ ?_
 rotate_left
 ·rintro w' ⟨s0, s1, s2, s3⟩
  go_simp
  with_reducible rfl
 rotate_left
 ·simp only [Act.put, List.setIfInBounds_toArray, List.set_cons_zero, List.set_cons_succ, i64_w, i32_w]
  rfl
 refine pu_ 1 24 (bt_ 9 11) HT_ ?_
 refine take_ (i := 2) (N := some 25) (v := ?_) (a' := ?_) (bt_ 9 15) rfl rfl (take_ofW HT_.out HW_.out (by kernel_rfl)) (fun _ _ _ h => h) (Or.inl ⟨by rfl, ?_⟩) hHeld ?_ ?_
 rotate_left
 ·rintro w' ⟨s0, s1, s2, s3⟩
  go_simp
  with_reducible rfl
 rotate_left
 ·simp only [Act.put, List.setIfInBounds_toArray, List.set_cons_zero, List.set_cons_succ, i64_w, i32_w]
  rfl
 refine take_ (i := 4) (N := some 27) (v := ?_) (a' := ?_) (bt_ 9 31) rfl rfl (take_ofW HT_.out HW_.out (by kernel_rfl)) (fun _ _ _ h => h) (Or.inl ⟨by rfl, ?_⟩) hHeld ?_ ?_
 rotate_left
 ·rintro w' ⟨s0, s1, s2, s3⟩
  go_simp
  with_reducible rfl
 rotate_left
 ·simp only [Act.put, List.setIfInBounds_toArray, List.set_cons_zero, List.set_cons_succ, i64_w, i32_w]
  rfl
 refine one_ (i := 5) (N := some 28) (bt_ 9 63) rfl rfl (one_of HT_.out (by kernel_rfl)) (by decide) (fun K hK => ?_)
 refine goes_ Try.func17 (by kernel_rfl) rfl #[.pointer (some ⟨g197, 0, none⟩), .agg #[.int .i64 t198, .int .i64 t199]] (by rfl) rfl rfl (by (try simp only [List.map_toArray, List.map_cons, List.map_nil]); first | done | rfl | (simp only [List.length_drop, List.length_take]; rfl)) ?_
 with_reducible refine (spec_l16Packets.calls k g197 t194 t210 t211 t198 t199 t216 t219 t220 w _ ?side1 ?side2 A8.out).mono ?_
 (case side1 => repeat (first | (with_reducible first | exact HI197.out | apply IsS68.alloc | apply IsS68.drewN | apply IsS68.drew | apply IsS68.set_1 | apply IsS68.set_2 | refine IsS68.far ?_ NB197_192.out _ | refine IsS68.far ?_ NB197_193.out _ | refine IsS68.far ?_ NB197_202.out _ | refine IsS68.far ?_ NB197_215.out _) | exact HI197.out))
 (case side2 => repeat (first | (with_reducible first | exact HB.out | apply below_alloc | apply pw_below_drewN | apply below_drew1 | refine below_set ?_ (IsS68.ge HI197.out) | refine below_set ?_ GE192.out | refine below_set ?_ GE193.out | refine below_set ?_ GE202.out | refine below_set ?_ GE215.out) | exact HB.out))
 rintro e w34 ⟨v217, rfl, ho0, hi, hb, hk⟩
 refine ⟨_, rfl, ?_⟩
 replace BK192 := Aside0.mk (KeepBut.blk hk (g' := gb192) (o := .cells #[.int .i64 0, .int .i64 0, .slice none 0 0] 28 (0, 0)) (by (with_reducible repeat (first | refine blk_drewN ?_ _ | refine blk_drew ?_ | refine blk_alloc ?_ _)); exact BK192.out) NB192_197.out (by simp))
 replace BK193 := Aside0.mk (KeepBut.blk hk (g' := gb193) (o := .cells #[.slice none 0 0, .slice none 0 0] 32 (0, 0)) (by (with_reducible repeat (first | refine blk_drewN ?_ _ | refine blk_drew ?_ | refine blk_alloc ?_ _)); exact BK193.out) NB193_197.out (by simp))
 replace BK202 := Aside0.mk (KeepBut.blk hk (g' := gb202) (o := .cells #[.int .i64 t198, .int .i64 t199] 25 (0, 0)) (by (with_reducible repeat (first | refine blk_drewN ?_ _ | refine blk_drew ?_ | refine blk_alloc ?_ _)); exact BK202.out) NB202_197.out (by simp))
 replace HO208 := Aside0.mk (Kd.R_mono (Kd.R_keep (IsS68.apart (show IsS68 w _ g197 t194 t210 t211 from by repeat (first | (with_reducible first | exact HI197.out | apply IsS68.alloc | apply IsS68.drewN | apply IsS68.drew | apply IsS68.set_1 | apply IsS68.set_2 | refine IsS68.far ?_ NB197_192.out _ | refine IsS68.far ?_ NB197_193.out _ | refine IsS68.far ?_ NB197_202.out _ | refine IsS68.far ?_ NB197_215.out _) | exact HI197.out)) (ra_ HO208.out) (by decide)) hk (fun _ h => h.2)) (fun _ h => h.1))
 replace HO214 := Aside0.mk (Kd.R_mono (Kd.R_keep (IsS68.apart (show IsS68 w _ g197 t194 t210 t211 from by repeat (first | (with_reducible first | exact HI197.out | apply IsS68.alloc | apply IsS68.drewN | apply IsS68.drew | apply IsS68.set_1 | apply IsS68.set_2 | refine IsS68.far ?_ NB197_192.out _ | refine IsS68.far ?_ NB197_193.out _ | refine IsS68.far ?_ NB197_202.out _ | refine IsS68.far ?_ NB197_215.out _) | exact HI197.out)) (ra_ HO214.out) (by decide)) hk (fun _ h => h.2)) (fun _ h => h.1))
 replace BK215 := Aside0.mk (KeepBut.blk hk (g' := gb215) (o := .cells #[.slice Ao29 t206.length co29, .slice Ao28 t212.length co28] 32 (0, 0)) (by (with_reducible repeat (first | refine blk_drewN ?_ _ | refine blk_drew ?_ | refine blk_alloc ?_ _)); exact BK215.out) NB215_197.out (by simp))
 have HO218 := Aside0.mk (Kd.R_lower ho0 (below_size (by repeat (first | (with_reducible first | exact HB.out | apply below_alloc | apply pw_below_drewN | apply below_drew1 | refine below_set ?_ (IsS68.ge HI197.out) | refine below_set ?_ GE192.out | refine below_set ?_ GE193.out | refine below_set ?_ GE202.out | refine below_set ?_ GE215.out) | exact HB.out))))
 replace HB := Aside0.mk (hb)
 replace HI197 := Aside0.mk (hi)
 (try clear hb)
 (try clear hb2)
 (try clear hk)
 (try clear hi)
 (try clear ho0)
 refine hK.out _ _ ⟨(blk_cell BK202.out 0).trans rfl, (blk_cell BK202.out 1).trans rfl, (blk_cell BK215.out 0).trans rfl, (blk_cell BK215.out 1).trans rfl⟩ (fun hHeld => ?_)
 clear hK K
 refine norm_ (a' := ?_) ?_ ?_
 rotate_left
 ·show Act.put _ (some 28) _ = _
  simp only [Act.put, List.setIfInBounds_toArray, List.set_cons_zero, List.set_cons_succ, i64_w, i32_w]
  rfl
 refine one_ (i := 6) (N := none) (bt_ 9 127) rfl rfl (one_of HT_.out (by kernel_rfl)) (by decide) (fun K hK => ?_)
 have hs35 : w34.cell? ⟨gb192, 0, none⟩ = some (.int .i64 0) := (blk_cell BK192.out 0).trans rfl
 have hfs35 := blk_frozen BK192.out 0
 have hns35_1 := NB193_192.out
 have hns35_2 := NB202_192.out
 have hns35_3 := NB215_192.out
 have hms35_1 := NB192_193.out
 have hms35_2 := NB192_202.out
 have hms35_3 := NB192_215.out
 have hs36 : w34.cell? ⟨gb192, 1, none⟩ = some (.int .i64 0) := (blk_cell BK192.out 1).trans rfl
 have hfs36 := blk_frozen BK192.out 1
 have hns36_1 := NB193_192.out
 have hns36_2 := NB202_192.out
 have hns36_3 := NB215_192.out
 have hms36_1 := NB192_193.out
 have hms36_2 := NB192_202.out
 have hms36_3 := NB192_215.out
 have hs37 : w34.cell? ⟨gb192, 2, none⟩ = some (.slice none 0 0) := (blk_cell BK192.out 2).trans rfl
 have hfs37 := blk_frozen BK192.out 2
 have hns37_1 := NB193_192.out
 have hns37_2 := NB202_192.out
 have hns37_3 := NB215_192.out
 have hms37_1 := NB192_193.out
 have hms37_2 := NB192_202.out
 have hms37_3 := NB192_215.out
 refine skip_ (w1 := ?_) (by rfl) rfl ?_ ?_
 rotate_left
 ·go_simp
  rfl
 refine hK.out _ _ ⟨((cell_far (p := ⟨gb192, _, none⟩) NB202_192.out _).trans (((cell_far (p := ⟨gb192, _, none⟩) NB202_192.out _).trans (((cell_far (p := ⟨gb192, _, none⟩) NB202_192.out _).trans (hHeld.1)))))), ((cell_far (p := ⟨gb192, _, none⟩) NB202_192.out _).trans (((cell_far (p := ⟨gb192, _, none⟩) NB202_192.out _).trans (((cell_far (p := ⟨gb192, _, none⟩) NB202_192.out _).trans (hHeld.2.1)))))), ((cell_far (p := ⟨gb192, _, none⟩) NB215_192.out _).trans (((cell_far (p := ⟨gb192, _, none⟩) NB215_192.out _).trans (((cell_far (p := ⟨gb192, _, none⟩) NB215_192.out _).trans (hHeld.2.2.1)))))), ((cell_far (p := ⟨gb192, _, none⟩) NB215_192.out _).trans (((cell_far (p := ⟨gb192, _, none⟩) NB215_192.out _).trans (((cell_far (p := ⟨gb192, _, none⟩) NB215_192.out _).trans (hHeld.2.2.2))))))⟩ (fun hHeld => ?_)
 clear hK K
 refine one_ (i := 7) (N := none) (bt_ 9 255) rfl rfl (one_of HT_.out (by kernel_rfl)) (by decide) (fun K hK => ?_)
 have hs38 : w34.cell? ⟨gb193, 0, none⟩ = some (.slice none 0 0) := (blk_cell BK193.out 0).trans rfl
 have hfs38 := blk_frozen BK193.out 0
 have hns38_0 := NB192_193.out
 have hns38_2 := NB202_193.out
 have hns38_3 := NB215_193.out
 have hms38_0 := NB193_192.out
 have hms38_2 := NB193_202.out
 have hms38_3 := NB193_215.out
 have hs39 : w34.cell? ⟨gb193, 1, none⟩ = some (.slice none 0 0) := (blk_cell BK193.out 1).trans rfl
 have hfs39 := blk_frozen BK193.out 1
 have hns39_0 := NB192_193.out
 have hns39_2 := NB202_193.out
 have hns39_3 := NB215_193.out
 have hms39_0 := NB193_192.out
 have hms39_2 := NB193_202.out
 have hms39_3 := NB193_215.out
 refine skip_ (w1 := ?_) (by rfl) rfl ?_ ?_
 rotate_left
 ·go_simp
  rfl
 refine hK.out _ _ ⟨((cell_far (p := ⟨gb193, _, none⟩) NB202_193.out _).trans (((cell_far (p := ⟨gb193, _, none⟩) NB202_193.out _).trans (hHeld.1)))), ((cell_far (p := ⟨gb193, _, none⟩) NB202_193.out _).trans (((cell_far (p := ⟨gb193, _, none⟩) NB202_193.out _).trans (hHeld.2.1)))), ((cell_far (p := ⟨gb193, _, none⟩) NB215_193.out _).trans (((cell_far (p := ⟨gb193, _, none⟩) NB215_193.out _).trans (hHeld.2.2.1)))), ((cell_far (p := ⟨gb193, _, none⟩) NB215_193.out _).trans (((cell_far (p := ⟨gb193, _, none⟩) NB215_193.out _).trans (hHeld.2.2.2))))⟩ (fun hHeld => ?_)
 clear hK K
 refine pu_ 8 4 (bt_ 9 511) HT_ ?_
 refine done_ (done_of HT_.out (by kernel_rfl)) ?_
 try go_wp2
 refine bodyPost_ret (results_list (rs := [.cell 2 28, .cell 3 32, .tmp 4]) rfl (by simp) (.cell gb192 28 #[.int .i64 t198, .int .i64 t199, .slice none 0 0] (0, 0) _ rfl (by (with_reducible repeat (first | refine blk_drewN ?_ _ | refine blk_drew ?_ | refine blk_alloc ?_ _)); refine blk_far ?_ NB192_193.out _; (with_reducible repeat (first | refine blk_drewN ?_ _ | refine blk_drew ?_ | refine blk_alloc ?_ _)); refine blk_far ?_ NB192_193.out _; (with_reducible repeat (first | refine blk_drewN ?_ _ | refine blk_drew ?_ | refine blk_alloc ?_ _)); refine blk_put (cs := #[.int .i64 t198, .int .i64 t199, .slice none 0 0]) ?_ 2 _ rfl; (with_reducible repeat (first | refine blk_drewN ?_ _ | refine blk_drew ?_ | refine blk_alloc ?_ _)); refine blk_put (cs := #[.int .i64 t198, .int .i64 0, .slice none 0 0]) ?_ 1 _ rfl; (with_reducible repeat (first | refine blk_drewN ?_ _ | refine blk_drew ?_ | refine blk_alloc ?_ _)); refine blk_put (cs := #[.int .i64 0, .int .i64 0, .slice none 0 0]) ?_ 0 _ rfl; (with_reducible repeat (first | refine blk_drewN ?_ _ | refine blk_drew ?_ | refine blk_alloc ?_ _)); exact BK192.out) Try.underlying28 rfl (by kernel_rfl) (.cell gb193 32 #[.slice Ao29 t206.length co29, .slice Ao28 t212.length co28] (0, 0) _ rfl (by (with_reducible repeat (first | refine blk_drewN ?_ _ | refine blk_drew ?_ | refine blk_alloc ?_ _)); refine blk_put (cs := #[.slice Ao29 t206.length co29, .slice none 0 0]) ?_ 1 _ rfl; (with_reducible repeat (first | refine blk_drewN ?_ _ | refine blk_drew ?_ | refine blk_alloc ?_ _)); refine blk_put (cs := #[.slice none 0 0, .slice none 0 0]) ?_ 0 _ rfl; (with_reducible repeat (first | refine blk_drewN ?_ _ | refine blk_drew ?_ | refine blk_alloc ?_ _)); refine blk_far ?_ NB193_192.out _; (with_reducible repeat (first | refine blk_drewN ?_ _ | refine blk_drew ?_ | refine blk_alloc ?_ _)); refine blk_far ?_ NB193_192.out _; (with_reducible repeat (first | refine blk_drewN ?_ _ | refine blk_drew ?_ | refine blk_alloc ?_ _)); refine blk_far ?_ NB193_192.out _; (with_reducible repeat (first | refine blk_drewN ?_ _ | refine blk_drew ?_ | refine blk_alloc ?_ _)); exact BK193.out) Try.underlying32 rfl (by kernel_rfl) (.tmp .nil)))) rfl ?_
 exact ⟨_, _, _, _, fin_, by first | exact Kd.R_nil _ _ _ _ _ | exact Kd.N_nil _ _ _ _ _ | exact Kd.V_nil _ _ _ _ _ | exact Kd.Q_nil _ _ _ _ _ | exact Kd.S_nil _ _ _ _ _, rm_ (Kd.R_types (Kd.R_types HO208.out BK192.out (by decide)) BK193.out (by decide)) (fun _ hk => ⟨(by simp [Value.ownBlock]), hk.1.1⟩), rm_ (Kd.R_types (Kd.R_types HO214.out BK192.out (by decide)) BK193.out (by decide)) (fun _ hk => ⟨(by simp [Value.ownBlock]), hk.1.1⟩), rm_ (Kd.R_types (Kd.R_types HO218.out BK192.out (by decide)) BK193.out (by decide)) (fun _ hk => trivial), by repeat (first | (with_reducible first | exact HB.out | apply below_alloc | apply pw_below_drewN | apply below_drew1 | refine below_set ?_ (IsS68.ge HI197.out) | refine below_set ?_ GE192.out | refine below_set ?_ GE193.out | refine below_set ?_ GE202.out | refine below_set ?_ GE215.out) | exact HB.out)⟩

end Go.Proofs.Ytchhgfgebomegaa.PFnSends
-- thin
