
import Derived.Test.YteiemoooelpdaaaPFnCreditSumx0
import Derived.Test.YteiemoooelpdaaaPFnCreditSumx1
namespace Go.Proofs.Yteiemoooelpdaaa.PFnCreditSum
open Go.RowKit Go.Proofs.YteiemoooelpdaaaW.PrintWords Go.Proofs.YteiemoooelpdaaaW.PrintLast Go.Proofs.YteiemoooelpdaaaW.PrintMore
attribute [local go_sem] max2_int min2_int max_two min_two max_three min_three max_four min_four
set_option linter.unusedVariables false
set_option maxHeartbeats 8000000
set_option maxRecDepth 100000
set_option linter.unusedSimpArgs false
def spec_l05Make.l0 : Nat → Int → Int → Int → Int → Int → List Int → Option (List Int)
 | 0, _, _, _, _, _, _ => none
 | k + 1, x1, x6, x7, x150000, x150001, x152000 => if x7 < (wrap64 (x6 * x6)) then (if x6 = 0 then (none) else ((spec_l05Port.f k x150000 x150001 x1 (wrap64 (Int.tdiv x7 x6)) (Int.tmod x7 x6)).bind fun t153 => (if x152000.length < 17592186044416 then (spec_l05Make.l0 k x1 x6 (wrap64 (x7 + 1)) x150000 x150001 (x152000 ++ [t153])) else (none)))) else (some x152000)
def spec_l05Make.f (k : Nat) (a0_0 : Int) (a0_1 : Int) (a1 : Int) : Option (List Int) := (spec_NodeCount.f a0_0 a0_1).bind fun t152 => (spec_l05Make.l0 k a1 t152 0 a0_0 a0_1 ([] : List Int))
theorem spec_l05Make.mono_l : ∀ k, (∀ y0 y1 y2 y3 y4 y5, LeO (spec_l05Make.l0 k y0 y1 y2 y3 y4 y5) (spec_l05Make.l0 (k + 1) y0 y1 y2 y3 y4 y5))
 | 0 => fun _ _ _ _ _ _ r h => by simp [spec_l05Make.l0] at h
 | k + 1 => by
  have ih0 := spec_l05Make.mono_l k
  ·intro y0 y1 y2 y3 y4 y5
   unfold spec_l05Make.l0
   repeat' (with_reducible first | exact ih0 .. | exact spec_l05Port.mono .. | exact LeO.refl .. | exact LeO.none .. | refine LeO.ite ?_ ?_ | refine LeO.bind ?_ (fun _ => ?_))
theorem spec_l05Make.mono : ∀ a0 a1 a2 k, LeO (spec_l05Make.f k a0 a1 a2) (spec_l05Make.f (k + 1) a0 a1 a2) := by
 intro a0 a1 a2 k
 have ih0 := spec_l05Make.mono_l k
 unfold spec_l05Make.f
 repeat' (with_reducible first | exact ih0 .. | exact spec_l05Port.mono .. | exact LeO.refl .. | exact LeO.none .. | refine LeO.ite ?_ ?_ | refine LeO.bind ?_ (fun _ => ?_))
def spec_l05Make.T6 : Bool × List (List Nat × List Nat) := (true, [([], []), ([0], [0]), ([], []), ([], []), ([], []), ([], []), ([4, 5], [4, 5]), ([], []), ([], []), ([7, 8], [7, 8]), ([2, 3, 6, 9], [2, 3, 6, 9]), ([10], [10]), ([1, 11, 10], [1, 11]), ([0, 1, 2, 3, 4, 5, 6, 7, 8, 9, 10, 11, 12], []), ([13, 12, 12, 0, 1, 2, 3, 4, 5, 6, 7, 8, 9, 10, 11, 12], [12, 13])])
def spec_l05Make.B6 : List Nat := [0, 1, 0, 0, 0, 0, 48, 0, 0, 384, 1020, 2044, 4095, 8191, 16383]
theorem spec_l05Make.tab6 : rtab .any (opsOf Try.f31 6) = spec_l05Make.T6 := by kernel_rfl
theorem spec_l05Make.bits6 : waitsOk spec_l05Make.T6.2 spec_l05Make.B6 = true := by kernel_rfl
theorem spec_l05Make.calls (k : Nat) (a0_0 : Int) (a0_1 : Int) (a1 : Int) (r : List Int) (w : World) (h : spec_l05Make.f k a0_0 a0_1 a1 = some r) :
  Calls Try.prog 31 #[.agg #[.int .i64 a0_0, .int .i64 a0_1], .int .i64 a1] w fun e w' => ∃ v0_ : Value, e = .returned (.agg #[v0_]) ∧ Kd.R (Kd.int .i64) 3 w' w.heap.size (fun _ => True) v0_ r ∧ Below w.heap.size w w' := by
 have hu25 := Try.underlying25
 have hu30 := Try.underlying30
 have HB := am (Below.refl w.heap.size w)
 have H : ((spec_NodeCount.f a0_0 a0_1).bind fun t152 => (spec_l05Make.l0 k a1 t152 0 a0_0 a0_1 ([] : List Int))) = some r := h
 clear h
 obtain ⟨t152, A3, H⟩ := bi_ H
 have H' := am H
 clear H
 go_enter Try.func31, Try.ntmps31
 go_wp2_with (first | ((with_reducible refine gate_dst (N := 2) rfl ?_); refine bx_ 2 #[.int .i64 a0_0, .int .i64 a0_1] 25 ?_; intro gb149 hg w4 hbox hb; have BK149 := am (hbox); have GW149 := gw_ hg HB; replace HB := h9_ HB hb; clear hb hbox hg) | ((with_reducible refine gate_dst (N := 4) rfl ?_); refine bx_ 4 #[.slice none 0 0] 30 ?_; intro gb150 hg w5 hbox hb; have BK150 := am (hbox); have GW150 := gw_ hg HB; replace HB := h9_ HB hb; have NB149_150 := nl_ hg BK149; have NB150_149 := ng_ hg BK149; replace BK149 := kb_ BK149 hb; clear hb hbox hg) | ((with_reducible refine gate_dst (N := 5) rfl ?_); refine bx_ 5 #[.slice none 0 0] 30 ?_; intro gb151 hg w6 hbox hb; have BK151 := am (hbox); have GW151 := gw_ hg HB; replace HB := h9_ HB hb; have NB149_151 := nl_ hg BK149; have NB151_149 := ng_ hg BK149; replace BK149 := kb_ BK149 hb; have NB150_151 := nl_ hg BK150; have NB151_150 := ng_ hg BK150; replace BK150 := kb_ BK150 hb; clear hb hbox hg; have hnb7 := NB151_149.out; have hnc7 := NB149_151.out; have hnb8 := NB151_150.out; have hnc8 := NB150_151.out; obtain ⟨hcz9_0, hfz9_0⟩ := cz1_ BK151.out; have hnb10 := NB149_150.out; have hnc10 := NB150_149.out; obtain ⟨hcz11_0, hcz11_1, hfz11_0, hfz11_1⟩ := cz2_ BK149.out) | ((with_reducible refine gate_callee (f := 57) rfl ?_); refine gm_ (some 10) Try.func57 #[.agg #[.int .i64 a0_0, .int .i64 a0_1]] rfl ?_; (with_reducible refine (spec_NodeCount.calls a0_0 a0_1 t152 _ A3.out).mono ?_); rintro e w12 ⟨rfl, hb⟩; refine ⟨_, rfl, ?_⟩; replace BK149 := am (blk_below (bf_ BK149.out) hb); replace BK150 := am (blk_below (bf_ BK150.out) hb); replace BK151 := am (blk_below (g := gb151) (o := .cells #[.slice none 0 0] 30 (0, 0)) (by (with_reducible repeat (first | refine blk_drewN ?_ _ | refine blk_drew ?_ | refine blk_alloc ?_ _)); refine blk_put (cs := #[.slice none 0 0]) ?_ 0 _ rfl; (with_reducible repeat (first | refine blk_drewN ?_ _ | refine blk_drew ?_ | refine blk_alloc ?_ _)); exact BK151.out) hb); replace HB := h9_ HB hb; (try clear hb)))
 go_loopg [7] k (fun kq v7 w' => ∃ (x7_1 : Int) (x152000_1 : List Int) (u152000 : Value), v7 = .int .i64 x7_1 ∧ Aside0 (spec_l05Make.l0 kq a1 t152 x7_1 a0_0 a0_1 x152000_1 = some r) ∧ Aside0 (kq ≤ k) ∧ Aside0 (Kd.R (Kd.int .i64) 3 w' w.heap.size (fun _ => True) u152000 x152000_1) ∧ Aside0 (w'.heap[gb149]? = some (.cells #[.int .i64 a0_0, .int .i64 a0_1] 25 (0, 0))) ∧ Aside0 (w'.heap[gb150]? = some (.cells #[(.slice none 0 0)] 30 (0, 0))) ∧ Aside0 (w'.heap[gb151]? = some (.cells #[u152000] 30 (0, 0))) ∧ Aside0 (Below w.heap.size w w'))
 case atStart => exact ⟨(0), (([] : List Int)), (.slice none 0 0), ef_, H', ⟨Nat.le_refl _⟩, ⟨by first | exact Kd.R_nil _ _ _ _ _ | exact Kd.N_nil _ _ _ _ _ | exact Kd.V_nil _ _ _ _ _ | exact Kd.Q_nil _ _ _ _ _ | exact Kd.S_nil _ _ _ _ _⟩, ⟨bq_ BK149.out⟩, ⟨bq_ BK150.out⟩, ⟨bq_ BK151.out⟩, ⟨bb_ HB.out⟩⟩
 clear H'
 try clear hcz11_0 hcz11_1 hfz11_0 hfz11_1
 try clear hcz9_0 hfz9_0
 obtain ⟨x7_1, x152000_1, u152000, rfl, HA, HK1, HO_152000, BK149, BK150, BK151, HB⟩ := hrel
 obtain _ | k1 := gk
 ·exact absurd HA.out (by simp [spec_l05Make.l0])
 have H := HA.out
 clear HA
 simp only [spec_l05Make.l0] at H
 by_cases c13 : x7_1 < (wrap64 (t152 * t152))
 rotate_left
 ·rw [if_neg c13] at H
  have c13b0 : decide (x7_1 < (wrap64 (t152 * t152))) = false := decide_eq_false c13
  clear c13
  obtain rfl := Option.some.inj H
  have hnb22 := NB151_149.out
  have hnc22 := NB149_151.out
  have hnb23 := NB151_150.out
  have hnc23 := NB150_151.out
  obtain ⟨hcz24_0, hfz24_0⟩ := cz1_ BK151.out
  obtain ⟨Ao25, co25, eo25⟩ := Kd.R_slice HO_152000.out
  subst eo25
  have hnb26 := NB150_149.out
  have hnc26 := NB149_150.out
  obtain ⟨hcz27_0, hfz27_0⟩ := cz1_ BK150.out
  go_wp2
  refine bodyPost_ret (results_cell_row rfl _ _ gb150 30 #[.slice Ao25 x152000_1.length co25] (0, 0) _ rfl (by (with_reducible repeat (first | refine blk_drewN ?_ _ | refine blk_drew ?_ | refine blk_alloc ?_ _)); refine blk_put (cs := #[.slice none 0 0]) ?_ 0 _ rfl; (with_reducible repeat (first | refine blk_drewN ?_ _ | refine blk_drew ?_ | refine blk_alloc ?_ _)); exact BK150.out) Try.underlying30 rfl (by kernel_rfl)) rfl ?_
  exact ⟨_, fin_, rm_ (Kd.R_types HO_152000.out BK150.out (by decide)) (fun _ hk => trivial), bb_ HB.out⟩
 rw [if_pos c13] at H
 have c13b0 : decide (x7_1 < (wrap64 (t152 * t152))) = true := decide_eq_true c13
 clear c13
 by_cases c14 : t152 = 0
 ·rw [if_pos c14] at H
  exact absurd H (by simp)
 rw [if_neg c14] at H
 have c14b0 : (t152 == 0) = false := beq_eq_false_iff_ne.mpr c14
 have c14b1 : (t152 != 0) = true := bne_iff_ne.mpr c14
 obtain ⟨t153, A15, H⟩ := bi_ H
 by_cases c16 : x152000_1.length < 17592186044416
 rotate_left
 ·rw [if_neg c16] at H
  exact absurd H (by simp)
 rw [if_pos c16] at H
 have LMc16 := am c16
 clear c16
 obtain ⟨y154, hy154⟩ : ∃ y_ : List Int, y_ = (x152000_1 ++ [t153]) := ⟨_, rfl⟩
 replace H : (spec_l05Make.l0 k1 a1 t152 (wrap64 (x7_1 + 1)) a0_0 a0_1 y154) = some r := ry_ hy154 H
 have Ny154 := am hy154
 clear hy154
 have H' := am H
 clear H
 try go_wp2
 replace HO_152000 := am (Kd.R_drew HO_152000.out)
 replace BK149 := am (blk_drew BK149.out)
 replace BK150 := am (blk_drew BK150.out)
 replace BK151 := am (blk_drew BK151.out)
 replace HB := am (below_drew1 HB.out)
 refine start_ (n := 15) (S := fun w' => w'.cell? ⟨gb151, 0, none⟩ = some (u152000) ∧ w'.cell? ⟨gb149, 0, none⟩ = some (.int .i64 a0_0) ∧ w'.cell? ⟨gb149, 1, none⟩ = some (.int .i64 a0_1)) (ds := [14]) #[false, false, false, false, false, false, false, false, false, false, false, false, false, false, false] (by kernel_rfl) rfl rfl ⟨(blk_cell BK151.out 0).trans rfl, (blk_cell BK149.out 0).trans rfl, (blk_cell BK149.out 1).trans rfl⟩ (fun hHeld => ?_); refine with_tabW spec_l05Make.tab6 spec_l05Make.bits6 (fun HT_ HW_ => ?_)
 generalize wr.drew = w17 at HO_152000 BK149 BK150 BK151 HB hHeld ⊢
 refine pu_ 0 18 (bt_ 15 1) HT_ ?_
 refine pu_ 3 21 (bt_ 15 9) HT_ ?_
 refine pu_ 4 22 (bt_ 15 25) HT_ ?_
 refine pu_ 5 23 (bt_ 15 57) HT_ ?_
 refine pu_ 6 24 (bt_ 15 121) HT_ ?_
 refine pu_ 7 25 (bt_ 15 249) HT_ ?_
 refine pu_ 8 26 (bt_ 15 505) HT_ ?_
 refine pu_ 9 27 (bt_ 15 1017) HT_ ?_
 refine tw_ 1 19 (bt_ 15 1019) HT_ HW_ hHeld ?_
 refine tw_ 2 20 (bt_ 15 1023) HT_ HW_ hHeld ?_
 refine one_ (i := 10) (N := some 28) (bt_ 15 2047) rfl rfl (one_of HT_.out (by kernel_rfl)) (by decide) (fun K hK => ?_)
 refine goes_ Try.func58 (by kernel_rfl) rfl #[.agg #[.int .i64 a0_0, .int .i64 a0_1], .int .i64 a1, .int .i64 (wrap64 (Int.tdiv x7_1 t152)), .int .i64 (Int.tmod x7_1 t152)] (by rfl) rfl rfl (by (try simp only [List.map_toArray, List.map_cons, List.map_nil]); first | done | rfl | (simp only [List.length_drop, List.length_take]; rfl)) ?_
 with_reducible refine (spec_l05Port.calls k1 a0_0 a0_1 a1 (wrap64 (Int.tdiv x7_1 t152)) (Int.tmod x7_1 t152) t153 _ A15.out).mono ?_
 rintro e w18 ⟨rfl, hb⟩
 refine ⟨_, rfl, ?_⟩
 replace HO_152000 := rb_ HO_152000 hb
 replace BK149 := kb_ BK149 hb
 replace BK150 := kb_ BK150 hb
 replace BK151 := kb_ BK151 hb
 replace HB := h9_ HB hb
 (try clear hb)
 (try clear hk)
 refine hK.out _ _ ⟨(blk_cell BK151.out 0).trans rfl, (blk_cell BK149.out 0).trans rfl, (blk_cell BK149.out 1).trans rfl⟩ (fun hHeld => ?_)
 clear hK K
 refine nm_ 28 ?_
 refine one_ (i := 11) (N := some 29) (bt_ 15 4095) rfl rfl (one_of HT_.out (by kernel_rfl)) (by decide) (fun K hK => ?_)
 refine value_ (w1 := ?_) (v := ?_) (by rfl) rfl ?_ ?_
 rotate_left 2
 ·go_simp
  constructor
  ·rfl
  ·rfl
 refine hK.out _ _ ⟨(blk_cell (blk_alloc BK151.out _) 0).trans rfl, (blk_cell (blk_alloc BK149.out _) 0).trans rfl, (blk_cell (blk_alloc BK149.out _) 1).trans rfl⟩ (fun hHeld => ?_)
 clear hK K
 refine nm_ 29 ?_
 refine one_ (i := 12) (N := some 30) (bt_ 15 8191) rfl rfl (one_of HT_.out (by kernel_rfl)) (by decide) (fun K hK => ?_)
 refine Kd.R_append_step (Kd.int .i64) (w0 := w) w.heap.size (by rfl) (.tmp 19) (.tmp 29) 26 3 (.int .i64 0) 8 rfl Try.underlying26 info3 rfl (by decide) (by omega) u152000 x152000_1 t153 [.int .i64 t153] (fun _ => True) (fun _ => False) rfl rfl ?aP (fun _ hk => hk.elim) ?aF ?aO ?aB ?aS ?aL ?_
 (case aP => exact rfl)
 (case aB => exact (hb_ HB.out))
 (case aF => exact (fun _ _ => trivial))
 (case aO => exact (ra_ HO_152000.out))
 (case aS => exact (bz_ HB.out))
 (case aL => have := LMc16.out; omega)
 intro v155 w19 ho hb hg hat
 rw [← Ny154.out] at ho
 have n0_ := am (blk_grown (g := gb149) (o := .cells #[.int .i64 a0_0, .int .i64 a0_1] 25 (0, 0)) (bq_ BK149.out) hg (Kd.R_ne HO_152000.out BK149.out (by decide)))
 have n1_ := am (blk_grown (g := gb150) (o := .cells #[.slice none 0 0] 30 (0, 0)) (bq_ BK150.out) hg (Kd.R_ne HO_152000.out BK150.out (by decide)))
 have n2_ := am (blk_grown (g := gb151) (o := .cells #[u152000] 30 (0, 0)) (bq_ BK151.out) hg (Kd.R_ne HO_152000.out BK151.out (by decide)))
 have n3_ := am (hb)
 have n4_ := am (ho)
 clear BK149 BK150 BK151 HB HO_152000
 have BK149 := n0_
 have BK150 := n1_
 have BK151 := n2_
 have HB := n3_
 have HO156 := n4_
 clear n0_ n1_ n2_ n3_ n4_ ho hb hg hat
 obtain ⟨Ao20, co20, eo20⟩ := Kd.R_slice HO156.out
 (first | subst eo20 | (injection eo20 with f1_ f2_ f3_; have f4_ := f1_.symm; have f5_ := f3_.symm; clear f1_ f2_ f3_; subst f4_; subst f5_))
 refine hK.out _ _ ⟨(blk_cell BK151.out 0).trans rfl, (blk_cell BK149.out 0).trans rfl, (blk_cell BK149.out 1).trans rfl⟩ (fun hHeld => ?_)
 clear hK K
 refine nm_ 30 ?_
 refine pu_ 13 31 (bt_ 15 16383) HT_ ?_
 refine last_ (i := 14) (N := none) (bt_ 15 32767) rfl rfl (one_of HT_.out (by kernel_rfl)) (by decide) (fun K hK => ?_)
 have hs21 : w19.cell? ⟨gb151, 0, none⟩ = some (u152000) := (blk_cell BK151.out 0).trans rfl
 have hfs21 := blk_frozen BK151.out 0
 have hns21_0 := NB149_151.out
 have hns21_1 := NB150_151.out
 have hms21_0 := NB151_149.out
 have hms21_1 := NB151_150.out
 refine skip_ (w1 := ?_) (by rfl) rfl ?_ ?_
 rotate_left
 ·go_simp
  rfl
 refine hK.out _ _ ?_
 clear hK K
 refine done_ (done_of HT_.out (by kernel_rfl)) ?_
 try go_wp2
 go_roundg k1
 case measure => have := HK1.out; omega
 case rel => exact ⟨(wrap64 (x7_1 + 1)), (y154), (.slice Ao20 y154.length co20), ef_, H', ⟨by have := HK1.out; omega⟩, ⟨rm_ (Kd.R_types HO156.out BK151.out (by decide)) (fun _ hk => trivial)⟩, ⟨by (with_reducible repeat (first | refine blk_drewN ?_ _ | refine blk_drew ?_ | refine blk_alloc ?_ _)); refine blk_far ?_ NB149_151.out _; (with_reducible repeat (first | refine blk_drewN ?_ _ | refine blk_drew ?_ | refine blk_alloc ?_ _)); exact BK149.out⟩, ⟨by (with_reducible repeat (first | refine blk_drewN ?_ _ | refine blk_drew ?_ | refine blk_alloc ?_ _)); refine blk_far ?_ NB150_151.out _; (with_reducible repeat (first | refine blk_drewN ?_ _ | refine blk_drew ?_ | refine blk_alloc ?_ _)); exact BK150.out⟩, ⟨by (with_reducible repeat (first | refine blk_drewN ?_ _ | refine blk_drew ?_ | refine blk_alloc ?_ _)); refine blk_put (cs := #[u152000]) ?_ 0 _ rfl; (with_reducible repeat (first | refine blk_drewN ?_ _ | refine blk_drew ?_ | refine blk_alloc ?_ _)); exact BK151.out⟩, ⟨bb_ HB.out⟩⟩
def impl_inside.f (a0 : Int) (a1 : Int) (a2 : Int) : Option (Bool) := if a1 ≤ a0 then (some (decide (a0 ≤ a2))) else (some false)
theorem impl_inside.e0 {P : Prop} (h : P := by
 go_enter Try.func22, Try.ntmps22
 go_wp2
 go_ret
 exact ⟨by first | rfl | (simp; done) | (simp [*]; done), by repeat (first | exact Drawn0.refl _ | apply Drawn0.step)⟩) : P := h
theorem impl_inside.calls (a0 : Int) (a1 : Int) (a2 : Int) (r : Bool) (w : World) (h : impl_inside.f a0 a1 a2 = some r) :
  Calls Try.prog 22 #[.int .i64 a0, .int .i64 a1, .int .i64 a2] w fun e w' => e = .returned (.bool r) ∧ Drawn0 w w' := by
 have H : (if a1 ≤ a0 then (some (decide (a0 ≤ a2))) else (some false)) = some r := h
 clear h
 by_cases c4 : a1 ≤ a0
 ·rw [if_pos c4] at H
  have c4b0 : decide (a1 ≤ a0) = true := decide_eq_true c4
  clear c4
  obtain rfl := Option.some.inj H
  exact impl_inside.e0
 ·rw [if_neg c4] at H
  have c4b0 : decide (a1 ≤ a0) = false := decide_eq_false c4
  clear c4
  obtain rfl := Option.some.inj H
  exact impl_inside.e0
def impl_GridOk.f (a0_0 : Int) (a0_1 : Int) : Option (Bool) := (impl_inside.f a0_0 1 4).bind fun t158 => (if t158 = true then ((impl_inside.f a0_1 1 4).bind fun t159 => (some t159)) else (some false))
theorem impl_GridOk.e0 {P : Prop} (h : P := by
 go_enter Try.func52, Try.ntmps52
 go_wp2_with (first | ((with_reducible refine gate_dst (N := 1) rfl ?_); refine bx_ 1 #[.int .i64 a0_0, .int .i64 a0_1] 25 ?_; intro gb157 hg w_0 hbox hb; have BK157 := am (hbox); have GW157 := gw_ hg HB; replace HB := h9_ HB hb; clear hb hbox hg; obtain ⟨hcz_0, hcz_1, hfz_0, hfz_1⟩ := cz2_ BK157.out) | ((with_reducible refine gate_callee (f := 22) rfl ?_); refine gm_ (some 5) Try.func22 #[.int .i64 a0_0, .int .i64 1, .int .i64 4] rfl ?_; (with_reducible refine (impl_inside.calls a0_0 1 4 _ _ A2.out).mono ?_); rintro e w' ⟨rfl, ⟨nd, rfl⟩⟩; refine ⟨_, rfl, ?_⟩) | (go_at_call 22; (with_reducible refine (impl_inside.calls a0_1 1 4 t159 _ A4.out).mono ?_); rintro e w' ⟨rfl, ⟨nd, rfl⟩⟩))
 go_ret
 exact ⟨fin_, bb_ HB.out⟩) : P := h
theorem impl_GridOk.calls (a0_0 : Int) (a0_1 : Int) (r : Bool) (w : World) (h : impl_GridOk.f a0_0 a0_1 = some r) :
  Calls Try.prog 52 #[.agg #[.int .i64 a0_0, .int .i64 a0_1]] w fun e w' => e = .returned (.bool r) ∧ Below w.heap.size w w' := by
 have hu25 := Try.underlying25
 have HB := am (Below.refl w.heap.size w)
 have H : ((impl_inside.f a0_0 1 4).bind fun t158 => (if t158 = true then ((impl_inside.f a0_1 1 4).bind fun t159 => (some t159)) else (some false))) = some r := h
 clear h
 obtain ⟨t158, A2, H⟩ := bi_ H
 by_cases c3 : t158 = true
 ·subst c3
  rw [if_pos rfl] at H
  obtain ⟨t159, A4, H⟩ := bi_ H
  obtain rfl := Option.some.inj H
  exact impl_GridOk.e0
 ·replace c3 := Bool.eq_false_iff.mpr c3
  subst c3
  rw [if_neg (show ¬ (false = true) by decide)] at H
  obtain rfl := Option.some.inj H
  exact impl_GridOk.e0
def impl_NodeCount.f (a0_0 : Int) (a0_1 : Int) : Option (Int) := (impl_GridOk.f a0_0 a0_1).bind fun t161 => (if t161 = true then (some (wrap64 (a0_0 * a0_1))) else (some 0))
theorem impl_NodeCount.e0 {P : Prop} (h : P := by
 go_enter Try.func28, Try.ntmps28
 go_wp2_with (first | ((with_reducible refine gate_dst (N := 1) rfl ?_); refine bx_ 1 #[.int .i64 a0_0, .int .i64 a0_1] 25 ?_; intro gb160 hg w_0 hbox hb; have BK160 := am (hbox); have GW160 := gw_ hg HB; replace HB := h9_ HB hb; clear hb hbox hg; obtain ⟨hcz_0, hcz_1, hfz_0, hfz_1⟩ := cz2_ BK160.out) | ((with_reducible refine gate_callee (f := 52) rfl ?_); refine gm_ (some 4) Try.func52 #[.agg #[.int .i64 a0_0, .int .i64 a0_1]] rfl ?_; (with_reducible refine (impl_GridOk.calls a0_0 a0_1 _ _ A2.out).mono ?_); rintro e w_0 ⟨rfl, hb⟩; refine ⟨_, rfl, ?_⟩; replace BK160 := kb_ BK160 hb; replace HB := h9_ HB hb; (try clear hb); obtain ⟨hcz_0, hcz_1, hfz_0, hfz_1⟩ := cz2_ BK160.out))
 go_ret
 exact ⟨fin_, bb_ HB.out⟩) : P := h
theorem impl_NodeCount.calls (a0_0 : Int) (a0_1 : Int) (r : Int) (w : World) (h : impl_NodeCount.f a0_0 a0_1 = some r) :
  Calls Try.prog 28 #[.agg #[.int .i64 a0_0, .int .i64 a0_1]] w fun e w' => e = .returned (.int .i64 r) ∧ Below w.heap.size w w' := by
 have hu25 := Try.underlying25
 have HB := am (Below.refl w.heap.size w)
 have H : ((impl_GridOk.f a0_0 a0_1).bind fun t161 => (if t161 = true then (some (wrap64 (a0_0 * a0_1))) else (some 0))) = some r := h
 clear h
 obtain ⟨t161, A2, H⟩ := bi_ H
 by_cases c3 : t161 = true
 ·subst c3
  rw [if_pos rfl] at H
  obtain rfl := Option.some.inj H
  exact impl_NodeCount.e0
 ·replace c3 := Bool.eq_false_iff.mpr c3
  subst c3
  rw [if_neg (show ¬ (false = true) by decide)] at H
  obtain rfl := Option.some.inj H
  exact impl_NodeCount.e0
def impl_isNode.f (a0_0 : Int) (a0_1 : Int) (a1 : Int) : Option (Bool) := (impl_NodeCount.f a0_0 a0_1).bind fun t163 => ((impl_inside.f a1 0 (wrap64 (t163 - 1))).bind fun t164 => (some t164))
theorem impl_isNode.calls (a0_0 : Int) (a0_1 : Int) (a1 : Int) (r : Bool) (w : World) (h : impl_isNode.f a0_0 a0_1 a1 = some r) :
  Calls Try.prog 37 #[.agg #[.int .i64 a0_0, .int .i64 a0_1], .int .i64 a1] w fun e w' => e = .returned (.bool r) ∧ Below w.heap.size w w' := by
 have hu25 := Try.underlying25
 have HB := am (Below.refl w.heap.size w)
 have H : ((impl_NodeCount.f a0_0 a0_1).bind fun t163 => ((impl_inside.f a1 0 (wrap64 (t163 - 1))).bind fun t164 => (some t164))) = some r := h
 clear h
 obtain ⟨t163, A3, H⟩ := bi_ H
 obtain ⟨t164, A4, H⟩ := bi_ H
 obtain rfl := Option.some.inj H
 go_enter Try.func37, Try.ntmps37
 go_wp2_with (first | ((with_reducible refine gate_dst (N := 2) rfl ?_); refine bx_ 2 #[.int .i64 a0_0, .int .i64 a0_1] 25 ?_; intro gb162 hg w5 hbox hb; have BK162 := am (hbox); have GW162 := gw_ hg HB; replace HB := h9_ HB hb; clear hb hbox hg; obtain ⟨hcz6_0, hcz6_1, hfz6_0, hfz6_1⟩ := cz2_ BK162.out) | ((with_reducible refine gate_callee (f := 28) rfl ?_); refine gm_ (some 7) Try.func28 #[.agg #[.int .i64 a0_0, .int .i64 a0_1]] rfl ?_; (with_reducible refine (impl_NodeCount.calls a0_0 a0_1 t163 _ A3.out).mono ?_); rintro e w7 ⟨rfl, hb⟩; refine ⟨_, rfl, ?_⟩; replace BK162 := kb_ BK162 hb; replace HB := h9_ HB hb; (try clear hb)) | ((with_reducible refine gate_callee (f := 22) rfl ?_); refine gm_ (some 9) Try.func22 #[.int .i64 a1, .int .i64 0, .int .i64 (wrap64 (t163 - 1))] rfl ?_; (with_reducible refine (impl_inside.calls a1 0 (wrap64 (t163 - 1)) t164 _ A4.out).mono ?_); rintro e w' ⟨rfl, ⟨nd, rfl⟩⟩; refine ⟨_, rfl, ?_⟩))
 go_ret
 exact ⟨fin_, bb_ HB.out⟩
def impl_NodeAt.f (a0_0 : Int) (a0_1 : Int) (a1 : Int) (a2 : Int) : Option (Int) := (impl_GridOk.f a0_0 a0_1).bind fun t166 => (if t166 = true then ((impl_inside.f a1 0 (wrap64 (a0_0 - 1))).bind fun t167 => (if t167 = true then ((impl_inside.f a2 0 (wrap64 (a0_1 - 1))).bind fun t168 => (if t168 = true then (some (wrap64 ((wrap64 (a2 * a0_0)) + a1))) else (some (-1)))) else (some (-1)))) else (some (-1)))
theorem impl_NodeAt.e0 {P : Prop} (h : P := by
 go_enter Try.func96, Try.ntmps96
 go_wp2_with (first | ((with_reducible refine gate_dst (N := 3) rfl ?_); refine bx_ 3 #[.int .i64 a0_0, .int .i64 a0_1] 25 ?_; intro gb165 hg w_0 hbox hb; have BK165 := am (hbox); have GW165 := gw_ hg HB; replace HB := h9_ HB hb; clear hb hbox hg; obtain ⟨hcz_0, hcz_1, hfz_0, hfz_1⟩ := cz2_ BK165.out) | ((with_reducible refine gate_callee (f := 52) rfl ?_); refine gm_ (some 8) Try.func52 #[.agg #[.int .i64 a0_0, .int .i64 a0_1]] rfl ?_; (with_reducible refine (impl_GridOk.calls a0_0 a0_1 _ _ A4.out).mono ?_); rintro e w_0 ⟨rfl, hb⟩; refine ⟨_, rfl, ?_⟩; replace BK165 := kb_ BK165 hb; replace HB := h9_ HB hb; (try clear hb); obtain ⟨hcz_0, hcz_1, hfz_0, hfz_1⟩ := cz2_ BK165.out) | (go_at_call 22; (with_reducible refine (impl_inside.calls a1 0 (wrap64 (a0_0 - 1)) _ _ A6.out).mono ?_); rintro e w' ⟨rfl, ⟨nd, rfl⟩⟩) | (go_at_call 22; (with_reducible refine (impl_inside.calls a2 0 (wrap64 (a0_1 - 1)) _ _ A8.out).mono ?_); rintro e w' ⟨rfl, ⟨nd, rfl⟩⟩))
 go_ret
 exact ⟨fin_, bb_ HB.out⟩) : P := h
theorem impl_NodeAt.calls (a0_0 : Int) (a0_1 : Int) (a1 : Int) (a2 : Int) (r : Int) (w : World) (h : impl_NodeAt.f a0_0 a0_1 a1 a2 = some r) :
  Calls Try.prog 96 #[.agg #[.int .i64 a0_0, .int .i64 a0_1], .int .i64 a1, .int .i64 a2] w fun e w' => e = .returned (.int .i64 r) ∧ Below w.heap.size w w' := by
 have hu25 := Try.underlying25
 have HB := am (Below.refl w.heap.size w)
 have H : ((impl_GridOk.f a0_0 a0_1).bind fun t166 => (if t166 = true then ((impl_inside.f a1 0 (wrap64 (a0_0 - 1))).bind fun t167 => (if t167 = true then ((impl_inside.f a2 0 (wrap64 (a0_1 - 1))).bind fun t168 => (if t168 = true then (some (wrap64 ((wrap64 (a2 * a0_0)) + a1))) else (some (-1)))) else (some (-1)))) else (some (-1)))) = some r := h
 clear h
 obtain ⟨t166, A4, H⟩ := bi_ H
 by_cases c5 : t166 = true
 ·subst c5
  rw [if_pos rfl] at H
  obtain ⟨t167, A6, H⟩ := bi_ H
  by_cases c7 : t167 = true
  rotate_left
  ·replace c7 := Bool.eq_false_iff.mpr c7
   subst c7
   rw [if_neg (show ¬ (false = true) by decide)] at H
   obtain rfl := Option.some.inj H
   exact impl_NodeAt.e0
  subst c7
  rw [if_pos rfl] at H
  obtain ⟨t168, A8, H⟩ := bi_ H
  by_cases c9 : t168 = true
  ·subst c9
   rw [if_pos rfl] at H
   obtain rfl := Option.some.inj H
   exact impl_NodeAt.e0
  replace c9 := Bool.eq_false_iff.mpr c9
  subst c9
  rw [if_neg (show ¬ (false = true) by decide)] at H
  obtain rfl := Option.some.inj H
  exact impl_NodeAt.e0
 ·replace c5 := Bool.eq_false_iff.mpr c5
  subst c5
  rw [if_neg (show ¬ (false = true) by decide)] at H
  obtain rfl := Option.some.inj H
  exact impl_NodeAt.e0
def impl_NextNode.f (a0_0 : Int) (a0_1 : Int) (a1 : Int) (a2 : Int) : Option (Int) := (impl_isNode.f a0_0 a0_1 a1).bind fun t170 => (if t170 = true then (if a0_0 = 0 then (none) else (if a2 = 0 then ((impl_NodeAt.f a0_0 a0_1 (Int.tmod a1 a0_0) (wrap64 ((wrap64 (Int.tdiv a1 a0_0)) - 1))).bind fun t171 => (some t171)) else (if a2 = 1 then ((impl_NodeAt.f a0_0 a0_1 (wrap64 ((Int.tmod a1 a0_0) + 1)) (wrap64 (Int.tdiv a1 a0_0))).bind fun t172 => (some t172)) else (if a2 = 2 then ((impl_NodeAt.f a0_0 a0_1 (Int.tmod a1 a0_0) (wrap64 ((wrap64 (Int.tdiv a1 a0_0)) + 1))).bind fun t173 => (some t173)) else (if a2 = 3 then ((impl_NodeAt.f a0_0 a0_1 (wrap64 ((Int.tmod a1 a0_0) - 1)) (wrap64 (Int.tdiv a1 a0_0))).bind fun t174 => (some t174)) else (if a2 = 4 then (some a1) else (some (-1)))))))) else (some (-1)))
theorem impl_NextNode.calls (a0_0 : Int) (a0_1 : Int) (a1 : Int) (a2 : Int) (r : Int) (w : World) (h : impl_NextNode.f a0_0 a0_1 a1 a2 = some r) :
  Calls Try.prog 76 #[.agg #[.int .i64 a0_0, .int .i64 a0_1], .int .i64 a1, .int .i64 a2] w fun e w' => e = .returned (.int .i64 r) ∧ Below w.heap.size w w' := by
 have hu25 := Try.underlying25
 have HB := am (Below.refl w.heap.size w)
 have H : ((impl_isNode.f a0_0 a0_1 a1).bind fun t170 => (if t170 = true then (if a0_0 = 0 then (none) else (if a2 = 0 then ((impl_NodeAt.f a0_0 a0_1 (Int.tmod a1 a0_0) (wrap64 ((wrap64 (Int.tdiv a1 a0_0)) - 1))).bind fun t171 => (some t171)) else (if a2 = 1 then ((impl_NodeAt.f a0_0 a0_1 (wrap64 ((Int.tmod a1 a0_0) + 1)) (wrap64 (Int.tdiv a1 a0_0))).bind fun t172 => (some t172)) else (if a2 = 2 then ((impl_NodeAt.f a0_0 a0_1 (Int.tmod a1 a0_0) (wrap64 ((wrap64 (Int.tdiv a1 a0_0)) + 1))).bind fun t173 => (some t173)) else (if a2 = 3 then ((impl_NodeAt.f a0_0 a0_1 (wrap64 ((Int.tmod a1 a0_0) - 1)) (wrap64 (Int.tdiv a1 a0_0))).bind fun t174 => (some t174)) else (if a2 = 4 then (some a1) else (some (-1)))))))) else (some (-1)))) = some r := h
 clear h
 obtain ⟨t170, A4, H⟩ := bi_ H
 by_cases c5 : t170 = true
 ·subst c5
  rw [if_pos rfl] at H
  by_cases c6 : a0_0 = 0
  ·rw [if_pos c6] at H
   exact absurd H (by simp)
  rw [if_neg c6] at H
  have c6b0 : (a0_0 == 0) = false := beq_eq_false_iff_ne.mpr c6
  have c6b1 : (a0_0 != 0) = true := bne_iff_ne.mpr c6
  by_cases c7 : a2 = 0
  ·rw [if_pos c7] at H
   have c7b0 : (a2 == 0) = true := beq_iff_eq.mpr c7
   have c7b1 : (a2 != 0) = false := bne_eq_false_iff_eq.mpr c7
   clear c7
   obtain ⟨t171, A8, H⟩ := bi_ H
   obtain rfl := Option.some.inj H
   go_enter Try.func76, Try.ntmps76
   go_wp2_with (first | ((with_reducible refine gate_dst (N := 3) rfl ?_); refine bx_ 3 #[.int .i64 a0_0, .int .i64 a0_1] 25 ?_; intro gb169 hg w9 hbox hb; have BK169 := am (hbox); have GW169 := gw_ hg HB; replace HB := h9_ HB hb; clear hb hbox hg; obtain ⟨hcz10_0, hcz10_1, hfz10_0, hfz10_1⟩ := cz2_ BK169.out) | (go_at_call 37; (with_reducible refine (impl_isNode.calls a0_0 a0_1 a1 true _ A4.out).mono ?_); rintro e w11 ⟨rfl, hb⟩; replace BK169 := kb_ BK169 hb; replace HB := h9_ HB hb; (try clear hb); obtain ⟨hcz12_0, hcz12_1, hfz12_0, hfz12_1⟩ := cz2_ BK169.out) | (go_at_call 96; (with_reducible refine (impl_NodeAt.calls a0_0 a0_1 (Int.tmod a1 a0_0) (wrap64 ((wrap64 (Int.tdiv a1 a0_0)) - 1)) t171 _ A8.out).mono ?_); rintro e w13 ⟨rfl, hb⟩; replace BK169 := kb_ BK169 hb; replace HB := h9_ HB hb; (try clear hb)))
   repeat (go_quiet (first | ((with_reducible refine gate_dst (N := 3) rfl ?_); refine bx_ 3 #[.int .i64 a0_0, .int .i64 a0_1] 25 ?_; intro gb169 hg w9 hbox hb; have BK169 := am (hbox); have GW169 := gw_ hg HB; replace HB := h9_ HB hb; clear hb hbox hg; obtain ⟨hcz10_0, hcz10_1, hfz10_0, hfz10_1⟩ := cz2_ BK169.out) | (go_at_call 37; (with_reducible refine (impl_isNode.calls a0_0 a0_1 a1 true _ A4.out).mono ?_); rintro e w11 ⟨rfl, hb⟩; replace BK169 := kb_ BK169 hb; replace HB := h9_ HB hb; (try clear hb); obtain ⟨hcz12_0, hcz12_1, hfz12_0, hfz12_1⟩ := cz2_ BK169.out) | (go_at_call 96; (with_reducible refine (impl_NodeAt.calls a0_0 a0_1 (Int.tmod a1 a0_0) (wrap64 ((wrap64 (Int.tdiv a1 a0_0)) - 1)) t171 _ A8.out).mono ?_); rintro e w13 ⟨rfl, hb⟩; replace BK169 := kb_ BK169 hb; replace HB := h9_ HB hb; (try clear hb))); try go_wp2_with (first | ((with_reducible refine gate_dst (N := 3) rfl ?_); refine bx_ 3 #[.int .i64 a0_0, .int .i64 a0_1] 25 ?_; intro gb169 hg w9 hbox hb; have BK169 := am (hbox); have GW169 := gw_ hg HB; replace HB := h9_ HB hb; clear hb hbox hg; obtain ⟨hcz10_0, hcz10_1, hfz10_0, hfz10_1⟩ := cz2_ BK169.out) | (go_at_call 37; (with_reducible refine (impl_isNode.calls a0_0 a0_1 a1 true _ A4.out).mono ?_); rintro e w11 ⟨rfl, hb⟩; replace BK169 := kb_ BK169 hb; replace HB := h9_ HB hb; (try clear hb); obtain ⟨hcz12_0, hcz12_1, hfz12_0, hfz12_1⟩ := cz2_ BK169.out) | (go_at_call 96; (with_reducible refine (impl_NodeAt.calls a0_0 a0_1 (Int.tmod a1 a0_0) (wrap64 ((wrap64 (Int.tdiv a1 a0_0)) - 1)) t171 _ A8.out).mono ?_); rintro e w13 ⟨rfl, hb⟩; replace BK169 := kb_ BK169 hb; replace HB := h9_ HB hb; (try clear hb))))
   go_ret
   exact ⟨fin_, bb_ HB.out⟩
  rw [if_neg c7] at H
  have c7b0 : (a2 == 0) = false := beq_eq_false_iff_ne.mpr c7
  have c7b1 : (a2 != 0) = true := bne_iff_ne.mpr c7
  by_cases c14 : a2 = 1
  ·rw [if_pos c14] at H
   have c14b0 : (a2 == 1) = true := beq_iff_eq.mpr c14
   have c14b1 : (a2 != 1) = false := bne_eq_false_iff_eq.mpr c14
   clear c14
   obtain ⟨t172, A15, H⟩ := bi_ H
   obtain rfl := Option.some.inj H
   go_enter Try.func76, Try.ntmps76
   go_wp2_with (first | ((with_reducible refine gate_dst (N := 3) rfl ?_); refine bx_ 3 #[.int .i64 a0_0, .int .i64 a0_1] 25 ?_; intro gb169 hg w16 hbox hb; have BK169 := am (hbox); have GW169 := gw_ hg HB; replace HB := h9_ HB hb; clear hb hbox hg; obtain ⟨hcz17_0, hcz17_1, hfz17_0, hfz17_1⟩ := cz2_ BK169.out) | (go_at_call 37; (with_reducible refine (impl_isNode.calls a0_0 a0_1 a1 true _ A4.out).mono ?_); rintro e w18 ⟨rfl, hb⟩; replace BK169 := kb_ BK169 hb; replace HB := h9_ HB hb; (try clear hb); obtain ⟨hcz19_0, hcz19_1, hfz19_0, hfz19_1⟩ := cz2_ BK169.out) | (go_at_call 96; (with_reducible refine (impl_NodeAt.calls a0_0 a0_1 (wrap64 ((Int.tmod a1 a0_0) + 1)) (wrap64 (Int.tdiv a1 a0_0)) t172 _ A15.out).mono ?_); rintro e w20 ⟨rfl, hb⟩; replace BK169 := kb_ BK169 hb; replace HB := h9_ HB hb; (try clear hb)))
   repeat (go_quiet (first | ((with_reducible refine gate_dst (N := 3) rfl ?_); refine bx_ 3 #[.int .i64 a0_0, .int .i64 a0_1] 25 ?_; intro gb169 hg w16 hbox hb; have BK169 := am (hbox); have GW169 := gw_ hg HB; replace HB := h9_ HB hb; clear hb hbox hg; obtain ⟨hcz17_0, hcz17_1, hfz17_0, hfz17_1⟩ := cz2_ BK169.out) | (go_at_call 37; (with_reducible refine (impl_isNode.calls a0_0 a0_1 a1 true _ A4.out).mono ?_); rintro e w18 ⟨rfl, hb⟩; replace BK169 := kb_ BK169 hb; replace HB := h9_ HB hb; (try clear hb); obtain ⟨hcz19_0, hcz19_1, hfz19_0, hfz19_1⟩ := cz2_ BK169.out) | (go_at_call 96; (with_reducible refine (impl_NodeAt.calls a0_0 a0_1 (wrap64 ((Int.tmod a1 a0_0) + 1)) (wrap64 (Int.tdiv a1 a0_0)) t172 _ A15.out).mono ?_); rintro e w20 ⟨rfl, hb⟩; replace BK169 := kb_ BK169 hb; replace HB := h9_ HB hb; (try clear hb))); try go_wp2_with (first | ((with_reducible refine gate_dst (N := 3) rfl ?_); refine bx_ 3 #[.int .i64 a0_0, .int .i64 a0_1] 25 ?_; intro gb169 hg w16 hbox hb; have BK169 := am (hbox); have GW169 := gw_ hg HB; replace HB := h9_ HB hb; clear hb hbox hg; obtain ⟨hcz17_0, hcz17_1, hfz17_0, hfz17_1⟩ := cz2_ BK169.out) | (go_at_call 37; (with_reducible refine (impl_isNode.calls a0_0 a0_1 a1 true _ A4.out).mono ?_); rintro e w18 ⟨rfl, hb⟩; replace BK169 := kb_ BK169 hb; replace HB := h9_ HB hb; (try clear hb); obtain ⟨hcz19_0, hcz19_1, hfz19_0, hfz19_1⟩ := cz2_ BK169.out) | (go_at_call 96; (with_reducible refine (impl_NodeAt.calls a0_0 a0_1 (wrap64 ((Int.tmod a1 a0_0) + 1)) (wrap64 (Int.tdiv a1 a0_0)) t172 _ A15.out).mono ?_); rintro e w20 ⟨rfl, hb⟩; replace BK169 := kb_ BK169 hb; replace HB := h9_ HB hb; (try clear hb))))
   go_ret
   exact ⟨fin_, bb_ HB.out⟩
  rw [if_neg c14] at H
  have c14b0 : (a2 == 1) = false := beq_eq_false_iff_ne.mpr c14
  have c14b1 : (a2 != 1) = true := bne_iff_ne.mpr c14
  by_cases c21 : a2 = 2
  ·rw [if_pos c21] at H
   have c21b0 : (a2 == 2) = true := beq_iff_eq.mpr c21
   have c21b1 : (a2 != 2) = false := bne_eq_false_iff_eq.mpr c21
   clear c21
   obtain ⟨t173, A22, H⟩ := bi_ H
   obtain rfl := Option.some.inj H
   go_enter Try.func76, Try.ntmps76
   go_wp2_with (first | ((with_reducible refine gate_dst (N := 3) rfl ?_); refine bx_ 3 #[.int .i64 a0_0, .int .i64 a0_1] 25 ?_; intro gb169 hg w23 hbox hb; have BK169 := am (hbox); have GW169 := gw_ hg HB; replace HB := h9_ HB hb; clear hb hbox hg; obtain ⟨hcz24_0, hcz24_1, hfz24_0, hfz24_1⟩ := cz2_ BK169.out) | (go_at_call 37; (with_reducible refine (impl_isNode.calls a0_0 a0_1 a1 true _ A4.out).mono ?_); rintro e w25 ⟨rfl, hb⟩; replace BK169 := kb_ BK169 hb; replace HB := h9_ HB hb; (try clear hb); obtain ⟨hcz26_0, hcz26_1, hfz26_0, hfz26_1⟩ := cz2_ BK169.out) | (go_at_call 96; (with_reducible refine (impl_NodeAt.calls a0_0 a0_1 (Int.tmod a1 a0_0) (wrap64 ((wrap64 (Int.tdiv a1 a0_0)) + 1)) t173 _ A22.out).mono ?_); rintro e w27 ⟨rfl, hb⟩; replace BK169 := kb_ BK169 hb; replace HB := h9_ HB hb; (try clear hb)))
   repeat (go_quiet (first | ((with_reducible refine gate_dst (N := 3) rfl ?_); refine bx_ 3 #[.int .i64 a0_0, .int .i64 a0_1] 25 ?_; intro gb169 hg w23 hbox hb; have BK169 := am (hbox); have GW169 := gw_ hg HB; replace HB := h9_ HB hb; clear hb hbox hg; obtain ⟨hcz24_0, hcz24_1, hfz24_0, hfz24_1⟩ := cz2_ BK169.out) | (go_at_call 37; (with_reducible refine (impl_isNode.calls a0_0 a0_1 a1 true _ A4.out).mono ?_); rintro e w25 ⟨rfl, hb⟩; replace BK169 := kb_ BK169 hb; replace HB := h9_ HB hb; (try clear hb); obtain ⟨hcz26_0, hcz26_1, hfz26_0, hfz26_1⟩ := cz2_ BK169.out) | (go_at_call 96; (with_reducible refine (impl_NodeAt.calls a0_0 a0_1 (Int.tmod a1 a0_0) (wrap64 ((wrap64 (Int.tdiv a1 a0_0)) + 1)) t173 _ A22.out).mono ?_); rintro e w27 ⟨rfl, hb⟩; replace BK169 := kb_ BK169 hb; replace HB := h9_ HB hb; (try clear hb))); try go_wp2_with (first | ((with_reducible refine gate_dst (N := 3) rfl ?_); refine bx_ 3 #[.int .i64 a0_0, .int .i64 a0_1] 25 ?_; intro gb169 hg w23 hbox hb; have BK169 := am (hbox); have GW169 := gw_ hg HB; replace HB := h9_ HB hb; clear hb hbox hg; obtain ⟨hcz24_0, hcz24_1, hfz24_0, hfz24_1⟩ := cz2_ BK169.out) | (go_at_call 37; (with_reducible refine (impl_isNode.calls a0_0 a0_1 a1 true _ A4.out).mono ?_); rintro e w25 ⟨rfl, hb⟩; replace BK169 := kb_ BK169 hb; replace HB := h9_ HB hb; (try clear hb); obtain ⟨hcz26_0, hcz26_1, hfz26_0, hfz26_1⟩ := cz2_ BK169.out) | (go_at_call 96; (with_reducible refine (impl_NodeAt.calls a0_0 a0_1 (Int.tmod a1 a0_0) (wrap64 ((wrap64 (Int.tdiv a1 a0_0)) + 1)) t173 _ A22.out).mono ?_); rintro e w27 ⟨rfl, hb⟩; replace BK169 := kb_ BK169 hb; replace HB := h9_ HB hb; (try clear hb))))
   go_ret
   exact ⟨fin_, bb_ HB.out⟩
  rw [if_neg c21] at H
  have c21b0 : (a2 == 2) = false := beq_eq_false_iff_ne.mpr c21
  have c21b1 : (a2 != 2) = true := bne_iff_ne.mpr c21
  by_cases c28 : a2 = 3
  ·rw [if_pos c28] at H
   have c28b0 : (a2 == 3) = true := beq_iff_eq.mpr c28
   have c28b1 : (a2 != 3) = false := bne_eq_false_iff_eq.mpr c28
   clear c28
   obtain ⟨t174, A29, H⟩ := bi_ H
   obtain rfl := Option.some.inj H
   go_enter Try.func76, Try.ntmps76
   go_wp2_with (first | ((with_reducible refine gate_dst (N := 3) rfl ?_); refine bx_ 3 #[.int .i64 a0_0, .int .i64 a0_1] 25 ?_; intro gb169 hg w30 hbox hb; have BK169 := am (hbox); have GW169 := gw_ hg HB; replace HB := h9_ HB hb; clear hb hbox hg; obtain ⟨hcz31_0, hcz31_1, hfz31_0, hfz31_1⟩ := cz2_ BK169.out) | (go_at_call 37; (with_reducible refine (impl_isNode.calls a0_0 a0_1 a1 true _ A4.out).mono ?_); rintro e w32 ⟨rfl, hb⟩; replace BK169 := kb_ BK169 hb; replace HB := h9_ HB hb; (try clear hb); obtain ⟨hcz33_0, hcz33_1, hfz33_0, hfz33_1⟩ := cz2_ BK169.out) | (go_at_call 96; (with_reducible refine (impl_NodeAt.calls a0_0 a0_1 (wrap64 ((Int.tmod a1 a0_0) - 1)) (wrap64 (Int.tdiv a1 a0_0)) t174 _ A29.out).mono ?_); rintro e w34 ⟨rfl, hb⟩; replace BK169 := kb_ BK169 hb; replace HB := h9_ HB hb; (try clear hb)))
   repeat (go_quiet (first | ((with_reducible refine gate_dst (N := 3) rfl ?_); refine bx_ 3 #[.int .i64 a0_0, .int .i64 a0_1] 25 ?_; intro gb169 hg w30 hbox hb; have BK169 := am (hbox); have GW169 := gw_ hg HB; replace HB := h9_ HB hb; clear hb hbox hg; obtain ⟨hcz31_0, hcz31_1, hfz31_0, hfz31_1⟩ := cz2_ BK169.out) | (go_at_call 37; (with_reducible refine (impl_isNode.calls a0_0 a0_1 a1 true _ A4.out).mono ?_); rintro e w32 ⟨rfl, hb⟩; replace BK169 := kb_ BK169 hb; replace HB := h9_ HB hb; (try clear hb); obtain ⟨hcz33_0, hcz33_1, hfz33_0, hfz33_1⟩ := cz2_ BK169.out) | (go_at_call 96; (with_reducible refine (impl_NodeAt.calls a0_0 a0_1 (wrap64 ((Int.tmod a1 a0_0) - 1)) (wrap64 (Int.tdiv a1 a0_0)) t174 _ A29.out).mono ?_); rintro e w34 ⟨rfl, hb⟩; replace BK169 := kb_ BK169 hb; replace HB := h9_ HB hb; (try clear hb))); try go_wp2_with (first | ((with_reducible refine gate_dst (N := 3) rfl ?_); refine bx_ 3 #[.int .i64 a0_0, .int .i64 a0_1] 25 ?_; intro gb169 hg w30 hbox hb; have BK169 := am (hbox); have GW169 := gw_ hg HB; replace HB := h9_ HB hb; clear hb hbox hg; obtain ⟨hcz31_0, hcz31_1, hfz31_0, hfz31_1⟩ := cz2_ BK169.out) | (go_at_call 37; (with_reducible refine (impl_isNode.calls a0_0 a0_1 a1 true _ A4.out).mono ?_); rintro e w32 ⟨rfl, hb⟩; replace BK169 := kb_ BK169 hb; replace HB := h9_ HB hb; (try clear hb); obtain ⟨hcz33_0, hcz33_1, hfz33_0, hfz33_1⟩ := cz2_ BK169.out) | (go_at_call 96; (with_reducible refine (impl_NodeAt.calls a0_0 a0_1 (wrap64 ((Int.tmod a1 a0_0) - 1)) (wrap64 (Int.tdiv a1 a0_0)) t174 _ A29.out).mono ?_); rintro e w34 ⟨rfl, hb⟩; replace BK169 := kb_ BK169 hb; replace HB := h9_ HB hb; (try clear hb))))
   go_ret
   exact ⟨fin_, bb_ HB.out⟩
  rw [if_neg c28] at H
  have c28b0 : (a2 == 3) = false := beq_eq_false_iff_ne.mpr c28
  have c28b1 : (a2 != 3) = true := bne_iff_ne.mpr c28
  by_cases c35 : a2 = 4
  rotate_left
  ·rw [if_neg c35] at H
   have c35b0 : (a2 == 4) = false := beq_eq_false_iff_ne.mpr c35
   have c35b1 : (a2 != 4) = true := bne_iff_ne.mpr c35
   obtain rfl := Option.some.inj H
   go_enter Try.func76, Try.ntmps76
   go_wp2_with (first | ((with_reducible refine gate_dst (N := 3) rfl ?_); refine bx_ 3 #[.int .i64 a0_0, .int .i64 a0_1] 25 ?_; intro gb169 hg w40 hbox hb; have BK169 := am (hbox); have GW169 := gw_ hg HB; replace HB := h9_ HB hb; clear hb hbox hg; obtain ⟨hcz41_0, hcz41_1, hfz41_0, hfz41_1⟩ := cz2_ BK169.out) | (go_at_call 37; (with_reducible refine (impl_isNode.calls a0_0 a0_1 a1 true _ A4.out).mono ?_); rintro e w42 ⟨rfl, hb⟩; replace BK169 := kb_ BK169 hb; replace HB := h9_ HB hb; (try clear hb); obtain ⟨hcz43_0, hcz43_1, hfz43_0, hfz43_1⟩ := cz2_ BK169.out))
   repeat (go_quiet (first | ((with_reducible refine gate_dst (N := 3) rfl ?_); refine bx_ 3 #[.int .i64 a0_0, .int .i64 a0_1] 25 ?_; intro gb169 hg w40 hbox hb; have BK169 := am (hbox); have GW169 := gw_ hg HB; replace HB := h9_ HB hb; clear hb hbox hg; obtain ⟨hcz41_0, hcz41_1, hfz41_0, hfz41_1⟩ := cz2_ BK169.out) | (go_at_call 37; (with_reducible refine (impl_isNode.calls a0_0 a0_1 a1 true _ A4.out).mono ?_); rintro e w42 ⟨rfl, hb⟩; replace BK169 := kb_ BK169 hb; replace HB := h9_ HB hb; (try clear hb); obtain ⟨hcz43_0, hcz43_1, hfz43_0, hfz43_1⟩ := cz2_ BK169.out)); try go_wp2_with (first | ((with_reducible refine gate_dst (N := 3) rfl ?_); refine bx_ 3 #[.int .i64 a0_0, .int .i64 a0_1] 25 ?_; intro gb169 hg w40 hbox hb; have BK169 := am (hbox); have GW169 := gw_ hg HB; replace HB := h9_ HB hb; clear hb hbox hg; obtain ⟨hcz41_0, hcz41_1, hfz41_0, hfz41_1⟩ := cz2_ BK169.out) | (go_at_call 37; (with_reducible refine (impl_isNode.calls a0_0 a0_1 a1 true _ A4.out).mono ?_); rintro e w42 ⟨rfl, hb⟩; replace BK169 := kb_ BK169 hb; replace HB := h9_ HB hb; (try clear hb); obtain ⟨hcz43_0, hcz43_1, hfz43_0, hfz43_1⟩ := cz2_ BK169.out)))
   go_ret
   exact ⟨fin_, bb_ HB.out⟩
  rw [if_pos c35] at H
  have c35b0 : (a2 == 4) = true := beq_iff_eq.mpr c35
  have c35b1 : (a2 != 4) = false := bne_eq_false_iff_eq.mpr c35
  clear c35
  obtain rfl := Option.some.inj H
  go_enter Try.func76, Try.ntmps76
  go_wp2_with (first | ((with_reducible refine gate_dst (N := 3) rfl ?_); refine bx_ 3 #[.int .i64 a0_0, .int .i64 a0_1] 25 ?_; intro gb169 hg w36 hbox hb; have BK169 := am (hbox); have GW169 := gw_ hg HB; replace HB := h9_ HB hb; clear hb hbox hg; obtain ⟨hcz37_0, hcz37_1, hfz37_0, hfz37_1⟩ := cz2_ BK169.out) | (go_at_call 37; (with_reducible refine (impl_isNode.calls a0_0 a0_1 a1 true _ A4.out).mono ?_); rintro e w38 ⟨rfl, hb⟩; replace BK169 := kb_ BK169 hb; replace HB := h9_ HB hb; (try clear hb); obtain ⟨hcz39_0, hcz39_1, hfz39_0, hfz39_1⟩ := cz2_ BK169.out))
  repeat (go_quiet (first | ((with_reducible refine gate_dst (N := 3) rfl ?_); refine bx_ 3 #[.int .i64 a0_0, .int .i64 a0_1] 25 ?_; intro gb169 hg w36 hbox hb; have BK169 := am (hbox); have GW169 := gw_ hg HB; replace HB := h9_ HB hb; clear hb hbox hg; obtain ⟨hcz37_0, hcz37_1, hfz37_0, hfz37_1⟩ := cz2_ BK169.out) | (go_at_call 37; (with_reducible refine (impl_isNode.calls a0_0 a0_1 a1 true _ A4.out).mono ?_); rintro e w38 ⟨rfl, hb⟩; replace BK169 := kb_ BK169 hb; replace HB := h9_ HB hb; (try clear hb); obtain ⟨hcz39_0, hcz39_1, hfz39_0, hfz39_1⟩ := cz2_ BK169.out)); try go_wp2_with (first | ((with_reducible refine gate_dst (N := 3) rfl ?_); refine bx_ 3 #[.int .i64 a0_0, .int .i64 a0_1] 25 ?_; intro gb169 hg w36 hbox hb; have BK169 := am (hbox); have GW169 := gw_ hg HB; replace HB := h9_ HB hb; clear hb hbox hg; obtain ⟨hcz37_0, hcz37_1, hfz37_0, hfz37_1⟩ := cz2_ BK169.out) | (go_at_call 37; (with_reducible refine (impl_isNode.calls a0_0 a0_1 a1 true _ A4.out).mono ?_); rintro e w38 ⟨rfl, hb⟩; replace BK169 := kb_ BK169 hb; replace HB := h9_ HB hb; (try clear hb); obtain ⟨hcz39_0, hcz39_1, hfz39_0, hfz39_1⟩ := cz2_ BK169.out)))
  go_ret
  exact ⟨fin_, bb_ HB.out⟩
 ·replace c5 := Bool.eq_false_iff.mpr c5
  subst c5
  rw [if_neg (show ¬ (false = true) by decide)] at H
  obtain rfl := Option.some.inj H
  go_enter Try.func76, Try.ntmps76
  go_wp2_with (first | ((with_reducible refine gate_dst (N := 3) rfl ?_); refine bx_ 3 #[.int .i64 a0_0, .int .i64 a0_1] 25 ?_; intro gb169 hg w44 hbox hb; have BK169 := am (hbox); have GW169 := gw_ hg HB; replace HB := h9_ HB hb; clear hb hbox hg; obtain ⟨hcz45_0, hcz45_1, hfz45_0, hfz45_1⟩ := cz2_ BK169.out) | (go_at_call 37; (with_reducible refine (impl_isNode.calls a0_0 a0_1 a1 false _ A4.out).mono ?_); rintro e w46 ⟨rfl, hb⟩; replace BK169 := kb_ BK169 hb; replace HB := h9_ HB hb; (try clear hb)))
  repeat (go_quiet (first | ((with_reducible refine gate_dst (N := 3) rfl ?_); refine bx_ 3 #[.int .i64 a0_0, .int .i64 a0_1] 25 ?_; intro gb169 hg w44 hbox hb; have BK169 := am (hbox); have GW169 := gw_ hg HB; replace HB := h9_ HB hb; clear hb hbox hg; obtain ⟨hcz45_0, hcz45_1, hfz45_0, hfz45_1⟩ := cz2_ BK169.out) | (go_at_call 37; (with_reducible refine (impl_isNode.calls a0_0 a0_1 a1 false _ A4.out).mono ?_); rintro e w46 ⟨rfl, hb⟩; replace BK169 := kb_ BK169 hb; replace HB := h9_ HB hb; (try clear hb))); try go_wp2_with (first | ((with_reducible refine gate_dst (N := 3) rfl ?_); refine bx_ 3 #[.int .i64 a0_0, .int .i64 a0_1] 25 ?_; intro gb169 hg w44 hbox hb; have BK169 := am (hbox); have GW169 := gw_ hg HB; replace HB := h9_ HB hb; clear hb hbox hg; obtain ⟨hcz45_0, hcz45_1, hfz45_0, hfz45_1⟩ := cz2_ BK169.out) | (go_at_call 37; (with_reducible refine (impl_isNode.calls a0_0 a0_1 a1 false _ A4.out).mono ?_); rintro e w46 ⟨rfl, hb⟩; replace BK169 := kb_ BK169 hb; replace HB := h9_ HB hb; (try clear hb))))
  go_ret
  exact ⟨fin_, bb_ HB.out⟩
def impl_leads.f (a0_0 : Int) (a0_1 : Int) (a1 : Int) : Option (Bool) := (impl_NodeCount.f a0_0 a0_1).bind fun t176 => ((impl_inside.f a1 0 (wrap64 ((wrap64 (4 * t176)) - 1))).bind fun t177 => (if t177 = true then ((impl_NextNode.f a0_0 a0_1 (wrap64 (Int.tdiv a1 4)) (Int.tmod a1 4)).bind fun t178 => (some (decide (t178 ≥ 0)))) else (some false)))
theorem impl_leads.e0 {P : Prop} (h : P := by
 go_enter Try.func54, Try.ntmps54
 go_wp2_with (first | ((with_reducible refine gate_dst (N := 2) rfl ?_); refine bx_ 2 #[.int .i64 a0_0, .int .i64 a0_1] 25 ?_; intro gb175 hg w_0 hbox hb; have BK175 := am (hbox); have GW175 := gw_ hg HB; replace HB := h9_ HB hb; clear hb hbox hg; obtain ⟨hcz_0, hcz_1, hfz_0, hfz_1⟩ := cz2_ BK175.out) | ((with_reducible refine gate_callee (f := 28) rfl ?_); refine gm_ (some 7) Try.func28 #[.agg #[.int .i64 a0_0, .int .i64 a0_1]] rfl ?_; (with_reducible refine (impl_NodeCount.calls a0_0 a0_1 t176 _ A3.out).mono ?_); rintro e w_0 ⟨rfl, hb⟩; refine ⟨_, rfl, ?_⟩; replace BK175 := kb_ BK175 hb; replace HB := h9_ HB hb; (try clear hb)) | ((with_reducible refine gate_callee (f := 22) rfl ?_); refine gm_ (some 10) Try.func22 #[.int .i64 a1, .int .i64 0, .int .i64 (wrap64 ((wrap64 (4 * t176)) - 1))] rfl ?_; (with_reducible refine (impl_inside.calls a1 0 (wrap64 ((wrap64 (4 * t176)) - 1)) _ _ A4.out).mono ?_); rintro e w' ⟨rfl, ⟨nd, rfl⟩⟩; refine ⟨_, rfl, ?_⟩; obtain ⟨hcz_0, hcz_1, hfz_0, hfz_1⟩ := cz2_ BK175.out) | (go_at_call 76; (with_reducible refine (impl_NextNode.calls a0_0 a0_1 (wrap64 (Int.tdiv a1 4)) (Int.tmod a1 4) t178 _ A6.out).mono ?_); rintro e w_0 ⟨rfl, hb⟩; replace BK175 := kb_ BK175 hb; replace HB := h9_ HB hb; (try clear hb)))
 go_ret
 exact ⟨fin_, bb_ HB.out⟩) : P := h
theorem impl_leads.calls (a0_0 : Int) (a0_1 : Int) (a1 : Int) (r : Bool) (w : World) (h : impl_leads.f a0_0 a0_1 a1 = some r) :
  Calls Try.prog 54 #[.agg #[.int .i64 a0_0, .int .i64 a0_1], .int .i64 a1] w fun e w' => e = .returned (.bool r) ∧ Below w.heap.size w w' := by
 have hu25 := Try.underlying25
 have HB := am (Below.refl w.heap.size w)
 have H : ((impl_NodeCount.f a0_0 a0_1).bind fun t176 => ((impl_inside.f a1 0 (wrap64 ((wrap64 (4 * t176)) - 1))).bind fun t177 => (if t177 = true then ((impl_NextNode.f a0_0 a0_1 (wrap64 (Int.tdiv a1 4)) (Int.tmod a1 4)).bind fun t178 => (some (decide (t178 ≥ 0)))) else (some false)))) = some r := h
 clear h
 obtain ⟨t176, A3, H⟩ := bi_ H
 obtain ⟨t177, A4, H⟩ := bi_ H
 by_cases c5 : t177 = true
 ·subst c5
  rw [if_pos rfl] at H
  obtain ⟨t178, A6, H⟩ := bi_ H
  obtain rfl := Option.some.inj H
  exact impl_leads.e0
 ·replace c5 := Bool.eq_false_iff.mpr c5
  subst c5
  rw [if_neg (show ¬ (false = true) by decide)] at H
  obtain rfl := Option.some.inj H
  exact impl_leads.e0
end Go.Proofs.Yteiemoooelpdaaa.PFnCreditSum
-- thin
