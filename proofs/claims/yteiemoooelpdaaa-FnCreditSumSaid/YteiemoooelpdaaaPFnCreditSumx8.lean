
import Derived.Test.YteiemoooelpdaaaPFnCreditSumx0
import Derived.Test.YteiemoooelpdaaaPFnCreditSumx7
namespace Go.Proofs.Yteiemoooelpdaaa.PFnCreditSum
open Go.RowKit Go.Proofs.YteiemoooelpdaaaW.PrintWords Go.Proofs.YteiemoooelpdaaaW.PrintLast Go.Proofs.YteiemoooelpdaaaW.PrintMore
attribute [local go_sem] max2_int min2_int max_two min_two max_three min_three max_four min_four
set_option linter.unusedVariables false
set_option maxHeartbeats 8000000
set_option maxRecDepth 100000
set_option linter.unusedSimpArgs false
def spec_l15Classes.f (l0_0 : List Int) (l0_1 : List Int) : Option (List Int × List Int) := (spec_l12Copy.f l0_0).bind fun t306 => ((spec_l12Copy.f l0_1).bind fun t309 => (some (t306, t309)))
def spec_l15Classes.T1 : Bool × List (List Nat × List Nat) := (true, [([], []), ([0], [0]), ([1], [1]), ([], []), ([3], [3]), ([4, 2], [4]), ([2, 5], [2, 5]), ([6, 5, 0, 1, 2, 3, 4, 5, 6], [6])])
def spec_l15Classes.B1 : List Nat := [0, 1, 3, 0, 8, 31, 63, 127]
theorem spec_l15Classes.tab1 : rtab .any (opsOf Try.f61 1) = spec_l15Classes.T1 := by kernel_rfl
theorem spec_l15Classes.bits1 : waitsOk spec_l15Classes.T1.2 spec_l15Classes.B1 = true := by kernel_rfl
theorem spec_l15Classes.calls (A0_0 : Option Addr) (c0_0 : Nat) (l0_0 : List Int) (A0_1 : Option Addr) (c0_1 : Nat) (l0_1 : List Int) (r1 : List Int) (r2 : List Int) (w : World) (hr0_0 : Kd.C (Kd.int .i64) w A0_0 l0_0.length l0_0) (hc0_0 : l0_0.length ≤ c0_0) (hr0_1 : Kd.C (Kd.int .i64) w A0_1 l0_1.length l0_1) (hc0_1 : l0_1.length ≤ c0_1) (h : spec_l15Classes.f l0_0 l0_1 = some (r1, r2)) :
  Calls Try.prog 61 #[.agg #[.slice A0_0 l0_0.length c0_0, .slice A0_1 l0_1.length c0_1]] w fun e w' => ∃ v0_ v1_ : Value, e = .returned (.agg #[v0_, v1_]) ∧ Kd.R (Kd.int .i64) 3 w' w.heap.size (fun k_ => some k_ ≠ (v1_ : Value).ownBlock) v0_ r1 ∧ Kd.R (Kd.int .i64) 3 w' w.heap.size (fun k_ => some k_ ≠ (v0_ : Value).ownBlock) v1_ r2 ∧ Below w.heap.size w w' := by
 have hu32 := Try.underlying32
 have hu30 := Try.underlying30
 have HR0_0 := am hr0_0
 have HC0_0 := am hc0_0
 clear hr0_0 hc0_0
 have HR0_1 := am hr0_1
 have HC0_1 := am hc0_1
 clear hr0_1 hc0_1
 have HB := am (Below.refl w.heap.size w)
 have H : ((spec_l12Copy.f l0_0).bind fun t306 => ((spec_l12Copy.f l0_1).bind fun t309 => (some (t306, t309)))) = some (r1, r2) := h
 clear h
 obtain ⟨t306, A2, H⟩ := bi_ H
 obtain ⟨t309, A3, H⟩ := bi_ H
 simp only [Option.some.injEq, Prod.mk.injEq] at H
 obtain ⟨rfl, rfl⟩ := H
 go_enter Try.func61, Try.ntmps61
 try go_wp2_with (first | ((with_reducible refine gate_dst (N := 1) rfl ?_); refine bx_ 1 #[.slice A0_0 l0_0.length c0_0, .slice A0_1 l0_1.length c0_1] 32 ?_; intro gb304 hg w4 hbox hb; have BK304 := am (hbox); have GW304 := gw_ hg HB; replace HB := h9_ HB hb; clear hb hbox hg) | ((with_reducible refine gate_dst (N := 2) rfl ?_); refine bx_ 2 #[.slice none 0 0, .slice none 0 0] 32 ?_; intro gb305 hg w5 hbox hb; have BK305 := am (hbox); have GW305 := gw_ hg HB; replace HB := h9_ HB hb; have NB304_305 := nl_ hg BK304; have NB305_304 := ng_ hg BK304; replace BK304 := kb_ BK304 hb; clear hb hbox hg))
 replace BK304 := am (blk_drew BK304.out)
 replace BK305 := am (blk_drew BK305.out)
 replace HB := am (below_drew1 HB.out)
 refine start_ (n := 8) (S := fun w' => w'.cell? ⟨gb304, 0, none⟩ = some (.slice A0_0 l0_0.length c0_0) ∧ w'.cell? ⟨gb304, 1, none⟩ = some (.slice A0_1 l0_1.length c0_1)) (ds := []) #[false, false, false, false, false, false, false, false] (by kernel_rfl) rfl rfl ⟨(blk_cell BK304.out 0).trans rfl, (blk_cell BK304.out 1).trans rfl⟩ (fun hHeld => ?_); refine with_tabW spec_l15Classes.tab1 spec_l15Classes.bits1 (fun HT_ HW_ => ?_)
 generalize w5.drew = w6 at BK304 BK305 HB hHeld ⊢
 refine pu_ 0 3 (bt_ 8 1) HT_ ?_
 refine pu_ 3 6 (bt_ 8 9) HT_ ?_
 refine tw_ 1 4 (bt_ 8 11) HT_ HW_ hHeld ?_
 refine tw_ 4 7 (bt_ 8 27) HT_ HW_ hHeld ?_
 refine one_ (i := 2) (N := some 5) (bt_ 8 31) rfl rfl (one_of HT_.out (by kernel_rfl)) (by decide) (fun K hK => ?_)
 refine goes_ Try.func83 (by kernel_rfl) rfl #[.agg #[.slice A0_0 l0_0.length c0_0]] (by rfl) rfl rfl (by (try simp only [List.map_toArray, List.map_cons, List.map_nil]); first | done | rfl | (simp only [List.length_drop, List.length_take]; rfl)) ?_
 with_reducible refine (spec_l12Copy.calls _ _ l0_0 t306 _ ?side1 ?side2 A2.out).mono ?_
 (case side1 => exact cb_ HR0_0.out HB.out)
 (case side2 => exact HC0_0.out)
 rintro e w7 ⟨v307, rfl, ho0, hb⟩
 refine ⟨_, rfl, ?_⟩
 have HO308 := am (Kd.R_lower ho0 (bz_ HB.out))
 replace BK304 := kb_ BK304 hb
 replace BK305 := kb_ BK305 hb
 replace HB := h9_ HB hb
 (try clear hb)
 (try clear hk)
 (try clear ho0)
 refine hK.out _ _ ⟨(blk_cell BK304.out 0).trans rfl, (blk_cell BK304.out 1).trans rfl⟩ (fun hHeld => ?_)
 clear hK K
 refine nm_ 5 ?_
 refine one_ (i := 5) (N := some 8) (bt_ 8 63) rfl rfl (one_of HT_.out (by kernel_rfl)) (by decide) (fun K hK => ?_)
 refine goes_ Try.func83 (by kernel_rfl) rfl #[.agg #[.slice A0_1 l0_1.length c0_1]] (by rfl) rfl rfl (by (try simp only [List.map_toArray, List.map_cons, List.map_nil]); first | done | rfl | (simp only [List.length_drop, List.length_take]; rfl)) ?_
 with_reducible refine (spec_l12Copy.calls _ _ l0_1 t309 _ ?side1 ?side2 A3.out).mono ?_
 (case side1 => exact cb_ HR0_1.out HB.out)
 (case side2 => exact HC0_1.out)
 rintro e w8 ⟨v310, rfl, ho0, hb⟩
 refine ⟨_, rfl, ?_⟩
 have HO311 := am (Kd.R_lower (Kd.R_new' ho0 (rl_ HO308.out)) (bz_ HB.out))
 replace HO308 := re_ HO308 ho0 hb
 replace BK304 := kb_ BK304 hb
 replace BK305 := kb_ BK305 hb
 replace HB := h9_ HB hb
 (try clear hb)
 (try clear hk)
 (try clear ho0)
 obtain ⟨Ao9, co9, eo9⟩ := Kd.R_slice HO311.out
 (first | subst eo9 | (injection eo9 with f1_ f2_ f3_; have f4_ := f1_.symm; have f5_ := f3_.symm; clear f1_ f2_ f3_; subst f4_; subst f5_))
 obtain ⟨Ao10, co10, eo10⟩ := Kd.R_slice HO308.out
 (first | subst eo10 | (injection eo10 with f1_ f2_ f3_; have f4_ := f1_.symm; have f5_ := f3_.symm; clear f1_ f2_ f3_; subst f4_; subst f5_))
 refine hK.out _ _ ⟨(blk_cell BK304.out 0).trans rfl, (blk_cell BK304.out 1).trans rfl⟩ (fun hHeld => ?_)
 clear hK K
 refine nm_ 8 ?_
 refine pu_ 6 9 (bt_ 8 127) HT_ ?_
 refine one_ (i := 7) (N := none) (bt_ 8 255) rfl rfl (one_of HT_.out (by kernel_rfl)) (by decide) (fun K hK => ?_)
 have hs11 : w8.cell? ⟨gb305, 0, none⟩ = some (.slice none 0 0) := (blk_cell BK305.out 0).trans rfl
 have hfs11 := blk_frozen BK305.out 0
 have hns11_0 := NB304_305.out
 have hms11_0 := NB305_304.out
 have hs12 : w8.cell? ⟨gb305, 1, none⟩ = some (.slice none 0 0) := (blk_cell BK305.out 1).trans rfl
 have hfs12 := blk_frozen BK305.out 1
 have hns12_0 := NB304_305.out
 have hms12_0 := NB305_304.out
 refine skip_ (w1 := ?_) (by rfl) rfl ?_ ?_
 rotate_left
 ·go_simp
  rfl
 refine hK.out _ _ ⟨((cell_far (p := ⟨gb305, _, none⟩) NB304_305.out _).trans (((cell_far (p := ⟨gb305, _, none⟩) NB304_305.out _).trans (hHeld.1)))), ((cell_far (p := ⟨gb305, _, none⟩) NB304_305.out _).trans (((cell_far (p := ⟨gb305, _, none⟩) NB304_305.out _).trans (hHeld.2))))⟩ (fun hHeld => ?_)
 clear hK K
 refine done_ (done_of HT_.out (by kernel_rfl)) ?_
 try go_wp2
 refine bodyPost_ret (results_cell_row rfl _ _ gb305 32 #[.slice Ao10 t306.length co10, .slice Ao9 t309.length co9] (0, 0) _ rfl (by (with_reducible repeat (first | refine blk_drewN ?_ _ | refine blk_drew ?_ | refine blk_alloc ?_ _)); refine blk_put (cs := #[.slice Ao10 t306.length co10, .slice none 0 0]) ?_ 1 _ rfl; (with_reducible repeat (first | refine blk_drewN ?_ _ | refine blk_drew ?_ | refine blk_alloc ?_ _)); refine blk_put (cs := #[.slice none 0 0, .slice none 0 0]) ?_ 0 _ rfl; (with_reducible repeat (first | refine blk_drewN ?_ _ | refine blk_drew ?_ | refine blk_alloc ?_ _)); exact BK305.out) Try.underlying32 rfl (by kernel_rfl)) rfl ?_
 exact ⟨_, _, fin_, rm_ (Kd.R_types HO308.out BK305.out (by decide)) (fun _ hk => hk.1.2), rm_ (Kd.R_types HO311.out BK305.out (by decide)) (fun _ hk => hk.1.2), bb_ HB.out⟩
end Go.Proofs.Yteiemoooelpdaaa.PFnCreditSum
-- thin
