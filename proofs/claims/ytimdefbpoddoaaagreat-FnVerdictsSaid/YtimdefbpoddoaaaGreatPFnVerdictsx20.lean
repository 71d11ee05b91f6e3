/- The law's functions as plain functions, and their calls. No condition. -/
import Derived.Test.YtimdefbpoddoaaaGreatPFnVerdictsx0
import Derived.Test.YtimdefbpoddoaaaGreatPFnVerdictsx2
import Derived.Test.YtimdefbpoddoaaaGreatPFnVerdictsx18
import Derived.Test.YtimdefbpoddoaaaGreatPFnVerdictsx19
namespace Go.Proofs.YtimdefbpoddoaaaGreat.PFnVerdicts
open Go.RowKit Go.Proofs.YtimdefbpoddoaaaGreatW.PrintWords Go.Proofs.YtimdefbpoddoaaaGreatW.PrintLast Go.Proofs.YtimdefbpoddoaaaGreatW.PrintMore
attribute [local go_sem] max2_int min2_int max_two min_two max_three min_three max_four min_four
set_option linter.unusedVariables false
set_option maxHeartbeats 8000000
set_option maxRecDepth 100000
set_option linter.unusedSimpArgs false

/-! ### spec_DependsOf: function 49 -/
mutual
def spec_DependsOf.l0 : Nat → List (S98) → Int → Int → Int → Int → List Int → List Int → Option ((List (S98)))
 | 0, _, _, _, _, _, _, _ => none
 | k + 1, x5, x6, x7, x569000, x569001, x569002, x570000 => if x7 < (wrap64 (x6 * x6)) then (if x6 = 0 then (none) else ((spec_l04Walk.f k x569000 x569001 x569002 x570000 (wrap64 (Int.tdiv x7 x6)) (Int.tmod x7 x6)).bind fun t575 => (spec_DependsOf.l1 k x5 x6 x7 t575 1 x569000 x569001 x569002 x570000))) else (some x5)
def spec_DependsOf.l1 : Nat → List (S98) → Int → Int → List Int → Int → Int → Int → List Int → List Int → Option ((List (S98)))
 | 0, _, _, _, _, _, _, _, _, _ => none
 | k + 1, x5, x6, x7, x8, x9, x569000, x569001, x569002, x570000 => if x9 < (x8.length : Int) then (if 0 ≤ (wrap64 (x9 - 1)) then (if (wrap64 (x9 - 1)) < (x8.length : Int) then (if 0 ≤ x9 then ((spec_l08Put.f k x5 (rd x8 (wrap64 (x9 - 1))) (rd x8 x9)).bind fun t580 => (spec_DependsOf.l1 k t580 x6 x7 x8 (wrap64 (x9 + 1)) x569000 x569001 x569002 x570000)) else (none)) else (none)) else (none)) else (spec_DependsOf.l0 k x5 x6 (wrap64 (x7 + 1)) x569000 x569001 x569002 x570000)
end
def spec_DependsOf.f (k : Nat) (a0_0 : Int) (a0_1 : Int) (l0_2 : List Int) (l1_0 : List Int) : Option ((List (S98))) := (some (([] : List (S98)) : List (S98))).bind fun y570 => ((spec_TableOk.f k a0_0 a0_1 l0_2 l1_0).bind fun t573 => (if t573 = true then ((spec_NodeCount.f a0_0 a0_1).bind fun t574 => (spec_DependsOf.l0 k y570 t574 0 a0_0 a0_1 l0_2 l1_0)) else (some y570)))
theorem spec_DependsOf.mono_l : ∀ k, (∀ y0 y1 y2 y3 y4 y5 y6, LeO (spec_DependsOf.l0 k y0 y1 y2 y3 y4 y5 y6) (spec_DependsOf.l0 (k + 1) y0 y1 y2 y3 y4 y5 y6)) ∧ (∀ y0 y1 y2 y3 y4 y5 y6 y7 y8, LeO (spec_DependsOf.l1 k y0 y1 y2 y3 y4 y5 y6 y7 y8) (spec_DependsOf.l1 (k + 1) y0 y1 y2 y3 y4 y5 y6 y7 y8))
 | 0 => ⟨fun _ _ _ _ _ _ _ r h => by simp [spec_DependsOf.l0] at h, fun _ _ _ _ _ _ _ _ _ r h => by simp [spec_DependsOf.l1] at h⟩
 | k + 1 => by
  obtain ⟨ih0, ih1⟩ := spec_DependsOf.mono_l k
  refine ⟨?_, ?_⟩
  ·intro y0 y1 y2 y3 y4 y5 y6
   unfold spec_DependsOf.l0
   repeat' (with_reducible first | exact ih0 .. | exact ih1 .. | exact spec_TableOk.mono .. | exact spec_l04Walk.mono .. | exact spec_l08Put.mono .. | exact LeO.refl .. | exact LeO.none .. | refine LeO.ite ?_ ?_ | refine LeO.bind ?_ (fun _ => ?_))
  ·intro y0 y1 y2 y3 y4 y5 y6 y7 y8
   unfold spec_DependsOf.l1
   repeat' (with_reducible first | exact ih0 .. | exact ih1 .. | exact spec_TableOk.mono .. | exact spec_l04Walk.mono .. | exact spec_l08Put.mono .. | exact LeO.refl .. | exact LeO.none .. | refine LeO.ite ?_ ?_ | refine LeO.bind ?_ (fun _ => ?_))
theorem spec_DependsOf.mono : ∀ a0 a1 a2 a3 k, LeO (spec_DependsOf.f k a0 a1 a2 a3) (spec_DependsOf.f (k + 1) a0 a1 a2 a3) := by
 intro a0 a1 a2 a3 k
 obtain ⟨ih0, ih1⟩ := spec_DependsOf.mono_l k
 unfold spec_DependsOf.f
 repeat' (with_reducible first | exact ih0 .. | exact ih1 .. | exact spec_TableOk.mono .. | exact spec_l04Walk.mono .. | exact spec_l08Put.mono .. | exact LeO.refl .. | exact LeO.none .. | refine LeO.ite ?_ ?_ | refine LeO.bind ?_ (fun _ => ?_))
def spec_DependsOf.T8 : Bool × List (List Nat × List Nat) := (true, [([], []), ([], []), ([], []), ([], []), ([2, 3], [2, 3]), ([], []), ([], []), ([5, 6], [5, 6]), ([0, 1, 4, 7], [0, 1, 4, 7]), ([8, 8, 0, 1, 2, 3, 4, 5, 6, 7, 8], [8])])
def spec_DependsOf.B8 : List Nat := [0, 0, 0, 0, 12, 0, 0, 96, 255, 511]
theorem spec_DependsOf.tab8 : rtab .any (opsOf Tryz.f49 8) = spec_DependsOf.T8 := by kernel_rfl
theorem spec_DependsOf.bits8 : waitsOk spec_DependsOf.T8.2 spec_DependsOf.B8 = true := by kernel_rfl
def spec_DependsOf.T12 : Bool × List (List Nat × List Nat) := (true, [([], []), ([], []), ([], []), ([2], [2]), ([1, 3], [1, 3]), ([4], [4]), ([], []), ([], []), ([6, 7], [6, 7]), ([8], [8]), ([5, 9], [5, 9]), ([0, 10], [0, 10]), ([11, 11, 0, 1, 2, 3, 4, 5, 6, 7, 8, 9, 10, 11], [0, 11])])
def spec_DependsOf.B12 : List Nat := [0, 0, 0, 4, 14, 30, 0, 0, 192, 448, 1022, 2047, 4095]
theorem spec_DependsOf.tab12 : rtab .any (opsOf Tryz.f49 12) = spec_DependsOf.T12 := by kernel_rfl
theorem spec_DependsOf.bits12 : waitsOk spec_DependsOf.T12.2 spec_DependsOf.B12 = true := by kernel_rfl
theorem spec_DependsOf.calls (k : Nat) (a0_0 : Int) (a0_1 : Int) (A0_2 : Option Addr) (c0_2 : Nat) (l0_2 : List Int) (A1_0 : Option Addr) (c1_0 : Nat) (l1_0 : List Int) (r : List (S98)) (w : World) (hr0_2 : Kd.C (Kd.int .i64) w A0_2 l0_2.length l0_2) (hc0_2 : l0_2.length ≤ c0_2) (hr1_0 : Kd.C (Kd.int .i64) w A1_0 l1_0.length l1_0) (hc1_0 : l1_0.length ≤ c1_0) (h : spec_DependsOf.f k a0_0 a0_1 l0_2 l1_0 = some r) :
  Calls Tryz.prog 49 #[.agg #[.int .i64 a0_0, .int .i64 a0_1, .slice A0_2 l0_2.length c0_2], .agg #[.slice A1_0 l1_0.length c1_0]] w fun e w' => ∃ v0_ : Value, e = .returned (v0_) ∧ Kd.R k98 98 w' w.heap.size (fun _ => True) v0_ r ∧ Below w.heap.size w w' := by
 have hu38 := Tryz.underlying38
 have hu40 := Tryz.underlying40
 have hu36 := Tryz.underlying36
 have hu98 := Tryz.underlying98
 have HR0_2 := Aside0.mk hr0_2
 have HC0_2 := Aside0.mk hc0_2
 clear hr0_2 hc0_2
 have HR1_0 := Aside0.mk hr1_0
 have HC1_0 := Aside0.mk hc1_0
 clear hr1_0 hc1_0
 have HB := Aside0.mk (Below.refl w.heap.size w)
 have H : ((some (([] : List (S98)) : List (S98))).bind fun y570 => ((spec_TableOk.f k a0_0 a0_1 l0_2 l1_0).bind fun t573 => (if t573 = true then ((spec_NodeCount.f a0_0 a0_1).bind fun t574 => (spec_DependsOf.l0 k y570 t574 0 a0_0 a0_1 l0_2 l1_0)) else (some y570)))) = some r := h
 clear h
 obtain ⟨y570, Ny570, H⟩ := bo_ H
 obtain ⟨t573, A3, H⟩ := bi_ H
 by_cases c4 : t573 = true
 ·subst c4
  rw [if_pos rfl] at H
  obtain ⟨t574, A5, H⟩ := bi_ H
  have H' := Aside0.mk H
  clear H
  go_enter Tryz.func49, Tryz.ntmps49
  go_wp2_with (first | ((with_reducible refine gate_dst (N := 2) rfl ?_); refine box_event ?hg (N := 2) ?hd (cs := #[.int .i64 a0_0, .int .i64 a0_1, .slice A0_2 l0_2.length c0_2]) (t := 38) ?hr ?_; (case hd => rfl); (case hg => rfl); (case hr => first | (go_simp; done) | (go_simp; rfl)); intro gb568 hg w6 hbox hb; have BK568 := Aside0.mk (hbox); have GW568 := gw_ hg HB; have GE568 := gw_ hg HB; replace HB := hs_ HB hb; clear hb hbox hg) | ((with_reducible refine gate_dst (N := 3) rfl ?_); refine box_event ?hg (N := 3) ?hd (cs := #[.slice A1_0 l1_0.length c1_0]) (t := 40) ?hr ?_; (case hd => rfl); (case hg => rfl); (case hr => first | (go_simp; done) | (go_simp; rfl)); intro gb569 hg w7 hbox hb; have BK569 := Aside0.mk (hbox); have GW569 := gw_ hg HB; have GE569 := gw_ hg HB; replace HB := hs_ HB hb; have NB568_569 := nl_ hg BK568; have NB569_568 := ng_ hg BK568; replace BK568 := kb_ BK568 hb; clear hb hbox hg) | ((with_reducible refine gate_dst (N := 10) rfl ?_); refine Kd.R_lit k98 _ 98 ?hg (N := 10) ?hd (xs := ([] : List (S98))) (inner := []) (ok := fun _ => True) (okp := fun _ => True) ?hr ?hp (fun _ hk => hk) trivial (Below.refl _ _) (Nat.le_refl _) (by simp) ?_; (case hd => rfl); (case hg => rfl); (case hr => first | (go_simp; done) | (go_simp; rfl)); (case hp => exact (Reps.none _ _)); intro v571 w8 ho9 hb hg_ hnew_; clear hg_ hnew_; (first | rw [← Ny570.out] at ho9 | (simp only [Int.reduceToNat] at ho9; rw [← Ny570.out] at ho9)); have HO572 := Aside0.mk (Kd.R_lower ho9 (bz_ HB.out)); replace BK568 := kb_ BK568 hb; replace BK569 := kb_ BK569 hb; replace HB := hs_ HB hb; clear hb ho9; have hnb10 := NB568_569.out; have hnc10 := NB569_568.out; obtain ⟨hcz11_0, hcz11_1, hcz11_2, hfz11_0, hfz11_1, hfz11_2⟩ := cz3_ BK568.out; obtain ⟨hcz12_0, hfz12_0⟩ := cz1_ BK569.out) | ((with_reducible refine gate_callee (f := 48) rfl ?_); refine gm_ (some 13) Tryz.func48 #[.agg #[.int .i64 a0_0, .int .i64 a0_1, .slice A0_2 l0_2.length c0_2], .agg #[.slice A1_0 l1_0.length c1_0]] rfl ?_; (with_reducible refine (spec_TableOk.calls k a0_0 a0_1 _ _ l0_2 _ _ l1_0 true _ ?side1 HC0_2.out ?side3 HC1_0.out A3.out).mono ?_); (case side1 => exact cb_ HR0_2.out HB.out); (case side3 => exact cb_ HR1_0.out HB.out); rintro e w13 ⟨rfl, hb⟩; refine ⟨_, rfl, ?_⟩; replace HO572 := rb_ HO572 hb; replace BK568 := kb_ BK568 hb; replace BK569 := kb_ BK569 hb; replace HB := hs_ HB hb; (try clear hb); obtain ⟨hcz14_0, hcz14_1, hcz14_2, hfz14_0, hfz14_1, hfz14_2⟩ := cz3_ BK568.out) | ((with_reducible refine gate_callee (f := 80) rfl ?_); refine gm_ (some 18) Tryz.func80 #[.agg #[.int .i64 a0_0, .int .i64 a0_1]] rfl ?_; (with_reducible refine (spec_NodeCount.calls a0_0 a0_1 t574 _ A5.out).mono ?_); rintro e w15 ⟨rfl, hb⟩; refine ⟨_, rfl, ?_⟩; replace HO572 := rb_ HO572 hb; replace BK568 := kb_ BK568 hb; replace BK569 := kb_ BK569 hb; replace HB := hs_ HB hb; (try clear hb)))
  go_loopg [5, 7] k (fun kq v5 v7 w' => ∃ (x5_1 : List (S98)) (x7_1 : Int), v7 = .int .i64 x7_1 ∧ Aside0 (spec_DependsOf.l0 kq x5_1 t574 x7_1 a0_0 a0_1 l0_2 l1_0 = some r) ∧ Aside0 (kq ≤ k) ∧ Aside0 (Kd.R k98 98 w' w.heap.size (fun _ => True) v5 x5_1) ∧ Aside0 (w'.heap[gb568]? = some (.cells #[.int .i64 a0_0, .int .i64 a0_1, (.slice A0_2 l0_2.length c0_2)] 38 (0, 0))) ∧ Aside0 (w'.heap[gb569]? = some (.cells #[(.slice A1_0 l1_0.length c1_0)] 40 (0, 0))) ∧ Aside0 (Below w.heap.size w w'))
  case atStart => exact ⟨(y570), (0), ef_, H', ⟨Nat.le_refl _⟩, ⟨ra_ HO572.out⟩, ⟨bq_ BK568.out⟩, ⟨bq_ BK569.out⟩, ⟨bb_ HB.out⟩⟩
  clear H'
  try clear c4
  try clear hcz11_0 hcz11_1 hcz11_2 hfz11_0 hfz11_1 hfz11_2
  try clear hcz12_0 hfz12_0
  try clear hcz14_0 hcz14_1 hcz14_2 hfz14_0 hfz14_1 hfz14_2
  obtain ⟨x5_1, x7_1, rfl, HA, HK1, HO_5, BK568, BK569, HB⟩ := hrel
  obtain _ | k1 := gk
  ·exact absurd HA.out (by simp [spec_DependsOf.l0])
  have H := HA.out
  clear HA
  simp only [spec_DependsOf.l0] at H
  by_cases c16 : x7_1 < (wrap64 (t574 * t574))
  rotate_left
  ·rw [if_neg c16] at H
   have c16b0 : decide (x7_1 < (wrap64 (t574 * t574))) = false := decide_eq_false c16
   clear c16
   obtain rfl := Option.some.inj H
   go_wp2
   go_ret
   exact ⟨_, fin_, ra_ HO_5.out, bb_ HB.out⟩
  rw [if_pos c16] at H
  have c16b0 : decide (x7_1 < (wrap64 (t574 * t574))) = true := decide_eq_true c16
  clear c16
  by_cases c17 : t574 = 0
  ·rw [if_pos c17] at H
   exact absurd H (by simp)
  rw [if_neg c17] at H
  have c17b0 : (t574 == 0) = false := beq_eq_false_iff_ne.mpr c17
  have c17b1 : (t574 != 0) = true := bne_iff_ne.mpr c17
  obtain ⟨t575, A18, H⟩ := bi_ H
  have H' := Aside0.mk H
  clear H
  try go_wp2
  replace HO_5 := Aside0.mk (Kd.R_drew HO_5.out)
  replace BK568 := Aside0.mk (blk_drew BK568.out)
  replace BK569 := Aside0.mk (blk_drew BK569.out)
  replace HB := Aside0.mk (below_drew1 HB.out)
  refine start_ (n := 10) (S := fun w' => w'.cell? ⟨gb568, 0, none⟩ = some (.int .i64 a0_0) ∧ w'.cell? ⟨gb568, 1, none⟩ = some (.int .i64 a0_1) ∧ w'.cell? ⟨gb568, 2, none⟩ = some (.slice A0_2 l0_2.length c0_2) ∧ w'.cell? ⟨gb569, 0, none⟩ = some (.slice A1_0 l1_0.length c1_0)) (ds := []) #[false, false, false, false, false, false, false, false, false, false] (by kernel_rfl) rfl rfl ⟨(blk_cell BK568.out 0).trans rfl, (blk_cell BK568.out 1).trans rfl, (blk_cell BK568.out 2).trans rfl, (blk_cell BK569.out 0).trans rfl⟩ (fun hHeld => ?_); refine with_tabW spec_DependsOf.tab8 spec_DependsOf.bits8 (fun HT_ HW_ => ?_)
  generalize wr.drew = w19 at HO_5 BK568 BK569 HB hHeld ⊢
  refine pu_ 2 28 (bt_ 10 4) HT_ ?_
  refine pu_ 3 29 (bt_ 10 12) HT_ ?_
  refine pu_ 4 30 (bt_ 10 28) HT_ ?_
  refine pu_ 5 31 (bt_ 10 60) HT_ ?_
  refine pu_ 6 32 (bt_ 10 124) HT_ ?_
  refine pu_ 7 33 (bt_ 10 252) HT_ ?_
  refine take_ (i := 0) (N := some 26) (v := ?_) (a' := ?_) (bt_ 10 253) rfl rfl (take_ofW HT_.out HW_.out (by kernel_rfl)) (fun _ _ _ h => h) (Or.inl ⟨by rfl, ?_⟩) hHeld ?_ ?_
  rotate_left
  ·rintro w' ⟨s0, s1, s2, s3⟩
   go_simp
   with_reducible rfl
  rotate_left
  ·simp only [Act.put, List.setIfInBounds_toArray, List.set_cons_zero, List.set_cons_succ, i64_w, i32_w]
   rfl
  refine take_ (i := 1) (N := some 27) (v := ?_) (a' := ?_) (bt_ 10 255) rfl rfl (take_ofW HT_.out HW_.out (by kernel_rfl)) (fun _ _ _ h => h) (Or.inl ⟨by rfl, ?_⟩) hHeld ?_ ?_
  rotate_left
  ·rintro w' ⟨s0, s1, s2, s3⟩
   go_simp
   with_reducible rfl
  rotate_left
  ·simp only [Act.put, List.setIfInBounds_toArray, List.set_cons_zero, List.set_cons_succ, i64_w, i32_w]
   rfl
  refine one_ (i := 8) (N := some 34) (bt_ 10 511) rfl rfl (one_of HT_.out (by kernel_rfl)) (by decide) (fun K hK => ?_)
  refine goes_ Tryz.func81 (by kernel_rfl) rfl #[.agg #[.int .i64 a0_0, .int .i64 a0_1, .slice A0_2 l0_2.length c0_2], .agg #[.slice A1_0 l1_0.length c1_0], .int .i64 (wrap64 (Int.tdiv x7_1 t574)), .int .i64 (Int.tmod x7_1 t574)] (by rfl) rfl rfl (by (try simp only [List.map_toArray, List.map_cons, List.map_nil]); first | done | rfl | (simp only [List.length_drop, List.length_take]; rfl)) ?_
  with_reducible refine (spec_l04Walk.calls k1 a0_0 a0_1 _ _ l0_2 _ _ l1_0 (wrap64 (Int.tdiv x7_1 t574)) (Int.tmod x7_1 t574) t575 _ ?side1 ?side2 ?side3 ?side4 A18.out).mono ?_
  (case side1 => exact cb_ HR0_2.out HB.out)
  (case side2 => exact HC0_2.out)
  (case side3 => exact cb_ HR1_0.out HB.out)
  (case side4 => exact HC1_0.out)
  rintro e w20 ⟨v576, rfl, ho0, hb⟩
  refine ⟨_, rfl, ?_⟩
  replace HO_5 := rb_ HO_5 hb
  have HO577 := Aside0.mk (Kd.R_lower ho0 (bz_ HB.out))
  replace BK568 := kb_ BK568 hb
  replace BK569 := kb_ BK569 hb
  replace HB := hs_ HB hb
  (try clear hb)
  (try clear hk)
  (try clear ho0)
  refine hK.out _ _ ⟨(blk_cell BK568.out 0).trans rfl, (blk_cell BK568.out 1).trans rfl, (blk_cell BK568.out 2).trans rfl, (blk_cell BK569.out 0).trans rfl⟩ (fun hHeld => ?_)
  clear hK K
  refine norm_ (a' := ?_) ?_ ?_
  rotate_left
  ·show Act.put _ (some 34) _ = _
   simp only [Act.put, List.setIfInBounds_toArray, List.set_cons_zero, List.set_cons_succ, i64_w, i32_w]
   rfl
  refine pu_ 9 8 (bt_ 10 1023) HT_ ?_
  refine done_ (done_of HT_.out (by kernel_rfl)) ?_
  try go_wp2
  go_loopg [5, 9] k1 (fun kq v5 v9 w' => ∃ (x5_2 : List (S98)) (x9_2 : Int), v9 = .int .i64 x9_2 ∧ Aside0 (spec_DependsOf.l1 kq x5_2 t574 x7_1 t575 x9_2 a0_0 a0_1 l0_2 l1_0 = some r) ∧ Aside0 (kq ≤ k1) ∧ Aside0 (Kd.R k98 98 w' w.heap.size (fun _ => True) v5 x5_2) ∧ Aside0 (Kd.R (Kd.int .i64) 3 w' w.heap.size (fun _ => True) v576 t575) ∧ Aside0 (w'.heap[gb568]? = some (.cells #[.int .i64 a0_0, .int .i64 a0_1, (.slice A0_2 l0_2.length c0_2)] 38 (0, 0))) ∧ Aside0 (w'.heap[gb569]? = some (.cells #[(.slice A1_0 l1_0.length c1_0)] 40 (0, 0))) ∧ Aside0 (Below w.heap.size w w'))
  case atStart => exact ⟨(x5_1), (1), ef_, H', ⟨Nat.le_refl _⟩, ⟨ra_ HO_5.out⟩, ⟨ra_ HO577.out⟩, ⟨bq_ BK568.out⟩, ⟨bq_ BK569.out⟩, ⟨bb_ HB.out⟩⟩
  clear H'
  try clear c4
  try clear c16
  try clear c16b0
  try clear c17
  try clear c17b0
  try clear c17b1
  try clear hcz11_0 hcz11_1 hcz11_2 hfz11_0 hfz11_1 hfz11_2
  try clear hcz12_0 hfz12_0
  try clear hcz14_0 hcz14_1 hcz14_2 hfz14_0 hfz14_1 hfz14_2
  obtain ⟨x5_2, x9_2, rfl, HA, HK2, HO_5, HO_8, BK568, BK569, HB⟩ := hrel
  obtain _ | k2 := gk
  ·exact absurd HA.out (by simp [spec_DependsOf.l1])
  have H := HA.out
  clear HA
  simp only [spec_DependsOf.l1] at H
  by_cases c21 : x9_2 < (t575.length : Int)
  rotate_left
  ·rw [if_neg c21] at H
   have c21b0 : decide (x9_2 < (t575.length : Int)) = false := decide_eq_false c21
   clear c21
   have H' := Aside0.mk H
   clear H
   obtain ⟨Ao31, co31, eo31⟩ := Kd.R_slice HO_8.out
   subst eo31
   go_wp2
   go_roundg k2
   case measure => have := HK1.out; have := HK2.out; omega
   case rel => exact ⟨(x5_2), (wrap64 (x7_1 + 1)), ef_, H', ⟨by have := HK1.out; have := HK2.out; omega⟩, ⟨ra_ HO_5.out⟩, ⟨bq_ BK568.out⟩, ⟨bq_ BK569.out⟩, ⟨bb_ HB.out⟩⟩
  rw [if_pos c21] at H
  have c21b0 : decide (x9_2 < (t575.length : Int)) = true := decide_eq_true c21
  clear c21
  obtain ⟨ji22, hji22⟩ : ∃ j_ : Int, (wrap64 (x9_2 - 1)) = j_ := ⟨_, rfl⟩
  replace H : (if 0 ≤ (ji22) then (if (ji22) < (t575.length : Int) then (if 0 ≤ x9_2 then ((spec_l08Put.f k2 x5_2 (rd t575 (ji22)) (rd t575 x9_2)).bind fun t580 => (spec_DependsOf.l1 k2 t580 t574 x7_1 t575 (wrap64 (x9_2 + 1)) a0_0 a0_1 l0_2 l1_0)) else (none)) else (none)) else (none)) = some r := by first | (rw [hji22] at H; exact H) | (simp only [hji22] at H ⊢; exact H)
  have hji22w : (IntKind.i64.wrap (x9_2 - 1)) = ji22 := (i64_w _).trans hji22
  by_cases c23 : 0 ≤ (ji22)
  rotate_left
  ·rw [if_neg c23] at H
   exact absurd H (by simp)
  rw [if_pos c23] at H
  have c23b0 : decide (0 ≤ (ji22)) = true := decide_eq_true c23
  clear c23
  by_cases c24 : (ji22) < (t575.length : Int)
  rotate_left
  ·rw [if_neg c24] at H
   exact absurd H (by simp)
  rw [if_pos c24] at H
  have c24b0 : decide ((ji22) < (t575.length : Int)) = true := decide_eq_true c24
  clear c24
  by_cases c25 : 0 ≤ x9_2
  rotate_left
  ·rw [if_neg c25] at H
   exact absurd H (by simp)
  rw [if_pos c25] at H
  have c25b0 : decide (0 ≤ x9_2) = true := decide_eq_true c25
  clear c25
  obtain ⟨t580, A26, H⟩ := bi_ H
  have H' := Aside0.mk H
  clear H
  obtain ⟨Ao27, co27, eo27⟩ := Kd.R_slice HO_8.out
  subst eo27
  try go_wp2
  replace HO_5 := Aside0.mk (Kd.R_drew HO_5.out)
  replace HO_8 := Aside0.mk (Kd.R_drew HO_8.out)
  replace BK568 := Aside0.mk (blk_drew BK568.out)
  replace BK569 := Aside0.mk (blk_drew BK569.out)
  replace HB := Aside0.mk (below_drew1 HB.out)
  have p578 : 0 ≤ ((ji22) : Int) := of_decide_eq_true dg_
  have q578 : (ji22) < (t575.length : Int) := of_decide_eq_true dg_
  obtain ⟨ad578, e578, hx578_0⟩ := Kd.at_int (Kd.R_reads' HO_8.out).2.2 (ji22) p578 q578
  cases e578
  replace p578 := eq_true p578
  replace q578 := eq_true q578
  have p579 : 0 ≤ (x9_2 : Int) := of_decide_eq_true dg_
  have q579 : x9_2 < (t575.length : Int) := of_decide_eq_true dg_
  obtain ⟨ad579, e579, hx579_0⟩ := Kd.at_int (Kd.R_reads' HO_8.out).2.2 x9_2 p579 q579
  obtain rfl : ad578 = ad579 := (by injection e579)
  replace p579 := eq_true p579
  replace q579 := eq_true q579
  obtain ⟨Ao29, co29, eo29⟩ := Kd.R_slice HO_5.out
  (first | subst eo29 | (injection eo29 with f1_ f2_ f3_; have f4_ := f1_.symm; have f5_ := f3_.symm; clear f1_ f2_ f3_; subst f4_; subst f5_))
  refine start_ (n := 13) (S := fun w' => w'.cell? (ad578.add ((ji22)).toNat) = some (.int .i64 (rd t575 (ji22))) ∧ w'.cell? (ad578.add (x9_2).toNat) = some (.int .i64 (rd t575 x9_2))) (ds := []) #[false, false, false, false, false, false, false, false, false, false, false, false, false] (by kernel_rfl) rfl rfl ⟨hx578_0, hx579_0⟩ (fun hHeld => ?_); refine with_tabW spec_DependsOf.tab12 spec_DependsOf.bits12 (fun HT_ HW_ => ?_)
  generalize wr.drew = w28 at HO_5 HO_8 BK568 BK569 HB hx578_0 hx579_0 hHeld ⊢
  refine pu_ 0 41 (bt_ 13 1) HT_ ?_
  refine pu_ 1 42 (bt_ 13 3) HT_ ?_
  refine pu_ 2 43 (bt_ 13 7) HT_ ?_
  refine pu_ 3 44 (bt_ 13 15) HT_ ?_
  refine pu_ 4 45 (bt_ 13 31) HT_ ?_
  refine pu_ 6 47 (bt_ 13 95) HT_ ?_
  refine pu_ 7 48 (bt_ 13 223) HT_ ?_
  refine pu_ 8 49 (bt_ 13 479) HT_ ?_
  refine take_ (i := 5) (N := some 46) (v := ?_) (a' := ?_) (bt_ 13 511) rfl rfl (take_ofW HT_.out HW_.out (by kernel_rfl)) (fun _ _ _ h => h) (Or.inl ⟨by rfl, ?_⟩) hHeld ?_ ?_
  rotate_left
  ·rintro w' ⟨s0, s1⟩
   go_simp
   with_reducible rfl
  rotate_left
  ·simp only [Act.put, List.setIfInBounds_toArray, List.set_cons_zero, List.set_cons_succ, i64_w, i32_w]
   rfl
  refine take_ (i := 9) (N := some 50) (v := ?_) (a' := ?_) (bt_ 13 1023) rfl rfl (take_ofW HT_.out HW_.out (by kernel_rfl)) (fun _ _ _ h => h) (Or.inl ⟨by rfl, ?_⟩) hHeld ?_ ?_
  rotate_left
  ·rintro w' ⟨s0, s1⟩
   go_simp
   with_reducible rfl
  rotate_left
  ·simp only [Act.put, List.setIfInBounds_toArray, List.set_cons_zero, List.set_cons_succ, i64_w, i32_w]
   rfl
  refine pu_ 10 51 (bt_ 13 2047) HT_ ?_
  refine one_ (i := 11) (N := some 52) (bt_ 13 4095) rfl rfl (one_of HT_.out (by kernel_rfl)) (by decide) (fun K hK => ?_)
  refine goes_ Tryz.func82 (by kernel_rfl) rfl #[.slice Ao29 x5_2.length co29, .agg #[.int .i64 (rd t575 (ji22)), .int .i64 (rd t575 x9_2)]] (by rfl) rfl rfl (by (try simp only [List.map_toArray, List.map_cons, List.map_nil]); first | done | (simp only [hji22]; rfl) | rfl | (simp only [List.length_drop, List.length_take]; rfl)) ?_
  with_reducible refine (spec_l08Put.calls k2 (fun k_ => some k_ = (.slice Ao29 x5_2.length co29 : Value).ownBlock) (.slice Ao29 x5_2.length co29) x5_2 (rd t575 (ji22)) (rd t575 x9_2) t580 w _ ?side1 ?side2 A26.out).mono ?_
  (case side1 => repeat (first | (with_reducible first | exact HB.out | apply below_alloc | apply pw_below_drewN | apply below_drew1 | refine below_set ?_ GE568.out | refine below_set ?_ GE569.out) | exact HB.out))
  (case side2 => exact Kd.R_tight rfl HO_5.out)
  rintro e w30 ⟨v581, rfl, ho0, hb, hkp⟩
  have HS0_ := cell_kept (hHeld.1) hkp (by first | (rw [add_block]; exact (fun hs_ => ((((Kd.R_apart' HO_8.out (Kd.R_typed HO_5.out) (by decide))).1 _ rfl).2) hs_)) | (show ¬ _; simp only [add_block]; exact (fun hs_ => ((((Kd.R_apart' HO_8.out (Kd.R_typed HO_5.out) (by decide))).1 _ rfl).2) hs_)) | exact (fun hs_ => ((((Kd.R_apart' HO_8.out (Kd.R_typed HO_5.out) (by decide))).1 _ rfl).2) hs_))
  have HS1_ := cell_kept (hHeld.2) hkp (by first | (rw [add_block]; exact (fun hs_ => ((((Kd.R_apart' HO_8.out (Kd.R_typed HO_5.out) (by decide))).1 _ rfl).2) hs_)) | (show ¬ _; simp only [add_block]; exact (fun hs_ => ((((Kd.R_apart' HO_8.out (Kd.R_typed HO_5.out) (by decide))).1 _ rfl).2) hs_)) | exact (fun hs_ => ((((Kd.R_apart' HO_8.out (Kd.R_typed HO_5.out) (by decide))).1 _ rfl).2) hs_))
  refine ⟨_, rfl, ?_⟩
  replace HO_8 := Aside0.mk (Kd.R_mono (ok' := fun k_ => True) (Kd.R_keptB ((Kd.R_apart' HO_8.out (Kd.R_typed HO_5.out) (by decide))) hkp (fun k_ hk_ hs_ => (hk_.2) hs_)) (fun k_ hk_ => trivial))
  replace BK568 := Aside0.mk (blk_kept (by (with_reducible repeat (first | refine blk_drewN ?_ _ | refine blk_drew ?_ | refine blk_alloc ?_ _)); exact BK568.out) hkp (fun hs_ => (fun e_ => (Kd.R_ne HO_5.out BK568.out (by decide)) e_) hs_))
  replace BK569 := Aside0.mk (blk_kept (by (with_reducible repeat (first | refine blk_drewN ?_ _ | refine blk_drew ?_ | refine blk_alloc ?_ _)); exact BK569.out) hkp (fun hs_ => (fun e_ => (Kd.R_ne HO_5.out BK569.out (by decide)) e_) hs_))
  have HO582 := Aside0.mk (Kd.R_mono (ok' := fun k_ => True) ho0 (fun k_ hk_ => trivial))
  replace HB := Aside0.mk (hb)
  clear HO_5
  (try clear hb)
  (try clear hkp)
  (try clear ho0)
  refine hK.out _ _ ⟨HS0_, HS1_⟩ (fun hHeld => ?_)
  clear hK K
  refine norm_ (a' := ?_) ?_ ?_
  rotate_left
  ·show Act.put _ (some 52) _ = _
   simp only [Act.put, List.setIfInBounds_toArray, List.set_cons_zero, List.set_cons_succ, i64_w, i32_w]
   rfl
  refine pu_ 12 5 (bt_ 13 8191) HT_ ?_
  refine done_ (done_of HT_.out (by kernel_rfl)) ?_
  try go_wp2
  go_roundg k2
  case measure => have := HK1.out; have := HK2.out; omega
  case rel => exact ⟨(t580), (wrap64 (x9_2 + 1)), ef_, H', ⟨by have := HK1.out; have := HK2.out; omega⟩, ⟨ra_ HO582.out⟩, ⟨ra_ HO_8.out⟩, ⟨bq_ BK568.out⟩, ⟨bq_ BK569.out⟩, ⟨bb_ HB.out⟩⟩
 ·replace c4 := Bool.eq_false_iff.mpr c4
  subst c4
  rw [if_neg (show ¬ (false = true) by decide)] at H
  obtain rfl := Option.some.inj H
  go_enter Tryz.func49, Tryz.ntmps49
  go_wp2_with (first | ((with_reducible refine gate_dst (N := 2) rfl ?_); refine box_event ?hg (N := 2) ?hd (cs := #[.int .i64 a0_0, .int .i64 a0_1, .slice A0_2 l0_2.length c0_2]) (t := 38) ?hr ?_; (case hd => rfl); (case hg => rfl); (case hr => first | (go_simp; done) | (go_simp; rfl)); intro gb568 hg w32 hbox hb; have BK568 := Aside0.mk (hbox); have GW568 := gw_ hg HB; have GE568 := gw_ hg HB; replace HB := hs_ HB hb; clear hb hbox hg) | ((with_reducible refine gate_dst (N := 3) rfl ?_); refine box_event ?hg (N := 3) ?hd (cs := #[.slice A1_0 l1_0.length c1_0]) (t := 40) ?hr ?_; (case hd => rfl); (case hg => rfl); (case hr => first | (go_simp; done) | (go_simp; rfl)); intro gb569 hg w33 hbox hb; have BK569 := Aside0.mk (hbox); have GW569 := gw_ hg HB; have GE569 := gw_ hg HB; replace HB := hs_ HB hb; have NB568_569 := nl_ hg BK568; have NB569_568 := ng_ hg BK568; replace BK568 := kb_ BK568 hb; clear hb hbox hg) | ((with_reducible refine gate_dst (N := 10) rfl ?_); refine Kd.R_lit k98 _ 98 ?hg (N := 10) ?hd (xs := ([] : List (S98))) (inner := []) (ok := fun _ => True) (okp := fun _ => True) ?hr ?hp (fun _ hk => hk) trivial (Below.refl _ _) (Nat.le_refl _) (by simp) ?_; (case hd => rfl); (case hg => rfl); (case hr => first | (go_simp; done) | (go_simp; rfl)); (case hp => exact (Reps.none _ _)); intro v571 w34 ho35 hb hg_ hnew_; clear hg_ hnew_; (first | rw [← Ny570.out] at ho35 | (simp only [Int.reduceToNat] at ho35; rw [← Ny570.out] at ho35)); have HO572 := Aside0.mk (Kd.R_lower ho35 (bz_ HB.out)); replace BK568 := kb_ BK568 hb; replace BK569 := kb_ BK569 hb; replace HB := hs_ HB hb; clear hb ho35; have hnb36 := NB568_569.out; have hnc36 := NB569_568.out; obtain ⟨hcz37_0, hcz37_1, hcz37_2, hfz37_0, hfz37_1, hfz37_2⟩ := cz3_ BK568.out; obtain ⟨hcz38_0, hfz38_0⟩ := cz1_ BK569.out) | ((with_reducible refine gate_callee (f := 48) rfl ?_); refine gm_ (some 13) Tryz.func48 #[.agg #[.int .i64 a0_0, .int .i64 a0_1, .slice A0_2 l0_2.length c0_2], .agg #[.slice A1_0 l1_0.length c1_0]] rfl ?_; (with_reducible refine (spec_TableOk.calls k a0_0 a0_1 _ _ l0_2 _ _ l1_0 false _ ?side1 HC0_2.out ?side3 HC1_0.out A3.out).mono ?_); (case side1 => exact cb_ HR0_2.out HB.out); (case side3 => exact cb_ HR1_0.out HB.out); rintro e w39 ⟨rfl, hb⟩; refine ⟨_, rfl, ?_⟩; replace HO572 := rb_ HO572 hb; replace BK568 := kb_ BK568 hb; replace BK569 := kb_ BK569 hb; replace HB := hs_ HB hb; (try clear hb)))
  go_ret
  exact ⟨_, fin_, ra_ HO572.out, bb_ HB.out⟩

end Go.Proofs.YtimdefbpoddoaaaGreat.PFnVerdicts
-- thin
