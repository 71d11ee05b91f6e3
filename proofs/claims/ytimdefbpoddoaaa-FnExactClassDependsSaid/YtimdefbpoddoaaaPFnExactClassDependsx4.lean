/- Each function that the law comes to, as a plain function, with the proof that the call in the model gives what that function says (written by a program of this session out of the translation). No condition. -/
import Derived.Test.YtimdefbpoddoaaaPFnExactClassDependsx0
import Derived.Test.YtimdefbpoddoaaaPFnExactClassDependsx1
import Derived.Test.YtimdefbpoddoaaaPFnExactClassDependsx3
namespace Go.Proofs.Ytimdefbpoddoaaa.PFnExactClassDepends
open Go.RowKit Go.Proofs.YtimdefbpoddoaaaW.PrintWords Go.Proofs.YtimdefbpoddoaaaW.PrintLast Go.Proofs.YtimdefbpoddoaaaW.PrintMore
attribute [local go_sem] max2_int min2_int max_two min_two max_three min_three max_four min_four   -- for this text's walks alone
set_option linter.unusedVariables false
set_option linter.unusedSimpArgs false

attribute [local go_sem high] eqA94
/-! ### spec_l08Put: function 63 -/
def spec_l08Put.l0 : Nat → List (S94) → Int → Int → Int → Option ((List (S94)))
 | 0, _, _, _, _ => none
 | k + 1, x0, x5, x148000, x148001 => if x5 > 0 then (if 0 ≤ (wrap64 (x5 - 1)) then (if (wrap64 (x5 - 1)) < (x0.length : Int) then ((spec_l08Less.f x148000 x148001 ((rd_T94 x0 (wrap64 (x5 - 1))).f0) ((rd_T94 x0 (wrap64 (x5 - 1))).f1)).bind fun t149 => (if t149 = true then (spec_l08Put.l0 k x0 (wrap64 (x5 - 1)) x148000 x148001) else (if (((rd_T94 x0 (wrap64 (x5 - 1))).f0) == x148000 && (((rd_T94 x0 (wrap64 (x5 - 1))).f1) == x148001)) = true then (some x0) else ((some (([] : List (S94)) : List (S94))).bind fun y151 => (if 0 ≤ x5 then (if x5 ≤ (x0.length : Int) then ((some (x0.take (x5 : Int).toNat : List (S94))).bind fun y154 => (if y151.length + y154.length < 8796093022208 then ((some (y151 ++ y154 : List (S94))).bind fun y158 => (if y158.length < 8796093022208 then ((some (y158 ++ [(⟨x148000, x148001⟩ : S94)] : List (S94))).bind fun y161 => ((some (x0.drop (x5 : Int).toNat : List (S94))).bind fun y164 => (if y161.length + y164.length < 8796093022208 then (some (y161 ++ y164)) else (none)))) else (none))) else (none))) else (none)) else (none)))))) else (none)) else (none)) else ((some (([] : List (S94)) : List (S94))).bind fun y171 => (if 0 ≤ x5 then (if x5 ≤ (x0.length : Int) then ((some (x0.take (x5 : Int).toNat : List (S94))).bind fun y174 => (if y171.length + y174.length < 8796093022208 then ((some (y171 ++ y174 : List (S94))).bind fun y178 => (if y178.length < 8796093022208 then ((some (y178 ++ [(⟨x148000, x148001⟩ : S94)] : List (S94))).bind fun y181 => ((some (x0.drop (x5 : Int).toNat : List (S94))).bind fun y184 => (if y181.length + y184.length < 8796093022208 then (some (y181 ++ y184)) else (none)))) else (none))) else (none))) else (none)) else (none)))
def spec_l08Put.f (k : Nat) (l0 : List (S94)) (a1_0 : Int) (a1_1 : Int) : Option ((List (S94))) := spec_l08Put.l0 k l0 (l0.length : Int) a1_0 a1_1
theorem spec_l08Put.mono_l : ∀ k, (∀ y0 y1 y2 y3, LeO (spec_l08Put.l0 k y0 y1 y2 y3) (spec_l08Put.l0 (k + 1) y0 y1 y2 y3))
 | 0 => fun _ _ _ _ r h => by simp [spec_l08Put.l0] at h
 | k + 1 => by
  have ih0 := spec_l08Put.mono_l k
  ·intro y0 y1 y2 y3
   unfold spec_l08Put.l0
   repeat' first
   | (with_reducible exact ih0 _ _ _ _)
   | (with_reducible exact LeO.refl _)
   | (with_reducible exact LeO.none _)
   | (with_reducible refine LeO.ite ?_ ?_)
   | (with_reducible refine LeO.bind ?_ (fun _ => ?_))
   | exact ih0 _ _ _ _
   | exact LeO.none _
   | refine LeO.ite ?_ ?_
   | refine LeO.bind ?_ (fun _ => ?_)
theorem spec_l08Put.mono : ∀ a0 a1 a2 k, LeO (spec_l08Put.f k a0 a1 a2) (spec_l08Put.f (k + 1) a0 a1 a2) := by
 intro a0 a1 a2 k
 have ih0 := spec_l08Put.mono_l k
 unfold spec_l08Put.f
 repeat' first
   | (with_reducible exact ih0 _ _ _ _)
   | (with_reducible exact LeO.refl _)
   | (with_reducible exact LeO.none _)
   | (with_reducible refine LeO.ite ?_ ?_)
   | (with_reducible refine LeO.bind ?_ (fun _ => ?_))
   | exact ih0 _ _ _ _
   | exact LeO.none _
   | refine LeO.ite ?_ ?_
   | refine LeO.bind ?_ (fun _ => ?_)
def spec_l08Put.T2 : Bool × List (List Nat × List Nat) := (true, [([], []), ([0], [0]), ([1], [1]), ([2], [2]), ([2], [2]), ([2], [2]), ([5, 2], [2, 5]), ([4, 6, 2], [2, 4, 6]), ([7, 2], [2, 7]), ([3, 8, 2, 2], [2, 3, 8]), ([2, 9], [2, 9])])
def spec_l08Put.B2 : List Nat := [0, 1, 3, 7, 7, 7, 39, 119, 247, 511, 1023]
theorem spec_l08Put.tab2 : rtab .any (opsOf Try.f63 2) = spec_l08Put.T2 := by kernel_rfl
theorem spec_l08Put.bits2 : waitsOk spec_l08Put.T2.2 spec_l08Put.B2 = true := by kernel_rfl
def spec_l08Put.T4 : Bool × List (List Nat × List Nat) := (true, [([], []), ([0], [0]), ([1], [1]), ([2], [2]), ([2], [2]), ([4, 2], [2, 4]), ([3, 5, 2], [2, 3, 5]), ([6, 2], [2, 6]), ([2], [2]), ([7, 8, 2], [2, 7, 8]), ([2, 9], [2, 9])])
def spec_l08Put.B4 : List Nat := [0, 1, 3, 7, 7, 23, 63, 127, 7, 511, 1023]
theorem spec_l08Put.tab4 : rtab .any (opsOf Try.f63 4) = spec_l08Put.T4 := by kernel_rfl
theorem spec_l08Put.bits4 : waitsOk spec_l08Put.T4.2 spec_l08Put.B4 = true := by kernel_rfl
set_option maxHeartbeats 8000000 in
set_option maxRecDepth 100000 in
theorem spec_l08Put.calls (k : Nat) (P0_ : Nat → Prop) (u9000_ : Value) (l0 : List (S94)) (a1_0 : Int) (a1_1 : Int) (r : List (S94)) (w0 w : World) (hB : Below w0.heap.size w0 w) (ho0 : Kd.R k94 94 w w0.heap.size P0_ u9000_ l0) (h : spec_l08Put.f k l0 a1_0 a1_1 = some r) :
  Calls Try.prog 63 #[u9000_, .agg #[.int .i64 a1_0, .int .i64 a1_1]] w fun e w' => ∃ v0_ : Value, e = .returned (v0_) ∧ Kd.R k94 94 w' w0.heap.size (fun k_ => (P0_ k_ ∨ w.heap.size ≤ k_)) v0_ r ∧ Below w0.heap.size w0 w' ∧ Kept w w' (fun k_ => P0_ k_) := by
 have hu94 := Try.underlying94
 have HO0 := Aside0.mk (show Kd.R k94 94 w w0.heap.size (fun k_ => (P0_ k_ ∨ w.heap.size ≤ k_)) u9000_ l0 from Kd.R_mono ho0 (fun k_ hk => (.inl hk)))
 have HK := Aside0.mk (Kept.refl w (fun k_ => P0_ k_))
 have HW0 := Aside0.mk hB.size
 have HB := Aside0.mk hB
 clear hB
 have H : (spec_l08Put.l0 k l0 (l0.length : Int) a1_0 a1_1) = some r := h
 clear h
 have H' := Aside0.mk H
 clear H
 go_enter Try.func63, Try.ntmps63
 go_wp2_with (first | ((with_reducible refine gate_dst (N := 3) rfl ?_); refine box_event ?hg (N := 3) ?hd (cs := #[.int .i64 a1_0, .int .i64 a1_1]) (t := 94) ?hr ?_; (case hd => rfl); (case hg => rfl); (case hr => first | (go_simp; done) | (go_simp; rfl)); intro gb147 hg w3 hbox hb; replace HO0 := Aside0.mk (Kd.R_below (Kd.R_elderB (ra_ HO0.out) gb147 (Nat.le_of_eq hg.symm)) hb); have BK147 := Aside0.mk (hbox); have GW147 := Aside0.mk ((by rw [hg]; exact (by first | exact HK.out.1 | exact (show Kept w _ (fun k_ => P0_ k_) from by repeat (first | (with_reducible first | exact HK.out | apply Kept.alloc | apply Kept.drewN | apply Kept.drew) | exact HK.out)).1) : w.heap.size ≤ gb147)); replace HK := Aside0.mk (Kept.below (S := (fun k_ => P0_ k_)) (by repeat (first | (with_reducible first | exact HK.out | apply Kept.alloc | apply Kept.drewN | apply Kept.drew) | exact HK.out)) hb); have GE147 := Aside0.mk ((by rw [hg]; exact (bz_ HB.out) : w0.heap.size ≤ gb147)); replace HB := Aside0.mk (bs_ HB.out hb); clear hb hbox hg; obtain ⟨Ao4, co4, eo4⟩ := Kd.R_slice HO0.out; subst eo4))
 go_loopg [5] k (fun kq v5 w' => ∃ (x5_1 : Int), v5 = .int .i64 x5_1 ∧ Aside0 (spec_l08Put.l0 kq l0 x5_1 a1_0 a1_1 = some r) ∧ Aside0 (kq ≤ k) ∧ Aside0 (Kd.R k94 94 w' w0.heap.size (fun k_ => (P0_ k_ ∨ w.heap.size ≤ k_) ∧ k_ ≠ gb147) (.slice Ao4 l0.length co4) l0) ∧ Aside0 (w'.heap[gb147]? = some (.cells #[.int .i64 a1_0, .int .i64 a1_1] 94 (0, 0))) ∧ Aside0 (Kept w w' (fun k_ => P0_ k_)) ∧ Aside0 (Below w0.heap.size w0 w'))
 case atStart => exact ⟨((l0.length : Int)), ef_, H', ⟨Nat.le_refl _⟩, ⟨by (with_reducible repeat (first | apply Kd.R_alloc | apply Kd.R_drewN | apply Kd.R_drew)); exact HO0.out⟩, ⟨bq_ BK147.out⟩, ⟨by repeat (first | (with_reducible first | exact HK.out | apply Kept.alloc | apply Kept.drewN | apply Kept.drew | refine Kept.setCell ?_ (.inr GW147.out) _) | exact HK.out)⟩, ⟨bb_ HB.out⟩⟩
 case round =>
  clear H'
  obtain ⟨x5_1, rfl, HA, HK1, HO_0, BK147, HK, HB⟩ := hrel
  cases gk with
  | zero => exact absurd HA.out (by simp [spec_l08Put.l0])
  | succ k1 =>
   have H := HA.out
   clear HA
   simp only [spec_l08Put.l0] at H
   by_cases c5 : x5_1 > 0
   ·rw [if_pos c5] at H
    have c5b0 : decide (0 < x5_1) = true := decide_eq_true c5
    clear c5
    obtain ⟨ji6, hji6⟩ : ∃ j_ : Int, (wrap64 (x5_1 - 1)) = j_ := ⟨_, rfl⟩
    replace H : (if 0 ≤ (ji6) then (if (ji6) < (l0.length : Int) then ((spec_l08Less.f a1_0 a1_1 ((rd_T94 l0 (ji6)).f0) ((rd_T94 l0 (ji6)).f1)).bind fun t149 => (if t149 = true then (spec_l08Put.l0 k1 l0 ji6 a1_0 a1_1) else (if (((rd_T94 l0 (ji6)).f0) == a1_0 && (((rd_T94 l0 (ji6)).f1) == a1_1)) = true then (some l0) else ((some (([] : List (S94)) : List (S94))).bind fun y151 => (if 0 ≤ x5_1 then (if x5_1 ≤ (l0.length : Int) then ((some (l0.take (x5_1 : Int).toNat : List (S94))).bind fun y154 => (if y151.length + y154.length < 8796093022208 then ((some (y151 ++ y154 : List (S94))).bind fun y158 => (if y158.length < 8796093022208 then ((some (y158 ++ [(⟨a1_0, a1_1⟩ : S94)] : List (S94))).bind fun y161 => ((some (l0.drop (x5_1 : Int).toNat : List (S94))).bind fun y164 => (if y161.length + y164.length < 8796093022208 then (some (y161 ++ y164)) else (none)))) else (none))) else (none))) else (none)) else (none)))))) else (none)) else (none)) = some r := by first | (rw [hji6] at H; exact H) | (simp only [hji6] at H ⊢; exact H)
    have hji6w : (IntKind.i64.wrap (x5_1 - 1)) = ji6 := (i64_w _).trans hji6
    by_cases c7 : 0 ≤ (ji6)
    ·rw [if_pos c7] at H
     have c7b0 : decide (0 ≤ (ji6)) = true := decide_eq_true c7
     clear c7
     by_cases c8 : (ji6) < (l0.length : Int)
     ·rw [if_pos c8] at H
      have c8b0 : decide ((ji6) < (l0.length : Int)) = true := decide_eq_true c8
      clear c8
      replace H := Option.bind_eq_some_iff.mp H
      obtain ⟨t149, A90, H⟩ := H
      try dsimp only at H
      have A9 := Aside0.mk A90
      clear A90
      by_cases c10 : t149 = true
      ·subst c10
       rw [if_pos rfl] at H
       have H' := Aside0.mk H
       clear H
       try go_wp2
       have n0_ := Aside0.mk (Kd.R_drew HO_0.out)
       have n1_ := Aside0.mk (blk_drew BK147.out)
       have n2_ := Aside0.mk (Kept.drew HK.out)
       have n3_ := Aside0.mk (below_drew1 HB.out)
       clear HO_0
       clear BK147
       clear HK
       clear HB
       have HO_0 := n0_
       have BK147 := n1_
       have HK := n2_
       have HB := n3_
       clear n0_ n1_ n2_ n3_
       have p148 : 0 ≤ ((ji6) : Int) := of_decide_eq_true dg_
       have q148 : (ji6) < (l0.length : Int) := of_decide_eq_true dg_
       obtain ⟨ad148, e148, hx148_0, hx148_1⟩ := at_T94 (Kd.R_reads' HO_0.out).2.2 (ji6) p148 q148
       cases e148
       replace p148 := eq_true p148
       replace q148 := eq_true q148
       refine start_ (n := 11) (S := fun w' => w'.cell? ⟨gb147, 0, none⟩ = some (.int .i64 a1_0) ∧ w'.cell? ⟨gb147, 1, none⟩ = some (.int .i64 a1_1) ∧ w'.cell? (ad148.add (((ji6)).toNat * 2)) = some (.int .i64 ((rd_T94 l0 (ji6)).f0)) ∧ w'.cell? ⟨(ad148.add (((ji6)).toNat * 2)).block, (ad148.add (((ji6)).toNat * 2)).off + 1, none⟩ = some (.int .i64 ((rd_T94 l0 (ji6)).f1))) (ds := []) #[false, false, false, false, false, false, false, false, false, false, false] (by kernel_rfl) rfl rfl ⟨(blk_cell BK147.out 0).trans rfl, (blk_cell BK147.out 1).trans rfl, hx148_0, hx148_1⟩ (fun hHeld => ?_); refine with_tabW spec_l08Put.tab2 spec_l08Put.bits2 (fun HT_ HW_ => ?_)
       generalize wr.drew = w11 at HO_0 BK147 HK HB hx148_0 hx148_1 hHeld ⊢
       refine pu_ 0 9 (bt_ 11 1) HT_ ?_
       refine pu_ 1 10 (bt_ 11 3) HT_ ?_
       refine pu_ 2 11 (bt_ 11 7) HT_ ?_
       refine pu_ 4 13 (bt_ 11 23) HT_ ?_
       refine pu_ 5 14 (bt_ 11 55) HT_ ?_
       refine pu_ 6 15 (bt_ 11 119) HT_ ?_
       refine pu_ 7 16 (bt_ 11 247) HT_ ?_
       refine take_ (i := 3) (N := some 12) (v := ?_) (a' := ?_) (bt_ 11 255) rfl rfl (take_ofW HT_.out HW_.out (by kernel_rfl)) (fun _ _ _ h => h) (Or.inl ⟨by rfl, ?_⟩) hHeld ?_ ?_
       rotate_left
       ·rintro w' ⟨s0, s1, s2, s3⟩
        go_simp
        with_reducible rfl
       rotate_left
       ·simp only [Act.put, List.setIfInBounds_toArray, List.set_cons_zero, List.set_cons_succ, i64_w, i32_w]
        rfl
       refine take_ (i := 8) (N := some 17) (v := ?_) (a' := ?_) (bt_ 11 511) rfl rfl (take_ofW HT_.out HW_.out (by kernel_rfl)) (fun _ _ _ h => h) (Or.inl ⟨by rfl, ?_⟩) hHeld ?_ ?_
       rotate_left
       ·rintro w' ⟨s0, s1, s2, s3⟩
        go_simp
        with_reducible rfl
       rotate_left
       ·simp only [Act.put, List.setIfInBounds_toArray, List.set_cons_zero, List.set_cons_succ, i64_w, i32_w]
        rfl
       refine one_ (i := 9) (N := some 18) (bt_ 11 1023) rfl rfl (one_of HT_.out (by kernel_rfl)) (by decide) (fun K hK => ?_)
       refine goes_ Try.func103 (by kernel_rfl) rfl #[.agg #[.int .i64 a1_0, .int .i64 a1_1], .agg #[.int .i64 ((rd_T94 l0 (ji6)).f0), .int .i64 ((rd_T94 l0 (ji6)).f1)]] (by rfl) rfl rfl (by (try simp only [List.map_toArray, List.map_cons, List.map_nil]); first | done | (simp only [hji6]; rfl) | rfl | (simp only [List.length_drop, List.length_take]; rfl)) ?_
       with_reducible refine (spec_l08Less.calls a1_0 a1_1 ((rd_T94 l0 (ji6)).f0) ((rd_T94 l0 (ji6)).f1) true _ A9.out).mono ?_
       rintro e w12 ⟨rfl, hb⟩
       have HS2_ := (hb.cell (World.block_lt_of_cell? _ _ (hHeld.2.2.1))).trans (hHeld.2.2.1)
       have HS3_ := (hb.cell (World.block_lt_of_cell? _ _ (hHeld.2.2.2))).trans (hHeld.2.2.2)
       refine ⟨_, rfl, ?_⟩
       have n0_ := Aside0.mk (Kd.R_below (ra_ HO_0.out) hb)
       have n1_ := Aside0.mk (bk_ BK147.out hb)
       have n2_ := Aside0.mk (Kept.below (S := (fun k_ => P0_ k_)) (by repeat (first | (with_reducible first | exact HK.out | apply Kept.alloc | apply Kept.drewN | apply Kept.drew | refine Kept.setCell ?_ (.inr GW147.out) _) | exact HK.out)) hb)
       have n3_ := Aside0.mk (bs_ HB.out hb)
       clear HO_0
       clear BK147
       clear HK
       clear HB
       have HO_0 := n0_
       have BK147 := n1_
       have HK := n2_
       have HB := n3_
       clear n0_ n1_ n2_ n3_
       (try clear hb)
       (try clear hb2)
       (try clear hk)
       (try clear hi)
       refine hK.out _ _ ⟨(blk_cell BK147.out 0).trans rfl, (blk_cell BK147.out 1).trans rfl, HS2_, HS3_⟩ (fun hHeld => ?_)
       clear hK K
       refine norm_ (a' := ?_) ?_ ?_
       rotate_left
       ·show Act.put _ (some 18) _ = _
        simp only [Act.put, List.setIfInBounds_toArray, List.set_cons_zero, List.set_cons_succ, i64_w, i32_w]
        rfl
       refine pu_ 10 19 (bt_ 11 2047) HT_ ?_
       refine done_ (done_of HT_.out (by kernel_rfl)) ?_
       try go_wp2
       go_roundg k1
       case measure => have := HK1.out; omega
       case rel => exact ⟨(ji6), (by first | rfl | (simp; done) | (simp only [← hji6] <;> (first | rfl | simp)) | (simp [*]; done)), H', ⟨by have := HK1.out; omega⟩, ⟨by (with_reducible repeat (first | apply Kd.R_alloc | apply Kd.R_drewN | apply Kd.R_drew)); exact HO_0.out⟩, ⟨bq_ BK147.out⟩, ⟨by repeat (first | (with_reducible first | exact HK.out | apply Kept.alloc | apply Kept.drewN | apply Kept.drew | refine Kept.setCell ?_ (.inr GW147.out) _) | exact HK.out)⟩, ⟨bb_ HB.out⟩⟩
      ·replace c10 := Bool.eq_false_iff.mpr c10
       subst c10
       rw [if_neg (show ¬ (false = true) by decide)] at H
       by_cases c13 : (((rd_T94 l0 (ji6)).f0) == a1_0 && (((rd_T94 l0 (ji6)).f1) == a1_1)) = true
       ·rw [if_pos c13] at H
        have c13b0 : (((rd_T94 l0 (ji6)).f0) == a1_0 && (((rd_T94 l0 (ji6)).f1) == a1_1)) = true := c13
        (try (have c13b1 : decide (((rd_T94 l0 (ji6)).f0) = a1_0 && (((rd_T94 l0 (ji6)).f1) == a1_1)) = true := by simpa using c13))
        (try (have c13b2 : (((rd_T94 l0 (ji6)).f0) == a1_0 && (((rd_T94 l0 (ji6)).f1) == a1_1)) = true := by simpa using c13))
        clear c13
        obtain rfl := Option.some.inj H
        try go_wp2
        have n0_ := Aside0.mk (Kd.R_drew HO_0.out)
        have n1_ := Aside0.mk (blk_drew BK147.out)
        have n2_ := Aside0.mk (Kept.drew HK.out)
        have n3_ := Aside0.mk (below_drew1 HB.out)
        clear HO_0
        clear BK147
        clear HK
        clear HB
        have HO_0 := n0_
        have BK147 := n1_
        have HK := n2_
        have HB := n3_
        clear n0_ n1_ n2_ n3_
        have p148 : 0 ≤ ((ji6) : Int) := of_decide_eq_true dg_
        have q148 : (ji6) < (l0.length : Int) := of_decide_eq_true dg_
        obtain ⟨ad148, e148, hx148_0, hx148_1⟩ := at_T94 (Kd.R_reads' HO_0.out).2.2 (ji6) p148 q148
        cases e148
        replace p148 := eq_true p148
        replace q148 := eq_true q148
        refine start_ (n := 11) (S := fun w' => w'.cell? ⟨gb147, 0, none⟩ = some (.int .i64 a1_0) ∧ w'.cell? ⟨gb147, 1, none⟩ = some (.int .i64 a1_1) ∧ w'.cell? (ad148.add (((ji6)).toNat * 2)) = some (.int .i64 ((rd_T94 l0 (ji6)).f0)) ∧ w'.cell? ⟨(ad148.add (((ji6)).toNat * 2)).block, (ad148.add (((ji6)).toNat * 2)).off + 1, none⟩ = some (.int .i64 ((rd_T94 l0 (ji6)).f1))) (ds := []) #[false, false, false, false, false, false, false, false, false, false, false] (by kernel_rfl) rfl rfl ⟨(blk_cell BK147.out 0).trans rfl, (blk_cell BK147.out 1).trans rfl, hx148_0, hx148_1⟩ (fun hHeld => ?_); refine with_tabW spec_l08Put.tab2 spec_l08Put.bits2 (fun HT_ HW_ => ?_)
        generalize wr.drew = w14 at HO_0 BK147 HK HB hx148_0 hx148_1 hHeld ⊢
        refine pu_ 0 9 (bt_ 11 1) HT_ ?_
        refine pu_ 1 10 (bt_ 11 3) HT_ ?_
        refine pu_ 2 11 (bt_ 11 7) HT_ ?_
        refine pu_ 4 13 (bt_ 11 23) HT_ ?_
        refine pu_ 5 14 (bt_ 11 55) HT_ ?_
        refine pu_ 6 15 (bt_ 11 119) HT_ ?_
        refine pu_ 7 16 (bt_ 11 247) HT_ ?_
        refine take_ (i := 3) (N := some 12) (v := ?_) (a' := ?_) (bt_ 11 255) rfl rfl (take_ofW HT_.out HW_.out (by kernel_rfl)) (fun _ _ _ h => h) (Or.inl ⟨by rfl, ?_⟩) hHeld ?_ ?_
        rotate_left
        ·rintro w' ⟨s0, s1, s2, s3⟩
         go_simp
         with_reducible rfl
        rotate_left
        ·simp only [Act.put, List.setIfInBounds_toArray, List.set_cons_zero, List.set_cons_succ, i64_w, i32_w]
         rfl
        refine take_ (i := 8) (N := some 17) (v := ?_) (a' := ?_) (bt_ 11 511) rfl rfl (take_ofW HT_.out HW_.out (by kernel_rfl)) (fun _ _ _ h => h) (Or.inl ⟨by rfl, ?_⟩) hHeld ?_ ?_
        rotate_left
        ·rintro w' ⟨s0, s1, s2, s3⟩
         go_simp
         with_reducible rfl
        rotate_left
        ·simp only [Act.put, List.setIfInBounds_toArray, List.set_cons_zero, List.set_cons_succ, i64_w, i32_w]
         rfl
        refine one_ (i := 9) (N := some 18) (bt_ 11 1023) rfl rfl (one_of HT_.out (by kernel_rfl)) (by decide) (fun K hK => ?_)
        refine goes_ Try.func103 (by kernel_rfl) rfl #[.agg #[.int .i64 a1_0, .int .i64 a1_1], .agg #[.int .i64 ((rd_T94 l0 (ji6)).f0), .int .i64 ((rd_T94 l0 (ji6)).f1)]] (by rfl) rfl rfl (by (try simp only [List.map_toArray, List.map_cons, List.map_nil]); first | done | (simp only [hji6]; rfl) | rfl | (simp only [List.length_drop, List.length_take]; rfl)) ?_
        with_reducible refine (spec_l08Less.calls a1_0 a1_1 ((rd_T94 l0 (ji6)).f0) ((rd_T94 l0 (ji6)).f1) false _ A9.out).mono ?_
        rintro e w15 ⟨rfl, hb⟩
        have HS2_ := (hb.cell (World.block_lt_of_cell? _ _ (hHeld.2.2.1))).trans (hHeld.2.2.1)
        have HS3_ := (hb.cell (World.block_lt_of_cell? _ _ (hHeld.2.2.2))).trans (hHeld.2.2.2)
        refine ⟨_, rfl, ?_⟩
        have n0_ := Aside0.mk (Kd.R_below (ra_ HO_0.out) hb)
        have n1_ := Aside0.mk (bk_ BK147.out hb)
        have n2_ := Aside0.mk (Kept.below (S := (fun k_ => P0_ k_)) (by repeat (first | (with_reducible first | exact HK.out | apply Kept.alloc | apply Kept.drewN | apply Kept.drew | refine Kept.setCell ?_ (.inr GW147.out) _) | exact HK.out)) hb)
        have n3_ := Aside0.mk (bs_ HB.out hb)
        clear HO_0
        clear BK147
        clear HK
        clear HB
        have HO_0 := n0_
        have BK147 := n1_
        have HK := n2_
        have HB := n3_
        clear n0_ n1_ n2_ n3_
        (try clear hb)
        (try clear hb2)
        (try clear hk)
        (try clear hi)
        refine hK.out _ _ ⟨(blk_cell BK147.out 0).trans rfl, (blk_cell BK147.out 1).trans rfl, HS2_, HS3_⟩ (fun hHeld => ?_)
        clear hK K
        refine norm_ (a' := ?_) ?_ ?_
        rotate_left
        ·show Act.put _ (some 18) _ = _
         simp only [Act.put, List.setIfInBounds_toArray, List.set_cons_zero, List.set_cons_succ, i64_w, i32_w]
         rfl
        refine pu_ 10 19 (bt_ 11 2047) HT_ ?_
        refine done_ (done_of HT_.out (by kernel_rfl)) ?_
        try go_wp2
        have n0_ := Aside0.mk (Kd.R_drew HO_0.out)
        have n1_ := Aside0.mk (blk_drew BK147.out)
        have n2_ := Aside0.mk (Kept.drew HK.out)
        have n3_ := Aside0.mk (below_drew1 HB.out)
        clear HO_0
        clear BK147
        clear HK
        clear HB
        have HO_0 := n0_
        have BK147 := n1_
        have HK := n2_
        have HB := n3_
        clear n0_ n1_ n2_ n3_
        have p150 : 0 ≤ ((ji6) : Int) := of_decide_eq_true dg_
        have q150 : (ji6) < (l0.length : Int) := of_decide_eq_true dg_
        obtain ⟨ad150, e150, hx150_0, hx150_1⟩ := at_T94 (Kd.R_reads' HO_0.out).2.2 (ji6) p150 q150
        obtain rfl : ad148 = ad150 := (by injection e150)
        replace p150 := eq_true p150
        replace q150 := eq_true q150
        refine start_ (n := 11) (S := fun w' => w'.cell? ⟨gb147, 0, none⟩ = some (.int .i64 a1_0) ∧ w'.cell? ⟨gb147, 1, none⟩ = some (.int .i64 a1_1) ∧ w'.cell? (ad148.add (((ji6)).toNat * 2)) = some (.int .i64 ((rd_T94 l0 (ji6)).f0)) ∧ w'.cell? ⟨(ad148.add (((ji6)).toNat * 2)).block, (ad148.add (((ji6)).toNat * 2)).off + 1, none⟩ = some (.int .i64 ((rd_T94 l0 (ji6)).f1))) (ds := []) #[false, false, false, false, false, false, false, false, false, false, false] (by kernel_rfl) rfl rfl ⟨(blk_cell BK147.out 0).trans rfl, (blk_cell BK147.out 1).trans rfl, hx150_0, hx150_1⟩ (fun hHeld => ?_); refine with_tabW spec_l08Put.tab4 spec_l08Put.bits4 (fun HT_ HW_ => ?_)
        generalize w15.drew = w16 at HO_0 BK147 HK HB hx150_0 hx150_1 hHeld ⊢
        refine pu_ 0 22 (bt_ 11 1) HT_ ?_
        refine pu_ 1 23 (bt_ 11 3) HT_ ?_
        refine pu_ 2 24 (bt_ 11 7) HT_ ?_
        refine pu_ 3 25 (bt_ 11 15) HT_ ?_
        refine pu_ 4 26 (bt_ 11 31) HT_ ?_
        refine pu_ 5 27 (bt_ 11 63) HT_ ?_
        refine pu_ 6 28 (bt_ 11 127) HT_ ?_
        refine take_ (i := 7) (N := some 29) (v := ?_) (a' := ?_) (bt_ 11 255) rfl rfl (take_ofW HT_.out HW_.out (by kernel_rfl)) (fun _ _ _ h => h) (Or.inl ⟨by rfl, ?_⟩) hHeld ?_ ?_
        rotate_left
        ·rintro w' ⟨s0, s1, s2, s3⟩
         go_simp
         with_reducible rfl
        rotate_left
        ·simp only [Act.put, List.setIfInBounds_toArray, List.set_cons_zero, List.set_cons_succ, i64_w, i32_w]
         rfl
        refine take_ (i := 8) (N := some 30) (v := ?_) (a' := ?_) (bt_ 11 511) rfl rfl (take_ofW HT_.out HW_.out (by kernel_rfl)) (fun _ _ _ h => h) (Or.inl ⟨by rfl, ?_⟩) hHeld ?_ ?_
        rotate_left
        ·rintro w' ⟨s0, s1, s2, s3⟩
         go_simp
         with_reducible rfl
        rotate_left
        ·simp only [Act.put, List.setIfInBounds_toArray, List.set_cons_zero, List.set_cons_succ, i64_w, i32_w]
         rfl
        refine pu_ 9 31 (bt_ 11 1023) HT_ ?_
        refine pu_ 10 32 (bt_ 11 2047) HT_ ?_
        refine done_ (done_of HT_.out (by kernel_rfl)) ?_
        try go_wp2
        go_ret
        exact ⟨_, by first | rfl | (simp [errW_none, errW_some] <;> rfl) | (simp only [← hji6]; first | rfl | (simp [errW_none, errW_some] <;> rfl)) | (simp [*, errW_none, errW_some] <;> rfl), by (with_reducible repeat (first | apply Kd.R_alloc | apply Kd.R_drewN | apply Kd.R_drew)); exact Kd.R_mono HO_0.out (fun _ hk => hk.1), bb_ HB.out, by repeat (first | (with_reducible first | exact HK.out | apply Kept.alloc | apply Kept.drewN | apply Kept.drew | refine Kept.setCell ?_ (.inr GW147.out) _) | exact HK.out)⟩
       ·rw [if_neg c13] at H
        have c13b0 : (((rd_T94 l0 (ji6)).f0) == a1_0 && (((rd_T94 l0 (ji6)).f1) == a1_1)) = false := by simpa using c13
        (try (have c13b1 : decide (((rd_T94 l0 (ji6)).f0) = a1_0 && (((rd_T94 l0 (ji6)).f1) == a1_1)) = false := by simpa using c13))
        (try (have c13b2 : (((rd_T94 l0 (ji6)).f0) == a1_0 && (((rd_T94 l0 (ji6)).f1) == a1_1)) = false := by simpa using c13))
        (try (have c13b3 : ¬ (((rd_T94 l0 (ji6)).f0) = a1_0 && (((rd_T94 l0 (ji6)).f1) == a1_1)) := by simpa using c13))
        clear c13
        obtain ⟨y151, hy151⟩ : ∃ y_ : List (S94), y_ = (([] : List (S94))) := ⟨_, rfl⟩
        replace H : (if 0 ≤ x5_1 then (if x5_1 ≤ (l0.length : Int) then ((some (l0.take (x5_1 : Int).toNat : List (S94))).bind fun y154 => (if y151.length + y154.length < 8796093022208 then ((some (y151 ++ y154 : List (S94))).bind fun y158 => (if y158.length < 8796093022208 then ((some (y158 ++ [(⟨a1_0, a1_1⟩ : S94)] : List (S94))).bind fun y161 => ((some (l0.drop (x5_1 : Int).toNat : List (S94))).bind fun y164 => (if y161.length + y164.length < 8796093022208 then (some (y161 ++ y164)) else (none)))) else (none))) else (none))) else (none)) else (none)) = some r := by first | (rw [hy151]; with_reducible exact H) | (have H2_ := (Option.bind_some _ _).symm.trans H; rw [hy151]; with_reducible exact H2_) | (have H2_ := (Option.bind_some _ _).symm.trans H; with_reducible exact H2_) | with_reducible exact H | (rw [hy151]; exact H) | exact H
        have Ny151 := Aside0.mk hy151
        clear hy151
        by_cases c17 : 0 ≤ x5_1
        ·rw [if_pos c17] at H
         have c17b0 := eq_true c17
         have c17b1 : decide (0 ≤ x5_1) = true := decide_eq_true c17
         clear c17
         by_cases c18 : x5_1 ≤ (l0.length : Int)
         ·rw [if_pos c18] at H
          have c18b0 := eq_true c18
          have c18b1 : decide (x5_1 ≤ (l0.length : Int)) = true := decide_eq_true c18
          clear c18
          obtain ⟨y154, hy154⟩ : ∃ y_ : List (S94), y_ = (l0.take (x5_1 : Int).toNat) := ⟨_, rfl⟩
          replace H : (if y151.length + y154.length < 8796093022208 then ((some (y151 ++ y154 : List (S94))).bind fun y158 => (if y158.length < 8796093022208 then ((some (y158 ++ [(⟨a1_0, a1_1⟩ : S94)] : List (S94))).bind fun y161 => ((some (l0.drop (x5_1 : Int).toNat : List (S94))).bind fun y164 => (if y161.length + y164.length < 8796093022208 then (some (y161 ++ y164)) else (none)))) else (none))) else (none)) = some r := by first | (rw [hy154]; with_reducible exact H) | (have H2_ := (Option.bind_some _ _).symm.trans H; rw [hy154]; with_reducible exact H2_) | (have H2_ := (Option.bind_some _ _).symm.trans H; with_reducible exact H2_) | with_reducible exact H | (rw [hy154]; exact H) | exact H
          have Ny154 := Aside0.mk hy154
          clear hy154
          by_cases c19 : y151.length + y154.length < 8796093022208
          ·rw [if_pos c19] at H
           have LMc19 := Aside0.mk c19
           clear c19
           obtain ⟨y158, hy158⟩ : ∃ y_ : List (S94), y_ = (y151 ++ y154) := ⟨_, rfl⟩
           replace H : (if y158.length < 8796093022208 then ((some (y158 ++ [(⟨a1_0, a1_1⟩ : S94)] : List (S94))).bind fun y161 => ((some (l0.drop (x5_1 : Int).toNat : List (S94))).bind fun y164 => (if y161.length + y164.length < 8796093022208 then (some (y161 ++ y164)) else (none)))) else (none)) = some r := by first | (rw [hy158]; with_reducible exact H) | (have H2_ := (Option.bind_some _ _).symm.trans H; rw [hy158]; with_reducible exact H2_) | (have H2_ := (Option.bind_some _ _).symm.trans H; with_reducible exact H2_) | with_reducible exact H | (rw [hy158]; exact H) | exact H
           have Ny158 := Aside0.mk hy158
           clear hy158
           by_cases c20 : y158.length < 8796093022208
           ·rw [if_pos c20] at H
            have LMc20 := Aside0.mk c20
            clear c20
            obtain ⟨y161, hy161⟩ : ∃ y_ : List (S94), y_ = (y158 ++ [(⟨a1_0, a1_1⟩ : S94)]) := ⟨_, rfl⟩
            replace H : ((some (l0.drop (x5_1 : Int).toNat : List (S94))).bind fun y164 => (if y161.length + y164.length < 8796093022208 then (some (y161 ++ y164)) else (none))) = some r := by first | (rw [hy161]; with_reducible exact H) | (have H2_ := (Option.bind_some _ _).symm.trans H; rw [hy161]; with_reducible exact H2_) | (have H2_ := (Option.bind_some _ _).symm.trans H; with_reducible exact H2_) | with_reducible exact H | (rw [hy161]; exact H) | exact H
            have Ny161 := Aside0.mk hy161
            clear hy161
            have c21b0 := eq_true (of_decide_eq_true dg_ : 0 ≤ x5_1)
            have c22b0 := eq_true (of_decide_eq_true dg_ : x5_1 ≤ (l0.length : Int))
            obtain ⟨y164, hy164⟩ : ∃ y_ : List (S94), y_ = (l0.drop (x5_1 : Int).toNat) := ⟨_, rfl⟩
            replace H : (if y161.length + y164.length < 8796093022208 then (some (y161 ++ y164)) else (none)) = some r := by first | (rw [hy164]; with_reducible exact H) | (have H2_ := (Option.bind_some _ _).symm.trans H; rw [hy164]; with_reducible exact H2_) | (have H2_ := (Option.bind_some _ _).symm.trans H; with_reducible exact H2_) | with_reducible exact H | (rw [hy164]; exact H) | exact H
            have Ny164 := Aside0.mk hy164
            clear hy164
            by_cases c23 : y161.length + y164.length < 8796093022208
            ·rw [if_pos c23] at H
             have LMc23 := Aside0.mk c23
             clear c23
             obtain ⟨y168, hy168⟩ : ∃ y_ : List (S94), y_ = (y161 ++ y164) := ⟨_, rfl⟩
             replace H : (some y168) = some r := by first | (rw [hy168]; with_reducible exact H) | (have H2_ := (Option.bind_some _ _).symm.trans H; rw [hy168]; with_reducible exact H2_) | (have H2_ := (Option.bind_some _ _).symm.trans H; with_reducible exact H2_) | with_reducible exact H | (rw [hy168]; exact H) | exact H
             have Ny168 := Aside0.mk hy168
             clear hy168
             obtain rfl := Option.some.inj H
             try go_wp2
             have n0_ := Aside0.mk (Kd.R_drew HO_0.out)
             have n1_ := Aside0.mk (blk_drew BK147.out)
             have n2_ := Aside0.mk (Kept.drew HK.out)
             have n3_ := Aside0.mk (below_drew1 HB.out)
             clear HO_0
             clear BK147
             clear HK
             clear HB
             have HO_0 := n0_
             have BK147 := n1_
             have HK := n2_
             have HB := n3_
             clear n0_ n1_ n2_ n3_
             have p148 : 0 ≤ ((ji6) : Int) := of_decide_eq_true dg_
             have q148 : (ji6) < (l0.length : Int) := of_decide_eq_true dg_
             obtain ⟨ad148, e148, hx148_0, hx148_1⟩ := at_T94 (Kd.R_reads' HO_0.out).2.2 (ji6) p148 q148
             cases e148
             replace p148 := eq_true p148
             replace q148 := eq_true q148
             refine start_ (n := 11) (S := fun w' => w'.cell? ⟨gb147, 0, none⟩ = some (.int .i64 a1_0) ∧ w'.cell? ⟨gb147, 1, none⟩ = some (.int .i64 a1_1) ∧ w'.cell? (ad148.add (((ji6)).toNat * 2)) = some (.int .i64 ((rd_T94 l0 (ji6)).f0)) ∧ w'.cell? ⟨(ad148.add (((ji6)).toNat * 2)).block, (ad148.add (((ji6)).toNat * 2)).off + 1, none⟩ = some (.int .i64 ((rd_T94 l0 (ji6)).f1))) (ds := []) #[false, false, false, false, false, false, false, false, false, false, false] (by kernel_rfl) rfl rfl ⟨(blk_cell BK147.out 0).trans rfl, (blk_cell BK147.out 1).trans rfl, hx148_0, hx148_1⟩ (fun hHeld => ?_); refine with_tabW spec_l08Put.tab2 spec_l08Put.bits2 (fun HT_ HW_ => ?_)
             generalize wr.drew = w24 at HO_0 BK147 HK HB hx148_0 hx148_1 hHeld ⊢
             refine pu_ 0 9 (bt_ 11 1) HT_ ?_
             refine pu_ 1 10 (bt_ 11 3) HT_ ?_
             refine pu_ 2 11 (bt_ 11 7) HT_ ?_
             refine pu_ 4 13 (bt_ 11 23) HT_ ?_
             refine pu_ 5 14 (bt_ 11 55) HT_ ?_
             refine pu_ 6 15 (bt_ 11 119) HT_ ?_
             refine pu_ 7 16 (bt_ 11 247) HT_ ?_
             refine take_ (i := 3) (N := some 12) (v := ?_) (a' := ?_) (bt_ 11 255) rfl rfl (take_ofW HT_.out HW_.out (by kernel_rfl)) (fun _ _ _ h => h) (Or.inl ⟨by rfl, ?_⟩) hHeld ?_ ?_
             rotate_left
             ·rintro w' ⟨s0, s1, s2, s3⟩
              go_simp
              with_reducible rfl
             rotate_left
             ·simp only [Act.put, List.setIfInBounds_toArray, List.set_cons_zero, List.set_cons_succ, i64_w, i32_w]
              rfl
             refine take_ (i := 8) (N := some 17) (v := ?_) (a' := ?_) (bt_ 11 511) rfl rfl (take_ofW HT_.out HW_.out (by kernel_rfl)) (fun _ _ _ h => h) (Or.inl ⟨by rfl, ?_⟩) hHeld ?_ ?_
             rotate_left
             ·rintro w' ⟨s0, s1, s2, s3⟩
              go_simp
              with_reducible rfl
             rotate_left
             ·simp only [Act.put, List.setIfInBounds_toArray, List.set_cons_zero, List.set_cons_succ, i64_w, i32_w]
              rfl
             refine one_ (i := 9) (N := some 18) (bt_ 11 1023) rfl rfl (one_of HT_.out (by kernel_rfl)) (by decide) (fun K hK => ?_)
             refine goes_ Try.func103 (by kernel_rfl) rfl #[.agg #[.int .i64 a1_0, .int .i64 a1_1], .agg #[.int .i64 ((rd_T94 l0 (ji6)).f0), .int .i64 ((rd_T94 l0 (ji6)).f1)]] (by rfl) rfl rfl (by (try simp only [List.map_toArray, List.map_cons, List.map_nil]); first | done | (simp only [hji6]; rfl) | rfl | (simp only [List.length_drop, List.length_take]; rfl)) ?_
             with_reducible refine (spec_l08Less.calls a1_0 a1_1 ((rd_T94 l0 (ji6)).f0) ((rd_T94 l0 (ji6)).f1) false _ A9.out).mono ?_
             rintro e w25 ⟨rfl, hb⟩
             have HS2_ := (hb.cell (World.block_lt_of_cell? _ _ (hHeld.2.2.1))).trans (hHeld.2.2.1)
             have HS3_ := (hb.cell (World.block_lt_of_cell? _ _ (hHeld.2.2.2))).trans (hHeld.2.2.2)
             refine ⟨_, rfl, ?_⟩
             have n0_ := Aside0.mk (Kd.R_below (ra_ HO_0.out) hb)
             have n1_ := Aside0.mk (bk_ BK147.out hb)
             have n2_ := Aside0.mk (Kept.below (S := (fun k_ => P0_ k_)) (by repeat (first | (with_reducible first | exact HK.out | apply Kept.alloc | apply Kept.drewN | apply Kept.drew | refine Kept.setCell ?_ (.inr GW147.out) _) | exact HK.out)) hb)
             have n3_ := Aside0.mk (bs_ HB.out hb)
             clear HO_0
             clear BK147
             clear HK
             clear HB
             have HO_0 := n0_
             have BK147 := n1_
             have HK := n2_
             have HB := n3_
             clear n0_ n1_ n2_ n3_
             (try clear hb)
             (try clear hb2)
             (try clear hk)
             (try clear hi)
             refine hK.out _ _ ⟨(blk_cell BK147.out 0).trans rfl, (blk_cell BK147.out 1).trans rfl, HS2_, HS3_⟩ (fun hHeld => ?_)
             clear hK K
             refine norm_ (a' := ?_) ?_ ?_
             rotate_left
             ·show Act.put _ (some 18) _ = _
              simp only [Act.put, List.setIfInBounds_toArray, List.set_cons_zero, List.set_cons_succ, i64_w, i32_w]
              rfl
             refine pu_ 10 19 (bt_ 11 2047) HT_ ?_
             refine done_ (done_of HT_.out (by kernel_rfl)) ?_
             try go_wp2
             have n0_ := Aside0.mk (Kd.R_drew HO_0.out)
             have n1_ := Aside0.mk (blk_drew BK147.out)
             have n2_ := Aside0.mk (Kept.drew HK.out)
             have n3_ := Aside0.mk (below_drew1 HB.out)
             clear HO_0
             clear BK147
             clear HK
             clear HB
             have HO_0 := n0_
             have BK147 := n1_
             have HK := n2_
             have HB := n3_
             clear n0_ n1_ n2_ n3_
             have p150 : 0 ≤ ((ji6) : Int) := of_decide_eq_true dg_
             have q150 : (ji6) < (l0.length : Int) := of_decide_eq_true dg_
             obtain ⟨ad150, e150, hx150_0, hx150_1⟩ := at_T94 (Kd.R_reads' HO_0.out).2.2 (ji6) p150 q150
             obtain rfl : ad148 = ad150 := (by injection e150)
             replace p150 := eq_true p150
             replace q150 := eq_true q150
             refine start_ (n := 11) (S := fun w' => w'.cell? ⟨gb147, 0, none⟩ = some (.int .i64 a1_0) ∧ w'.cell? ⟨gb147, 1, none⟩ = some (.int .i64 a1_1) ∧ w'.cell? (ad148.add (((ji6)).toNat * 2)) = some (.int .i64 ((rd_T94 l0 (ji6)).f0)) ∧ w'.cell? ⟨(ad148.add (((ji6)).toNat * 2)).block, (ad148.add (((ji6)).toNat * 2)).off + 1, none⟩ = some (.int .i64 ((rd_T94 l0 (ji6)).f1))) (ds := []) #[false, false, false, false, false, false, false, false, false, false, false] (by kernel_rfl) rfl rfl ⟨(blk_cell BK147.out 0).trans rfl, (blk_cell BK147.out 1).trans rfl, hx150_0, hx150_1⟩ (fun hHeld => ?_); refine with_tabW spec_l08Put.tab4 spec_l08Put.bits4 (fun HT_ HW_ => ?_)
             generalize w25.drew = w26 at HO_0 BK147 HK HB hx150_0 hx150_1 hHeld ⊢
             refine pu_ 0 22 (bt_ 11 1) HT_ ?_
             refine pu_ 1 23 (bt_ 11 3) HT_ ?_
             refine pu_ 2 24 (bt_ 11 7) HT_ ?_
             refine pu_ 3 25 (bt_ 11 15) HT_ ?_
             refine pu_ 4 26 (bt_ 11 31) HT_ ?_
             refine pu_ 5 27 (bt_ 11 63) HT_ ?_
             refine pu_ 6 28 (bt_ 11 127) HT_ ?_
             refine take_ (i := 7) (N := some 29) (v := ?_) (a' := ?_) (bt_ 11 255) rfl rfl (take_ofW HT_.out HW_.out (by kernel_rfl)) (fun _ _ _ h => h) (Or.inl ⟨by rfl, ?_⟩) hHeld ?_ ?_
             rotate_left
             ·rintro w' ⟨s0, s1, s2, s3⟩
              go_simp
              with_reducible rfl
             rotate_left
             ·simp only [Act.put, List.setIfInBounds_toArray, List.set_cons_zero, List.set_cons_succ, i64_w, i32_w]
              rfl
             refine take_ (i := 8) (N := some 30) (v := ?_) (a' := ?_) (bt_ 11 511) rfl rfl (take_ofW HT_.out HW_.out (by kernel_rfl)) (fun _ _ _ h => h) (Or.inl ⟨by rfl, ?_⟩) hHeld ?_ ?_
             rotate_left
             ·rintro w' ⟨s0, s1, s2, s3⟩
              go_simp
              with_reducible rfl
             rotate_left
             ·simp only [Act.put, List.setIfInBounds_toArray, List.set_cons_zero, List.set_cons_succ, i64_w, i32_w]
              rfl
             refine pu_ 9 31 (bt_ 11 1023) HT_ ?_
             refine pu_ 10 32 (bt_ 11 2047) HT_ ?_
             refine done_ (done_of HT_.out (by kernel_rfl)) ?_
             try go_wp2_with (first | ((with_reducible refine gate_dst (N := 34) rfl ?_); refine Kd.R_lit k94 _ 94 ?hg (N := 34) ?hd (xs := ([] : List (S94))) (inner := []) (ok := fun _ => True) (okp := fun _ => True) ?hr ?hp (fun _ hk => hk) trivial (Below.refl _ _) (Nat.le_refl _) (by simp) ?_; (case hd => rfl); (case hg => rfl); (case hr => first | (go_simp; done) | (go_simp; rfl)); (case hp => exact (Reps.none _ _)); intro v152 w27 ho28 hb hg_ hnew_; clear hg_ hnew_; (first | rw [← Ny151.out] at ho28 | (simp only [Int.reduceToNat] at ho28; rw [← Ny151.out] at ho28)); have HO153 := Aside0.mk (Kd.R_lower (Kd.R_newB (Kd.R_new' (Kd.R_newM (M := fun k_ => (P0_ k_ ∨ w.heap.size ≤ k_)) ho28 (by first | exact HK.out.1 | exact (show Kept w _ (fun k_ => P0_ k_) from by repeat (first | (with_reducible first | exact HK.out | apply Kept.alloc | apply Kept.drewN | apply Kept.drew | refine Kept.setCell ?_ (.inr GW147.out) _) | exact HK.out)).1) (fun k_ h_ => .inr h_)) (rl_ HO_0.out)) (g := gb147) (o := .cells #[.int .i64 a1_0, .int .i64 a1_1] 94 (0, 0)) (by (with_reducible repeat (first | refine blk_drewN ?_ _ | refine blk_drew ?_ | refine blk_alloc ?_ _)); exact BK147.out)) (bz_ HB.out)); replace HO_0 := Aside0.mk (Kd.R_elder' (ra_ HO_0.out) (Kd.R_base ho28) hb); replace BK147 := Aside0.mk (bk_ BK147.out hb); replace HK := Aside0.mk (Kept.below (S := (fun k_ => P0_ k_)) (by repeat (first | (with_reducible first | exact HK.out | apply Kept.alloc | apply Kept.drewN | apply Kept.drew | refine Kept.setCell ?_ (.inr GW147.out) _) | exact HK.out)) hb); replace HB := Aside0.mk (bs_ HB.out hb); clear hb ho28; have q29 : (x5_1 : Int) ≤ ((l0.length : Int) : Int) := of_decide_eq_true dg_; obtain ⟨i029, hi029, _, hsz29, _⟩ := info_parts info94; have hroom29 : l0.length ≤ co4 := (Kd.R_reads' HO_0.out).2.1; have hC29 : Kd.C k94 _ (some ad148) l0.length l0 := (Kd.R_reads' HO_0.out).2.2; have hcut29 := cut_to (P := Try.prog) 22 94 .i64 Try.underlying22 hi029 (some ad148) l0.length co4 x5_1 (of_decide_eq_true dg_) q29 hroom29; have hr29 := Kd.C_take (m := (x5_1 : Int).toNat) hC29 (by omega); have hy29 : y154.length = (x5_1 : Int).toNat := (by rw [Ny154.out, List.length_take]; omega); rw [← Ny154.out] at hr29; rw [← hy29] at hcut29; have HR157 := Aside0.mk hr29; have HC157 := Aside0.mk (show y154.length ≤ co4 from by omega); clear hr29 hC29 hroom29 hi029 hsz29; have KY29 := Aside0.mk hy29; clear hy29; have KL29 := Aside0.mk (show (x5_1 : Int).toNat ≤ l0.length from by omega); replace q29 := eq_true q29) | ((with_reducible refine gate_builtin (b := .append) (xs := #[.tmp 34, .tmp 37]) rfl ?_); at_builtin; refine Kd.R_append_rows k94 (w0 := w0) w0.heap.size rfl (.tmp 34) (.tmp 37) 22 94 (.agg #[(.int .i64 0), (.int .i64 0)]) 16 rfl Try.underlying22 info94 rfl (by decide) (by omega) v152 y151 y154 _ _ _ (fun k_ => (P0_ k_ ∨ w.heap.size ≤ k_) ∧ some k_ ≠ (.slice (some ad148) l0.length co4 : Value).ownBlock ∧ k_ ≠ gb147) (fun _ => False) rfl rfl ?aO ?aR (fun _ _ h => h) (fun _ h => h.elim) ?aF ?aB ?aS ?aL ?_; (case aR => repeat (first | exact (by repeat (first | (with_reducible exact HR157.out) | (with_reducible refine Kd.C_alloc ?_ _) | (with_reducible refine Kd.C_drewN ?_ _) | (with_reducible refine Kd.C_drew ?_) | exact HR157.out)) | (with_reducible refine Kd.C_alloc ?_ _) | (with_reducible refine Kd.C_drewN ?_ _) | (with_reducible refine Kd.C_drew ?_))); (case aB => exact (by repeat (first | (with_reducible first | exact HB.out | apply below_alloc | apply pw_below_drewN | apply below_drew1 | refine below_set ?_ GE147.out) | exact HB.out))); (case aF => exact (fun k_ hk => ⟨(.inr (Nat.le_trans (by first | exact HK.out.1 | exact (show Kept w _ (fun k_ => P0_ k_) from by repeat (first | (with_reducible first | exact HK.out | apply Kept.alloc | apply Kept.drewN | apply Kept.drew | refine Kept.setCell ?_ (.inr GW147.out) _) | exact HK.out)).1) hk)), Kd.fresh' (rl_ HO_0.out) k_ hk, Kd.freshB (g := gb147) (o := .cells #[.int .i64 a1_0, .int .i64 a1_1] 94 (0, 0)) (by (with_reducible repeat (first | refine blk_drewN ?_ _ | refine blk_drew ?_ | refine blk_alloc ?_ _)); exact BK147.out) k_ hk⟩)); (case aO => exact (by (with_reducible repeat (first | apply Kd.R_alloc | apply Kd.R_drewN | apply Kd.R_drew)); exact Kd.R_mono HO153.out (fun _ hk => ⟨hk.1.1.1, ⟨hk.1.2, hk.2⟩⟩))); (case aS => exact (bz_ HB.out)); (case aL => have := LMc19.out; omega); intro v159 w30 ho hb hg hat; rw [← Ny158.out] at ho; have n0_ := Aside0.mk (Kd.R_after (ok := (fun k_ => (P0_ k_ ∨ w.heap.size ≤ k_) ∧ k_ ≠ gb147)) (ra_ HO_0.out) hg hat); have n1_ := Aside0.mk (blk_grown (g := gb147) (o := .cells #[.int .i64 a1_0, .int .i64 a1_1] 94 (0, 0)) (by (with_reducible repeat (first | refine blk_drewN ?_ _ | refine blk_drew ?_ | refine blk_alloc ?_ _)); exact BK147.out) hg (Kd.R_away HO153.out (fun _ hk => hk.2))); have n2_ := Aside0.mk (hb); have n3_ := Aside0.mk (Kept.of_grown (S := (fun k_ => P0_ k_)) hg (by repeat (first | (with_reducible first | exact HK.out | apply Kept.alloc | apply Kept.drewN | apply Kept.drew | refine Kept.setCell ?_ (.inr GW147.out) _) | exact HK.out)) (fun k_ e_ => (HO153.out.1 k_ e_).1.1.1)); have n4_ := Aside0.mk ((show Kd.C k94 w30 (some ad148) y154.length y154 from by rw [Ny154.out]; exact Kd.C_take (m := (x5_1 : Int).toNat) ((Kd.R_reads' (Kd.R_after (ok := (fun k_ => (P0_ k_ ∨ w.heap.size ≤ k_) ∧ k_ ≠ gb147)) (ra_ HO_0.out) hg hat)).2.2) KL29.out)); have n5_ := Aside0.mk (ho); clear HO_0; clear BK147; clear HB; clear HK; clear HR157; clear HO153; have HO_0 := n0_; have BK147 := n1_; have HB := n2_; have HK := n3_; have HR157 := n4_; have HO160 := n5_; clear n0_ n1_ n2_ n3_ n4_ n5_; clear ho hb hg hat; obtain ⟨hcz31_0, hcz31_1, hfz31_0, hfz31_1⟩ := cz2_ BK147.out) | ((with_reducible refine gate_builtin (b := .append) (xs := #[.tmp 39, .tmp 41]) rfl ?_); at_builtin; refine Kd.R_append k94 (w0 := w0) w0.heap.size rfl (.tmp 39) (.tmp 41) 22 94 (.agg #[(.int .i64 0), (.int .i64 0)]) 16 rfl Try.underlying22 info94 rfl (by decide) (by omega) v159 y158 (⟨a1_0, a1_1⟩ : S94) [.int .i64 a1_0, .int .i64 a1_1] (fun k_ => (P0_ k_ ∨ w.heap.size ≤ k_) ∧ some k_ ≠ (.slice (some ad148) l0.length co4 : Value).ownBlock ∧ k_ ≠ gb147) (fun _ => False) rfl rfl ?aP (fun _ hk => hk.elim) ?aF ?aO ?aB ?aS ?aL ?_; (case aP => exact k94_mkM _ _ _ (⟨a1_0, a1_1⟩ : S94)); (case aB => exact (by repeat (first | (with_reducible first | exact HB.out | apply below_alloc | apply pw_below_drewN | apply below_drew1 | refine below_set ?_ GE147.out) | exact HB.out))); (case aF => exact (fun k_ hk => ⟨(.inr (Nat.le_trans (by first | exact HK.out.1 | exact (show Kept w _ (fun k_ => P0_ k_) from by repeat (first | (with_reducible first | exact HK.out | apply Kept.alloc | apply Kept.drewN | apply Kept.drew | refine Kept.setCell ?_ (.inr GW147.out) _) | exact HK.out)).1) hk)), Kd.fresh' (rl_ HO_0.out) k_ hk, Kd.freshB (g := gb147) (o := .cells #[.int .i64 a1_0, .int .i64 a1_1] 94 (0, 0)) (by (with_reducible repeat (first | refine blk_drewN ?_ _ | refine blk_drew ?_ | refine blk_alloc ?_ _)); exact BK147.out) k_ hk⟩)); (case aO => exact (ra_ HO160.out)); (case aS => exact (bz_ HB.out)); (case aL => have := LMc20.out; omega); intro v162 w32 ho hb hg hat; rw [← Ny161.out] at ho; have n0_ := Aside0.mk (Kd.R_after (ok := (fun k_ => (P0_ k_ ∨ w.heap.size ≤ k_) ∧ k_ ≠ gb147)) (ra_ HO_0.out) hg hat); have n1_ := Aside0.mk (blk_grown (g := gb147) (o := .cells #[.int .i64 a1_0, .int .i64 a1_1] 94 (0, 0)) (by (with_reducible repeat (first | refine blk_drewN ?_ _ | refine blk_drew ?_ | refine blk_alloc ?_ _)); exact BK147.out) hg (Kd.R_away HO160.out (fun _ hk => hk.2.2))); have n2_ := Aside0.mk (hb); have n3_ := Aside0.mk (Kept.of_grown (S := (fun k_ => P0_ k_)) hg (by repeat (first | (with_reducible first | exact HK.out | apply Kept.alloc | apply Kept.drewN | apply Kept.drew | refine Kept.setCell ?_ (.inr GW147.out) _) | exact HK.out)) (fun k_ e_ => (HO160.out.1 k_ e_).1)); have n4_ := Aside0.mk ((show Kd.C k94 w32 (some ad148) y154.length y154 from by rw [Ny154.out]; exact Kd.C_take (m := (x5_1 : Int).toNat) ((Kd.R_reads' (Kd.R_after (ok := (fun k_ => (P0_ k_ ∨ w.heap.size ≤ k_) ∧ k_ ≠ gb147)) (ra_ HO_0.out) hg hat)).2.2) KL29.out)); have n5_ := Aside0.mk (ho); clear HO_0; clear BK147; clear HB; clear HK; clear HR157; clear HO160; have HO_0 := n0_; have BK147 := n1_; have HB := n2_; have HK := n3_; have HR157 := n4_; have HO163 := n5_; clear n0_ n1_ n2_ n3_ n4_ n5_; clear ho hb hg hat; have q33 : (x5_1 : Int) ≤ ((l0.length : Int) : Int) := of_decide_eq_true dg_; obtain ⟨i033, hi033, _, hsz33, _⟩ := info_parts info94; have hroom33 : l0.length ≤ co4 := (Kd.R_reads' HO_0.out).2.1; have hC33 : Kd.C k94 _ (some ad148) l0.length l0 := (Kd.R_reads' HO_0.out).2.2; have q033 : (0 : Int) ≤ (x5_1 : Int) := of_decide_eq_true dg_; have hcut33 := cut_from (P := Try.prog) 22 94 .i64 Try.underlying22 hi033 2 hsz33 (some ad148) l0.length co4 x5_1 q033 q33; have hr33 := Kd.C_drop (m := (x5_1 : Int).toNat) (c := co4) hC33 (by omega) hroom33; obtain ⟨A33, hA33⟩ : ∃ A1, A1 = (if co4 = (x5_1 : Int).toNat then (some ad148) else ((some ad148) : Option Addr).map (·.add ((x5_1 : Int).toNat * 2))) := ⟨_, rfl⟩; obtain ⟨c33, hc33⟩ : ∃ c1, c1 = co4 - (x5_1 : Int).toNat := ⟨_, rfl⟩; have hy33 : y164.length = l0.length - (x5_1 : Int).toNat := (by rw [Ny164.out, List.length_drop] <;> omega); rw [show (l0).drop (x5_1 : Int).toNat = y164 from Ny164.out.symm] at hr33; replace hr33 : Kd.C k94 _ A33 y164.length y164 := (by rw [hA33]; exact hr33); rw [← hy33, ← hA33, ← hc33] at hcut33; have HR167 := Aside0.mk hr33; have HC167 := Aside0.mk (show y164.length ≤ c33 from by rw [hy33, hc33]; exact Nat.sub_le_sub_right hroom33 _); clear hr33 hC33 hroom33 hi033 hsz33 hc33; have KY33 := Aside0.mk hy33; have KA33 := Aside0.mk hA33; clear hy33 hA33; have KL33 := Aside0.mk (show (x5_1 : Int).toNat ≤ l0.length from by omega); replace q33 := eq_true q33) | ((with_reducible refine gate_builtin (b := .append) (xs := #[.tmp 43, .tmp 46]) rfl ?_); at_builtin; refine Kd.R_append_rows k94 (w0 := w0) w0.heap.size rfl (.tmp 43) (.tmp 46) 22 94 (.agg #[(.int .i64 0), (.int .i64 0)]) 16 rfl Try.underlying22 info94 rfl (by decide) (by omega) v162 y161 y164 _ _ _ (fun k_ => (P0_ k_ ∨ w.heap.size ≤ k_) ∧ some k_ ≠ (.slice (some ad148) l0.length co4 : Value).ownBlock ∧ k_ ≠ gb147) (fun _ => False) rfl rfl ?aO ?aR (fun _ _ h => h) (fun _ h => h.elim) ?aF ?aB ?aS ?aL ?_; (case aR => repeat (first | exact (by repeat (first | (with_reducible exact HR167.out) | (with_reducible refine Kd.C_alloc ?_ _) | (with_reducible refine Kd.C_drewN ?_ _) | (with_reducible refine Kd.C_drew ?_) | exact HR167.out)) | (with_reducible refine Kd.C_alloc ?_ _) | (with_reducible refine Kd.C_drewN ?_ _) | (with_reducible refine Kd.C_drew ?_))); (case aB => exact (by repeat (first | (with_reducible first | exact HB.out | apply below_alloc | apply pw_below_drewN | apply below_drew1 | refine below_set ?_ GE147.out) | exact HB.out))); (case aF => exact (fun k_ hk => ⟨(.inr (Nat.le_trans (by first | exact HK.out.1 | exact (show Kept w _ (fun k_ => P0_ k_) from by repeat (first | (with_reducible first | exact HK.out | apply Kept.alloc | apply Kept.drewN | apply Kept.drew | refine Kept.setCell ?_ (.inr GW147.out) _) | exact HK.out)).1) hk)), Kd.fresh' (rl_ HO_0.out) k_ hk, Kd.freshB (g := gb147) (o := .cells #[.int .i64 a1_0, .int .i64 a1_1] 94 (0, 0)) (by (with_reducible repeat (first | refine blk_drewN ?_ _ | refine blk_drew ?_ | refine blk_alloc ?_ _)); exact BK147.out) k_ hk⟩)); (case aO => exact (ra_ HO163.out)); (case aS => exact (bz_ HB.out)); (case aL => have := LMc23.out; omega); intro v169 w34 ho hb hg hat; rw [← Ny168.out] at ho; have n0_ := Aside0.mk (Kd.R_after (ok := (fun k_ => (P0_ k_ ∨ w.heap.size ≤ k_) ∧ k_ ≠ gb147)) (ra_ HO_0.out) hg hat); have n1_ := Aside0.mk (blk_grown (g := gb147) (o := .cells #[.int .i64 a1_0, .int .i64 a1_1] 94 (0, 0)) (by (with_reducible repeat (first | refine blk_drewN ?_ _ | refine blk_drew ?_ | refine blk_alloc ?_ _)); exact BK147.out) hg (Kd.R_away HO163.out (fun _ hk => hk.2.2))); have n2_ := Aside0.mk (hb); have n3_ := Aside0.mk (Kept.of_grown (S := (fun k_ => P0_ k_)) hg (by repeat (first | (with_reducible first | exact HK.out | apply Kept.alloc | apply Kept.drewN | apply Kept.drew | refine Kept.setCell ?_ (.inr GW147.out) _) | exact HK.out)) (fun k_ e_ => (HO163.out.1 k_ e_).1)); have n4_ := Aside0.mk ((show Kd.C k94 w34 (some ad148) y154.length y154 from by rw [Ny154.out]; exact Kd.C_take (m := (x5_1 : Int).toNat) ((Kd.R_reads' (Kd.R_after (ok := (fun k_ => (P0_ k_ ∨ w.heap.size ≤ k_) ∧ k_ ≠ gb147)) (ra_ HO_0.out) hg hat)).2.2) KL29.out)); have n5_ := Aside0.mk ((show Kd.C k94 w34 A33 y164.length y164 from by rw [Ny164.out, KA33.out]; exact Kd.C_drop (m := (x5_1 : Int).toNat) (c := co4) ((Kd.R_reads' (Kd.R_after (ok := (fun k_ => (P0_ k_ ∨ w.heap.size ≤ k_) ∧ k_ ≠ gb147)) (ra_ HO_0.out) hg hat)).2.2) KL33.out ((Kd.R_reads' (Kd.R_after (ok := (fun k_ => (P0_ k_ ∨ w.heap.size ≤ k_) ∧ k_ ≠ gb147)) (ra_ HO_0.out) hg hat)).2.1))); have n6_ := Aside0.mk (ho); clear HO_0; clear BK147; clear HB; clear HK; clear HR157; clear HR167; clear HO163; have HO_0 := n0_; have BK147 := n1_; have HB := n2_; have HK := n3_; have HR157 := n4_; have HR167 := n5_; have HO170 := n6_; clear n0_ n1_ n2_ n3_ n4_ n5_ n6_; clear ho hb hg hat))
             go_ret
             exact ⟨_, by first | rfl | (simp [errW_none, errW_some] <;> rfl) | (simp only [← hji6]; first | rfl | (simp [errW_none, errW_some] <;> rfl)) | (simp [*, errW_none, errW_some] <;> rfl), by (with_reducible repeat (first | apply Kd.R_alloc | apply Kd.R_drewN | apply Kd.R_drew)); exact Kd.R_mono HO170.out (fun _ hk => hk.1), bb_ HB.out, by repeat (first | (with_reducible first | exact HK.out | apply Kept.alloc | apply Kept.drewN | apply Kept.drew | refine Kept.setCell ?_ (.inr GW147.out) _) | exact HK.out)⟩
            ·rw [if_neg c23] at H
             exact absurd H (by simp)
           ·rw [if_neg c20] at H
            exact absurd H (by simp)
          ·rw [if_neg c19] at H
           exact absurd H (by simp)
         ·rw [if_neg c18] at H
          exact absurd H (by simp)
        ·rw [if_neg c17] at H
         exact absurd H (by simp)
     ·rw [if_neg c8] at H
      exact absurd H (by simp)
    ·rw [if_neg c7] at H
     exact absurd H (by simp)
   ·rw [if_neg c5] at H
    have c5b0 : decide (0 < x5_1) = false := decide_eq_false c5
    clear c5
    obtain ⟨y171, hy171⟩ : ∃ y_ : List (S94), y_ = (([] : List (S94))) := ⟨_, rfl⟩
    replace H : (if 0 ≤ x5_1 then (if x5_1 ≤ (l0.length : Int) then ((some (l0.take (x5_1 : Int).toNat : List (S94))).bind fun y174 => (if y171.length + y174.length < 8796093022208 then ((some (y171 ++ y174 : List (S94))).bind fun y178 => (if y178.length < 8796093022208 then ((some (y178 ++ [(⟨a1_0, a1_1⟩ : S94)] : List (S94))).bind fun y181 => ((some (l0.drop (x5_1 : Int).toNat : List (S94))).bind fun y184 => (if y181.length + y184.length < 8796093022208 then (some (y181 ++ y184)) else (none)))) else (none))) else (none))) else (none)) else (none)) = some r := by first | (rw [hy171]; with_reducible exact H) | (have H2_ := (Option.bind_some _ _).symm.trans H; rw [hy171]; with_reducible exact H2_) | (have H2_ := (Option.bind_some _ _).symm.trans H; with_reducible exact H2_) | with_reducible exact H | (rw [hy171]; exact H) | exact H
    have Ny171 := Aside0.mk hy171
    clear hy171
    by_cases c35 : 0 ≤ x5_1
    ·rw [if_pos c35] at H
     have c35b0 := eq_true c35
     have c35b1 : decide (0 ≤ x5_1) = true := decide_eq_true c35
     clear c35
     by_cases c36 : x5_1 ≤ (l0.length : Int)
     ·rw [if_pos c36] at H
      have c36b0 := eq_true c36
      have c36b1 : decide (x5_1 ≤ (l0.length : Int)) = true := decide_eq_true c36
      clear c36
      obtain ⟨y174, hy174⟩ : ∃ y_ : List (S94), y_ = (l0.take (x5_1 : Int).toNat) := ⟨_, rfl⟩
      replace H : (if y171.length + y174.length < 8796093022208 then ((some (y171 ++ y174 : List (S94))).bind fun y178 => (if y178.length < 8796093022208 then ((some (y178 ++ [(⟨a1_0, a1_1⟩ : S94)] : List (S94))).bind fun y181 => ((some (l0.drop (x5_1 : Int).toNat : List (S94))).bind fun y184 => (if y181.length + y184.length < 8796093022208 then (some (y181 ++ y184)) else (none)))) else (none))) else (none)) = some r := by first | (rw [hy174]; with_reducible exact H) | (have H2_ := (Option.bind_some _ _).symm.trans H; rw [hy174]; with_reducible exact H2_) | (have H2_ := (Option.bind_some _ _).symm.trans H; with_reducible exact H2_) | with_reducible exact H | (rw [hy174]; exact H) | exact H
      have Ny174 := Aside0.mk hy174
      clear hy174
      by_cases c37 : y171.length + y174.length < 8796093022208
      ·rw [if_pos c37] at H
       have LMc37 := Aside0.mk c37
       clear c37
       obtain ⟨y178, hy178⟩ : ∃ y_ : List (S94), y_ = (y171 ++ y174) := ⟨_, rfl⟩
       replace H : (if y178.length < 8796093022208 then ((some (y178 ++ [(⟨a1_0, a1_1⟩ : S94)] : List (S94))).bind fun y181 => ((some (l0.drop (x5_1 : Int).toNat : List (S94))).bind fun y184 => (if y181.length + y184.length < 8796093022208 then (some (y181 ++ y184)) else (none)))) else (none)) = some r := by first | (rw [hy178]; with_reducible exact H) | (have H2_ := (Option.bind_some _ _).symm.trans H; rw [hy178]; with_reducible exact H2_) | (have H2_ := (Option.bind_some _ _).symm.trans H; with_reducible exact H2_) | with_reducible exact H | (rw [hy178]; exact H) | exact H
       have Ny178 := Aside0.mk hy178
       clear hy178
       by_cases c38 : y178.length < 8796093022208
       ·rw [if_pos c38] at H
        have LMc38 := Aside0.mk c38
        clear c38
        obtain ⟨y181, hy181⟩ : ∃ y_ : List (S94), y_ = (y178 ++ [(⟨a1_0, a1_1⟩ : S94)]) := ⟨_, rfl⟩
        replace H : ((some (l0.drop (x5_1 : Int).toNat : List (S94))).bind fun y184 => (if y181.length + y184.length < 8796093022208 then (some (y181 ++ y184)) else (none))) = some r := by first | (rw [hy181]; with_reducible exact H) | (have H2_ := (Option.bind_some _ _).symm.trans H; rw [hy181]; with_reducible exact H2_) | (have H2_ := (Option.bind_some _ _).symm.trans H; with_reducible exact H2_) | with_reducible exact H | (rw [hy181]; exact H) | exact H
        have Ny181 := Aside0.mk hy181
        clear hy181
        have c39b0 := eq_true (of_decide_eq_true dg_ : 0 ≤ x5_1)
        have c40b0 := eq_true (of_decide_eq_true dg_ : x5_1 ≤ (l0.length : Int))
        obtain ⟨y184, hy184⟩ : ∃ y_ : List (S94), y_ = (l0.drop (x5_1 : Int).toNat) := ⟨_, rfl⟩
        replace H : (if y181.length + y184.length < 8796093022208 then (some (y181 ++ y184)) else (none)) = some r := by first | (rw [hy184]; with_reducible exact H) | (have H2_ := (Option.bind_some _ _).symm.trans H; rw [hy184]; with_reducible exact H2_) | (have H2_ := (Option.bind_some _ _).symm.trans H; with_reducible exact H2_) | with_reducible exact H | (rw [hy184]; exact H) | exact H
        have Ny184 := Aside0.mk hy184
        clear hy184
        by_cases c41 : y181.length + y184.length < 8796093022208
        ·rw [if_pos c41] at H
         have LMc41 := Aside0.mk c41
         clear c41
         obtain ⟨y188, hy188⟩ : ∃ y_ : List (S94), y_ = (y181 ++ y184) := ⟨_, rfl⟩
         replace H : (some y188) = some r := by first | (rw [hy188]; with_reducible exact H) | (have H2_ := (Option.bind_some _ _).symm.trans H; rw [hy188]; with_reducible exact H2_) | (have H2_ := (Option.bind_some _ _).symm.trans H; with_reducible exact H2_) | with_reducible exact H | (rw [hy188]; exact H) | exact H
         have Ny188 := Aside0.mk hy188
         clear hy188
         obtain rfl := Option.some.inj H
         try go_wp2
         have n0_ := Aside0.mk (Kd.R_drew HO_0.out)
         have n1_ := Aside0.mk (blk_drew BK147.out)
         have n2_ := Aside0.mk (Kept.drew HK.out)
         have n3_ := Aside0.mk (below_drew1 HB.out)
         clear HO_0
         clear BK147
         clear HK
         clear HB
         have HO_0 := n0_
         have BK147 := n1_
         have HK := n2_
         have HB := n3_
         clear n0_ n1_ n2_ n3_
         refine start_ (n := 11) (S := fun w' => True) (ds := []) #[false, false, false, false, false, false, false, false, false, false, false] (by kernel_rfl) rfl rfl trivial (fun hHeld => ?_); refine with_tabW spec_l08Put.tab2 spec_l08Put.bits2 (fun HT_ HW_ => ?_)
         generalize wr.drew = w42 at HO_0 BK147 HK HB hHeld ⊢
         refine pu_ 0 9 (bt_ 11 1) HT_ ?_
         refine pu_ 1 10 (bt_ 11 3) HT_ ?_
         refine pu_ 2 11 (bt_ 11 7) HT_ ?_
         refine un_ 3 12 (bt_ 11 15) HT_ ?_
         refine un_ 4 13 (bt_ 11 31) HT_ ?_
         refine un_ 5 14 (bt_ 11 63) HT_ ?_
         refine un_ 6 15 (bt_ 11 127) HT_ ?_
         refine un_ 7 16 (bt_ 11 255) HT_ ?_
         refine un_ 8 17 (bt_ 11 511) HT_ ?_
         refine un_ 9 18 (bt_ 11 1023) HT_ ?_
         refine pu_ 10 19 (bt_ 11 2047) HT_ ?_
         refine done_ (done_of HT_.out (by kernel_rfl)) ?_
         try go_wp2
         have n0_ := Aside0.mk (Kd.R_drew HO_0.out)
         have n1_ := Aside0.mk (blk_drew BK147.out)
         have n2_ := Aside0.mk (Kept.drew HK.out)
         have n3_ := Aside0.mk (below_drew1 HB.out)
         clear HO_0
         clear BK147
         clear HK
         clear HB
         have HO_0 := n0_
         have BK147 := n1_
         have HK := n2_
         have HB := n3_
         clear n0_ n1_ n2_ n3_
         refine start_ (n := 11) (S := fun w' => True) (ds := []) #[false, false, false, false, false, false, false, false, false, false, false] (by kernel_rfl) rfl rfl trivial (fun hHeld => ?_); refine with_tabW spec_l08Put.tab4 spec_l08Put.bits4 (fun HT_ HW_ => ?_)
         generalize w42.drew = w43 at HO_0 BK147 HK HB hHeld ⊢
         refine pu_ 0 22 (bt_ 11 1) HT_ ?_
         refine pu_ 1 23 (bt_ 11 3) HT_ ?_
         refine pu_ 2 24 (bt_ 11 7) HT_ ?_
         refine un_ 3 25 (bt_ 11 15) HT_ ?_
         refine un_ 4 26 (bt_ 11 31) HT_ ?_
         refine un_ 5 27 (bt_ 11 63) HT_ ?_
         refine un_ 6 28 (bt_ 11 127) HT_ ?_
         refine un_ 7 29 (bt_ 11 255) HT_ ?_
         refine un_ 8 30 (bt_ 11 511) HT_ ?_
         refine un_ 9 31 (bt_ 11 1023) HT_ ?_
         refine pu_ 10 32 (bt_ 11 2047) HT_ ?_
         refine done_ (done_of HT_.out (by kernel_rfl)) ?_
         try go_wp2_with (first | ((with_reducible refine gate_dst (N := 34) rfl ?_); refine Kd.R_lit k94 _ 94 ?hg (N := 34) ?hd (xs := ([] : List (S94))) (inner := []) (ok := fun _ => True) (okp := fun _ => True) ?hr ?hp (fun _ hk => hk) trivial (Below.refl _ _) (Nat.le_refl _) (by simp) ?_; (case hd => rfl); (case hg => rfl); (case hr => first | (go_simp; done) | (go_simp; rfl)); (case hp => exact (Reps.none _ _)); intro v172 w44 ho45 hb hg_ hnew_; clear hg_ hnew_; (first | rw [← Ny171.out] at ho45 | (simp only [Int.reduceToNat] at ho45; rw [← Ny171.out] at ho45)); have HO173 := Aside0.mk (Kd.R_lower (Kd.R_newB (Kd.R_new' (Kd.R_newM (M := fun k_ => (P0_ k_ ∨ w.heap.size ≤ k_)) ho45 (by first | exact HK.out.1 | exact (show Kept w _ (fun k_ => P0_ k_) from by repeat (first | (with_reducible first | exact HK.out | apply Kept.alloc | apply Kept.drewN | apply Kept.drew | refine Kept.setCell ?_ (.inr GW147.out) _) | exact HK.out)).1) (fun k_ h_ => .inr h_)) (rl_ HO_0.out)) (g := gb147) (o := .cells #[.int .i64 a1_0, .int .i64 a1_1] 94 (0, 0)) (by (with_reducible repeat (first | refine blk_drewN ?_ _ | refine blk_drew ?_ | refine blk_alloc ?_ _)); exact BK147.out)) (bz_ HB.out)); replace HO_0 := Aside0.mk (Kd.R_elder' (ra_ HO_0.out) (Kd.R_base ho45) hb); replace BK147 := Aside0.mk (bk_ BK147.out hb); replace HK := Aside0.mk (Kept.below (S := (fun k_ => P0_ k_)) (by repeat (first | (with_reducible first | exact HK.out | apply Kept.alloc | apply Kept.drewN | apply Kept.drew | refine Kept.setCell ?_ (.inr GW147.out) _) | exact HK.out)) hb); replace HB := Aside0.mk (bs_ HB.out hb); clear hb ho45; have q46 : (x5_1 : Int) ≤ ((l0.length : Int) : Int) := of_decide_eq_true dg_; obtain ⟨i046, hi046, _, hsz46, _⟩ := info_parts info94; have hroom46 : l0.length ≤ co4 := (Kd.R_reads' HO_0.out).2.1; have hC46 : Kd.C k94 _ Ao4 l0.length l0 := (Kd.R_reads' HO_0.out).2.2; have hcut46 := cut_to (P := Try.prog) 22 94 .i64 Try.underlying22 hi046 Ao4 l0.length co4 x5_1 (of_decide_eq_true dg_) q46 hroom46; have hr46 := Kd.C_take (m := (x5_1 : Int).toNat) hC46 (by omega); have hy46 : y174.length = (x5_1 : Int).toNat := (by rw [Ny174.out, List.length_take]; omega); rw [← Ny174.out] at hr46; rw [← hy46] at hcut46; have HR177 := Aside0.mk hr46; have HC177 := Aside0.mk (show y174.length ≤ co4 from by omega); clear hr46 hC46 hroom46 hi046 hsz46; have KY46 := Aside0.mk hy46; clear hy46; have KL46 := Aside0.mk (show (x5_1 : Int).toNat ≤ l0.length from by omega); replace q46 := eq_true q46) | ((with_reducible refine gate_builtin (b := .append) (xs := #[.tmp 34, .tmp 37]) rfl ?_); at_builtin; refine Kd.R_append_rows k94 (w0 := w0) w0.heap.size rfl (.tmp 34) (.tmp 37) 22 94 (.agg #[(.int .i64 0), (.int .i64 0)]) 16 rfl Try.underlying22 info94 rfl (by decide) (by omega) v172 y171 y174 _ _ _ (fun k_ => (P0_ k_ ∨ w.heap.size ≤ k_) ∧ some k_ ≠ (.slice Ao4 l0.length co4 : Value).ownBlock ∧ k_ ≠ gb147) (fun _ => False) rfl rfl ?aO ?aR (fun _ _ h => h) (fun _ h => h.elim) ?aF ?aB ?aS ?aL ?_; (case aR => repeat (first | exact (by repeat (first | (with_reducible exact HR177.out) | (with_reducible refine Kd.C_alloc ?_ _) | (with_reducible refine Kd.C_drewN ?_ _) | (with_reducible refine Kd.C_drew ?_) | exact HR177.out)) | (with_reducible refine Kd.C_alloc ?_ _) | (with_reducible refine Kd.C_drewN ?_ _) | (with_reducible refine Kd.C_drew ?_))); (case aB => exact (by repeat (first | (with_reducible first | exact HB.out | apply below_alloc | apply pw_below_drewN | apply below_drew1 | refine below_set ?_ GE147.out) | exact HB.out))); (case aF => exact (fun k_ hk => ⟨(.inr (Nat.le_trans (by first | exact HK.out.1 | exact (show Kept w _ (fun k_ => P0_ k_) from by repeat (first | (with_reducible first | exact HK.out | apply Kept.alloc | apply Kept.drewN | apply Kept.drew | refine Kept.setCell ?_ (.inr GW147.out) _) | exact HK.out)).1) hk)), Kd.fresh' (rl_ HO_0.out) k_ hk, Kd.freshB (g := gb147) (o := .cells #[.int .i64 a1_0, .int .i64 a1_1] 94 (0, 0)) (by (with_reducible repeat (first | refine blk_drewN ?_ _ | refine blk_drew ?_ | refine blk_alloc ?_ _)); exact BK147.out) k_ hk⟩)); (case aO => exact (by (with_reducible repeat (first | apply Kd.R_alloc | apply Kd.R_drewN | apply Kd.R_drew)); exact Kd.R_mono HO173.out (fun _ hk => ⟨hk.1.1.1, ⟨hk.1.2, hk.2⟩⟩))); (case aS => exact (bz_ HB.out)); (case aL => have := LMc37.out; omega); intro v179 w47 ho hb hg hat; rw [← Ny178.out] at ho; have n0_ := Aside0.mk (Kd.R_after (ok := (fun k_ => (P0_ k_ ∨ w.heap.size ≤ k_) ∧ k_ ≠ gb147)) (ra_ HO_0.out) hg hat); have n1_ := Aside0.mk (blk_grown (g := gb147) (o := .cells #[.int .i64 a1_0, .int .i64 a1_1] 94 (0, 0)) (by (with_reducible repeat (first | refine blk_drewN ?_ _ | refine blk_drew ?_ | refine blk_alloc ?_ _)); exact BK147.out) hg (Kd.R_away HO173.out (fun _ hk => hk.2))); have n2_ := Aside0.mk (hb); have n3_ := Aside0.mk (Kept.of_grown (S := (fun k_ => P0_ k_)) hg (by repeat (first | (with_reducible first | exact HK.out | apply Kept.alloc | apply Kept.drewN | apply Kept.drew | refine Kept.setCell ?_ (.inr GW147.out) _) | exact HK.out)) (fun k_ e_ => (HO173.out.1 k_ e_).1.1.1)); have n4_ := Aside0.mk ((show Kd.C k94 w47 Ao4 y174.length y174 from by rw [Ny174.out]; exact Kd.C_take (m := (x5_1 : Int).toNat) ((Kd.R_reads' (Kd.R_after (ok := (fun k_ => (P0_ k_ ∨ w.heap.size ≤ k_) ∧ k_ ≠ gb147)) (ra_ HO_0.out) hg hat)).2.2) KL46.out)); have n5_ := Aside0.mk (ho); clear HO_0; clear BK147; clear HB; clear HK; clear HR177; clear HO173; have HO_0 := n0_; have BK147 := n1_; have HB := n2_; have HK := n3_; have HR177 := n4_; have HO180 := n5_; clear n0_ n1_ n2_ n3_ n4_ n5_; clear ho hb hg hat; obtain ⟨hcz48_0, hcz48_1, hfz48_0, hfz48_1⟩ := cz2_ BK147.out) | ((with_reducible refine gate_builtin (b := .append) (xs := #[.tmp 39, .tmp 41]) rfl ?_); at_builtin; refine Kd.R_append k94 (w0 := w0) w0.heap.size rfl (.tmp 39) (.tmp 41) 22 94 (.agg #[(.int .i64 0), (.int .i64 0)]) 16 rfl Try.underlying22 info94 rfl (by decide) (by omega) v179 y178 (⟨a1_0, a1_1⟩ : S94) [.int .i64 a1_0, .int .i64 a1_1] (fun k_ => (P0_ k_ ∨ w.heap.size ≤ k_) ∧ some k_ ≠ (.slice Ao4 l0.length co4 : Value).ownBlock ∧ k_ ≠ gb147) (fun _ => False) rfl rfl ?aP (fun _ hk => hk.elim) ?aF ?aO ?aB ?aS ?aL ?_; (case aP => exact k94_mkM _ _ _ (⟨a1_0, a1_1⟩ : S94)); (case aB => exact (by repeat (first | (with_reducible first | exact HB.out | apply below_alloc | apply pw_below_drewN | apply below_drew1 | refine below_set ?_ GE147.out) | exact HB.out))); (case aF => exact (fun k_ hk => ⟨(.inr (Nat.le_trans (by first | exact HK.out.1 | exact (show Kept w _ (fun k_ => P0_ k_) from by repeat (first | (with_reducible first | exact HK.out | apply Kept.alloc | apply Kept.drewN | apply Kept.drew | refine Kept.setCell ?_ (.inr GW147.out) _) | exact HK.out)).1) hk)), Kd.fresh' (rl_ HO_0.out) k_ hk, Kd.freshB (g := gb147) (o := .cells #[.int .i64 a1_0, .int .i64 a1_1] 94 (0, 0)) (by (with_reducible repeat (first | refine blk_drewN ?_ _ | refine blk_drew ?_ | refine blk_alloc ?_ _)); exact BK147.out) k_ hk⟩)); (case aO => exact (ra_ HO180.out)); (case aS => exact (bz_ HB.out)); (case aL => have := LMc38.out; omega); intro v182 w49 ho hb hg hat; rw [← Ny181.out] at ho; have n0_ := Aside0.mk (Kd.R_after (ok := (fun k_ => (P0_ k_ ∨ w.heap.size ≤ k_) ∧ k_ ≠ gb147)) (ra_ HO_0.out) hg hat); have n1_ := Aside0.mk (blk_grown (g := gb147) (o := .cells #[.int .i64 a1_0, .int .i64 a1_1] 94 (0, 0)) (by (with_reducible repeat (first | refine blk_drewN ?_ _ | refine blk_drew ?_ | refine blk_alloc ?_ _)); exact BK147.out) hg (Kd.R_away HO180.out (fun _ hk => hk.2.2))); have n2_ := Aside0.mk (hb); have n3_ := Aside0.mk (Kept.of_grown (S := (fun k_ => P0_ k_)) hg (by repeat (first | (with_reducible first | exact HK.out | apply Kept.alloc | apply Kept.drewN | apply Kept.drew | refine Kept.setCell ?_ (.inr GW147.out) _) | exact HK.out)) (fun k_ e_ => (HO180.out.1 k_ e_).1)); have n4_ := Aside0.mk ((show Kd.C k94 w49 Ao4 y174.length y174 from by rw [Ny174.out]; exact Kd.C_take (m := (x5_1 : Int).toNat) ((Kd.R_reads' (Kd.R_after (ok := (fun k_ => (P0_ k_ ∨ w.heap.size ≤ k_) ∧ k_ ≠ gb147)) (ra_ HO_0.out) hg hat)).2.2) KL46.out)); have n5_ := Aside0.mk (ho); clear HO_0; clear BK147; clear HB; clear HK; clear HR177; clear HO180; have HO_0 := n0_; have BK147 := n1_; have HB := n2_; have HK := n3_; have HR177 := n4_; have HO183 := n5_; clear n0_ n1_ n2_ n3_ n4_ n5_; clear ho hb hg hat; have q50 : (x5_1 : Int) ≤ ((l0.length : Int) : Int) := of_decide_eq_true dg_; obtain ⟨i050, hi050, _, hsz50, _⟩ := info_parts info94; have hroom50 : l0.length ≤ co4 := (Kd.R_reads' HO_0.out).2.1; have hC50 : Kd.C k94 _ Ao4 l0.length l0 := (Kd.R_reads' HO_0.out).2.2; have q050 : (0 : Int) ≤ (x5_1 : Int) := of_decide_eq_true dg_; have hcut50 := cut_from (P := Try.prog) 22 94 .i64 Try.underlying22 hi050 2 hsz50 Ao4 l0.length co4 x5_1 q050 q50; have hr50 := Kd.C_drop (m := (x5_1 : Int).toNat) (c := co4) hC50 (by omega) hroom50; obtain ⟨A50, hA50⟩ : ∃ A1, A1 = (if co4 = (x5_1 : Int).toNat then Ao4 else (Ao4 : Option Addr).map (·.add ((x5_1 : Int).toNat * 2))) := ⟨_, rfl⟩; obtain ⟨c50, hc50⟩ : ∃ c1, c1 = co4 - (x5_1 : Int).toNat := ⟨_, rfl⟩; have hy50 : y184.length = l0.length - (x5_1 : Int).toNat := (by rw [Ny184.out, List.length_drop] <;> omega); rw [show (l0).drop (x5_1 : Int).toNat = y184 from Ny184.out.symm] at hr50; replace hr50 : Kd.C k94 _ A50 y184.length y184 := (by rw [hA50]; exact hr50); rw [← hy50, ← hA50, ← hc50] at hcut50; have HR187 := Aside0.mk hr50; have HC187 := Aside0.mk (show y184.length ≤ c50 from by rw [hy50, hc50]; exact Nat.sub_le_sub_right hroom50 _); clear hr50 hC50 hroom50 hi050 hsz50 hc50; have KY50 := Aside0.mk hy50; have KA50 := Aside0.mk hA50; clear hy50 hA50; have KL50 := Aside0.mk (show (x5_1 : Int).toNat ≤ l0.length from by omega); replace q50 := eq_true q50) | ((with_reducible refine gate_builtin (b := .append) (xs := #[.tmp 43, .tmp 46]) rfl ?_); at_builtin; refine Kd.R_append_rows k94 (w0 := w0) w0.heap.size rfl (.tmp 43) (.tmp 46) 22 94 (.agg #[(.int .i64 0), (.int .i64 0)]) 16 rfl Try.underlying22 info94 rfl (by decide) (by omega) v182 y181 y184 _ _ _ (fun k_ => (P0_ k_ ∨ w.heap.size ≤ k_) ∧ some k_ ≠ (.slice Ao4 l0.length co4 : Value).ownBlock ∧ k_ ≠ gb147) (fun _ => False) rfl rfl ?aO ?aR (fun _ _ h => h) (fun _ h => h.elim) ?aF ?aB ?aS ?aL ?_; (case aR => repeat (first | exact (by repeat (first | (with_reducible exact HR187.out) | (with_reducible refine Kd.C_alloc ?_ _) | (with_reducible refine Kd.C_drewN ?_ _) | (with_reducible refine Kd.C_drew ?_) | exact HR187.out)) | (with_reducible refine Kd.C_alloc ?_ _) | (with_reducible refine Kd.C_drewN ?_ _) | (with_reducible refine Kd.C_drew ?_))); (case aB => exact (by repeat (first | (with_reducible first | exact HB.out | apply below_alloc | apply pw_below_drewN | apply below_drew1 | refine below_set ?_ GE147.out) | exact HB.out))); (case aF => exact (fun k_ hk => ⟨(.inr (Nat.le_trans (by first | exact HK.out.1 | exact (show Kept w _ (fun k_ => P0_ k_) from by repeat (first | (with_reducible first | exact HK.out | apply Kept.alloc | apply Kept.drewN | apply Kept.drew | refine Kept.setCell ?_ (.inr GW147.out) _) | exact HK.out)).1) hk)), Kd.fresh' (rl_ HO_0.out) k_ hk, Kd.freshB (g := gb147) (o := .cells #[.int .i64 a1_0, .int .i64 a1_1] 94 (0, 0)) (by (with_reducible repeat (first | refine blk_drewN ?_ _ | refine blk_drew ?_ | refine blk_alloc ?_ _)); exact BK147.out) k_ hk⟩)); (case aO => exact (ra_ HO183.out)); (case aS => exact (bz_ HB.out)); (case aL => have := LMc41.out; omega); intro v189 w51 ho hb hg hat; rw [← Ny188.out] at ho; have n0_ := Aside0.mk (Kd.R_after (ok := (fun k_ => (P0_ k_ ∨ w.heap.size ≤ k_) ∧ k_ ≠ gb147)) (ra_ HO_0.out) hg hat); have n1_ := Aside0.mk (blk_grown (g := gb147) (o := .cells #[.int .i64 a1_0, .int .i64 a1_1] 94 (0, 0)) (by (with_reducible repeat (first | refine blk_drewN ?_ _ | refine blk_drew ?_ | refine blk_alloc ?_ _)); exact BK147.out) hg (Kd.R_away HO183.out (fun _ hk => hk.2.2))); have n2_ := Aside0.mk (hb); have n3_ := Aside0.mk (Kept.of_grown (S := (fun k_ => P0_ k_)) hg (by repeat (first | (with_reducible first | exact HK.out | apply Kept.alloc | apply Kept.drewN | apply Kept.drew | refine Kept.setCell ?_ (.inr GW147.out) _) | exact HK.out)) (fun k_ e_ => (HO183.out.1 k_ e_).1)); have n4_ := Aside0.mk ((show Kd.C k94 w51 Ao4 y174.length y174 from by rw [Ny174.out]; exact Kd.C_take (m := (x5_1 : Int).toNat) ((Kd.R_reads' (Kd.R_after (ok := (fun k_ => (P0_ k_ ∨ w.heap.size ≤ k_) ∧ k_ ≠ gb147)) (ra_ HO_0.out) hg hat)).2.2) KL46.out)); have n5_ := Aside0.mk ((show Kd.C k94 w51 A50 y184.length y184 from by rw [Ny184.out, KA50.out]; exact Kd.C_drop (m := (x5_1 : Int).toNat) (c := co4) ((Kd.R_reads' (Kd.R_after (ok := (fun k_ => (P0_ k_ ∨ w.heap.size ≤ k_) ∧ k_ ≠ gb147)) (ra_ HO_0.out) hg hat)).2.2) KL50.out ((Kd.R_reads' (Kd.R_after (ok := (fun k_ => (P0_ k_ ∨ w.heap.size ≤ k_) ∧ k_ ≠ gb147)) (ra_ HO_0.out) hg hat)).2.1))); have n6_ := Aside0.mk (ho); clear HO_0; clear BK147; clear HB; clear HK; clear HR177; clear HR187; clear HO183; have HO_0 := n0_; have BK147 := n1_; have HB := n2_; have HK := n3_; have HR177 := n4_; have HR187 := n5_; have HO190 := n6_; clear n0_ n1_ n2_ n3_ n4_ n5_ n6_; clear ho hb hg hat))
         go_ret
         exact ⟨_, fin_, by (with_reducible repeat (first | apply Kd.R_alloc | apply Kd.R_drewN | apply Kd.R_drew)); exact Kd.R_mono HO190.out (fun _ hk => hk.1), bb_ HB.out, by repeat (first | (with_reducible first | exact HK.out | apply Kept.alloc | apply Kept.drewN | apply Kept.drew | refine Kept.setCell ?_ (.inr GW147.out) _) | exact HK.out)⟩
        ·rw [if_neg c41] at H
         exact absurd H (by simp)
       ·rw [if_neg c38] at H
        exact absurd H (by simp)
      ·rw [if_neg c37] at H
       exact absurd H (by simp)
     ·rw [if_neg c36] at H
      exact absurd H (by simp)
    ·rw [if_neg c35] at H
     exact absurd H (by simp)

end Go.Proofs.Ytimdefbpoddoaaa.PFnExactClassDepends
-- thin
