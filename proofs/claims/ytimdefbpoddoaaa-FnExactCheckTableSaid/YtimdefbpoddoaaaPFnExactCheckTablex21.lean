/- The law's functions as plain functions, and their calls. No condition. -/
import Derived.Test.YtimdefbpoddoaaaPFnExactCheckTablex0
import Derived.Test.YtimdefbpoddoaaaPFnExactCheckTablex2
import Derived.Test.YtimdefbpoddoaaaPFnExactCheckTablex10
import Derived.Test.YtimdefbpoddoaaaPFnExactCheckTablex11
import Derived.Test.YtimdefbpoddoaaaPFnExactCheckTablex19
import Derived.Test.YtimdefbpoddoaaaPFnExactCheckTablex20
namespace Go.Proofs.Ytimdefbpoddoaaa.PFnExactCheckTable
open Go.RowKit Go.Proofs.YtimdefbpoddoaaaW.PrintWords Go.Proofs.YtimdefbpoddoaaaW.PrintLast Go.Proofs.YtimdefbpoddoaaaW.PrintMore
attribute [local go_sem] max2_int min2_int max_two min_two max_three min_three max_four min_four
set_option linter.unusedVariables false
set_option maxHeartbeats 8000000
set_option maxRecDepth 100000
set_option linter.unusedSimpArgs false

/-! ### laws_FnExactCheckTable: function 6 -/
def laws_FnExactCheckTable.j0 : Nat → Bool → Int → Int → List Int → List Int → Int → List Int → List Int → Int → List Int → List Int → Option (Bool)
 | 0, _, _, _, _, _, _, _, _, _, _, _ => none
 | k + 1, x63, x542000, x542001, x542002, x543000, x561000, x561001, x561002, x579000, x579001, x579002 => if x63 = true then (none) else ((laws_markVerdict.f k x579000 x579001 x579002 1).bind fun bt595 => ((laws_heldVerdict.f k x579000 bt595.2.1 bt595.2.2 1).bind fun t598 => (if t598 < 0 then (none) else (if t598 = bt595.1 then ((laws_toMesh.f k x542000 x542001 x542002).bind fun bt599 => ((laws_toTable.f k x543000).bind fun t604 => ((impl_CheckTable.f k bt599.1 bt599.2.1 bt599.2.2 t604).bind fun bt607 => ((laws_eqVerdict.f k bt607.1 bt607.2.1 bt607.2.2 x561000 x561001 x561002).bind fun t615 => (if t615 = true then ((laws_heldVerdict.f k x579000 bt595.2.1 bt595.2.2 1).bind fun t616 => (if t616 < 0 then (none) else (if t616 = bt595.1 then (some true) else (none)))) else (none)))))) else (none)))))
def laws_FnExactCheckTable.f (k : Nat) (a0_0 : Int) (a0_1 : Int) (l0_2 : List Int) (l1_0 : List Int) : Option (Bool) := (laws_szMesh.f a0_0 a0_1 l0_2 1048576).bind fun t543 => (if t543 < 0 then (some true) else ((laws_szTable.f l1_0 t543).bind fun t544 => (if t544 < 0 then (some true) else ((laws_toMesh.f k a0_0 a0_1 l0_2).bind fun bt545 => ((laws_toTable.f k l1_0).bind fun t550 => ((spec_CheckTable.f k bt545.1 bt545.2.1 bt545.2.2 t550).bind fun bt553 => ((laws_toMesh.f k a0_0 a0_1 l0_2).bind fun bt561 => ((laws_toTable.f k l1_0).bind fun t567 => ((impl_CheckTable.f k bt561.1 bt561.2.1 bt561.2.2 t567).bind fun bt571 => ((laws_eqVerdict.f k bt571.1 bt571.2.1 bt571.2.2 bt553.1 bt553.2.1 bt553.2.2).bind fun t579 => (if t579 = true then ((laws_toMesh.f k a0_0 a0_1 l0_2).bind fun bt580 => ((laws_eqMesh.f k bt561.1 bt561.2.1 bt561.2.2 bt580.1 bt580.2.1 bt580.2.2).bind fun t585 => (if t585 = true then ((laws_toTable.f k l1_0).bind fun t586 => ((laws_eqTable.f k t567 t586).bind fun t589 => (if t589 = true then ((laws_markMesh.f k bt561.1 bt561.2.1 bt561.2.2 1).bind fun bt590 => ((laws_markTable.f k t567 bt590.1).bind fun bt592 => (if bt592.1 < 0 then (laws_FnExactCheckTable.j0 k true a0_0 a0_1 l0_2 l1_0 bt553.1 bt553.2.1 bt553.2.2 bt571.1 bt571.2.1 bt571.2.2) else ((laws_eqVerdict.f k bt571.1 bt571.2.1 bt571.2.2 bt553.1 bt553.2.1 bt553.2.2).bind fun t594 => (laws_FnExactCheckTable.j0 k (!t594) a0_0 a0_1 l0_2 l1_0 bt553.1 bt553.2.1 bt553.2.2 bt571.1 bt571.2.1 bt571.2.2))))) else (none)))) else (none)))) else (none))))))))))))
theorem laws_FnExactCheckTable.mono_l : ∀ k, (∀ y0 y1 y2 y3 y4 y5 y6 y7 y8 y9 y10, LeO (laws_FnExactCheckTable.j0 k y0 y1 y2 y3 y4 y5 y6 y7 y8 y9 y10) (laws_FnExactCheckTable.j0 (k + 1) y0 y1 y2 y3 y4 y5 y6 y7 y8 y9 y10))
 | 0 => fun _ _ _ _ _ _ _ _ _ _ _ r h => by simp [laws_FnExactCheckTable.j0] at h
 | k + 1 => by
  have ih0 := laws_FnExactCheckTable.mono_l k
  ·intro y0 y1 y2 y3 y4 y5 y6 y7 y8 y9 y10
   unfold laws_FnExactCheckTable.j0
   repeat' (with_reducible first | exact ih0 .. | exact impl_CheckTable.mono .. | exact laws_eqMesh.mono .. | exact laws_eqTable.mono .. | exact laws_eqVerdict.mono .. | exact laws_heldVerdict.mono .. | exact laws_markMesh.mono .. | exact laws_markTable.mono .. | exact laws_markVerdict.mono .. | exact laws_toMesh.mono .. | exact laws_toTable.mono .. | exact spec_CheckTable.mono .. | exact LeO.refl .. | exact LeO.none .. | refine LeO.ite ?_ ?_ | refine LeO.bind ?_ (fun _ => ?_))
theorem laws_FnExactCheckTable.mono : ∀ a0 a1 a2 a3 k, LeO (laws_FnExactCheckTable.f k a0 a1 a2 a3) (laws_FnExactCheckTable.f (k + 1) a0 a1 a2 a3) := by
 intro a0 a1 a2 a3 k
 have ih0 := laws_FnExactCheckTable.mono_l k
 unfold laws_FnExactCheckTable.f
 repeat' (with_reducible first | exact ih0 .. | exact impl_CheckTable.mono .. | exact laws_eqMesh.mono .. | exact laws_eqTable.mono .. | exact laws_eqVerdict.mono .. | exact laws_heldVerdict.mono .. | exact laws_markMesh.mono .. | exact laws_markTable.mono .. | exact laws_markVerdict.mono .. | exact laws_toMesh.mono .. | exact laws_toTable.mono .. | exact spec_CheckTable.mono .. | exact LeO.refl .. | exact LeO.none .. | refine LeO.ite ?_ ?_ | refine LeO.bind ?_ (fun _ => ?_))
theorem laws_FnExactCheckTable.e0 {P : Prop} (h : P := by
 go_enter Try.func6, Try.ntmps6
 go_wp2_with (first | ((with_reducible refine gate_dst (N := 2) rfl ?_); refine box_event ?hg (N := 2) ?hd (cs := #[.int .i64 a0_0, .int .i64 a0_1, .slice A0_2 l0_2.length c0_2]) (t := 34) ?hr ?_; (case hd => rfl); (case hg => rfl); (case hr => first | (go_simp; done) | (go_simp; rfl)); intro gb541 hg w_0 hbox hb; have BK541 := Aside0.mk (hbox); have GW541 := gw_ hg HB; replace HB := hs_ HB hb; clear hb hbox hg) | ((with_reducible refine gate_dst (N := 3) rfl ?_); refine box_event ?hg (N := 3) ?hd (cs := #[.slice A1_0 l1_0.length c1_0]) (t := 36) ?hr ?_; (case hd => rfl); (case hg => rfl); (case hr => first | (go_simp; done) | (go_simp; rfl)); intro gb542 hg w_0 hbox hb; have BK542 := Aside0.mk (hbox); have GW542 := gw_ hg HB; replace HB := hs_ HB hb; have NB541_542 := nl_ hg BK541; have NB542_541 := ng_ hg BK541; replace BK541 := kb_ BK541 hb; clear hb hbox hg; have hnb_ := NB541_542.out; have hnc_ := NB542_541.out; obtain ⟨hcz_0, hcz_1, hcz_2, hfz_0, hfz_1, hfz_2⟩ := cz3_ BK541.out) | (go_at_call 22; (with_reducible refine (laws_szMesh.calls a0_0 a0_1 _ _ l0_2 1048576 t543 _ ?side1 HC0_2.out A3.out).mono ?_); (case side1 => exact cb_ HR0_2.out HB.out); rintro e w_0 ⟨rfl, hb⟩; replace BK541 := kb_ BK541 hb; replace BK542 := kb_ BK542 hb; replace HB := hs_ HB hb; (try clear hb); obtain ⟨hcz_0, hfz_0⟩ := cz1_ BK542.out) | (go_at_call 23; (with_reducible refine (laws_szTable.calls _ _ l1_0 t543 t544 _ ?side1 HC1_0.out A10.out).mono ?_); (case side1 => exact cb_ HR1_0.out HB.out); rintro e w_0 ⟨rfl, hb⟩; replace BK541 := kb_ BK541 hb; replace BK542 := kb_ BK542 hb; replace HB := hs_ HB hb; (try clear hb)))
 go_ret
 exact ⟨fin_, bb_ HB.out⟩) : P := h
theorem laws_FnExactCheckTable.calls (k : Nat) (a0_0 : Int) (a0_1 : Int) (A0_2 : Option Addr) (c0_2 : Nat) (l0_2 : List Int) (A1_0 : Option Addr) (c1_0 : Nat) (l1_0 : List Int) (r : Bool) (w : World) (hr0_2 : Kd.C (Kd.int .i64) w A0_2 l0_2.length l0_2) (hc0_2 : l0_2.length ≤ c0_2) (hr1_0 : Kd.C (Kd.int .i64) w A1_0 l1_0.length l1_0) (hc1_0 : l1_0.length ≤ c1_0) (h : laws_FnExactCheckTable.f k a0_0 a0_1 l0_2 l1_0 = some r) :
  Calls Try.prog 6 #[.agg #[.int .i64 a0_0, .int .i64 a0_1, .slice A0_2 l0_2.length c0_2], .agg #[.slice A1_0 l1_0.length c1_0]] w fun e w' => e = .returned (.bool r) ∧ Below w.heap.size w w' := by
 have hu34 := Try.underlying34
 have hu36 := Try.underlying36
 have hu40 := Try.underlying40
 have hu44 := Try.underlying44
 have hu46 := Try.underlying46
 have HR0_2 := Aside0.mk hr0_2
 have HC0_2 := Aside0.mk hc0_2
 clear hr0_2 hc0_2
 have HR1_0 := Aside0.mk hr1_0
 have HC1_0 := Aside0.mk hc1_0
 clear hr1_0 hc1_0
 have HB := Aside0.mk (Below.refl w.heap.size w)
 have H : ((laws_szMesh.f a0_0 a0_1 l0_2 1048576).bind fun t543 => (if t543 < 0 then (some true) else ((laws_szTable.f l1_0 t543).bind fun t544 => (if t544 < 0 then (some true) else ((laws_toMesh.f k a0_0 a0_1 l0_2).bind fun bt545 => ((laws_toTable.f k l1_0).bind fun t550 => ((spec_CheckTable.f k bt545.1 bt545.2.1 bt545.2.2 t550).bind fun bt553 => ((laws_toMesh.f k a0_0 a0_1 l0_2).bind fun bt561 => ((laws_toTable.f k l1_0).bind fun t567 => ((impl_CheckTable.f k bt561.1 bt561.2.1 bt561.2.2 t567).bind fun bt571 => ((laws_eqVerdict.f k bt571.1 bt571.2.1 bt571.2.2 bt553.1 bt553.2.1 bt553.2.2).bind fun t579 => (if t579 = true then ((laws_toMesh.f k a0_0 a0_1 l0_2).bind fun bt580 => ((laws_eqMesh.f k bt561.1 bt561.2.1 bt561.2.2 bt580.1 bt580.2.1 bt580.2.2).bind fun t585 => (if t585 = true then ((laws_toTable.f k l1_0).bind fun t586 => ((laws_eqTable.f k t567 t586).bind fun t589 => (if t589 = true then ((laws_markMesh.f k bt561.1 bt561.2.1 bt561.2.2 1).bind fun bt590 => ((laws_markTable.f k t567 bt590.1).bind fun bt592 => (if bt592.1 < 0 then (laws_FnExactCheckTable.j0 k true a0_0 a0_1 l0_2 l1_0 bt553.1 bt553.2.1 bt553.2.2 bt571.1 bt571.2.1 bt571.2.2) else ((laws_eqVerdict.f k bt571.1 bt571.2.1 bt571.2.2 bt553.1 bt553.2.1 bt553.2.2).bind fun t594 => (laws_FnExactCheckTable.j0 k (!t594) a0_0 a0_1 l0_2 l1_0 bt553.1 bt553.2.1 bt553.2.2 bt571.1 bt571.2.1 bt571.2.2))))) else (none)))) else (none)))) else (none))))))))))))) = some r := h
 clear h
 obtain ⟨t543, A3, H⟩ := bi_ H
 by_cases c4 : t543 < 0
 ·rw [if_pos c4] at H
  have c4b0 : decide (t543 < 0) = true := decide_eq_true c4
  clear c4
  obtain rfl := Option.some.inj H
  exact laws_FnExactCheckTable.e0
 ·rw [if_neg c4] at H
  have c4b0 : decide (t543 < 0) = false := decide_eq_false c4
  clear c4
  obtain ⟨t544, A10, H⟩ := bi_ H
  by_cases c11 : t544 < 0
  ·rw [if_pos c11] at H
   have c11b0 : decide (t544 < 0) = true := decide_eq_true c11
   clear c11
   obtain rfl := Option.some.inj H
   exact laws_FnExactCheckTable.e0
  ·rw [if_neg c11] at H
   have c11b0 : decide (t544 < 0) = false := decide_eq_false c11
   clear c11
   obtain ⟨⟨t545, t546, t547⟩, A19, H⟩ := bi_ H
   try dsimp only at H
   obtain ⟨t550, A20, H⟩ := bi_ H
   obtain ⟨⟨t553, t554, t557⟩, A21, H⟩ := bi_ H
   try dsimp only at H
   obtain ⟨⟨t561, t562, t563⟩, A22, H⟩ := bi_ H
   try dsimp only at H
   obtain ⟨t567, A23, H⟩ := bi_ H
   obtain ⟨⟨t571, t572, t575⟩, A24, H⟩ := bi_ H
   try dsimp only at H
   obtain ⟨t579, A25, H⟩ := bi_ H
   by_cases c26 : t579 = true
   ·subst c26
    rw [if_pos rfl] at H
    obtain ⟨⟨t580, t581, t582⟩, A27, H⟩ := bi_ H
    try dsimp only at H
    obtain ⟨t585, A28, H⟩ := bi_ H
    by_cases c29 : t585 = true
    rotate_left
    ·replace c29 := Bool.eq_false_iff.mpr c29
     subst c29
     rw [if_neg (show ¬ (false = true) by decide)] at H
     exact absurd H (by simp)
    subst c29
    rw [if_pos rfl] at H
    obtain ⟨t586, A30, H⟩ := bi_ H
    obtain ⟨t589, A31, H⟩ := bi_ H
    by_cases c32 : t589 = true
    rotate_left
    ·replace c32 := Bool.eq_false_iff.mpr c32
     subst c32
     rw [if_neg (show ¬ (false = true) by decide)] at H
     exact absurd H (by simp)
    subst c32
    rw [if_pos rfl] at H
    obtain ⟨⟨t590, t591⟩, A33, H⟩ := bi_ H
    try dsimp only at H
    obtain ⟨⟨t592, t593⟩, A34, H⟩ := bi_ H
    try dsimp only at H
    have HC35 := Aside0.mk H
    clear H
    go_enter Try.func6, Try.ntmps6
    try go_wp2_with (first | ((with_reducible refine gate_dst (N := 2) rfl ?_); refine box_event ?hg (N := 2) ?hd (cs := #[.int .i64 a0_0, .int .i64 a0_1, .slice A0_2 l0_2.length c0_2]) (t := 34) ?hr ?_; (case hd => rfl); (case hg => rfl); (case hr => first | (go_simp; done) | (go_simp; rfl)); intro gb541 hg w36 hbox hb; have BK541 := Aside0.mk (hbox); have GW541 := gw_ hg HB; replace HB := hs_ HB hb; clear hb hbox hg) | ((with_reducible refine gate_dst (N := 3) rfl ?_); refine box_event ?hg (N := 3) ?hd (cs := #[.slice A1_0 l1_0.length c1_0]) (t := 36) ?hr ?_; (case hd => rfl); (case hg => rfl); (case hr => first | (go_simp; done) | (go_simp; rfl)); intro gb542 hg w37 hbox hb; have BK542 := Aside0.mk (hbox); have GW542 := gw_ hg HB; replace HB := hs_ HB hb; have NB541_542 := nl_ hg BK541; have NB542_541 := ng_ hg BK541; replace BK541 := kb_ BK541 hb; clear hb hbox hg; have hnb38 := NB541_542.out; have hnc38 := NB542_541.out; obtain ⟨hcz39_0, hcz39_1, hcz39_2, hfz39_0, hfz39_1, hfz39_2⟩ := cz3_ BK541.out) | (go_at_call 22; (with_reducible refine (laws_szMesh.calls a0_0 a0_1 _ _ l0_2 1048576 t543 _ ?side1 HC0_2.out A3.out).mono ?_); (case side1 => exact cb_ HR0_2.out HB.out); rintro e w40 ⟨rfl, hb⟩; replace BK541 := kb_ BK541 hb; replace BK542 := kb_ BK542 hb; replace HB := hs_ HB hb; (try clear hb); obtain ⟨hcz41_0, hfz41_0⟩ := cz1_ BK542.out) | (go_at_call 23; (with_reducible refine (laws_szTable.calls _ _ l1_0 t543 t544 _ ?side1 HC1_0.out A10.out).mono ?_); (case side1 => exact cb_ HR1_0.out HB.out); rintro e w42 ⟨rfl, hb⟩; replace BK541 := kb_ BK541 hb; replace BK542 := kb_ BK542 hb; replace HB := hs_ HB hb; (try clear hb)))
    replace BK541 := Aside0.mk (blk_drew BK541.out)
    replace BK542 := Aside0.mk (blk_drew BK542.out)
    replace HB := Aside0.mk (below_drew1 HB.out)
    refine start_ (n := 7) (S := fun w' => w'.cell? ⟨gb541, 0, none⟩ = some (.int .i64 a0_0) ∧ w'.cell? ⟨gb541, 1, none⟩ = some (.int .i64 a0_1) ∧ w'.cell? ⟨gb541, 2, none⟩ = some (.slice A0_2 l0_2.length c0_2) ∧ w'.cell? ⟨gb542, 0, none⟩ = some (.slice A1_0 l1_0.length c1_0)) (ds := []) #[false, false, false, false, false, false, false] (by kernel_rfl) rfl rfl ⟨(blk_cell BK541.out 0).trans rfl, (blk_cell BK541.out 1).trans rfl, (blk_cell BK541.out 2).trans rfl, (blk_cell BK542.out 0).trans rfl⟩ (fun hHeld => ?_)
    generalize w42.drew = w43 at BK541 BK542 HB hHeld ⊢
    refine take_ (i := 0) (N := some 24) (v := ?_) (a' := ?_) (bt_ 7 1) rfl rfl (by kernel_rfl) (fun _ _ _ h => h) (Or.inl ⟨by rfl, ?_⟩) hHeld ?_ ?_
    rotate_left
    ·rintro w' ⟨s0, s1, s2, s3⟩
     go_simp
     with_reducible rfl
    rotate_left
    ·simp only [Act.put, List.setIfInBounds_toArray, List.set_cons_zero, List.set_cons_succ, i64_w, i32_w]
     rfl
    refine take_ (i := 2) (N := some 26) (v := ?_) (a' := ?_) (bt_ 7 5) rfl rfl (by kernel_rfl) (fun _ _ _ h => h) (Or.inl ⟨by rfl, ?_⟩) hHeld ?_ ?_
    rotate_left
    ·rintro w' ⟨s0, s1, s2, s3⟩
     go_simp
     with_reducible rfl
    rotate_left
    ·simp only [Act.put, List.setIfInBounds_toArray, List.set_cons_zero, List.set_cons_succ, i64_w, i32_w]
     rfl
    refine join_ (σ := Value × Value × Value × Value × Nat) 1 #[true, true, true, true, true, true, false] (fun s_ => [(25, .agg #[.int .i64 t545, .int .i64 t546, s_.1]), (27, .agg #[s_.2.1]), (28, .agg #[.int .i64 t553, s_.2.2.1, s_.2.2.2.1]), (6, .pointer (some ⟨s_.2.2.2.2, 0, none⟩))]) (fun s_ w' => (w'.cell? ⟨gb541, 0, none⟩ = some (.int .i64 a0_0) ∧ w'.cell? ⟨gb541, 1, none⟩ = some (.int .i64 a0_1) ∧ w'.cell? ⟨gb541, 2, none⟩ = some (.slice A0_2 l0_2.length c0_2) ∧ w'.cell? ⟨gb542, 0, none⟩ = some (.slice A1_0 l1_0.length c1_0)) ∧ (Kd.R (Kd.int .i64) 3 w' w.heap.size (fun k_ => some k_ ≠ (s_.2.1 : Value).ownBlock ∧ some k_ ≠ (s_.2.2.1 : Value).ownBlock ∧ some k_ ≠ (s_.2.2.2.1 : Value).ownBlock) s_.1 t547) ∧ (Kd.R (Kd.int .i64) 3 w' w.heap.size (fun k_ => some k_ ≠ (s_.1 : Value).ownBlock ∧ some k_ ≠ (s_.2.2.1 : Value).ownBlock ∧ some k_ ≠ (s_.2.2.2.1 : Value).ownBlock) s_.2.1 t550) ∧ (Kd.R (Kd.int .i64) 3 w' w.heap.size (fun k_ => some k_ ≠ (s_.1 : Value).ownBlock ∧ some k_ ≠ (s_.2.1 : Value).ownBlock ∧ some k_ ≠ (s_.2.2.2.1 : Value).ownBlock) s_.2.2.1 t554) ∧ (Kd.R (Kd.int .i64) 3 w' w.heap.size (fun k_ => some k_ ≠ (s_.1 : Value).ownBlock ∧ some k_ ≠ (s_.2.1 : Value).ownBlock ∧ some k_ ≠ (s_.2.2.1 : Value).ownBlock) s_.2.2.2.1 t557) ∧ (w'.heap[gb541]? = some (.cells #[.int .i64 a0_0, .int .i64 a0_1, .slice A0_2 l0_2.length c0_2] 34 (0, 0))) ∧ (w'.heap[gb542]? = some (.cells #[.slice A1_0 l1_0.length c1_0] 36 (0, 0))) ∧ (w'.heap[s_.2.2.2.2]? = some (.cells #[.int .i64 0, .slice none 0 0, .slice none 0 0] 40 (0, 0))) ∧ (w.heap.size ≤ s_.2.2.2.2) ∧ (w.heap.size ≤ s_.2.2.2.2) ∧ (gb541 ≠ s_.2.2.2.2) ∧ (s_.2.2.2.2 ≠ gb541) ∧ (gb542 ≠ s_.2.2.2.2) ∧ (s_.2.2.2.2 ≠ gb542) ∧ (Below w.heap.size w w')) ?_ ?_
    rotate_left
    ·intro hCont
     refine two_ (i := 1) (j := 5) (Ni := some 25) (Nj := some 6) #[true, true, true, false, false, false, false] #[true, false, true, false, false, true, false] rfl rfl rfl rfl (by kernel_rfl) (by decide) (by decide) (fun K hK => ?_) (fun K hK => ?_)
     ·skip
      refine goes_ Try.func25 (by kernel_rfl) rfl #[.agg #[.int .i64 a0_0, .int .i64 a0_1, .slice A0_2 l0_2.length c0_2]] (by rfl) rfl rfl (by (try simp only [List.map_toArray, List.map_cons, List.map_nil]); first | done | rfl | (simp only [List.length_drop, List.length_take]; rfl)) ?_
      with_reducible refine (laws_toMesh.calls k a0_0 a0_1 _ _ l0_2 t545 t546 t547 _ ?side1 ?side2 A19.out).mono ?_
      (case side1 => exact cb_ HR0_2.out HB.out)
      (case side2 => exact HC0_2.out)
      rintro e w44 ⟨v548, rfl, ho0, hb⟩
      refine ⟨_, rfl, ?_⟩
      have HO549 := Aside0.mk (Kd.R_lower ho0 (bz_ HB.out))
      replace BK541 := kb_ BK541 hb
      replace BK542 := kb_ BK542 hb
      replace HB := hs_ HB hb
      (try clear hb)
      (try clear hk)
      (try clear ho0)
      refine hK.out _ _ ⟨(blk_cell BK541.out 0).trans rfl, (blk_cell BK541.out 1).trans rfl, (blk_cell BK541.out 2).trans rfl, (blk_cell BK542.out 0).trans rfl⟩ (fun hHeld => ?_)
      clear hK K
      refine norm_ (a' := ?_) ?_ ?_
      rotate_left
      ·show Act.put _ (some 25) _ = _
       simp only [Act.put, List.setIfInBounds_toArray, List.set_cons_zero, List.set_cons_succ, i64_w, i32_w]
       rfl
      refine two_ (i := 3) (j := 5) (Ni := some 27) (Nj := some 6) #[true, true, true, true, false, false, false] #[true, true, true, false, false, true, false] rfl rfl rfl rfl (by kernel_rfl) (by decide) (by decide) (fun K hK => ?_) (fun K hK => ?_)
      ·skip
       refine goes_ Try.func26 (by kernel_rfl) rfl #[.agg #[.slice A1_0 l1_0.length c1_0]] (by rfl) rfl rfl (by (try simp only [List.map_toArray, List.map_cons, List.map_nil]); first | done | rfl | (simp only [List.length_drop, List.length_take]; rfl)) ?_
       with_reducible refine (laws_toTable.calls k _ _ l1_0 t550 _ ?side1 ?side2 A20.out).mono ?_
       (case side1 => exact cb_ HR1_0.out HB.out)
       (case side2 => exact HC1_0.out)
       rintro e w45 ⟨v551, rfl, ho0, hb⟩
       refine ⟨_, rfl, ?_⟩
       have HO552 := Aside0.mk (Kd.R_lower (Kd.R_new' ho0 (rl_ HO549.out)) (bz_ HB.out))
       replace HO549 := re_ HO549 ho0 hb
       replace BK541 := kb_ BK541 hb
       replace BK542 := kb_ BK542 hb
       replace HB := hs_ HB hb
       (try clear hb)
       (try clear hk)
       (try clear ho0)
       obtain ⟨Ao46, co46, eo46⟩ := Kd.R_slice HO549.out
       (first | subst eo46 | (injection eo46 with f1_ f2_ f3_; have f4_ := f1_.symm; have f5_ := f3_.symm; clear f1_ f2_ f3_; subst f4_; subst f5_))
       obtain ⟨Ao47, co47, eo47⟩ := Kd.R_slice HO552.out
       (first | subst eo47 | (injection eo47 with f1_ f2_ f3_; have f4_ := f1_.symm; have f5_ := f3_.symm; clear f1_ f2_ f3_; subst f4_; subst f5_))
       refine hK.out _ _ ⟨(blk_cell BK541.out 0).trans rfl, (blk_cell BK541.out 1).trans rfl, (blk_cell BK541.out 2).trans rfl, (blk_cell BK542.out 0).trans rfl⟩ (fun hHeld => ?_)
       clear hK K
       refine norm_ (a' := ?_) ?_ ?_
       rotate_left
       ·show Act.put _ (some 27) _ = _
        simp only [Act.put, List.setIfInBounds_toArray, List.set_cons_zero, List.set_cons_succ, i64_w, i32_w]
        rfl
       refine two_ (i := 4) (j := 5) (Ni := some 28) (Nj := some 6) #[true, true, true, true, true, false, false] #[true, true, true, true, false, true, false] rfl rfl rfl rfl (by kernel_rfl) (by decide) (by decide) (fun K hK => ?_) (fun K hK => ?_)
       ·skip
        refine goes_ Try.func24 (by kernel_rfl) rfl #[.agg #[.int .i64 t545, .int .i64 t546, .slice Ao46 t547.length co46], .agg #[.slice Ao47 t550.length co47]] (by rfl) rfl rfl (by (try simp only [List.map_toArray, List.map_cons, List.map_nil]); first | done | rfl | (simp only [List.length_drop, List.length_take]; rfl)) ?_
        with_reducible refine (spec_CheckTable.calls k t545 t546 _ _ t547 _ _ t550 t553 t554 t557 _ ?side1 ?side2 ?side3 ?side4 A21.out).mono ?_
        (case side1 => exact rr_ HO549)
        (case side2 => exact (Kd.R_reads' HO549.out).2.1)
        (case side3 => exact rr_ HO552)
        (case side4 => exact (Kd.R_reads' HO552.out).2.1)
        rintro e w48 ⟨v555, v558, rfl, ho0, ho1, hb⟩
        refine ⟨_, rfl, ?_⟩
        have HO556 := Aside0.mk (Kd.R_lower (Kd.R_new' (Kd.R_new' ho0 (rl_ HO549.out)) (rl_ HO552.out)) (bz_ HB.out))
        have HO559 := Aside0.mk (Kd.R_lower (Kd.R_new' (Kd.R_new' ho1 (rl_ HO549.out)) (rl_ HO552.out)) (bz_ HB.out))
        replace HO549 := Aside0.mk (Kd.R_mono (Kd.R_told (Kd.R_told (Kd.R_old (ra_ HO549.out) hb) (Kd.R_base ho0)) (Kd.R_base ho1)) (fun _ h_ => h_.1))
        replace HO552 := Aside0.mk (Kd.R_mono (Kd.R_told (Kd.R_told (Kd.R_old (ra_ HO552.out) hb) (Kd.R_base ho0)) (Kd.R_base ho1)) (fun _ h_ => h_.1))
        replace BK541 := kb_ BK541 hb
        replace BK542 := kb_ BK542 hb
        replace HB := hs_ HB hb
        (try clear hb)
        (try clear hk)
        (try clear ho0)
        (try clear ho1)
        refine hK.out _ _ ⟨(blk_cell BK541.out 0).trans rfl, (blk_cell BK541.out 1).trans rfl, (blk_cell BK541.out 2).trans rfl, (blk_cell BK542.out 0).trans rfl⟩ (fun hHeld => ?_)
        clear hK K
        refine norm_ (a' := ?_) ?_ ?_
        rotate_left
        ·show Act.put _ (some 28) _ = _
         simp only [Act.put, List.setIfInBounds_toArray, List.set_cons_zero, List.set_cons_succ, i64_w, i32_w]
         rfl
        refine one_ (i := 5) (N := some 6) (bt_ 7 63) rfl rfl (by kernel_rfl) (by decide) (fun K hK => ?_)
        refine box_step ?hg (N := 6) ?hd (cs := #[.int .i64 0, .slice none 0 0, .slice none 0 0]) (t := 40) ?hr ?_; (case hd => rfl); (case hg => rfl); (case hr => first | (go_simp; done) | (go_simp; rfl))
        intro gb560 hg w49 hbox hb
        have n0_ := Aside0.mk (Kd.R_below (ra_ HO549.out) hb)
        have n1_ := Aside0.mk (Kd.R_below (ra_ HO552.out) hb)
        have n2_ := Aside0.mk (Kd.R_below (ra_ HO556.out) hb)
        have n3_ := Aside0.mk (Kd.R_below (ra_ HO559.out) hb)
        have n4_ := Aside0.mk (bk_ BK541.out hb)
        have n5_ := Aside0.mk (bk_ BK542.out hb)
        have n6_ := Aside0.mk (bs_ HB.out hb)
        have n7_ := Aside0.mk (hbox)
        have n8_ := Aside0.mk ((by rw [hg]; exact (bz_ HB.out) : w.heap.size ≤ gb560))
        have n9_ := Aside0.mk ((by rw [hg]; exact (bz_ HB.out) : w.heap.size ≤ gb560))
        have n10_ := Aside0.mk ((by rw [hg]; exact Nat.ne_of_lt (bl_ BK541.out) : gb541 ≠ gb560))
        have n11_ := Aside0.mk ((by rw [hg]; exact Nat.ne_of_gt (bl_ BK541.out) : gb560 ≠ gb541))
        have n12_ := Aside0.mk ((by rw [hg]; exact Nat.ne_of_lt (bl_ BK542.out) : gb542 ≠ gb560))
        have n13_ := Aside0.mk ((by rw [hg]; exact Nat.ne_of_gt (bl_ BK542.out) : gb560 ≠ gb542))
        clear HO549 HO552 HO556 HO559 BK541 BK542 HB
        have HO549 := n0_
        have HO552 := n1_
        have HO556 := n2_
        have HO559 := n3_
        have BK541 := n4_
        have BK542 := n5_
        have HB := n6_
        have BK560 := n7_
        have GW560 := n8_
        have GE560 := n9_
        have NB541_560 := n10_
        have NB560_541 := n11_
        have NB542_560 := n12_
        have NB560_542 := n13_
        clear n0_ n1_ n2_ n3_ n4_ n5_ n6_ n7_ n8_ n9_ n10_ n11_ n12_ n13_ hb hbox hg
        refine hK.out _ _ ⟨(blk_cell BK541.out 0).trans rfl, (blk_cell BK541.out 1).trans rfl, (blk_cell BK541.out 2).trans rfl, (blk_cell BK542.out 0).trans rfl⟩ (fun hHeld => ?_)
        clear hK K
        refine norm_ (a' := ?_) ?_ ?_
        rotate_left
        ·show Act.put _ (some 6) _ = _
         simp only [Act.put, List.setIfInBounds_toArray, List.set_cons_zero, List.set_cons_succ, i64_w, i32_w]
         rfl
        exact norm_ (by simp only [putAll, Act.put, List.setIfInBounds_toArray, List.set_cons_zero, List.set_cons_succ]) (hCont (.slice Ao46 t547.length co46, .slice Ao47 t550.length co47, v555, v558, gb560) _ ⟨hHeld, (by (with_reducible repeat (first | apply Kd.R_alloc | apply Kd.R_drewN | apply Kd.R_drew)); exact Kd.R_mono HO549.out (fun _ hk => ⟨hk.1.1.2, ⟨hk.1.2, hk.2⟩⟩)), (by (with_reducible repeat (first | apply Kd.R_alloc | apply Kd.R_drewN | apply Kd.R_drew)); exact Kd.R_mono HO552.out (fun _ hk => ⟨hk.1.1.2, ⟨hk.1.2, hk.2⟩⟩)), (by (with_reducible repeat (first | apply Kd.R_alloc | apply Kd.R_drewN | apply Kd.R_drew)); exact Kd.R_mono HO556.out (fun _ hk => ⟨hk.1.2, ⟨hk.2, hk.1.1⟩⟩)), (by (with_reducible repeat (first | apply Kd.R_alloc | apply Kd.R_drewN | apply Kd.R_drew)); exact Kd.R_mono HO559.out (fun _ hk => ⟨hk.1.2, ⟨hk.2, hk.1.1⟩⟩)), (by (with_reducible repeat (first | refine blk_drewN ?_ _ | refine blk_drew ?_ | refine blk_alloc ?_ _)); exact BK541.out), (by (with_reducible repeat (first | refine blk_drewN ?_ _ | refine blk_drew ?_ | refine blk_alloc ?_ _)); exact BK542.out), (by (with_reducible repeat (first | refine blk_drewN ?_ _ | refine blk_drew ?_ | refine blk_alloc ?_ _)); exact BK560.out), GW560.out, GE560.out, NB541_560.out, NB560_541.out, NB542_560.out, NB560_542.out, (by repeat (first | (with_reducible first | exact HB.out | apply below_alloc | apply pw_below_drewN | apply below_drew1 | refine below_set ?_ GW541.out | refine below_set ?_ GW542.out | refine below_set ?_ GE560.out) | exact HB.out))⟩)
       ·skip
        refine box_step ?hg (N := 6) ?hd (cs := #[.int .i64 0, .slice none 0 0, .slice none 0 0]) (t := 40) ?hr ?_; (case hd => rfl); (case hg => rfl); (case hr => first | (go_simp; done) | (go_simp; rfl))
        intro gb560 hg w46 hbox hb
        have n0_ := Aside0.mk (Kd.R_below (ra_ HO549.out) hb)
        have n1_ := Aside0.mk (Kd.R_below (ra_ HO552.out) hb)
        have n2_ := Aside0.mk (bk_ BK541.out hb)
        have n3_ := Aside0.mk (bk_ BK542.out hb)
        have n4_ := Aside0.mk (bs_ HB.out hb)
        have n5_ := Aside0.mk (hbox)
        have n6_ := Aside0.mk ((by rw [hg]; exact (bz_ HB.out) : w.heap.size ≤ gb560))
        have n7_ := Aside0.mk ((by rw [hg]; exact (bz_ HB.out) : w.heap.size ≤ gb560))
        have n8_ := Aside0.mk ((by rw [hg]; exact Nat.ne_of_lt (bl_ BK541.out) : gb541 ≠ gb560))
        have n9_ := Aside0.mk ((by rw [hg]; exact Nat.ne_of_gt (bl_ BK541.out) : gb560 ≠ gb541))
        have n10_ := Aside0.mk ((by rw [hg]; exact Nat.ne_of_lt (bl_ BK542.out) : gb542 ≠ gb560))
        have n11_ := Aside0.mk ((by rw [hg]; exact Nat.ne_of_gt (bl_ BK542.out) : gb560 ≠ gb542))
        clear HO549 HO552 BK541 BK542 HB
        have HO549 := n0_
        have HO552 := n1_
        have BK541 := n2_
        have BK542 := n3_
        have HB := n4_
        have BK560 := n5_
        have GW560 := n6_
        have GE560 := n7_
        have NB541_560 := n8_
        have NB560_541 := n9_
        have NB542_560 := n10_
        have NB560_542 := n11_
        clear n0_ n1_ n2_ n3_ n4_ n5_ n6_ n7_ n8_ n9_ n10_ n11_ hb hbox hg
        obtain ⟨Ao47, co47, eo47⟩ := Kd.R_slice HO549.out
        (first | subst eo47 | (injection eo47 with f1_ f2_ f3_; have f4_ := f1_.symm; have f5_ := f3_.symm; clear f1_ f2_ f3_; subst f4_; subst f5_))
        obtain ⟨Ao48, co48, eo48⟩ := Kd.R_slice HO552.out
        (first | subst eo48 | (injection eo48 with f1_ f2_ f3_; have f4_ := f1_.symm; have f5_ := f3_.symm; clear f1_ f2_ f3_; subst f4_; subst f5_))
        refine hK.out _ _ ⟨(blk_cell BK541.out 0).trans rfl, (blk_cell BK541.out 1).trans rfl, (blk_cell BK541.out 2).trans rfl, (blk_cell BK542.out 0).trans rfl⟩ (fun hHeld => ?_)
        clear hK K
        refine norm_ (a' := ?_) ?_ ?_
        rotate_left
        ·show Act.put _ (some 6) _ = _
         simp only [Act.put, List.setIfInBounds_toArray, List.set_cons_zero, List.set_cons_succ, i64_w, i32_w]
         rfl
        refine one_ (i := 4) (N := some 28) (bt_ 7 63) rfl rfl (by kernel_rfl) (by decide) (fun K hK => ?_)
        refine goes_ Try.func24 (by kernel_rfl) rfl #[.agg #[.int .i64 t545, .int .i64 t546, .slice Ao47 t547.length co47], .agg #[.slice Ao48 t550.length co48]] (by rfl) rfl rfl (by (try simp only [List.map_toArray, List.map_cons, List.map_nil]); first | done | rfl | (simp only [List.length_drop, List.length_take]; rfl)) ?_
        with_reducible refine (spec_CheckTable.calls k t545 t546 _ _ t547 _ _ t550 t553 t554 t557 _ ?side1 ?side2 ?side3 ?side4 A21.out).mono ?_
        (case side1 => exact rr_ HO549)
        (case side2 => exact (Kd.R_reads' HO549.out).2.1)
        (case side3 => exact rr_ HO552)
        (case side4 => exact (Kd.R_reads' HO552.out).2.1)
        rintro e w49 ⟨v555, v558, rfl, ho0, ho1, hb⟩
        refine ⟨_, rfl, ?_⟩
        have HO556 := Aside0.mk (Kd.R_lower (Kd.R_new' (Kd.R_new' ho0 (rl_ HO549.out)) (rl_ HO552.out)) (bz_ HB.out))
        have HO559 := Aside0.mk (Kd.R_lower (Kd.R_new' (Kd.R_new' ho1 (rl_ HO549.out)) (rl_ HO552.out)) (bz_ HB.out))
        replace HO549 := Aside0.mk (Kd.R_mono (Kd.R_told (Kd.R_told (Kd.R_old (ra_ HO549.out) hb) (Kd.R_base ho0)) (Kd.R_base ho1)) (fun _ h_ => h_.1))
        replace HO552 := Aside0.mk (Kd.R_mono (Kd.R_told (Kd.R_told (Kd.R_old (ra_ HO552.out) hb) (Kd.R_base ho0)) (Kd.R_base ho1)) (fun _ h_ => h_.1))
        replace BK541 := kb_ BK541 hb
        replace BK542 := kb_ BK542 hb
        replace BK560 := kb_ BK560 hb
        replace HB := hs_ HB hb
        (try clear hb)
        (try clear hk)
        (try clear ho0)
        (try clear ho1)
        refine hK.out _ _ ⟨(blk_cell BK541.out 0).trans rfl, (blk_cell BK541.out 1).trans rfl, (blk_cell BK541.out 2).trans rfl, (blk_cell BK542.out 0).trans rfl⟩ (fun hHeld => ?_)
        clear hK K
        refine norm_ (a' := ?_) ?_ ?_
        rotate_left
        ·show Act.put _ (some 28) _ = _
         simp only [Act.put, List.setIfInBounds_toArray, List.set_cons_zero, List.set_cons_succ, i64_w, i32_w]
         rfl
        exact norm_ (by simp only [putAll, Act.put, List.setIfInBounds_toArray, List.set_cons_zero, List.set_cons_succ]) (hCont (.slice Ao47 t547.length co47, .slice Ao48 t550.length co48, v555, v558, gb560) _ ⟨hHeld, (by (with_reducible repeat (first | apply Kd.R_alloc | apply Kd.R_drewN | apply Kd.R_drew)); exact Kd.R_mono HO549.out (fun _ hk => ⟨hk.1.1.2, ⟨hk.1.2, hk.2⟩⟩)), (by (with_reducible repeat (first | apply Kd.R_alloc | apply Kd.R_drewN | apply Kd.R_drew)); exact Kd.R_mono HO552.out (fun _ hk => ⟨hk.1.1.2, ⟨hk.1.2, hk.2⟩⟩)), (by (with_reducible repeat (first | apply Kd.R_alloc | apply Kd.R_drewN | apply Kd.R_drew)); exact Kd.R_mono HO556.out (fun _ hk => ⟨hk.1.2, ⟨hk.2, hk.1.1⟩⟩)), (by (with_reducible repeat (first | apply Kd.R_alloc | apply Kd.R_drewN | apply Kd.R_drew)); exact Kd.R_mono HO559.out (fun _ hk => ⟨hk.1.2, ⟨hk.2, hk.1.1⟩⟩)), (by (with_reducible repeat (first | refine blk_drewN ?_ _ | refine blk_drew ?_ | refine blk_alloc ?_ _)); exact BK541.out), (by (with_reducible repeat (first | refine blk_drewN ?_ _ | refine blk_drew ?_ | refine blk_alloc ?_ _)); exact BK542.out), (by (with_reducible repeat (first | refine blk_drewN ?_ _ | refine blk_drew ?_ | refine blk_alloc ?_ _)); exact BK560.out), GW560.out, GE560.out, NB541_560.out, NB560_541.out, NB542_560.out, NB560_542.out, (by repeat (first | (with_reducible first | exact HB.out | apply below_alloc | apply pw_below_drewN | apply below_drew1 | refine below_set ?_ GW541.out | refine below_set ?_ GW542.out | refine below_set ?_ GE560.out) | exact HB.out))⟩)
      ·skip
       refine box_step ?hg (N := 6) ?hd (cs := #[.int .i64 0, .slice none 0 0, .slice none 0 0]) (t := 40) ?hr ?_; (case hd => rfl); (case hg => rfl); (case hr => first | (go_simp; done) | (go_simp; rfl))
       intro gb560 hg w45 hbox hb
       have n0_ := Aside0.mk (Kd.R_below (ra_ HO549.out) hb)
       have n1_ := Aside0.mk (bk_ BK541.out hb)
       have n2_ := Aside0.mk (bk_ BK542.out hb)
       have n3_ := Aside0.mk (bs_ HB.out hb)
       have n4_ := Aside0.mk (hbox)
       have n5_ := Aside0.mk ((by rw [hg]; exact (bz_ HB.out) : w.heap.size ≤ gb560))
       have n6_ := Aside0.mk ((by rw [hg]; exact (bz_ HB.out) : w.heap.size ≤ gb560))
       have n7_ := Aside0.mk ((by rw [hg]; exact Nat.ne_of_lt (bl_ BK541.out) : gb541 ≠ gb560))
       have n8_ := Aside0.mk ((by rw [hg]; exact Nat.ne_of_gt (bl_ BK541.out) : gb560 ≠ gb541))
       have n9_ := Aside0.mk ((by rw [hg]; exact Nat.ne_of_lt (bl_ BK542.out) : gb542 ≠ gb560))
       have n10_ := Aside0.mk ((by rw [hg]; exact Nat.ne_of_gt (bl_ BK542.out) : gb560 ≠ gb542))
       clear HO549 BK541 BK542 HB
       have HO549 := n0_
       have BK541 := n1_
       have BK542 := n2_
       have HB := n3_
       have BK560 := n4_
       have GW560 := n5_
       have GE560 := n6_
       have NB541_560 := n7_
       have NB560_541 := n8_
       have NB542_560 := n9_
       have NB560_542 := n10_
       clear n0_ n1_ n2_ n3_ n4_ n5_ n6_ n7_ n8_ n9_ n10_ hb hbox hg
       refine hK.out _ _ ⟨(blk_cell BK541.out 0).trans rfl, (blk_cell BK541.out 1).trans rfl, (blk_cell BK541.out 2).trans rfl, (blk_cell BK542.out 0).trans rfl⟩ (fun hHeld => ?_)
       clear hK K
       refine norm_ (a' := ?_) ?_ ?_
       rotate_left
       ·show Act.put _ (some 6) _ = _
        simp only [Act.put, List.setIfInBounds_toArray, List.set_cons_zero, List.set_cons_succ, i64_w, i32_w]
        rfl
       refine one_ (i := 3) (N := some 27) (bt_ 7 47) rfl rfl (by kernel_rfl) (by decide) (fun K hK => ?_)
       refine goes_ Try.func26 (by kernel_rfl) rfl #[.agg #[.slice A1_0 l1_0.length c1_0]] (by rfl) rfl rfl (by (try simp only [List.map_toArray, List.map_cons, List.map_nil]); first | done | rfl | (simp only [List.length_drop, List.length_take]; rfl)) ?_
       with_reducible refine (laws_toTable.calls k _ _ l1_0 t550 _ ?side1 ?side2 A20.out).mono ?_
       (case side1 => exact cb_ HR1_0.out HB.out)
       (case side2 => exact HC1_0.out)
       rintro e w46 ⟨v551, rfl, ho0, hb⟩
       refine ⟨_, rfl, ?_⟩
       have HO552 := Aside0.mk (Kd.R_lower (Kd.R_new' ho0 (rl_ HO549.out)) (bz_ HB.out))
       replace HO549 := re_ HO549 ho0 hb
       replace BK541 := kb_ BK541 hb
       replace BK542 := kb_ BK542 hb
       replace BK560 := kb_ BK560 hb
       replace HB := hs_ HB hb
       (try clear hb)
       (try clear hk)
       (try clear ho0)
       obtain ⟨Ao47, co47, eo47⟩ := Kd.R_slice HO549.out
       (first | subst eo47 | (injection eo47 with f1_ f2_ f3_; have f4_ := f1_.symm; have f5_ := f3_.symm; clear f1_ f2_ f3_; subst f4_; subst f5_))
       obtain ⟨Ao48, co48, eo48⟩ := Kd.R_slice HO552.out
       (first | subst eo48 | (injection eo48 with f1_ f2_ f3_; have f4_ := f1_.symm; have f5_ := f3_.symm; clear f1_ f2_ f3_; subst f4_; subst f5_))
       refine hK.out _ _ ⟨(blk_cell BK541.out 0).trans rfl, (blk_cell BK541.out 1).trans rfl, (blk_cell BK541.out 2).trans rfl, (blk_cell BK542.out 0).trans rfl⟩ (fun hHeld => ?_)
       clear hK K
       refine norm_ (a' := ?_) ?_ ?_
       rotate_left
       ·show Act.put _ (some 27) _ = _
        simp only [Act.put, List.setIfInBounds_toArray, List.set_cons_zero, List.set_cons_succ, i64_w, i32_w]
        rfl
       refine one_ (i := 4) (N := some 28) (bt_ 7 63) rfl rfl (by kernel_rfl) (by decide) (fun K hK => ?_)
       refine goes_ Try.func24 (by kernel_rfl) rfl #[.agg #[.int .i64 t545, .int .i64 t546, .slice Ao47 t547.length co47], .agg #[.slice Ao48 t550.length co48]] (by rfl) rfl rfl (by (try simp only [List.map_toArray, List.map_cons, List.map_nil]); first | done | rfl | (simp only [List.length_drop, List.length_take]; rfl)) ?_
       with_reducible refine (spec_CheckTable.calls k t545 t546 _ _ t547 _ _ t550 t553 t554 t557 _ ?side1 ?side2 ?side3 ?side4 A21.out).mono ?_
       (case side1 => exact rr_ HO549)
       (case side2 => exact (Kd.R_reads' HO549.out).2.1)
       (case side3 => exact rr_ HO552)
       (case side4 => exact (Kd.R_reads' HO552.out).2.1)
       rintro e w49 ⟨v555, v558, rfl, ho0, ho1, hb⟩
       refine ⟨_, rfl, ?_⟩
       have HO556 := Aside0.mk (Kd.R_lower (Kd.R_new' (Kd.R_new' ho0 (rl_ HO549.out)) (rl_ HO552.out)) (bz_ HB.out))
       have HO559 := Aside0.mk (Kd.R_lower (Kd.R_new' (Kd.R_new' ho1 (rl_ HO549.out)) (rl_ HO552.out)) (bz_ HB.out))
       replace HO549 := Aside0.mk (Kd.R_mono (Kd.R_told (Kd.R_told (Kd.R_old (ra_ HO549.out) hb) (Kd.R_base ho0)) (Kd.R_base ho1)) (fun _ h_ => h_.1))
       replace HO552 := Aside0.mk (Kd.R_mono (Kd.R_told (Kd.R_told (Kd.R_old (ra_ HO552.out) hb) (Kd.R_base ho0)) (Kd.R_base ho1)) (fun _ h_ => h_.1))
       replace BK541 := kb_ BK541 hb
       replace BK542 := kb_ BK542 hb
       replace BK560 := kb_ BK560 hb
       replace HB := hs_ HB hb
       (try clear hb)
       (try clear hk)
       (try clear ho0)
       (try clear ho1)
       refine hK.out _ _ ⟨(blk_cell BK541.out 0).trans rfl, (blk_cell BK541.out 1).trans rfl, (blk_cell BK541.out 2).trans rfl, (blk_cell BK542.out 0).trans rfl⟩ (fun hHeld => ?_)
       clear hK K
       refine norm_ (a' := ?_) ?_ ?_
       rotate_left
       ·show Act.put _ (some 28) _ = _
        simp only [Act.put, List.setIfInBounds_toArray, List.set_cons_zero, List.set_cons_succ, i64_w, i32_w]
        rfl
       exact norm_ (by simp only [putAll, Act.put, List.setIfInBounds_toArray, List.set_cons_zero, List.set_cons_succ]) (hCont (.slice Ao47 t547.length co47, .slice Ao48 t550.length co48, v555, v558, gb560) _ ⟨hHeld, (by (with_reducible repeat (first | apply Kd.R_alloc | apply Kd.R_drewN | apply Kd.R_drew)); exact Kd.R_mono HO549.out (fun _ hk => ⟨hk.1.1.2, ⟨hk.1.2, hk.2⟩⟩)), (by (with_reducible repeat (first | apply Kd.R_alloc | apply Kd.R_drewN | apply Kd.R_drew)); exact Kd.R_mono HO552.out (fun _ hk => ⟨hk.1.1.2, ⟨hk.1.2, hk.2⟩⟩)), (by (with_reducible repeat (first | apply Kd.R_alloc | apply Kd.R_drewN | apply Kd.R_drew)); exact Kd.R_mono HO556.out (fun _ hk => ⟨hk.1.2, ⟨hk.2, hk.1.1⟩⟩)), (by (with_reducible repeat (first | apply Kd.R_alloc | apply Kd.R_drewN | apply Kd.R_drew)); exact Kd.R_mono HO559.out (fun _ hk => ⟨hk.1.2, ⟨hk.2, hk.1.1⟩⟩)), (by (with_reducible repeat (first | refine blk_drewN ?_ _ | refine blk_drew ?_ | refine blk_alloc ?_ _)); exact BK541.out), (by (with_reducible repeat (first | refine blk_drewN ?_ _ | refine blk_drew ?_ | refine blk_alloc ?_ _)); exact BK542.out), (by (with_reducible repeat (first | refine blk_drewN ?_ _ | refine blk_drew ?_ | refine blk_alloc ?_ _)); exact BK560.out), GW560.out, GE560.out, NB541_560.out, NB560_541.out, NB542_560.out, NB560_542.out, (by repeat (first | (with_reducible first | exact HB.out | apply below_alloc | apply pw_below_drewN | apply below_drew1 | refine below_set ?_ GW541.out | refine below_set ?_ GW542.out | refine below_set ?_ GE560.out) | exact HB.out))⟩)
     ·skip
      refine box_step ?hg (N := 6) ?hd (cs := #[.int .i64 0, .slice none 0 0, .slice none 0 0]) (t := 40) ?hr ?_; (case hd => rfl); (case hg => rfl); (case hr => first | (go_simp; done) | (go_simp; rfl))
      intro gb560 hg w44 hbox hb
      have n0_ := Aside0.mk (bk_ BK541.out hb)
      have n1_ := Aside0.mk (bk_ BK542.out hb)
      have n2_ := Aside0.mk (bs_ HB.out hb)
      have n3_ := Aside0.mk (hbox)
      have n4_ := Aside0.mk ((by rw [hg]; exact (bz_ HB.out) : w.heap.size ≤ gb560))
      have n5_ := Aside0.mk ((by rw [hg]; exact (bz_ HB.out) : w.heap.size ≤ gb560))
      have n6_ := Aside0.mk ((by rw [hg]; exact Nat.ne_of_lt (bl_ BK541.out) : gb541 ≠ gb560))
      have n7_ := Aside0.mk ((by rw [hg]; exact Nat.ne_of_gt (bl_ BK541.out) : gb560 ≠ gb541))
      have n8_ := Aside0.mk ((by rw [hg]; exact Nat.ne_of_lt (bl_ BK542.out) : gb542 ≠ gb560))
      have n9_ := Aside0.mk ((by rw [hg]; exact Nat.ne_of_gt (bl_ BK542.out) : gb560 ≠ gb542))
      clear BK541 BK542 HB
      have BK541 := n0_
      have BK542 := n1_
      have HB := n2_
      have BK560 := n3_
      have GW560 := n4_
      have GE560 := n5_
      have NB541_560 := n6_
      have NB560_541 := n7_
      have NB542_560 := n8_
      have NB560_542 := n9_
      clear n0_ n1_ n2_ n3_ n4_ n5_ n6_ n7_ n8_ n9_ hb hbox hg
      refine hK.out _ _ ⟨(blk_cell BK541.out 0).trans rfl, (blk_cell BK541.out 1).trans rfl, (blk_cell BK541.out 2).trans rfl, (blk_cell BK542.out 0).trans rfl⟩ (fun hHeld => ?_)
      clear hK K
      refine norm_ (a' := ?_) ?_ ?_
      rotate_left
      ·show Act.put _ (some 6) _ = _
       simp only [Act.put, List.setIfInBounds_toArray, List.set_cons_zero, List.set_cons_succ, i64_w, i32_w]
       rfl
      refine one_ (i := 1) (N := some 25) (bt_ 7 39) rfl rfl (by kernel_rfl) (by decide) (fun K hK => ?_)
      refine goes_ Try.func25 (by kernel_rfl) rfl #[.agg #[.int .i64 a0_0, .int .i64 a0_1, .slice A0_2 l0_2.length c0_2]] (by rfl) rfl rfl (by (try simp only [List.map_toArray, List.map_cons, List.map_nil]); first | done | rfl | (simp only [List.length_drop, List.length_take]; rfl)) ?_
      with_reducible refine (laws_toMesh.calls k a0_0 a0_1 _ _ l0_2 t545 t546 t547 _ ?side1 ?side2 A19.out).mono ?_
      (case side1 => exact cb_ HR0_2.out HB.out)
      (case side2 => exact HC0_2.out)
      rintro e w45 ⟨v548, rfl, ho0, hb⟩
      refine ⟨_, rfl, ?_⟩
      have HO549 := Aside0.mk (Kd.R_lower ho0 (bz_ HB.out))
      replace BK541 := kb_ BK541 hb
      replace BK542 := kb_ BK542 hb
      replace BK560 := kb_ BK560 hb
      replace HB := hs_ HB hb
      (try clear hb)
      (try clear hk)
      (try clear ho0)
      refine hK.out _ _ ⟨(blk_cell BK541.out 0).trans rfl, (blk_cell BK541.out 1).trans rfl, (blk_cell BK541.out 2).trans rfl, (blk_cell BK542.out 0).trans rfl⟩ (fun hHeld => ?_)
      clear hK K
      refine norm_ (a' := ?_) ?_ ?_
      rotate_left
      ·show Act.put _ (some 25) _ = _
       simp only [Act.put, List.setIfInBounds_toArray, List.set_cons_zero, List.set_cons_succ, i64_w, i32_w]
       rfl
      refine one_ (i := 3) (N := some 27) (bt_ 7 47) rfl rfl (by kernel_rfl) (by decide) (fun K hK => ?_)
      refine goes_ Try.func26 (by kernel_rfl) rfl #[.agg #[.slice A1_0 l1_0.length c1_0]] (by rfl) rfl rfl (by (try simp only [List.map_toArray, List.map_cons, List.map_nil]); first | done | rfl | (simp only [List.length_drop, List.length_take]; rfl)) ?_
      with_reducible refine (laws_toTable.calls k _ _ l1_0 t550 _ ?side1 ?side2 A20.out).mono ?_
      (case side1 => exact cb_ HR1_0.out HB.out)
      (case side2 => exact HC1_0.out)
      rintro e w46 ⟨v551, rfl, ho0, hb⟩
      refine ⟨_, rfl, ?_⟩
      have HO552 := Aside0.mk (Kd.R_lower (Kd.R_new' ho0 (rl_ HO549.out)) (bz_ HB.out))
      replace HO549 := re_ HO549 ho0 hb
      replace BK541 := kb_ BK541 hb
      replace BK542 := kb_ BK542 hb
      replace BK560 := kb_ BK560 hb
      replace HB := hs_ HB hb
      (try clear hb)
      (try clear hk)
      (try clear ho0)
      obtain ⟨Ao47, co47, eo47⟩ := Kd.R_slice HO549.out
      (first | subst eo47 | (injection eo47 with f1_ f2_ f3_; have f4_ := f1_.symm; have f5_ := f3_.symm; clear f1_ f2_ f3_; subst f4_; subst f5_))
      obtain ⟨Ao48, co48, eo48⟩ := Kd.R_slice HO552.out
      (first | subst eo48 | (injection eo48 with f1_ f2_ f3_; have f4_ := f1_.symm; have f5_ := f3_.symm; clear f1_ f2_ f3_; subst f4_; subst f5_))
      refine hK.out _ _ ⟨(blk_cell BK541.out 0).trans rfl, (blk_cell BK541.out 1).trans rfl, (blk_cell BK541.out 2).trans rfl, (blk_cell BK542.out 0).trans rfl⟩ (fun hHeld => ?_)
      clear hK K
      refine norm_ (a' := ?_) ?_ ?_
      rotate_left
      ·show Act.put _ (some 27) _ = _
       simp only [Act.put, List.setIfInBounds_toArray, List.set_cons_zero, List.set_cons_succ, i64_w, i32_w]
       rfl
      refine one_ (i := 4) (N := some 28) (bt_ 7 63) rfl rfl (by kernel_rfl) (by decide) (fun K hK => ?_)
      refine goes_ Try.func24 (by kernel_rfl) rfl #[.agg #[.int .i64 t545, .int .i64 t546, .slice Ao47 t547.length co47], .agg #[.slice Ao48 t550.length co48]] (by rfl) rfl rfl (by (try simp only [List.map_toArray, List.map_cons, List.map_nil]); first | done | rfl | (simp only [List.length_drop, List.length_take]; rfl)) ?_
      with_reducible refine (spec_CheckTable.calls k t545 t546 _ _ t547 _ _ t550 t553 t554 t557 _ ?side1 ?side2 ?side3 ?side4 A21.out).mono ?_
      (case side1 => exact rr_ HO549)
      (case side2 => exact (Kd.R_reads' HO549.out).2.1)
      (case side3 => exact rr_ HO552)
      (case side4 => exact (Kd.R_reads' HO552.out).2.1)
      rintro e w49 ⟨v555, v558, rfl, ho0, ho1, hb⟩
      refine ⟨_, rfl, ?_⟩
      have HO556 := Aside0.mk (Kd.R_lower (Kd.R_new' (Kd.R_new' ho0 (rl_ HO549.out)) (rl_ HO552.out)) (bz_ HB.out))
      have HO559 := Aside0.mk (Kd.R_lower (Kd.R_new' (Kd.R_new' ho1 (rl_ HO549.out)) (rl_ HO552.out)) (bz_ HB.out))
      replace HO549 := Aside0.mk (Kd.R_mono (Kd.R_told (Kd.R_told (Kd.R_old (ra_ HO549.out) hb) (Kd.R_base ho0)) (Kd.R_base ho1)) (fun _ h_ => h_.1))
      replace HO552 := Aside0.mk (Kd.R_mono (Kd.R_told (Kd.R_told (Kd.R_old (ra_ HO552.out) hb) (Kd.R_base ho0)) (Kd.R_base ho1)) (fun _ h_ => h_.1))
      replace BK541 := kb_ BK541 hb
      replace BK542 := kb_ BK542 hb
      replace BK560 := kb_ BK560 hb
      replace HB := hs_ HB hb
      (try clear hb)
      (try clear hk)
      (try clear ho0)
      (try clear ho1)
      refine hK.out _ _ ⟨(blk_cell BK541.out 0).trans rfl, (blk_cell BK541.out 1).trans rfl, (blk_cell BK541.out 2).trans rfl, (blk_cell BK542.out 0).trans rfl⟩ (fun hHeld => ?_)
      clear hK K
      refine norm_ (a' := ?_) ?_ ?_
      rotate_left
      ·show Act.put _ (some 28) _ = _
       simp only [Act.put, List.setIfInBounds_toArray, List.set_cons_zero, List.set_cons_succ, i64_w, i32_w]
       rfl
      exact norm_ (by simp only [putAll, Act.put, List.setIfInBounds_toArray, List.set_cons_zero, List.set_cons_succ]) (hCont (.slice Ao47 t547.length co47, .slice Ao48 t550.length co48, v555, v558, gb560) _ ⟨hHeld, (by (with_reducible repeat (first | apply Kd.R_alloc | apply Kd.R_drewN | apply Kd.R_drew)); exact Kd.R_mono HO549.out (fun _ hk => ⟨hk.1.1.2, ⟨hk.1.2, hk.2⟩⟩)), (by (with_reducible repeat (first | apply Kd.R_alloc | apply Kd.R_drewN | apply Kd.R_drew)); exact Kd.R_mono HO552.out (fun _ hk => ⟨hk.1.1.2, ⟨hk.1.2, hk.2⟩⟩)), (by (with_reducible repeat (first | apply Kd.R_alloc | apply Kd.R_drewN | apply Kd.R_drew)); exact Kd.R_mono HO556.out (fun _ hk => ⟨hk.1.2, ⟨hk.2, hk.1.1⟩⟩)), (by (with_reducible repeat (first | apply Kd.R_alloc | apply Kd.R_drewN | apply Kd.R_drew)); exact Kd.R_mono HO559.out (fun _ hk => ⟨hk.1.2, ⟨hk.2, hk.1.1⟩⟩)), (by (with_reducible repeat (first | refine blk_drewN ?_ _ | refine blk_drew ?_ | refine blk_alloc ?_ _)); exact BK541.out), (by (with_reducible repeat (first | refine blk_drewN ?_ _ | refine blk_drew ?_ | refine blk_alloc ?_ _)); exact BK542.out), (by (with_reducible repeat (first | refine blk_drewN ?_ _ | refine blk_drew ?_ | refine blk_alloc ?_ _)); exact BK560.out), GW560.out, GE560.out, NB541_560.out, NB560_541.out, NB542_560.out, NB560_542.out, (by repeat (first | (with_reducible first | exact HB.out | apply below_alloc | apply pw_below_drewN | apply below_drew1 | refine below_set ?_ GW541.out | refine below_set ?_ GW542.out | refine below_set ?_ GE560.out) | exact HB.out))⟩)
    rintro ⟨v548, v551, v555, v558, gb560⟩ w50 ⟨hS_, h0_, h1_, h2_, h3_, h4_, h5_, h6_, h7_, h8_, h9_, h10_, h11_, h12_, h13_⟩
    have HO549 : Aside0 (Kd.R (Kd.int .i64) 3 w50 w.heap.size (fun k_ => some k_ ≠ (v551 : Value).ownBlock ∧ some k_ ≠ (v555 : Value).ownBlock ∧ some k_ ≠ (v558 : Value).ownBlock) v548 t547) := ⟨h0_⟩
    have HO552 : Aside0 (Kd.R (Kd.int .i64) 3 w50 w.heap.size (fun k_ => some k_ ≠ (v548 : Value).ownBlock ∧ some k_ ≠ (v555 : Value).ownBlock ∧ some k_ ≠ (v558 : Value).ownBlock) v551 t550) := ⟨h1_⟩
    have HO556 : Aside0 (Kd.R (Kd.int .i64) 3 w50 w.heap.size (fun k_ => some k_ ≠ (v548 : Value).ownBlock ∧ some k_ ≠ (v551 : Value).ownBlock ∧ some k_ ≠ (v558 : Value).ownBlock) v555 t554) := ⟨h2_⟩
    have HO559 : Aside0 (Kd.R (Kd.int .i64) 3 w50 w.heap.size (fun k_ => some k_ ≠ (v548 : Value).ownBlock ∧ some k_ ≠ (v551 : Value).ownBlock ∧ some k_ ≠ (v555 : Value).ownBlock) v558 t557) := ⟨h3_⟩
    replace BK541 : Aside0 (w50.heap[gb541]? = some (.cells #[.int .i64 a0_0, .int .i64 a0_1, .slice A0_2 l0_2.length c0_2] 34 (0, 0))) := ⟨h4_⟩
    replace BK542 : Aside0 (w50.heap[gb542]? = some (.cells #[.slice A1_0 l1_0.length c1_0] 36 (0, 0))) := ⟨h5_⟩
    have BK560 : Aside0 (w50.heap[gb560]? = some (.cells #[.int .i64 0, .slice none 0 0, .slice none 0 0] 40 (0, 0))) := ⟨h6_⟩
    have GW560 : Aside0 (w.heap.size ≤ gb560) := ⟨h7_⟩
    have GE560 : Aside0 (w.heap.size ≤ gb560) := ⟨h8_⟩
    have NB541_560 : Aside0 (gb541 ≠ gb560) := ⟨h9_⟩
    have NB560_541 : Aside0 (gb560 ≠ gb541) := ⟨h10_⟩
    have NB542_560 : Aside0 (gb542 ≠ gb560) := ⟨h11_⟩
    have NB560_542 : Aside0 (gb560 ≠ gb542) := ⟨h12_⟩
    replace HB : Aside0 (Below w.heap.size w w50) := ⟨h13_⟩
    clear h0_ h1_ h2_ h3_ h4_ h5_ h6_ h7_ h8_ h9_ h10_ h11_ h12_ h13_
    have hHeld : w50.cell? ⟨gb541, 0, none⟩ = some (.int .i64 a0_0) ∧ w50.cell? ⟨gb541, 1, none⟩ = some (.int .i64 a0_1) ∧ w50.cell? ⟨gb541, 2, none⟩ = some (.slice A0_2 l0_2.length c0_2) ∧ w50.cell? ⟨gb542, 0, none⟩ = some (.slice A1_0 l1_0.length c1_0) := hS_
    obtain ⟨Ao52, co52, eo52⟩ := Kd.R_slice HO556.out
    (first | subst eo52 | (injection eo52 with f1_ f2_ f3_; have f4_ := f1_.symm; have f5_ := f3_.symm; clear f1_ f2_ f3_; subst f4_; subst f5_))
    obtain ⟨Ao54, co54, eo54⟩ := Kd.R_slice HO559.out
    (first | subst eo54 | (injection eo54 with f1_ f2_ f3_; have f4_ := f1_.symm; have f5_ := f3_.symm; clear f1_ f2_ f3_; subst f4_; subst f5_))
    refine norm_ (a' := ?_) ?_ ?_
    rotate_left
    ·simp only [putAll, Act.put, List.setIfInBounds_toArray, List.set_cons_zero, List.set_cons_succ]
     rfl
    refine one_ (i := 6) (N := none) (bt_ 7 127) rfl rfl (by kernel_rfl) (by decide) (fun K hK => ?_)
    have hs51 : w50.cell? ⟨gb560, 0, none⟩ = some (.int .i64 0) := (blk_cell BK560.out 0).trans rfl
    have hfs51 := blk_frozen BK560.out 0
    have hns51_0 := NB541_560.out
    have hns51_1 := NB542_560.out
    have hms51_0 := NB560_541.out
    have hms51_1 := NB560_542.out
    have hs53 : w50.cell? ⟨gb560, 1, none⟩ = some (.slice none 0 0) := (blk_cell BK560.out 1).trans rfl
    have hfs53 := blk_frozen BK560.out 1
    have hns53_0 := NB541_560.out
    have hns53_1 := NB542_560.out
    have hms53_0 := NB560_541.out
    have hms53_1 := NB560_542.out
    have hs55 : w50.cell? ⟨gb560, 2, none⟩ = some (.slice none 0 0) := (blk_cell BK560.out 2).trans rfl
    have hfs55 := blk_frozen BK560.out 2
    have hns55_0 := NB541_560.out
    have hns55_1 := NB542_560.out
    have hms55_0 := NB560_541.out
    have hms55_1 := NB560_542.out
    refine skip_ (w1 := ?_) (by rfl) rfl ?_ ?_
    rotate_left
    ·go_simp
     rfl
    refine hK.out _ _ ⟨((cell_far (p := ⟨gb560, _, none⟩) NB541_560.out _).trans (((cell_far (p := ⟨gb560, _, none⟩) NB541_560.out _).trans (((cell_far (p := ⟨gb560, _, none⟩) NB541_560.out _).trans (hHeld.1)))))), ((cell_far (p := ⟨gb560, _, none⟩) NB541_560.out _).trans (((cell_far (p := ⟨gb560, _, none⟩) NB541_560.out _).trans (((cell_far (p := ⟨gb560, _, none⟩) NB541_560.out _).trans (hHeld.2.1)))))), ((cell_far (p := ⟨gb560, _, none⟩) NB541_560.out _).trans (((cell_far (p := ⟨gb560, _, none⟩) NB541_560.out _).trans (((cell_far (p := ⟨gb560, _, none⟩) NB541_560.out _).trans (hHeld.2.2.1)))))), ((cell_far (p := ⟨gb560, _, none⟩) NB542_560.out _).trans (((cell_far (p := ⟨gb560, _, none⟩) NB542_560.out _).trans (((cell_far (p := ⟨gb560, _, none⟩) NB542_560.out _).trans (hHeld.2.2.2))))))⟩ (fun hHeld => ?_)
    clear hK K
    refine done_ (by kernel_rfl) ?_
    have hnb56 := NB541_560.out
    have hnc56 := NB560_541.out
    obtain ⟨hcz57_0, hcz57_1, hcz57_2, hfz57_0, hfz57_1, hfz57_2⟩ := cz3_ BK541.out
    try go_wp2_with (first | (go_at_call 25; (with_reducible refine (laws_toMesh.calls k a0_0 a0_1 _ _ l0_2 t561 t562 t563 _ ?side1 HC0_2.out A22.out).mono ?_); (case side1 => exact Kd.C_below HR0_2.out (by repeat (first | (with_reducible first | exact HB.out | apply below_alloc | apply pw_below_drewN | apply below_drew1 | refine below_set ?_ GW541.out | refine below_set ?_ GW542.out | refine below_set ?_ GE560.out) | exact HB.out))); rintro e w58 ⟨v564, rfl, ho0, hb⟩; have HO565 := Aside0.mk (Kd.R_lower (Kd.R_new' (Kd.R_new' (Kd.R_new' (Kd.R_new' ho0 (Kd.R_lt (rm_ (Kd.R_types HO549.out BK560.out (by decide)) (fun _ h_ => h_.1)))) (Kd.R_lt (rm_ (Kd.R_types HO552.out BK560.out (by decide)) (fun _ h_ => h_.1)))) (Kd.R_lt (rm_ (Kd.R_types HO556.out BK560.out (by decide)) (fun _ h_ => h_.1)))) (Kd.R_lt (rm_ (Kd.R_types HO559.out BK560.out (by decide)) (fun _ h_ => h_.1)))) (bz_ HB.out)); replace HO549 := Aside0.mk (Kd.R_elder' (rm_ (Kd.R_types HO549.out BK560.out (by decide)) (fun _ h_ => h_.1)) (Kd.R_base ho0) hb); replace HO552 := Aside0.mk (Kd.R_elder' (rm_ (Kd.R_types HO552.out BK560.out (by decide)) (fun _ h_ => h_.1)) (Kd.R_base ho0) hb); replace HO556 := Aside0.mk (Kd.R_elder' (rm_ (Kd.R_types HO556.out BK560.out (by decide)) (fun _ h_ => h_.1)) (Kd.R_base ho0) hb); replace HO559 := Aside0.mk (Kd.R_elder' (rm_ (Kd.R_types HO559.out BK560.out (by decide)) (fun _ h_ => h_.1)) (Kd.R_base ho0) hb); replace BK541 := Aside0.mk (blk_below (bf_ BK541.out) hb); replace BK542 := Aside0.mk (blk_below (bf_ BK542.out) hb); replace BK560 := Aside0.mk (blk_below (g := gb560) (o := .cells #[.int .i64 t553, .slice Ao52 t554.length co52, .slice Ao54 t557.length co54] 40 (0, 0)) (by (with_reducible repeat (first | refine blk_drewN ?_ _ | refine blk_drew ?_ | refine blk_alloc ?_ _)); refine blk_put (cs := #[.int .i64 t553, .slice Ao52 t554.length co52, .slice none 0 0]) ?_ 2 _ rfl; (with_reducible repeat (first | refine blk_drewN ?_ _ | refine blk_drew ?_ | refine blk_alloc ?_ _)); refine blk_put (cs := #[.int .i64 t553, .slice none 0 0, .slice none 0 0]) ?_ 1 _ rfl; (with_reducible repeat (first | refine blk_drewN ?_ _ | refine blk_drew ?_ | refine blk_alloc ?_ _)); refine blk_put (cs := #[.int .i64 0, .slice none 0 0, .slice none 0 0]) ?_ 0 _ rfl; (with_reducible repeat (first | refine blk_drewN ?_ _ | refine blk_drew ?_ | refine blk_alloc ?_ _)); exact BK560.out) hb); replace HB := hs_ HB hb; (try clear hb); (try clear ho0)) | ((with_reducible refine gate_dst (N := 7) rfl ?_); refine box_event ?hg (N := 7) ?hd (cs := #[.int .i64 0, .int .i64 0, .slice none 0 0]) (t := 44) ?hr ?_; (case hd => rfl); (case hg => rfl); (case hr => first | (go_simp; done) | (go_simp; rfl)); intro gb566 hg w59 hbox hb; replace HO549 := rb_ HO549 hb; replace HO552 := rb_ HO552 hb; replace HO556 := rb_ HO556 hb; replace HO559 := rb_ HO559 hb; replace HO565 := rb_ HO565 hb; have BK566 := Aside0.mk (hbox); have GW566 := gw_ hg HB; replace HB := hs_ HB hb; have NB541_566 := nl_ hg BK541; have NB566_541 := ng_ hg BK541; replace BK541 := kb_ BK541 hb; have NB542_566 := nl_ hg BK542; have NB566_542 := ng_ hg BK542; replace BK542 := kb_ BK542 hb; have NB560_566 := nl_ hg BK560; have NB566_560 := ng_ hg BK560; replace BK560 := kb_ BK560 hb; clear hb hbox hg; have hnb60 := NB566_541.out; have hnc60 := NB541_566.out; have hnb61 := NB566_542.out; have hnc61 := NB542_566.out; have hnb62 := NB566_560.out; have hnc62 := NB560_566.out; obtain ⟨hcz63_0, hcz63_1, hcz63_2, hfz63_0, hfz63_1, hfz63_2⟩ := cz3_ BK566.out; obtain ⟨Ao64, co64, eo64⟩ := Kd.R_slice HO565.out; subst eo64; have hnb65 := NB542_560.out; have hnc65 := NB560_542.out; obtain ⟨hcz66_0, hfz66_0⟩ := cz1_ BK542.out) | (go_at_call 26; (with_reducible refine (laws_toTable.calls k _ _ l1_0 t567 _ ?side1 HC1_0.out A23.out).mono ?_); (case side1 => exact Kd.C_below HR1_0.out (by repeat (first | (with_reducible first | exact HB.out | apply below_alloc | apply pw_below_drewN | apply below_drew1 | refine below_set ?_ GW541.out | refine below_set ?_ GW542.out | refine below_set ?_ GE560.out | refine below_set ?_ GW566.out) | exact HB.out))); rintro e w67 ⟨v568, rfl, ho0, hb⟩; have HO569 := Aside0.mk (Kd.R_lower (Kd.R_new' (Kd.R_new' (Kd.R_new' (Kd.R_new' (Kd.R_new' ho0 (Kd.R_lt (rm_ (Kd.R_types HO549.out BK566.out (by decide)) (fun _ h_ => h_.1)))) (Kd.R_lt (rm_ (Kd.R_types HO552.out BK566.out (by decide)) (fun _ h_ => h_.1)))) (Kd.R_lt (rm_ (Kd.R_types HO556.out BK566.out (by decide)) (fun _ h_ => h_.1)))) (Kd.R_lt (rm_ (Kd.R_types HO559.out BK566.out (by decide)) (fun _ h_ => h_.1)))) (Kd.R_lt (rm_ (Kd.R_types HO565.out BK566.out (by decide)) (fun _ h_ => h_.1)))) (bz_ HB.out)); replace HO549 := Aside0.mk (Kd.R_elder' (rm_ (Kd.R_types HO549.out BK566.out (by decide)) (fun _ h_ => h_.1)) (Kd.R_base ho0) hb); replace HO552 := Aside0.mk (Kd.R_elder' (rm_ (Kd.R_types HO552.out BK566.out (by decide)) (fun _ h_ => h_.1)) (Kd.R_base ho0) hb); replace HO556 := Aside0.mk (Kd.R_elder' (rm_ (Kd.R_types HO556.out BK566.out (by decide)) (fun _ h_ => h_.1)) (Kd.R_base ho0) hb); replace HO559 := Aside0.mk (Kd.R_elder' (rm_ (Kd.R_types HO559.out BK566.out (by decide)) (fun _ h_ => h_.1)) (Kd.R_base ho0) hb); replace HO565 := Aside0.mk (Kd.R_elder' (rm_ (Kd.R_types HO565.out BK566.out (by decide)) (fun _ h_ => h_.1)) (Kd.R_base ho0) hb); replace BK541 := Aside0.mk (blk_below (bf_ BK541.out) hb); replace BK542 := Aside0.mk (blk_below (bf_ BK542.out) hb); replace BK560 := Aside0.mk (blk_below (bf_ BK560.out) hb); replace BK566 := Aside0.mk (blk_below (g := gb566) (o := .cells #[.int .i64 t561, .int .i64 t562, .slice Ao64 t563.length co64] 44 (0, 0)) (by (with_reducible repeat (first | refine blk_drewN ?_ _ | refine blk_drew ?_ | refine blk_alloc ?_ _)); refine blk_put (cs := #[.int .i64 t561, .int .i64 t562, .slice none 0 0]) ?_ 2 _ rfl; (with_reducible repeat (first | refine blk_drewN ?_ _ | refine blk_drew ?_ | refine blk_alloc ?_ _)); refine blk_put (cs := #[.int .i64 t561, .int .i64 0, .slice none 0 0]) ?_ 1 _ rfl; (with_reducible repeat (first | refine blk_drewN ?_ _ | refine blk_drew ?_ | refine blk_alloc ?_ _)); refine blk_put (cs := #[.int .i64 0, .int .i64 0, .slice none 0 0]) ?_ 0 _ rfl; (with_reducible repeat (first | refine blk_drewN ?_ _ | refine blk_drew ?_ | refine blk_alloc ?_ _)); exact BK566.out) hb); replace HB := hs_ HB hb; (try clear hb); (try clear ho0)) | ((with_reducible refine gate_dst (N := 8) rfl ?_); refine box_event ?hg (N := 8) ?hd (cs := #[.slice none 0 0]) (t := 46) ?hr ?_; (case hd => rfl); (case hg => rfl); (case hr => first | (go_simp; done) | (go_simp; rfl)); intro gb570 hg w68 hbox hb; replace HO549 := rb_ HO549 hb; replace HO552 := rb_ HO552 hb; replace HO556 := rb_ HO556 hb; replace HO559 := rb_ HO559 hb; replace HO565 := rb_ HO565 hb; replace HO569 := rb_ HO569 hb; have BK570 := Aside0.mk (hbox); have GW570 := gw_ hg HB; replace HB := hs_ HB hb; have NB541_570 := nl_ hg BK541; have NB570_541 := ng_ hg BK541; replace BK541 := kb_ BK541 hb; have NB542_570 := nl_ hg BK542; have NB570_542 := ng_ hg BK542; replace BK542 := kb_ BK542 hb; have NB560_570 := nl_ hg BK560; have NB570_560 := ng_ hg BK560; replace BK560 := kb_ BK560 hb; have NB566_570 := nl_ hg BK566; have NB570_566 := ng_ hg BK566; replace BK566 := kb_ BK566 hb; clear hb hbox hg; obtain ⟨Ao69, co69, eo69⟩ := Kd.R_slice HO569.out; subst eo69; have hnb70 := NB570_541.out; have hnc70 := NB541_570.out; have hnb71 := NB570_542.out; have hnc71 := NB542_570.out; have hnb72 := NB570_560.out; have hnc72 := NB560_570.out; have hnb73 := NB570_566.out; have hnc73 := NB566_570.out; obtain ⟨hcz74_0, hfz74_0⟩ := cz1_ BK570.out; obtain ⟨hcz75_0, hcz75_1, hcz75_2, hfz75_0, hfz75_1, hfz75_2⟩ := cz3_ BK566.out) | (go_at_call 27; (with_reducible refine (impl_CheckTable.calls k t561 t562 _ _ t563 _ _ t567 t571 t572 t575 _ ?side1 ?side2 ?side3 ?side4 A24.out).mono ?_); (case side1 => refine (Kd.R_reads' (e := 3) (base := w.heap.size) (ok := fun k_ => (((((True ∧ some k_ ≠ (v548 : Value).ownBlock) ∧ some k_ ≠ (v551 : Value).ownBlock) ∧ some k_ ≠ (.slice Ao52 t554.length co52 : Value).ownBlock) ∧ some k_ ≠ (.slice Ao54 t557.length co54 : Value).ownBlock) ∧ some k_ ≠ (.slice Ao69 t567.length co69 : Value).ownBlock)) (n := t563.length) (c := co64) ?_).2.2; exact (rm_ (Kd.R_types HO565.out BK570.out (by decide)) (fun _ h_ => h_.1))); (case side2 => exact (Kd.R_reads' HO565.out).2.1); (case side3 => refine (Kd.R_reads' (e := 3) (base := w.heap.size) (ok := fun k_ => (((((True ∧ some k_ ≠ (v548 : Value).ownBlock) ∧ some k_ ≠ (v551 : Value).ownBlock) ∧ some k_ ≠ (.slice Ao52 t554.length co52 : Value).ownBlock) ∧ some k_ ≠ (.slice Ao54 t557.length co54 : Value).ownBlock) ∧ some k_ ≠ (.slice Ao64 t563.length co64 : Value).ownBlock)) (n := t567.length) (c := co69) ?_).2.2; exact (rm_ (Kd.R_types HO569.out BK570.out (by decide)) (fun _ h_ => h_.1))); (case side4 => exact (Kd.R_reads' HO569.out).2.1); rintro e w76 ⟨v573, v576, rfl, ho0, ho1, hb⟩; have HO574 := Aside0.mk (Kd.R_lower (Kd.R_new' (Kd.R_new' (Kd.R_new' (Kd.R_new' (Kd.R_new' (Kd.R_new' ho0 (Kd.R_lt (rm_ (Kd.R_types HO549.out BK570.out (by decide)) (fun _ h_ => h_.1)))) (Kd.R_lt (rm_ (Kd.R_types HO552.out BK570.out (by decide)) (fun _ h_ => h_.1)))) (Kd.R_lt (rm_ (Kd.R_types HO556.out BK570.out (by decide)) (fun _ h_ => h_.1)))) (Kd.R_lt (rm_ (Kd.R_types HO559.out BK570.out (by decide)) (fun _ h_ => h_.1)))) (Kd.R_lt (rm_ (Kd.R_types HO565.out BK570.out (by decide)) (fun _ h_ => h_.1)))) (Kd.R_lt (rm_ (Kd.R_types HO569.out BK570.out (by decide)) (fun _ h_ => h_.1)))) (bz_ HB.out)); have HO577 := Aside0.mk (Kd.R_lower (Kd.R_new' (Kd.R_new' (Kd.R_new' (Kd.R_new' (Kd.R_new' (Kd.R_new' ho1 (Kd.R_lt (rm_ (Kd.R_types HO549.out BK570.out (by decide)) (fun _ h_ => h_.1)))) (Kd.R_lt (rm_ (Kd.R_types HO552.out BK570.out (by decide)) (fun _ h_ => h_.1)))) (Kd.R_lt (rm_ (Kd.R_types HO556.out BK570.out (by decide)) (fun _ h_ => h_.1)))) (Kd.R_lt (rm_ (Kd.R_types HO559.out BK570.out (by decide)) (fun _ h_ => h_.1)))) (Kd.R_lt (rm_ (Kd.R_types HO565.out BK570.out (by decide)) (fun _ h_ => h_.1)))) (Kd.R_lt (rm_ (Kd.R_types HO569.out BK570.out (by decide)) (fun _ h_ => h_.1)))) (bz_ HB.out)); replace HO549 := Aside0.mk (Kd.R_mono (Kd.R_told (Kd.R_told (Kd.R_old (rm_ (Kd.R_types HO549.out BK570.out (by decide)) (fun _ h_ => h_.1)) hb) (Kd.R_base ho0)) (Kd.R_base ho1)) (fun _ h_ => h_.1)); replace HO552 := Aside0.mk (Kd.R_mono (Kd.R_told (Kd.R_told (Kd.R_old (rm_ (Kd.R_types HO552.out BK570.out (by decide)) (fun _ h_ => h_.1)) hb) (Kd.R_base ho0)) (Kd.R_base ho1)) (fun _ h_ => h_.1)); replace HO556 := Aside0.mk (Kd.R_mono (Kd.R_told (Kd.R_told (Kd.R_old (rm_ (Kd.R_types HO556.out BK570.out (by decide)) (fun _ h_ => h_.1)) hb) (Kd.R_base ho0)) (Kd.R_base ho1)) (fun _ h_ => h_.1)); replace HO559 := Aside0.mk (Kd.R_mono (Kd.R_told (Kd.R_told (Kd.R_old (rm_ (Kd.R_types HO559.out BK570.out (by decide)) (fun _ h_ => h_.1)) hb) (Kd.R_base ho0)) (Kd.R_base ho1)) (fun _ h_ => h_.1)); replace HO565 := Aside0.mk (Kd.R_mono (Kd.R_told (Kd.R_told (Kd.R_old (rm_ (Kd.R_types HO565.out BK570.out (by decide)) (fun _ h_ => h_.1)) hb) (Kd.R_base ho0)) (Kd.R_base ho1)) (fun _ h_ => h_.1)); replace HO569 := Aside0.mk (Kd.R_mono (Kd.R_told (Kd.R_told (Kd.R_old (rm_ (Kd.R_types HO569.out BK570.out (by decide)) (fun _ h_ => h_.1)) hb) (Kd.R_base ho0)) (Kd.R_base ho1)) (fun _ h_ => h_.1)); replace BK541 := Aside0.mk (blk_below (bf_ BK541.out) hb); replace BK542 := Aside0.mk (blk_below (bf_ BK542.out) hb); replace BK560 := Aside0.mk (blk_below (bf_ BK560.out) hb); replace BK566 := Aside0.mk (blk_below (bf_ BK566.out) hb); replace BK570 := Aside0.mk (blk_below (g := gb570) (o := .cells #[.slice Ao69 t567.length co69] 46 (0, 0)) (by (with_reducible repeat (first | refine blk_drewN ?_ _ | refine blk_drew ?_ | refine blk_alloc ?_ _)); refine blk_put (cs := #[.slice none 0 0]) ?_ 0 _ rfl; (with_reducible repeat (first | refine blk_drewN ?_ _ | refine blk_drew ?_ | refine blk_alloc ?_ _)); exact BK570.out) hb); replace HB := hs_ HB hb; (try clear hb); (try clear ho0); (try clear ho1)) | ((with_reducible refine gate_dst (N := 9) rfl ?_); refine box_event ?hg (N := 9) ?hd (cs := #[.int .i64 0, .slice none 0 0, .slice none 0 0]) (t := 40) ?hr ?_; (case hd => rfl); (case hg => rfl); (case hr => first | (go_simp; done) | (go_simp; rfl)); intro gb578 hg w77 hbox hb; replace HO549 := rb_ HO549 hb; replace HO552 := rb_ HO552 hb; replace HO556 := rb_ HO556 hb; replace HO559 := rb_ HO559 hb; replace HO565 := rb_ HO565 hb; replace HO569 := rb_ HO569 hb; replace HO574 := rb_ HO574 hb; replace HO577 := rb_ HO577 hb; have BK578 := Aside0.mk (hbox); have GW578 := gw_ hg HB; replace HB := hs_ HB hb; have NB541_578 := nl_ hg BK541; have NB578_541 := ng_ hg BK541; replace BK541 := kb_ BK541 hb; have NB542_578 := nl_ hg BK542; have NB578_542 := ng_ hg BK542; replace BK542 := kb_ BK542 hb; have NB560_578 := nl_ hg BK560; have NB578_560 := ng_ hg BK560; replace BK560 := kb_ BK560 hb; have NB566_578 := nl_ hg BK566; have NB578_566 := ng_ hg BK566; replace BK566 := kb_ BK566 hb; have NB570_578 := nl_ hg BK570; have NB578_570 := ng_ hg BK570; replace BK570 := kb_ BK570 hb; clear hb hbox hg; have hnb78 := NB578_541.out; have hnc78 := NB541_578.out; have hnb79 := NB578_542.out; have hnc79 := NB542_578.out; have hnb80 := NB578_560.out; have hnc80 := NB560_578.out; have hnb81 := NB578_566.out; have hnc81 := NB566_578.out; have hnb82 := NB578_570.out; have hnc82 := NB570_578.out; obtain ⟨hcz83_0, hcz83_1, hcz83_2, hfz83_0, hfz83_1, hfz83_2⟩ := cz3_ BK578.out; obtain ⟨Ao84, co84, eo84⟩ := Kd.R_slice HO574.out; subst eo84; obtain ⟨Ao85, co85, eo85⟩ := Kd.R_slice HO577.out; subst eo85; obtain ⟨hcz86_0, hcz86_1, hcz86_2, hfz86_0, hfz86_1, hfz86_2⟩ := cz3_ BK560.out) | (go_at_call 28; (with_reducible refine (laws_eqVerdict.calls k t571 _ _ t572 _ _ t575 t553 _ _ t554 _ _ t557 true _ ?side1 ?side2 ?side3 ?side4 ?side5 ?side6 ?side7 ?side8 A25.out).mono ?_); (case side1 => refine (Kd.R_reads' (e := 3) (base := w.heap.size) (ok := fun k_ => ((((((some k_ ≠ (.slice Ao85 t575.length co85 : Value).ownBlock ∧ some k_ ≠ (v548 : Value).ownBlock) ∧ some k_ ≠ (v551 : Value).ownBlock) ∧ some k_ ≠ (.slice Ao52 t554.length co52 : Value).ownBlock) ∧ some k_ ≠ (.slice Ao54 t557.length co54 : Value).ownBlock) ∧ some k_ ≠ (.slice Ao64 t563.length co64 : Value).ownBlock) ∧ some k_ ≠ (.slice Ao69 t567.length co69 : Value).ownBlock)) (n := t572.length) (c := co84) ?_).2.2; exact (rm_ (Kd.R_types HO574.out BK578.out (by decide)) (fun _ h_ => h_.1))); (case side2 => exact (Kd.R_reads' HO574.out).2.1); (case side3 => refine (Kd.R_reads' (e := 3) (base := w.heap.size) (ok := fun k_ => ((((((some k_ ≠ (.slice Ao84 t572.length co84 : Value).ownBlock ∧ some k_ ≠ (v548 : Value).ownBlock) ∧ some k_ ≠ (v551 : Value).ownBlock) ∧ some k_ ≠ (.slice Ao52 t554.length co52 : Value).ownBlock) ∧ some k_ ≠ (.slice Ao54 t557.length co54 : Value).ownBlock) ∧ some k_ ≠ (.slice Ao64 t563.length co64 : Value).ownBlock) ∧ some k_ ≠ (.slice Ao69 t567.length co69 : Value).ownBlock)) (n := t575.length) (c := co85) ?_).2.2; exact (rm_ (Kd.R_types HO577.out BK578.out (by decide)) (fun _ h_ => h_.1))); (case side4 => exact (Kd.R_reads' HO577.out).2.1); (case side5 => refine (Kd.R_reads' (e := 3) (base := w.heap.size) (ok := fun k_ => (((((some k_ ≠ (v548 : Value).ownBlock ∧ (some k_ ≠ (v551 : Value).ownBlock ∧ some k_ ≠ (.slice Ao54 t557.length co54 : Value).ownBlock)) ∧ some k_ ≠ (.slice Ao64 t563.length co64 : Value).ownBlock) ∧ some k_ ≠ (.slice Ao69 t567.length co69 : Value).ownBlock) ∧ some k_ ≠ (.slice Ao84 t572.length co84 : Value).ownBlock) ∧ some k_ ≠ (.slice Ao85 t575.length co85 : Value).ownBlock)) (n := t554.length) (c := co52) ?_).2.2; exact (rm_ (Kd.R_types HO556.out BK578.out (by decide)) (fun _ h_ => h_.1))); (case side6 => exact (Kd.R_reads' HO556.out).2.1); (case side7 => refine (Kd.R_reads' (e := 3) (base := w.heap.size) (ok := fun k_ => (((((some k_ ≠ (v548 : Value).ownBlock ∧ (some k_ ≠ (v551 : Value).ownBlock ∧ some k_ ≠ (.slice Ao52 t554.length co52 : Value).ownBlock)) ∧ some k_ ≠ (.slice Ao64 t563.length co64 : Value).ownBlock) ∧ some k_ ≠ (.slice Ao69 t567.length co69 : Value).ownBlock) ∧ some k_ ≠ (.slice Ao84 t572.length co84 : Value).ownBlock) ∧ some k_ ≠ (.slice Ao85 t575.length co85 : Value).ownBlock)) (n := t557.length) (c := co54) ?_).2.2; exact (rm_ (Kd.R_types HO559.out BK578.out (by decide)) (fun _ h_ => h_.1))); (case side8 => exact (Kd.R_reads' HO559.out).2.1); rintro e w87 ⟨rfl, hb⟩; replace HO549 := Aside0.mk (Kd.R_below (rm_ (Kd.R_types HO549.out BK578.out (by decide)) (fun _ h_ => h_.1)) hb); replace HO552 := Aside0.mk (Kd.R_below (rm_ (Kd.R_types HO552.out BK578.out (by decide)) (fun _ h_ => h_.1)) hb); replace HO556 := Aside0.mk (Kd.R_below (rm_ (Kd.R_types HO556.out BK578.out (by decide)) (fun _ h_ => h_.1)) hb); replace HO559 := Aside0.mk (Kd.R_below (rm_ (Kd.R_types HO559.out BK578.out (by decide)) (fun _ h_ => h_.1)) hb); replace HO565 := Aside0.mk (Kd.R_below (rm_ (Kd.R_types HO565.out BK578.out (by decide)) (fun _ h_ => h_.1)) hb); replace HO569 := Aside0.mk (Kd.R_below (rm_ (Kd.R_types HO569.out BK578.out (by decide)) (fun _ h_ => h_.1)) hb); replace HO574 := Aside0.mk (Kd.R_below (rm_ (Kd.R_types HO574.out BK578.out (by decide)) (fun _ h_ => h_.1)) hb); replace HO577 := Aside0.mk (Kd.R_below (rm_ (Kd.R_types HO577.out BK578.out (by decide)) (fun _ h_ => h_.1)) hb); replace BK541 := Aside0.mk (blk_below (bf_ BK541.out) hb); replace BK542 := Aside0.mk (blk_below (bf_ BK542.out) hb); replace BK560 := Aside0.mk (blk_below (bf_ BK560.out) hb); replace BK566 := Aside0.mk (blk_below (bf_ BK566.out) hb); replace BK570 := Aside0.mk (blk_below (bf_ BK570.out) hb); replace BK578 := Aside0.mk (blk_below (g := gb578) (o := .cells #[.int .i64 t571, .slice Ao84 t572.length co84, .slice Ao85 t575.length co85] 40 (0, 0)) (by (with_reducible repeat (first | refine blk_drewN ?_ _ | refine blk_drew ?_ | refine blk_alloc ?_ _)); refine blk_put (cs := #[.int .i64 t571, .slice Ao84 t572.length co84, .slice none 0 0]) ?_ 2 _ rfl; (with_reducible repeat (first | refine blk_drewN ?_ _ | refine blk_drew ?_ | refine blk_alloc ?_ _)); refine blk_put (cs := #[.int .i64 t571, .slice none 0 0, .slice none 0 0]) ?_ 1 _ rfl; (with_reducible repeat (first | refine blk_drewN ?_ _ | refine blk_drew ?_ | refine blk_alloc ?_ _)); refine blk_put (cs := #[.int .i64 0, .slice none 0 0, .slice none 0 0]) ?_ 0 _ rfl; (with_reducible repeat (first | refine blk_drewN ?_ _ | refine blk_drew ?_ | refine blk_alloc ?_ _)); exact BK578.out) hb); replace HB := hs_ HB hb; (try clear hb)))
    replace HO549 := Aside0.mk (Kd.R_drew HO549.out)
    replace HO552 := Aside0.mk (Kd.R_drew HO552.out)
    replace HO556 := Aside0.mk (Kd.R_drew HO556.out)
    replace HO559 := Aside0.mk (Kd.R_drew HO559.out)
    replace HO565 := Aside0.mk (Kd.R_drew HO565.out)
    replace HO569 := Aside0.mk (Kd.R_drew HO569.out)
    replace HO574 := Aside0.mk (Kd.R_drew HO574.out)
    replace HO577 := Aside0.mk (Kd.R_drew HO577.out)
    replace BK541 := Aside0.mk (blk_drew BK541.out)
    replace BK542 := Aside0.mk (blk_drew BK542.out)
    replace BK560 := Aside0.mk (blk_drew BK560.out)
    replace BK566 := Aside0.mk (blk_drew BK566.out)
    replace BK570 := Aside0.mk (blk_drew BK570.out)
    replace BK578 := Aside0.mk (blk_drew BK578.out)
    replace HB := Aside0.mk (below_drew1 HB.out)
    go_region_held3 (fun w' => w'.cell? ⟨gb566, 0, none⟩ = some (.int .i64 t561) ∧ w'.cell? ⟨gb566, 1, none⟩ = some (.int .i64 t562) ∧ w'.cell? ⟨gb566, 2, none⟩ = some (.slice Ao64 t563.length co64) ∧ w'.cell? ⟨gb541, 0, none⟩ = some (.int .i64 a0_0) ∧ w'.cell? ⟨gb541, 1, none⟩ = some (.int .i64 a0_1) ∧ w'.cell? ⟨gb541, 2, none⟩ = some (.slice A0_2 l0_2.length c0_2)) (first | exact ⟨(blk_cell BK566.out 0).trans rfl, (blk_cell BK566.out 1).trans rfl, (blk_cell BK566.out 2).trans rfl, (blk_cell BK541.out 0).trans rfl, (blk_cell BK541.out 1).trans rfl, (blk_cell BK541.out 2).trans rfl⟩) (first | (go_at_call 25; (with_reducible refine (laws_toMesh.calls k a0_0 a0_1 _ _ l0_2 t580 t581 t582 _ ?side1 ?side2 A27.out).mono ?_); (case side1 => exact cb_ HR0_2.out HB.out); (case side2 => exact HC0_2.out); rintro e w89 ⟨v583, rfl, ho0, hb⟩; have HO584 := Aside0.mk (Kd.R_lower (Kd.R_new' (Kd.R_new' (Kd.R_new' (Kd.R_new' (Kd.R_new' (Kd.R_new' (Kd.R_new' (Kd.R_new' ho0 (rl_ HO549.out)) (rl_ HO552.out)) (rl_ HO556.out)) (rl_ HO559.out)) (rl_ HO565.out)) (rl_ HO569.out)) (rl_ HO574.out)) (rl_ HO577.out)) (bz_ HB.out)); replace HO549 := re_ HO549 ho0 hb; replace HO552 := re_ HO552 ho0 hb; replace HO556 := re_ HO556 ho0 hb; replace HO559 := re_ HO559 ho0 hb; replace HO565 := re_ HO565 ho0 hb; replace HO569 := re_ HO569 ho0 hb; replace HO574 := re_ HO574 ho0 hb; replace HO577 := re_ HO577 ho0 hb; replace BK541 := kb_ BK541 hb; replace BK542 := kb_ BK542 hb; replace BK560 := kb_ BK560 hb; replace BK566 := kb_ BK566 hb; replace BK570 := kb_ BK570 hb; replace BK578 := kb_ BK578 hb; replace HB := hs_ HB hb; (try clear hb); (try clear hk); (try clear ho0); obtain ⟨Ao90, co90, eo90⟩ := Kd.R_slice HO584.out; (first | subst eo90 | (injection eo90 with f1_ f2_ f3_; have f4_ := f1_.symm; have f5_ := f3_.symm; clear f1_ f2_ f3_; subst f4_; subst f5_))) | (go_at_call 29; (with_reducible refine (laws_eqMesh.calls k t561 t562 _ _ t563 t580 t581 _ _ t582 true _ ?side1 ?side2 ?side3 ?side4 A28.out).mono ?_); (case side1 => exact rr_ HO565); (case side2 => exact (Kd.R_reads' HO565.out).2.1); (case side3 => exact rr_ HO584); (case side4 => exact (Kd.R_reads' HO584.out).2.1); rintro e w91 ⟨rfl, hb⟩; replace HO549 := rb_ HO549 hb; replace HO552 := rb_ HO552 hb; replace HO556 := rb_ HO556 hb; replace HO559 := rb_ HO559 hb; replace HO565 := rb_ HO565 hb; replace HO569 := rb_ HO569 hb; replace HO574 := rb_ HO574 hb; replace HO577 := rb_ HO577 hb; replace HO584 := rb_ HO584 hb; replace BK541 := kb_ BK541 hb; replace BK542 := kb_ BK542 hb; replace BK560 := kb_ BK560 hb; replace BK566 := kb_ BK566 hb; replace BK570 := kb_ BK570 hb; replace BK578 := kb_ BK578 hb; replace HB := hs_ HB hb; (try clear hb); (try clear hk)))
    try go_wp2
    replace HO549 := Aside0.mk (Kd.R_drew HO549.out)
    replace HO552 := Aside0.mk (Kd.R_drew HO552.out)
    replace HO556 := Aside0.mk (Kd.R_drew HO556.out)
    replace HO559 := Aside0.mk (Kd.R_drew HO559.out)
    replace HO565 := Aside0.mk (Kd.R_drew HO565.out)
    replace HO569 := Aside0.mk (Kd.R_drew HO569.out)
    replace HO574 := Aside0.mk (Kd.R_drew HO574.out)
    replace HO577 := Aside0.mk (Kd.R_drew HO577.out)
    replace HO584 := Aside0.mk (Kd.R_drew HO584.out)
    replace BK541 := Aside0.mk (blk_drew BK541.out)
    replace BK542 := Aside0.mk (blk_drew BK542.out)
    replace BK560 := Aside0.mk (blk_drew BK560.out)
    replace BK566 := Aside0.mk (blk_drew BK566.out)
    replace BK570 := Aside0.mk (blk_drew BK570.out)
    replace BK578 := Aside0.mk (blk_drew BK578.out)
    replace HB := Aside0.mk (below_drew1 HB.out)
    go_region_held3 (fun w' => w'.cell? ⟨gb570, 0, none⟩ = some (.slice Ao69 t567.length co69) ∧ w'.cell? ⟨gb542, 0, none⟩ = some (.slice A1_0 l1_0.length c1_0)) (first | exact ⟨(blk_cell BK570.out 0).trans rfl, (blk_cell BK542.out 0).trans rfl⟩) (first | (go_at_call 26; (with_reducible refine (laws_toTable.calls k _ _ l1_0 t586 _ ?side1 ?side2 A30.out).mono ?_); (case side1 => exact cb_ HR1_0.out HB.out); (case side2 => exact HC1_0.out); rintro e w93 ⟨v587, rfl, ho0, hb⟩; have HO588 := Aside0.mk (Kd.R_lower (Kd.R_new' (Kd.R_new' (Kd.R_new' (Kd.R_new' (Kd.R_new' (Kd.R_new' (Kd.R_new' (Kd.R_new' (Kd.R_new' ho0 (rl_ HO549.out)) (rl_ HO552.out)) (rl_ HO556.out)) (rl_ HO559.out)) (rl_ HO565.out)) (rl_ HO569.out)) (rl_ HO574.out)) (rl_ HO577.out)) (rl_ HO584.out)) (bz_ HB.out)); replace HO549 := re_ HO549 ho0 hb; replace HO552 := re_ HO552 ho0 hb; replace HO556 := re_ HO556 ho0 hb; replace HO559 := re_ HO559 ho0 hb; replace HO565 := re_ HO565 ho0 hb; replace HO569 := re_ HO569 ho0 hb; replace HO574 := re_ HO574 ho0 hb; replace HO577 := re_ HO577 ho0 hb; replace HO584 := re_ HO584 ho0 hb; replace BK541 := kb_ BK541 hb; replace BK542 := kb_ BK542 hb; replace BK560 := kb_ BK560 hb; replace BK566 := kb_ BK566 hb; replace BK570 := kb_ BK570 hb; replace BK578 := kb_ BK578 hb; replace HB := hs_ HB hb; (try clear hb); (try clear hk); (try clear ho0); obtain ⟨Ao94, co94, eo94⟩ := Kd.R_slice HO588.out; (first | subst eo94 | (injection eo94 with f1_ f2_ f3_; have f4_ := f1_.symm; have f5_ := f3_.symm; clear f1_ f2_ f3_; subst f4_; subst f5_))) | (go_at_call 30; (with_reducible refine (laws_eqTable.calls k _ _ t567 _ _ t586 true _ ?side1 ?side2 ?side3 ?side4 A31.out).mono ?_); (case side1 => exact rr_ HO569); (case side2 => exact (Kd.R_reads' HO569.out).2.1); (case side3 => exact rr_ HO588); (case side4 => exact (Kd.R_reads' HO588.out).2.1); rintro e w95 ⟨rfl, hb⟩; replace HO549 := rb_ HO549 hb; replace HO552 := rb_ HO552 hb; replace HO556 := rb_ HO556 hb; replace HO559 := rb_ HO559 hb; replace HO565 := rb_ HO565 hb; replace HO569 := rb_ HO569 hb; replace HO574 := rb_ HO574 hb; replace HO577 := rb_ HO577 hb; replace HO584 := rb_ HO584 hb; replace HO588 := rb_ HO588 hb; replace BK541 := kb_ BK541 hb; replace BK542 := kb_ BK542 hb; replace BK560 := kb_ BK560 hb; replace BK566 := kb_ BK566 hb; replace BK570 := kb_ BK570 hb; replace BK578 := kb_ BK578 hb; replace HB := hs_ HB hb; (try clear hb); (try clear hk)))
    obtain ⟨hcz96_0, hcz96_1, hcz96_2, hfz96_0, hfz96_1, hfz96_2⟩ := cz3_ BK566.out
    go_upto_region 21 with (first | (go_at_call 31; (with_reducible refine (laws_markMesh.calls k t561 t562 (fun k_ => some k_ = (.slice Ao64 t563.length co64 : Value).ownBlock) (.slice Ao64 t563.length co64) t563 1 t590 t591 w _ ?side1 ?side2 A33.out).mono ?_); (case side1 => repeat (first | (with_reducible first | exact HB.out | apply below_alloc | apply pw_below_drewN | apply below_drew1 | refine below_set ?_ GW541.out | refine below_set ?_ GW542.out | refine below_set ?_ GE560.out | refine below_set ?_ GW566.out | refine below_set ?_ GW570.out | refine below_set ?_ GW578.out) | exact HB.out)); (case side2 => exact Kd.R_tight rfl HO565.out); rintro e w97 ⟨rfl, hy0, hb, hkp⟩; replace BK541 := Aside0.mk (blk_kept (by (with_reducible repeat (first | refine blk_drewN ?_ _ | refine blk_drew ?_ | refine blk_alloc ?_ _)); exact BK541.out) hkp (fun hs_ => (fun e_ => (Kd.R_ne HO565.out BK541.out (by decide)) e_) hs_)); replace BK542 := Aside0.mk (blk_kept (by (with_reducible repeat (first | refine blk_drewN ?_ _ | refine blk_drew ?_ | refine blk_alloc ?_ _)); exact BK542.out) hkp (fun hs_ => (fun e_ => (Kd.R_ne HO565.out BK542.out (by decide)) e_) hs_)); replace HO549 := Aside0.mk (Kd.R_mono (ok' := fun k_ => some k_ ≠ (v551 : Value).ownBlock ∧ some k_ ≠ (.slice Ao52 t554.length co52 : Value).ownBlock ∧ some k_ ≠ (.slice Ao54 t557.length co54 : Value).ownBlock ∧ some k_ ≠ (.slice Ao64 t563.length co64 : Value).ownBlock ∧ some k_ ≠ (.slice Ao69 t567.length co69 : Value).ownBlock ∧ some k_ ≠ (.slice Ao84 t572.length co84 : Value).ownBlock ∧ some k_ ≠ (.slice Ao85 t575.length co85 : Value).ownBlock ∧ some k_ ≠ (.slice Ao90 t582.length co90 : Value).ownBlock ∧ some k_ ≠ (.slice Ao94 t586.length co94 : Value).ownBlock) (Kd.R_keptB (HO549.out) hkp (fun k_ hk_ hs_ => (hk_.1.1.1.1.1.2) hs_)) (fun k_ hk_ => ⟨hk_.1.1.1.1.1.1.1.1, hk_.1.1.1.1.1.1.1.2.1, hk_.1.1.1.1.1.1.1.2.2, hk_.1.1.1.1.1.1.2, hk_.1.1.1.1.1.2, hk_.1.1.1.1.2, hk_.1.1.1.2, hk_.1.1.2, hk_.1.2⟩)); replace HO552 := Aside0.mk (Kd.R_mono (ok' := fun k_ => some k_ ≠ (v548 : Value).ownBlock ∧ some k_ ≠ (.slice Ao52 t554.length co52 : Value).ownBlock ∧ some k_ ≠ (.slice Ao54 t557.length co54 : Value).ownBlock ∧ some k_ ≠ (.slice Ao64 t563.length co64 : Value).ownBlock ∧ some k_ ≠ (.slice Ao69 t567.length co69 : Value).ownBlock ∧ some k_ ≠ (.slice Ao84 t572.length co84 : Value).ownBlock ∧ some k_ ≠ (.slice Ao85 t575.length co85 : Value).ownBlock ∧ some k_ ≠ (.slice Ao90 t582.length co90 : Value).ownBlock ∧ some k_ ≠ (.slice Ao94 t586.length co94 : Value).ownBlock) (Kd.R_keptB (HO552.out) hkp (fun k_ hk_ hs_ => (hk_.1.1.1.1.1.2) hs_)) (fun k_ hk_ => ⟨hk_.1.1.1.1.1.1.1.1, hk_.1.1.1.1.1.1.1.2.1, hk_.1.1.1.1.1.1.1.2.2, hk_.1.1.1.1.1.1.2, hk_.1.1.1.1.1.2, hk_.1.1.1.1.2, hk_.1.1.1.2, hk_.1.1.2, hk_.1.2⟩)); replace HO556 := Aside0.mk (Kd.R_mono (ok' := fun k_ => some k_ ≠ (v548 : Value).ownBlock ∧ some k_ ≠ (v551 : Value).ownBlock ∧ some k_ ≠ (.slice Ao54 t557.length co54 : Value).ownBlock ∧ some k_ ≠ (.slice Ao64 t563.length co64 : Value).ownBlock ∧ some k_ ≠ (.slice Ao69 t567.length co69 : Value).ownBlock ∧ some k_ ≠ (.slice Ao84 t572.length co84 : Value).ownBlock ∧ some k_ ≠ (.slice Ao85 t575.length co85 : Value).ownBlock ∧ some k_ ≠ (.slice Ao90 t582.length co90 : Value).ownBlock ∧ some k_ ≠ (.slice Ao94 t586.length co94 : Value).ownBlock) (Kd.R_keptB (HO556.out) hkp (fun k_ hk_ hs_ => (hk_.1.1.1.1.1.2) hs_)) (fun k_ hk_ => ⟨hk_.1.1.1.1.1.1.1.1, hk_.1.1.1.1.1.1.1.2.1, hk_.1.1.1.1.1.1.1.2.2, hk_.1.1.1.1.1.1.2, hk_.1.1.1.1.1.2, hk_.1.1.1.1.2, hk_.1.1.1.2, hk_.1.1.2, hk_.1.2⟩)); replace HO559 := Aside0.mk (Kd.R_mono (ok' := fun k_ => some k_ ≠ (v548 : Value).ownBlock ∧ some k_ ≠ (v551 : Value).ownBlock ∧ some k_ ≠ (.slice Ao52 t554.length co52 : Value).ownBlock ∧ some k_ ≠ (.slice Ao64 t563.length co64 : Value).ownBlock ∧ some k_ ≠ (.slice Ao69 t567.length co69 : Value).ownBlock ∧ some k_ ≠ (.slice Ao84 t572.length co84 : Value).ownBlock ∧ some k_ ≠ (.slice Ao85 t575.length co85 : Value).ownBlock ∧ some k_ ≠ (.slice Ao90 t582.length co90 : Value).ownBlock ∧ some k_ ≠ (.slice Ao94 t586.length co94 : Value).ownBlock) (Kd.R_keptB (HO559.out) hkp (fun k_ hk_ hs_ => (hk_.1.1.1.1.1.2) hs_)) (fun k_ hk_ => ⟨hk_.1.1.1.1.1.1.1.1, hk_.1.1.1.1.1.1.1.2.1, hk_.1.1.1.1.1.1.1.2.2, hk_.1.1.1.1.1.1.2, hk_.1.1.1.1.1.2, hk_.1.1.1.1.2, hk_.1.1.1.2, hk_.1.1.2, hk_.1.2⟩)); replace BK560 := Aside0.mk (blk_kept (by (with_reducible repeat (first | refine blk_drewN ?_ _ | refine blk_drew ?_ | refine blk_alloc ?_ _)); exact BK560.out) hkp (fun hs_ => (fun e_ => (Kd.R_ne HO565.out BK560.out (by decide)) e_) hs_)); replace BK566 := Aside0.mk (blk_kept (by (with_reducible repeat (first | refine blk_drewN ?_ _ | refine blk_drew ?_ | refine blk_alloc ?_ _)); exact BK566.out) hkp (fun hs_ => (fun e_ => (Kd.R_ne HO565.out BK566.out (by decide)) e_) hs_)); replace HO569 := Aside0.mk (Kd.R_mono (ok' := fun k_ => some k_ ≠ (v548 : Value).ownBlock ∧ some k_ ≠ (v551 : Value).ownBlock ∧ some k_ ≠ (.slice Ao52 t554.length co52 : Value).ownBlock ∧ some k_ ≠ (.slice Ao54 t557.length co54 : Value).ownBlock ∧ some k_ ≠ (.slice Ao64 t563.length co64 : Value).ownBlock ∧ some k_ ≠ (.slice Ao84 t572.length co84 : Value).ownBlock ∧ some k_ ≠ (.slice Ao85 t575.length co85 : Value).ownBlock ∧ some k_ ≠ (.slice Ao90 t582.length co90 : Value).ownBlock ∧ some k_ ≠ (.slice Ao94 t586.length co94 : Value).ownBlock) (Kd.R_keptB (HO569.out) hkp (fun k_ hk_ hs_ => (hk_.1.1.1.1.2) hs_)) (fun k_ hk_ => ⟨hk_.1.1.1.1.1.1.1.1.1.2, hk_.1.1.1.1.1.1.1.1.2, hk_.1.1.1.1.1.1.1.2, hk_.1.1.1.1.1.1.2, hk_.1.1.1.1.1.2, hk_.1.1.1.1.2, hk_.1.1.1.2, hk_.1.1.2, hk_.1.2⟩)); replace BK570 := Aside0.mk (blk_kept (by (with_reducible repeat (first | refine blk_drewN ?_ _ | refine blk_drew ?_ | refine blk_alloc ?_ _)); exact BK570.out) hkp (fun hs_ => (fun e_ => (Kd.R_ne HO565.out BK570.out (by decide)) e_) hs_)); replace HO574 := Aside0.mk (Kd.R_mono (ok' := fun k_ => some k_ ≠ (v548 : Value).ownBlock ∧ some k_ ≠ (v551 : Value).ownBlock ∧ some k_ ≠ (.slice Ao52 t554.length co52 : Value).ownBlock ∧ some k_ ≠ (.slice Ao54 t557.length co54 : Value).ownBlock ∧ some k_ ≠ (.slice Ao64 t563.length co64 : Value).ownBlock ∧ some k_ ≠ (.slice Ao69 t567.length co69 : Value).ownBlock ∧ some k_ ≠ (.slice Ao85 t575.length co85 : Value).ownBlock ∧ some k_ ≠ (.slice Ao90 t582.length co90 : Value).ownBlock ∧ some k_ ≠ (.slice Ao94 t586.length co94 : Value).ownBlock) (Kd.R_keptB (HO574.out) hkp (fun k_ hk_ hs_ => (hk_.1.1.1.2) hs_)) (fun k_ hk_ => ⟨hk_.1.1.1.1.1.1.1.1.2, hk_.1.1.1.1.1.1.1.2, hk_.1.1.1.1.1.1.2, hk_.1.1.1.1.1.2, hk_.1.1.1.1.2, hk_.1.1.1.2, hk_.1.1.1.1.1.1.1.1.1, hk_.1.1.2, hk_.1.2⟩)); replace HO577 := Aside0.mk (Kd.R_mono (ok' := fun k_ => some k_ ≠ (v548 : Value).ownBlock ∧ some k_ ≠ (v551 : Value).ownBlock ∧ some k_ ≠ (.slice Ao52 t554.length co52 : Value).ownBlock ∧ some k_ ≠ (.slice Ao54 t557.length co54 : Value).ownBlock ∧ some k_ ≠ (.slice Ao64 t563.length co64 : Value).ownBlock ∧ some k_ ≠ (.slice Ao69 t567.length co69 : Value).ownBlock ∧ some k_ ≠ (.slice Ao84 t572.length co84 : Value).ownBlock ∧ some k_ ≠ (.slice Ao90 t582.length co90 : Value).ownBlock ∧ some k_ ≠ (.slice Ao94 t586.length co94 : Value).ownBlock) (Kd.R_keptB (HO577.out) hkp (fun k_ hk_ hs_ => (hk_.1.1.1.2) hs_)) (fun k_ hk_ => ⟨hk_.1.1.1.1.1.1.1.1.2, hk_.1.1.1.1.1.1.1.2, hk_.1.1.1.1.1.1.2, hk_.1.1.1.1.1.2, hk_.1.1.1.1.2, hk_.1.1.1.2, hk_.1.1.1.1.1.1.1.1.1, hk_.1.1.2, hk_.1.2⟩)); replace BK578 := Aside0.mk (blk_kept (by (with_reducible repeat (first | refine blk_drewN ?_ _ | refine blk_drew ?_ | refine blk_alloc ?_ _)); exact BK578.out) hkp (fun hs_ => (fun e_ => (Kd.R_ne HO565.out BK578.out (by decide)) e_) hs_)); replace HO565 := Aside0.mk (Kd.R_reok rfl hy0 (fun k_ e_ => HO565.out.1 k_ e_)); replace HO584 := Aside0.mk (Kd.R_mono (ok' := fun k_ => some k_ ≠ (v548 : Value).ownBlock ∧ some k_ ≠ (v551 : Value).ownBlock ∧ some k_ ≠ (.slice Ao52 t554.length co52 : Value).ownBlock ∧ some k_ ≠ (.slice Ao54 t557.length co54 : Value).ownBlock ∧ some k_ ≠ (.slice Ao64 t563.length co64 : Value).ownBlock ∧ some k_ ≠ (.slice Ao69 t567.length co69 : Value).ownBlock ∧ some k_ ≠ (.slice Ao84 t572.length co84 : Value).ownBlock ∧ some k_ ≠ (.slice Ao85 t575.length co85 : Value).ownBlock ∧ some k_ ≠ (.slice Ao94 t586.length co94 : Value).ownBlock) (Kd.R_keptB (HO584.out) hkp (fun k_ hk_ hs_ => (hk_.1.1.1.1.2) hs_)) (fun k_ hk_ => ⟨hk_.1.1.1.1.1.1.1.1.1.2, hk_.1.1.1.1.1.1.1.1.2, hk_.1.1.1.1.1.1.1.2, hk_.1.1.1.1.1.1.2, hk_.1.1.1.1.1.2, hk_.1.1.1.1.2, hk_.1.1.1.2, hk_.1.1.2, hk_.1.2⟩)); replace HO588 := Aside0.mk (Kd.R_mono (ok' := fun k_ => some k_ ≠ (v548 : Value).ownBlock ∧ some k_ ≠ (v551 : Value).ownBlock ∧ some k_ ≠ (.slice Ao52 t554.length co52 : Value).ownBlock ∧ some k_ ≠ (.slice Ao54 t557.length co54 : Value).ownBlock ∧ some k_ ≠ (.slice Ao64 t563.length co64 : Value).ownBlock ∧ some k_ ≠ (.slice Ao69 t567.length co69 : Value).ownBlock ∧ some k_ ≠ (.slice Ao84 t572.length co84 : Value).ownBlock ∧ some k_ ≠ (.slice Ao85 t575.length co85 : Value).ownBlock ∧ some k_ ≠ (.slice Ao90 t582.length co90 : Value).ownBlock) (Kd.R_keptB (HO588.out) hkp (fun k_ hk_ hs_ => (hk_.1.1.1.1.2) hs_)) (fun k_ hk_ => ⟨hk_.1.1.1.1.1.1.1.1.1.2, hk_.1.1.1.1.1.1.1.1.2, hk_.1.1.1.1.1.1.1.2, hk_.1.1.1.1.1.1.2, hk_.1.1.1.1.1.2, hk_.1.1.1.1.2, hk_.1.1.1.2, hk_.1.1.2, hk_.1.2⟩)); replace HB := Aside0.mk (hb); (try clear hb); (try clear hkp); (try clear hy0); obtain ⟨hcz98_0, hfz98_0⟩ := cz1_ BK570.out) | (go_at_call 32; (with_reducible refine (laws_markTable.calls k (fun k_ => some k_ = (.slice Ao69 t567.length co69 : Value).ownBlock) (.slice Ao69 t567.length co69) t567 t590 t592 t593 w _ ?side1 ?side2 A34.out).mono ?_); (case side1 => repeat (first | (with_reducible first | exact HB.out | apply below_alloc | apply pw_below_drewN | apply below_drew1 | refine below_set ?_ GW541.out | refine below_set ?_ GW542.out | refine below_set ?_ GE560.out | refine below_set ?_ GW566.out | refine below_set ?_ GW570.out | refine below_set ?_ GW578.out) | exact HB.out)); (case side2 => exact Kd.R_tight rfl HO569.out); rintro e w99 ⟨rfl, hy0, hb, hkp⟩; replace BK541 := Aside0.mk (blk_kept (by (with_reducible repeat (first | refine blk_drewN ?_ _ | refine blk_drew ?_ | refine blk_alloc ?_ _)); exact BK541.out) hkp (fun hs_ => (fun e_ => (Kd.R_ne HO569.out BK541.out (by decide)) e_) hs_)); replace BK542 := Aside0.mk (blk_kept (by (with_reducible repeat (first | refine blk_drewN ?_ _ | refine blk_drew ?_ | refine blk_alloc ?_ _)); exact BK542.out) hkp (fun hs_ => (fun e_ => (Kd.R_ne HO569.out BK542.out (by decide)) e_) hs_)); replace HO549 := Aside0.mk (Kd.R_mono (ok' := fun k_ => some k_ ≠ (v551 : Value).ownBlock ∧ some k_ ≠ (.slice Ao52 t554.length co52 : Value).ownBlock ∧ some k_ ≠ (.slice Ao54 t557.length co54 : Value).ownBlock ∧ some k_ ≠ (.slice Ao64 t563.length co64 : Value).ownBlock ∧ some k_ ≠ (.slice Ao69 t567.length co69 : Value).ownBlock ∧ some k_ ≠ (.slice Ao84 t572.length co84 : Value).ownBlock ∧ some k_ ≠ (.slice Ao85 t575.length co85 : Value).ownBlock ∧ some k_ ≠ (.slice Ao90 t582.length co90 : Value).ownBlock ∧ some k_ ≠ (.slice Ao94 t586.length co94 : Value).ownBlock) (Kd.R_keptB (HO549.out) hkp (fun k_ hk_ hs_ => (hk_.2.2.2.2.1) hs_)) (fun k_ hk_ => ⟨hk_.1.1, hk_.1.2.1, hk_.1.2.2.1, hk_.1.2.2.2.1, hk_.1.2.2.2.2.1, hk_.1.2.2.2.2.2.1, hk_.1.2.2.2.2.2.2.1, hk_.1.2.2.2.2.2.2.2.1, hk_.1.2.2.2.2.2.2.2.2⟩)); replace HO552 := Aside0.mk (Kd.R_mono (ok' := fun k_ => some k_ ≠ (v548 : Value).ownBlock ∧ some k_ ≠ (.slice Ao52 t554.length co52 : Value).ownBlock ∧ some k_ ≠ (.slice Ao54 t557.length co54 : Value).ownBlock ∧ some k_ ≠ (.slice Ao64 t563.length co64 : Value).ownBlock ∧ some k_ ≠ (.slice Ao69 t567.length co69 : Value).ownBlock ∧ some k_ ≠ (.slice Ao84 t572.length co84 : Value).ownBlock ∧ some k_ ≠ (.slice Ao85 t575.length co85 : Value).ownBlock ∧ some k_ ≠ (.slice Ao90 t582.length co90 : Value).ownBlock ∧ some k_ ≠ (.slice Ao94 t586.length co94 : Value).ownBlock) (Kd.R_keptB (HO552.out) hkp (fun k_ hk_ hs_ => (hk_.2.2.2.2.1) hs_)) (fun k_ hk_ => ⟨hk_.1.1, hk_.1.2.1, hk_.1.2.2.1, hk_.1.2.2.2.1, hk_.1.2.2.2.2.1, hk_.1.2.2.2.2.2.1, hk_.1.2.2.2.2.2.2.1, hk_.1.2.2.2.2.2.2.2.1, hk_.1.2.2.2.2.2.2.2.2⟩)); replace HO556 := Aside0.mk (Kd.R_mono (ok' := fun k_ => some k_ ≠ (v548 : Value).ownBlock ∧ some k_ ≠ (v551 : Value).ownBlock ∧ some k_ ≠ (.slice Ao54 t557.length co54 : Value).ownBlock ∧ some k_ ≠ (.slice Ao64 t563.length co64 : Value).ownBlock ∧ some k_ ≠ (.slice Ao69 t567.length co69 : Value).ownBlock ∧ some k_ ≠ (.slice Ao84 t572.length co84 : Value).ownBlock ∧ some k_ ≠ (.slice Ao85 t575.length co85 : Value).ownBlock ∧ some k_ ≠ (.slice Ao90 t582.length co90 : Value).ownBlock ∧ some k_ ≠ (.slice Ao94 t586.length co94 : Value).ownBlock) (Kd.R_keptB (HO556.out) hkp (fun k_ hk_ hs_ => (hk_.2.2.2.2.1) hs_)) (fun k_ hk_ => ⟨hk_.1.1, hk_.1.2.1, hk_.1.2.2.1, hk_.1.2.2.2.1, hk_.1.2.2.2.2.1, hk_.1.2.2.2.2.2.1, hk_.1.2.2.2.2.2.2.1, hk_.1.2.2.2.2.2.2.2.1, hk_.1.2.2.2.2.2.2.2.2⟩)); replace HO559 := Aside0.mk (Kd.R_mono (ok' := fun k_ => some k_ ≠ (v548 : Value).ownBlock ∧ some k_ ≠ (v551 : Value).ownBlock ∧ some k_ ≠ (.slice Ao52 t554.length co52 : Value).ownBlock ∧ some k_ ≠ (.slice Ao64 t563.length co64 : Value).ownBlock ∧ some k_ ≠ (.slice Ao69 t567.length co69 : Value).ownBlock ∧ some k_ ≠ (.slice Ao84 t572.length co84 : Value).ownBlock ∧ some k_ ≠ (.slice Ao85 t575.length co85 : Value).ownBlock ∧ some k_ ≠ (.slice Ao90 t582.length co90 : Value).ownBlock ∧ some k_ ≠ (.slice Ao94 t586.length co94 : Value).ownBlock) (Kd.R_keptB (HO559.out) hkp (fun k_ hk_ hs_ => (hk_.2.2.2.2.1) hs_)) (fun k_ hk_ => ⟨hk_.1.1, hk_.1.2.1, hk_.1.2.2.1, hk_.1.2.2.2.1, hk_.1.2.2.2.2.1, hk_.1.2.2.2.2.2.1, hk_.1.2.2.2.2.2.2.1, hk_.1.2.2.2.2.2.2.2.1, hk_.1.2.2.2.2.2.2.2.2⟩)); replace BK560 := Aside0.mk (blk_kept (by (with_reducible repeat (first | refine blk_drewN ?_ _ | refine blk_drew ?_ | refine blk_alloc ?_ _)); exact BK560.out) hkp (fun hs_ => (fun e_ => (Kd.R_ne HO569.out BK560.out (by decide)) e_) hs_)); replace HO565 := Aside0.mk (Kd.R_mono (ok' := fun k_ => some k_ ≠ (v548 : Value).ownBlock ∧ some k_ ≠ (v551 : Value).ownBlock ∧ some k_ ≠ (.slice Ao52 t554.length co52 : Value).ownBlock ∧ some k_ ≠ (.slice Ao54 t557.length co54 : Value).ownBlock ∧ some k_ ≠ (.slice Ao69 t567.length co69 : Value).ownBlock ∧ some k_ ≠ (.slice Ao84 t572.length co84 : Value).ownBlock ∧ some k_ ≠ (.slice Ao85 t575.length co85 : Value).ownBlock ∧ some k_ ≠ (.slice Ao90 t582.length co90 : Value).ownBlock ∧ some k_ ≠ (.slice Ao94 t586.length co94 : Value).ownBlock) (Kd.R_keptB (HO565.out) hkp (fun k_ hk_ hs_ => (hk_.1.1.1.1.2) hs_)) (fun k_ hk_ => ⟨hk_.1.1.1.1.1.1.1.1.1.2, hk_.1.1.1.1.1.1.1.1.2, hk_.1.1.1.1.1.1.1.2, hk_.1.1.1.1.1.1.2, hk_.1.1.1.1.1.2, hk_.1.1.1.1.2, hk_.1.1.1.2, hk_.1.1.2, hk_.1.2⟩)); replace BK566 := Aside0.mk (blk_kept (by (with_reducible repeat (first | refine blk_drewN ?_ _ | refine blk_drew ?_ | refine blk_alloc ?_ _)); exact BK566.out) hkp (fun hs_ => (fun e_ => (Kd.R_ne HO569.out BK566.out (by decide)) e_) hs_)); replace BK570 := Aside0.mk (blk_kept (by (with_reducible repeat (first | refine blk_drewN ?_ _ | refine blk_drew ?_ | refine blk_alloc ?_ _)); exact BK570.out) hkp (fun hs_ => (fun e_ => (Kd.R_ne HO569.out BK570.out (by decide)) e_) hs_)); replace HO574 := Aside0.mk (Kd.R_mono (ok' := fun k_ => some k_ ≠ (v548 : Value).ownBlock ∧ some k_ ≠ (v551 : Value).ownBlock ∧ some k_ ≠ (.slice Ao52 t554.length co52 : Value).ownBlock ∧ some k_ ≠ (.slice Ao54 t557.length co54 : Value).ownBlock ∧ some k_ ≠ (.slice Ao64 t563.length co64 : Value).ownBlock ∧ some k_ ≠ (.slice Ao69 t567.length co69 : Value).ownBlock ∧ some k_ ≠ (.slice Ao85 t575.length co85 : Value).ownBlock ∧ some k_ ≠ (.slice Ao90 t582.length co90 : Value).ownBlock ∧ some k_ ≠ (.slice Ao94 t586.length co94 : Value).ownBlock) (Kd.R_keptB (HO574.out) hkp (fun k_ hk_ hs_ => (hk_.2.2.2.2.2.1) hs_)) (fun k_ hk_ => ⟨hk_.1.1, hk_.1.2.1, hk_.1.2.2.1, hk_.1.2.2.2.1, hk_.1.2.2.2.2.1, hk_.1.2.2.2.2.2.1, hk_.1.2.2.2.2.2.2.1, hk_.1.2.2.2.2.2.2.2.1, hk_.1.2.2.2.2.2.2.2.2⟩)); replace HO577 := Aside0.mk (Kd.R_mono (ok' := fun k_ => some k_ ≠ (v548 : Value).ownBlock ∧ some k_ ≠ (v551 : Value).ownBlock ∧ some k_ ≠ (.slice Ao52 t554.length co52 : Value).ownBlock ∧ some k_ ≠ (.slice Ao54 t557.length co54 : Value).ownBlock ∧ some k_ ≠ (.slice Ao64 t563.length co64 : Value).ownBlock ∧ some k_ ≠ (.slice Ao69 t567.length co69 : Value).ownBlock ∧ some k_ ≠ (.slice Ao84 t572.length co84 : Value).ownBlock ∧ some k_ ≠ (.slice Ao90 t582.length co90 : Value).ownBlock ∧ some k_ ≠ (.slice Ao94 t586.length co94 : Value).ownBlock) (Kd.R_keptB (HO577.out) hkp (fun k_ hk_ hs_ => (hk_.2.2.2.2.2.1) hs_)) (fun k_ hk_ => ⟨hk_.1.1, hk_.1.2.1, hk_.1.2.2.1, hk_.1.2.2.2.1, hk_.1.2.2.2.2.1, hk_.1.2.2.2.2.2.1, hk_.1.2.2.2.2.2.2.1, hk_.1.2.2.2.2.2.2.2.1, hk_.1.2.2.2.2.2.2.2.2⟩)); replace BK578 := Aside0.mk (blk_kept (by (with_reducible repeat (first | refine blk_drewN ?_ _ | refine blk_drew ?_ | refine blk_alloc ?_ _)); exact BK578.out) hkp (fun hs_ => (fun e_ => (Kd.R_ne HO569.out BK578.out (by decide)) e_) hs_)); replace HO569 := Aside0.mk (Kd.R_reok rfl hy0 (fun k_ e_ => HO569.out.1 k_ e_)); replace HO584 := Aside0.mk (Kd.R_mono (ok' := fun k_ => some k_ ≠ (v548 : Value).ownBlock ∧ some k_ ≠ (v551 : Value).ownBlock ∧ some k_ ≠ (.slice Ao52 t554.length co52 : Value).ownBlock ∧ some k_ ≠ (.slice Ao54 t557.length co54 : Value).ownBlock ∧ some k_ ≠ (.slice Ao64 t563.length co64 : Value).ownBlock ∧ some k_ ≠ (.slice Ao69 t567.length co69 : Value).ownBlock ∧ some k_ ≠ (.slice Ao84 t572.length co84 : Value).ownBlock ∧ some k_ ≠ (.slice Ao85 t575.length co85 : Value).ownBlock ∧ some k_ ≠ (.slice Ao94 t586.length co94 : Value).ownBlock) (Kd.R_keptB (HO584.out) hkp (fun k_ hk_ hs_ => (hk_.2.2.2.2.2.1) hs_)) (fun k_ hk_ => ⟨hk_.1.1, hk_.1.2.1, hk_.1.2.2.1, hk_.1.2.2.2.1, hk_.1.2.2.2.2.1, hk_.1.2.2.2.2.2.1, hk_.1.2.2.2.2.2.2.1, hk_.1.2.2.2.2.2.2.2.1, hk_.1.2.2.2.2.2.2.2.2⟩)); replace HO588 := Aside0.mk (Kd.R_mono (ok' := fun k_ => some k_ ≠ (v548 : Value).ownBlock ∧ some k_ ≠ (v551 : Value).ownBlock ∧ some k_ ≠ (.slice Ao52 t554.length co52 : Value).ownBlock ∧ some k_ ≠ (.slice Ao54 t557.length co54 : Value).ownBlock ∧ some k_ ≠ (.slice Ao64 t563.length co64 : Value).ownBlock ∧ some k_ ≠ (.slice Ao69 t567.length co69 : Value).ownBlock ∧ some k_ ≠ (.slice Ao84 t572.length co84 : Value).ownBlock ∧ some k_ ≠ (.slice Ao85 t575.length co85 : Value).ownBlock ∧ some k_ ≠ (.slice Ao90 t582.length co90 : Value).ownBlock) (Kd.R_keptB (HO588.out) hkp (fun k_ hk_ hs_ => (hk_.2.2.2.2.2.1) hs_)) (fun k_ hk_ => ⟨hk_.1.1, hk_.1.2.1, hk_.1.2.2.1, hk_.1.2.2.2.1, hk_.1.2.2.2.2.1, hk_.1.2.2.2.2.2.1, hk_.1.2.2.2.2.2.2.1, hk_.1.2.2.2.2.2.2.2.1, hk_.1.2.2.2.2.2.2.2.2⟩)); replace HB := Aside0.mk (hb); (try clear hb); (try clear hkp); (try clear hy0)))
    (try simp only [Act.put, List.setIfInBounds_toArray, List.set_cons_zero, List.set_cons_succ])
    go_cut [63] (fun v63 wc => ∃ (kq : Nat) (x63_34 : Bool), v63 = .bool x63_34 ∧ Aside0 (laws_FnExactCheckTable.j0 kq x63_34 a0_0 a0_1 l0_2 l1_0 t553 t554 t557 t571 t572 t575 = some r) ∧ Aside0 (kq ≤ k) ∧ Aside0 (Kd.R (Kd.int .i64) 3 wc w.heap.size (fun k_ => some k_ ≠ ((.slice Ao54 t557.length co54) : Value).ownBlock ∧ some k_ ≠ ((.slice Ao64 t563.length co64) : Value).ownBlock ∧ some k_ ≠ ((.slice Ao69 t567.length co69) : Value).ownBlock ∧ some k_ ≠ ((.slice Ao84 t572.length co84) : Value).ownBlock ∧ some k_ ≠ ((.slice Ao85 t575.length co85) : Value).ownBlock) (.slice Ao52 t554.length co52) t554) ∧ Aside0 (Kd.R (Kd.int .i64) 3 wc w.heap.size (fun k_ => some k_ ≠ ((.slice Ao52 t554.length co52) : Value).ownBlock ∧ some k_ ≠ ((.slice Ao64 t563.length co64) : Value).ownBlock ∧ some k_ ≠ ((.slice Ao69 t567.length co69) : Value).ownBlock ∧ some k_ ≠ ((.slice Ao84 t572.length co84) : Value).ownBlock ∧ some k_ ≠ ((.slice Ao85 t575.length co85) : Value).ownBlock) (.slice Ao54 t557.length co54) t557) ∧ Aside0 (Kd.R (Kd.int .i64) 3 wc w.heap.size (fun k_ => some k_ ≠ ((.slice Ao52 t554.length co52) : Value).ownBlock ∧ some k_ ≠ ((.slice Ao54 t557.length co54) : Value).ownBlock ∧ some k_ ≠ ((.slice Ao69 t567.length co69) : Value).ownBlock ∧ some k_ ≠ ((.slice Ao84 t572.length co84) : Value).ownBlock ∧ some k_ ≠ ((.slice Ao85 t575.length co85) : Value).ownBlock) (.slice Ao64 t563.length co64) t591) ∧ Aside0 (Kd.R (Kd.int .i64) 3 wc w.heap.size (fun k_ => some k_ ≠ ((.slice Ao52 t554.length co52) : Value).ownBlock ∧ some k_ ≠ ((.slice Ao54 t557.length co54) : Value).ownBlock ∧ some k_ ≠ ((.slice Ao64 t563.length co64) : Value).ownBlock ∧ some k_ ≠ ((.slice Ao84 t572.length co84) : Value).ownBlock ∧ some k_ ≠ ((.slice Ao85 t575.length co85) : Value).ownBlock) (.slice Ao69 t567.length co69) t593) ∧ Aside0 (Kd.R (Kd.int .i64) 3 wc w.heap.size (fun k_ => some k_ ≠ ((.slice Ao52 t554.length co52) : Value).ownBlock ∧ some k_ ≠ ((.slice Ao54 t557.length co54) : Value).ownBlock ∧ some k_ ≠ ((.slice Ao64 t563.length co64) : Value).ownBlock ∧ some k_ ≠ ((.slice Ao69 t567.length co69) : Value).ownBlock ∧ some k_ ≠ ((.slice Ao85 t575.length co85) : Value).ownBlock) (.slice Ao84 t572.length co84) t572) ∧ Aside0 (Kd.R (Kd.int .i64) 3 wc w.heap.size (fun k_ => some k_ ≠ ((.slice Ao52 t554.length co52) : Value).ownBlock ∧ some k_ ≠ ((.slice Ao54 t557.length co54) : Value).ownBlock ∧ some k_ ≠ ((.slice Ao64 t563.length co64) : Value).ownBlock ∧ some k_ ≠ ((.slice Ao69 t567.length co69) : Value).ownBlock ∧ some k_ ≠ ((.slice Ao84 t572.length co84) : Value).ownBlock) (.slice Ao85 t575.length co85) t575) ∧ Aside0 (wc.heap[gb541]? = some (.cells #[.int .i64 a0_0, .int .i64 a0_1, (.slice A0_2 l0_2.length c0_2)] 34 (0, 0))) ∧ Aside0 (wc.heap[gb542]? = some (.cells #[(.slice A1_0 l1_0.length c1_0)] 36 (0, 0))) ∧ Aside0 (wc.heap[gb560]? = some (.cells #[.int .i64 t553, (.slice Ao52 t554.length co52), (.slice Ao54 t557.length co54)] 40 (0, 0))) ∧ Aside0 (wc.heap[gb566]? = some (.cells #[.int .i64 t561, .int .i64 t562, (.slice Ao64 t563.length co64)] 44 (0, 0))) ∧ Aside0 (wc.heap[gb570]? = some (.cells #[(.slice Ao69 t567.length co69)] 46 (0, 0))) ∧ Aside0 (wc.heap[gb578]? = some (.cells #[.int .i64 t571, (.slice Ao84 t572.length co84), (.slice Ao85 t575.length co85)] 40 (0, 0))) ∧ Aside0 (Below w.heap.size w wc))
    case first =>
     have H := HC35.out
     clear HC35
     by_cases c100 : t592 < 0
     ·rw [if_pos c100] at H
      have c100b0 : decide (t592 < 0) = true := decide_eq_true c100
      clear c100
      (first | rw [c100b0] | (simp only [i64_w, i32_w]; rw [c100b0]) | skip)
      have H' := Aside0.mk H
      clear H
      go_wp2
      go_meet
      case rel => exact ⟨_, (true), ef_, H', ⟨kq_⟩, ⟨by (with_reducible repeat (first | apply Kd.R_alloc | apply Kd.R_drewN | apply Kd.R_drew)); exact Kd.R_mono HO556.out (fun _ hk => ⟨hk.2.2.1, ⟨hk.2.2.2.1, ⟨hk.2.2.2.2.1, ⟨hk.2.2.2.2.2.1, hk.2.2.2.2.2.2.1⟩⟩⟩⟩)⟩, ⟨by (with_reducible repeat (first | apply Kd.R_alloc | apply Kd.R_drewN | apply Kd.R_drew)); exact Kd.R_mono HO559.out (fun _ hk => ⟨hk.2.2.1, ⟨hk.2.2.2.1, ⟨hk.2.2.2.2.1, ⟨hk.2.2.2.2.2.1, hk.2.2.2.2.2.2.1⟩⟩⟩⟩)⟩, ⟨by (with_reducible repeat (first | apply Kd.R_alloc | apply Kd.R_drewN | apply Kd.R_drew)); exact Kd.R_mono HO565.out (fun _ hk => ⟨hk.2.2.1, ⟨hk.2.2.2.1, ⟨hk.2.2.2.2.1, ⟨hk.2.2.2.2.2.1, hk.2.2.2.2.2.2.1⟩⟩⟩⟩)⟩, ⟨by (with_reducible repeat (first | apply Kd.R_alloc | apply Kd.R_drewN | apply Kd.R_drew)); exact Kd.R_mono HO569.out (fun _ hk => ⟨hk.2.2.1, ⟨hk.2.2.2.1, ⟨hk.2.2.2.2.1, ⟨hk.2.2.2.2.2.1, hk.2.2.2.2.2.2.1⟩⟩⟩⟩)⟩, ⟨by (with_reducible repeat (first | apply Kd.R_alloc | apply Kd.R_drewN | apply Kd.R_drew)); exact Kd.R_mono HO574.out (fun _ hk => ⟨hk.2.2.1, ⟨hk.2.2.2.1, ⟨hk.2.2.2.2.1, ⟨hk.2.2.2.2.2.1, hk.2.2.2.2.2.2.1⟩⟩⟩⟩)⟩, ⟨by (with_reducible repeat (first | apply Kd.R_alloc | apply Kd.R_drewN | apply Kd.R_drew)); exact Kd.R_mono HO577.out (fun _ hk => ⟨hk.2.2.1, ⟨hk.2.2.2.1, ⟨hk.2.2.2.2.1, ⟨hk.2.2.2.2.2.1, hk.2.2.2.2.2.2.1⟩⟩⟩⟩)⟩, ⟨bq_ BK541.out⟩, ⟨bq_ BK542.out⟩, ⟨bq_ BK560.out⟩, ⟨bq_ BK566.out⟩, ⟨bq_ BK570.out⟩, ⟨bq_ BK578.out⟩, ⟨bb_ HB.out⟩⟩
     rw [if_neg c100] at H
     have c100b0 : decide (t592 < 0) = false := decide_eq_false c100
     clear c100
     (first | rw [c100b0] | (simp only [i64_w, i32_w]; rw [c100b0]) | skip)
     obtain ⟨t594, A101, H⟩ := bi_ H
     have H' := Aside0.mk H
     clear H
     have hnb102 := NB578_541.out
     have hnc102 := NB541_578.out
     have hnb103 := NB578_542.out
     have hnc103 := NB542_578.out
     have hnb104 := NB578_560.out
     have hnc104 := NB560_578.out
     have hnb105 := NB578_566.out
     have hnc105 := NB566_578.out
     have hnb106 := NB578_570.out
     have hnc106 := NB570_578.out
     obtain ⟨hcz107_0, hcz107_1, hcz107_2, hfz107_0, hfz107_1, hfz107_2⟩ := cz3_ BK578.out
     have hnb108 := NB560_541.out
     have hnc108 := NB541_560.out
     have hnb109 := NB560_542.out
     have hnc109 := NB542_560.out
     have hnb110 := NB560_566.out
     have hnc110 := NB566_560.out
     have hnb111 := NB560_570.out
     have hnc111 := NB570_560.out
     obtain ⟨hcz112_0, hcz112_1, hcz112_2, hfz112_0, hfz112_1, hfz112_2⟩ := cz3_ BK560.out
     go_wp2_with (first | (go_at_call 28; (with_reducible refine (laws_eqVerdict.calls k t571 _ _ t572 _ _ t575 t553 _ _ t554 _ _ t557 t594 _ ?side1 ?side2 ?side3 ?side4 ?side5 ?side6 ?side7 ?side8 A101.out).mono ?_); (case side1 => exact rr_ HO574); (case side2 => exact (Kd.R_reads' HO574.out).2.1); (case side3 => exact rr_ HO577); (case side4 => exact (Kd.R_reads' HO577.out).2.1); (case side5 => exact rr_ HO556); (case side6 => exact (Kd.R_reads' HO556.out).2.1); (case side7 => exact rr_ HO559); (case side8 => exact (Kd.R_reads' HO559.out).2.1); rintro e w113 ⟨rfl, hb⟩; replace HO549 := rb_ HO549 hb; replace HO552 := rb_ HO552 hb; replace HO556 := rb_ HO556 hb; replace HO559 := rb_ HO559 hb; replace HO565 := rb_ HO565 hb; replace HO569 := rb_ HO569 hb; replace HO574 := rb_ HO574 hb; replace HO577 := rb_ HO577 hb; replace HO584 := rb_ HO584 hb; replace HO588 := rb_ HO588 hb; replace BK541 := kb_ BK541 hb; replace BK542 := kb_ BK542 hb; replace BK560 := kb_ BK560 hb; replace BK566 := kb_ BK566 hb; replace BK570 := kb_ BK570 hb; replace BK578 := kb_ BK578 hb; replace HB := hs_ HB hb; (try clear hb)))
     go_meet
     case rel => exact ⟨_, (!t594), ef_, H', ⟨kq_⟩, ⟨by (with_reducible repeat (first | apply Kd.R_alloc | apply Kd.R_drewN | apply Kd.R_drew)); exact Kd.R_mono HO556.out (fun _ hk => ⟨hk.2.2.1, ⟨hk.2.2.2.1, ⟨hk.2.2.2.2.1, ⟨hk.2.2.2.2.2.1, hk.2.2.2.2.2.2.1⟩⟩⟩⟩)⟩, ⟨by (with_reducible repeat (first | apply Kd.R_alloc | apply Kd.R_drewN | apply Kd.R_drew)); exact Kd.R_mono HO559.out (fun _ hk => ⟨hk.2.2.1, ⟨hk.2.2.2.1, ⟨hk.2.2.2.2.1, ⟨hk.2.2.2.2.2.1, hk.2.2.2.2.2.2.1⟩⟩⟩⟩)⟩, ⟨by (with_reducible repeat (first | apply Kd.R_alloc | apply Kd.R_drewN | apply Kd.R_drew)); exact Kd.R_mono HO565.out (fun _ hk => ⟨hk.2.2.1, ⟨hk.2.2.2.1, ⟨hk.2.2.2.2.1, ⟨hk.2.2.2.2.2.1, hk.2.2.2.2.2.2.1⟩⟩⟩⟩)⟩, ⟨by (with_reducible repeat (first | apply Kd.R_alloc | apply Kd.R_drewN | apply Kd.R_drew)); exact Kd.R_mono HO569.out (fun _ hk => ⟨hk.2.2.1, ⟨hk.2.2.2.1, ⟨hk.2.2.2.2.1, ⟨hk.2.2.2.2.2.1, hk.2.2.2.2.2.2.1⟩⟩⟩⟩)⟩, ⟨by (with_reducible repeat (first | apply Kd.R_alloc | apply Kd.R_drewN | apply Kd.R_drew)); exact Kd.R_mono HO574.out (fun _ hk => ⟨hk.2.2.1, ⟨hk.2.2.2.1, ⟨hk.2.2.2.2.1, ⟨hk.2.2.2.2.2.1, hk.2.2.2.2.2.2.1⟩⟩⟩⟩)⟩, ⟨by (with_reducible repeat (first | apply Kd.R_alloc | apply Kd.R_drewN | apply Kd.R_drew)); exact Kd.R_mono HO577.out (fun _ hk => ⟨hk.2.2.1, ⟨hk.2.2.2.1, ⟨hk.2.2.2.2.1, ⟨hk.2.2.2.2.2.1, hk.2.2.2.2.2.2.1⟩⟩⟩⟩)⟩, ⟨bq_ BK541.out⟩, ⟨bq_ BK542.out⟩, ⟨bq_ BK560.out⟩, ⟨bq_ BK566.out⟩, ⟨bq_ BK570.out⟩, ⟨bq_ BK578.out⟩, ⟨bb_ HB.out⟩⟩
    case rest =>
     clear HC35
     try clear c11
     try clear c26
     try clear c29
     try clear c32
     try clear hcz57_0 hcz57_1 hcz57_2 hfz57_0 hfz57_1 hfz57_2
     try clear hcz63_0 hcz63_1 hcz63_2 hfz63_0 hfz63_1 hfz63_2
     try clear hcz66_0 hfz66_0
     try clear hcz74_0 hfz74_0
     try clear hcz75_0 hcz75_1 hcz75_2 hfz75_0 hfz75_1 hfz75_2
     try clear hcz83_0 hcz83_1 hcz83_2 hfz83_0 hfz83_1 hfz83_2
     try clear hcz86_0 hcz86_1 hcz86_2 hfz86_0 hfz86_1 hfz86_2
     try clear hcz96_0 hcz96_1 hcz96_2 hfz96_0 hfz96_1 hfz96_2
     try clear hcz98_0 hfz98_0
     obtain ⟨kq, x63_34, rfl, HA, HJ34, HO_561001, HO_561002, HO_567002, HO_571000, HO_579001, HO_579002, BK541, BK542, BK560, BK566, BK570, BK578, HB⟩ := hcut
     have hl567002_34 := (Kd.R_reads' HO_567002.out).1
     rw [hl567002_34] at HO_567002
     (try simp only [hl567002_34])
     (try simp only [hl567002_34] at BK541)
     (try simp only [hl567002_34] at BK542)
     (try simp only [hl567002_34] at BK560)
     (try simp only [hl567002_34] at BK566)
     (try simp only [hl567002_34] at BK570)
     (try simp only [hl567002_34] at BK578)
     (try simp only [hl567002_34] at HO_561001)
     (try simp only [hl567002_34] at HO_561002)
     (try simp only [hl567002_34] at HO_571000)
     (try simp only [hl567002_34] at HO_579001)
     (try simp only [hl567002_34] at HO_579002)
     have hl571000_34 := (Kd.R_reads' HO_571000.out).1
     rw [hl571000_34] at HO_571000
     (try simp only [hl571000_34])
     (try simp only [hl571000_34] at BK541)
     (try simp only [hl571000_34] at BK542)
     (try simp only [hl571000_34] at BK560)
     (try simp only [hl571000_34] at BK566)
     (try simp only [hl571000_34] at BK570)
     (try simp only [hl571000_34] at BK578)
     (try simp only [hl571000_34] at HO_561001)
     (try simp only [hl571000_34] at HO_561002)
     (try simp only [hl571000_34] at HO_567002)
     (try simp only [hl571000_34] at HO_579001)
     (try simp only [hl571000_34] at HO_579002)
     cases kq with
     | zero => exact absurd HA.out (by simp [laws_FnExactCheckTable.j0])
     | succ kj34 =>
      have H := HA.out
      clear HA
      simp only [laws_FnExactCheckTable.j0] at H
      by_cases c114 : x63_34 = true
      ·subst c114
       rw [if_pos rfl] at H
       exact absurd H (by simp)
      replace c114 := Bool.eq_false_iff.mpr c114
      subst c114
      rw [if_neg (show ¬ (false = true) by decide)] at H
      obtain ⟨⟨t595, t596, t597⟩, A115, H⟩ := bi_ H
      try dsimp only at H
      obtain ⟨t598, A116, H⟩ := bi_ H
      by_cases c117 : t598 < 0
      ·rw [if_pos c117] at H
       exact absurd H (by simp)
      rw [if_neg c117] at H
      have c117b0 : decide (t598 < 0) = false := decide_eq_false c117
      clear c117
      by_cases c118 : t598 = t595
      rotate_left
      ·rw [if_neg c118] at H
       exact absurd H (by simp)
      rw [if_pos c118] at H
      have c118b0 : (t598 == t595) = true := beq_iff_eq.mpr c118
      have c118b1 : (t598 != t595) = false := bne_eq_false_iff_eq.mpr c118
      clear c118
      obtain ⟨⟨t599, t600, t601⟩, A119, H⟩ := bi_ H
      try dsimp only at H
      obtain ⟨t604, A120, H⟩ := bi_ H
      obtain ⟨⟨t607, t608, t611⟩, A121, H⟩ := bi_ H
      try dsimp only at H
      obtain ⟨t615, A122, H⟩ := bi_ H
      by_cases c123 : t615 = true
      rotate_left
      ·replace c123 := Bool.eq_false_iff.mpr c123
       subst c123
       rw [if_neg (show ¬ (false = true) by decide)] at H
       exact absurd H (by simp)
      subst c123
      rw [if_pos rfl] at H
      obtain ⟨t616, A124, H⟩ := bi_ H
      by_cases c125 : t616 < 0
      ·rw [if_pos c125] at H
       exact absurd H (by simp)
      rw [if_neg c125] at H
      have c125b0 : decide (t616 < 0) = false := decide_eq_false c125
      clear c125
      by_cases c126 : t616 = t595
      rotate_left
      ·rw [if_neg c126] at H
       exact absurd H (by simp)
      rw [if_pos c126] at H
      have c126b0 : (t616 == t595) = true := beq_iff_eq.mpr c126
      have c126b1 : (t616 != t595) = false := bne_eq_false_iff_eq.mpr c126
      clear c126
      obtain rfl := Option.some.inj H
      have hnb127 := NB578_541.out
      have hnc127 := NB541_578.out
      have hnb128 := NB578_542.out
      have hnc128 := NB542_578.out
      have hnb129 := NB578_560.out
      have hnc129 := NB560_578.out
      have hnb130 := NB578_566.out
      have hnc130 := NB566_578.out
      have hnb131 := NB578_570.out
      have hnc131 := NB570_578.out
      obtain ⟨hcz132_0, hcz132_1, hcz132_2, hfz132_0, hfz132_1, hfz132_2⟩ := cz3_ BK578.out
      try go_wp2_with (first | (go_at_call 33; (with_reducible refine (laws_markVerdict.calls kj34 t571 (fun k_ => some k_ = (.slice Ao84 t572.length co84 : Value).ownBlock) (.slice Ao84 t572.length co84) t572 (fun k_ => some k_ = (.slice Ao85 t575.length co85 : Value).ownBlock) (.slice Ao85 t575.length co85) t575 1 t595 t596 t597 w _ ?side1 ?side2 ?side3 ?side4 ?side5 A115.out).mono ?_); (case side1 => repeat (first | (with_reducible first | exact HB.out | apply below_alloc | apply pw_below_drewN | apply below_drew1 | refine below_set ?_ GW541.out | refine below_set ?_ GW542.out | refine below_set ?_ GE560.out | refine below_set ?_ GW566.out | refine below_set ?_ GW570.out | refine below_set ?_ GW578.out) | exact HB.out)); (case side2 => exact Kd.R_tight rfl HO_579001.out); (case side3 => exact fun k_ e_ => (HO_579001.out.1 k_ e_.symm).2.2.2.2); (case side4 => exact Kd.R_tight rfl HO_579002.out); (case side5 => exact fun k_ e_ => (HO_579002.out.1 k_ e_.symm).2.2.2.2); rintro e w133 ⟨rfl, hy0, hy1, hb, hkp⟩; replace HO_561001 := Aside0.mk (Kd.R_mono (ok' := fun k_ => some k_ ≠ (.slice Ao54 t557.length co54 : Value).ownBlock ∧ some k_ ≠ (.slice Ao64 t591.length co64 : Value).ownBlock ∧ some k_ ≠ (.slice Ao69 t593.length co69 : Value).ownBlock ∧ some k_ ≠ (.slice Ao84 t572.length co84 : Value).ownBlock ∧ some k_ ≠ (.slice Ao85 t575.length co85 : Value).ownBlock) (Kd.R_keptB (HO_561001.out) hkp (fun k_ hk_ hs_ => Or.elim hs_ (fun e_ => (hk_.2.2.2.1) e_) (fun e_ => (hk_.2.2.2.2) e_))) (fun k_ hk_ => ⟨hk_.1.1, hk_.1.2.1, hk_.1.2.2.1, hk_.1.2.2.2.1, hk_.1.2.2.2.2⟩)); replace HO_561002 := Aside0.mk (Kd.R_mono (ok' := fun k_ => some k_ ≠ (.slice Ao52 t554.length co52 : Value).ownBlock ∧ some k_ ≠ (.slice Ao64 t591.length co64 : Value).ownBlock ∧ some k_ ≠ (.slice Ao69 t593.length co69 : Value).ownBlock ∧ some k_ ≠ (.slice Ao84 t572.length co84 : Value).ownBlock ∧ some k_ ≠ (.slice Ao85 t575.length co85 : Value).ownBlock) (Kd.R_keptB (HO_561002.out) hkp (fun k_ hk_ hs_ => Or.elim hs_ (fun e_ => (hk_.2.2.2.1) e_) (fun e_ => (hk_.2.2.2.2) e_))) (fun k_ hk_ => ⟨hk_.1.1, hk_.1.2.1, hk_.1.2.2.1, hk_.1.2.2.2.1, hk_.1.2.2.2.2⟩)); replace HO_567002 := Aside0.mk (Kd.R_mono (ok' := fun k_ => some k_ ≠ (.slice Ao52 t554.length co52 : Value).ownBlock ∧ some k_ ≠ (.slice Ao54 t557.length co54 : Value).ownBlock ∧ some k_ ≠ (.slice Ao69 t593.length co69 : Value).ownBlock ∧ some k_ ≠ (.slice Ao84 t572.length co84 : Value).ownBlock ∧ some k_ ≠ (.slice Ao85 t575.length co85 : Value).ownBlock) (Kd.R_keptB (HO_567002.out) hkp (fun k_ hk_ hs_ => Or.elim hs_ (fun e_ => (hk_.2.2.2.1) e_) (fun e_ => (hk_.2.2.2.2) e_))) (fun k_ hk_ => ⟨hk_.1.1, hk_.1.2.1, hk_.1.2.2.1, hk_.1.2.2.2.1, hk_.1.2.2.2.2⟩)); replace HO_571000 := Aside0.mk (Kd.R_mono (ok' := fun k_ => some k_ ≠ (.slice Ao52 t554.length co52 : Value).ownBlock ∧ some k_ ≠ (.slice Ao54 t557.length co54 : Value).ownBlock ∧ some k_ ≠ (.slice Ao64 t591.length co64 : Value).ownBlock ∧ some k_ ≠ (.slice Ao84 t572.length co84 : Value).ownBlock ∧ some k_ ≠ (.slice Ao85 t575.length co85 : Value).ownBlock) (Kd.R_keptB (HO_571000.out) hkp (fun k_ hk_ hs_ => Or.elim hs_ (fun e_ => (hk_.2.2.2.1) e_) (fun e_ => (hk_.2.2.2.2) e_))) (fun k_ hk_ => ⟨hk_.1.1, hk_.1.2.1, hk_.1.2.2.1, hk_.1.2.2.2.1, hk_.1.2.2.2.2⟩)); replace BK541 := Aside0.mk (blk_kept (by (with_reducible repeat (first | refine blk_drewN ?_ _ | refine blk_drew ?_ | refine blk_alloc ?_ _)); exact BK541.out) hkp (fun hs_ => Or.elim hs_ (fun e_ => (fun e_ => (Kd.R_ne HO_579001.out BK541.out (by decide)) e_) e_) (fun e_ => (fun e_ => (Kd.R_ne HO_579002.out BK541.out (by decide)) e_) e_))); replace BK542 := Aside0.mk (blk_kept (by (with_reducible repeat (first | refine blk_drewN ?_ _ | refine blk_drew ?_ | refine blk_alloc ?_ _)); exact BK542.out) hkp (fun hs_ => Or.elim hs_ (fun e_ => (fun e_ => (Kd.R_ne HO_579001.out BK542.out (by decide)) e_) e_) (fun e_ => (fun e_ => (Kd.R_ne HO_579002.out BK542.out (by decide)) e_) e_))); replace BK560 := Aside0.mk (blk_kept (by (with_reducible repeat (first | refine blk_drewN ?_ _ | refine blk_drew ?_ | refine blk_alloc ?_ _)); exact BK560.out) hkp (fun hs_ => Or.elim hs_ (fun e_ => (fun e_ => (Kd.R_ne HO_579001.out BK560.out (by decide)) e_) e_) (fun e_ => (fun e_ => (Kd.R_ne HO_579002.out BK560.out (by decide)) e_) e_))); replace BK566 := Aside0.mk (blk_kept (by (with_reducible repeat (first | refine blk_drewN ?_ _ | refine blk_drew ?_ | refine blk_alloc ?_ _)); exact BK566.out) hkp (fun hs_ => Or.elim hs_ (fun e_ => (fun e_ => (Kd.R_ne HO_579001.out BK566.out (by decide)) e_) e_) (fun e_ => (fun e_ => (Kd.R_ne HO_579002.out BK566.out (by decide)) e_) e_))); replace BK570 := Aside0.mk (blk_kept (by (with_reducible repeat (first | refine blk_drewN ?_ _ | refine blk_drew ?_ | refine blk_alloc ?_ _)); exact BK570.out) hkp (fun hs_ => Or.elim hs_ (fun e_ => (fun e_ => (Kd.R_ne HO_579001.out BK570.out (by decide)) e_) e_) (fun e_ => (fun e_ => (Kd.R_ne HO_579002.out BK570.out (by decide)) e_) e_))); replace BK578 := Aside0.mk (blk_kept (by (with_reducible repeat (first | refine blk_drewN ?_ _ | refine blk_drew ?_ | refine blk_alloc ?_ _)); exact BK578.out) hkp (fun hs_ => Or.elim hs_ (fun e_ => (fun e_ => (Kd.R_ne HO_579001.out BK578.out (by decide)) e_) e_) (fun e_ => (fun e_ => (Kd.R_ne HO_579002.out BK578.out (by decide)) e_) e_))); replace HO_579001 := Aside0.mk (Kd.R_reok rfl hy0 (fun k_ e_ => HO_579001.out.1 k_ e_)); replace HO_579002 := Aside0.mk (Kd.R_reok rfl hy1 (fun k_ e_ => HO_579002.out.1 k_ e_)); replace HB := Aside0.mk (hb); (try clear hb); (try clear hkp); (try clear hy0); (try clear hy1); obtain ⟨hcz134_0, hcz134_1, hcz134_2, hfz134_0, hfz134_1, hfz134_2⟩ := cz3_ BK578.out) | ((with_reducible refine gate_callee (f := 34) rfl ?_); refine goesL_ (some 69) rfl rfl Try.func34 (by kernel_rfl) rfl #[.agg #[.int .i64 t571, .slice Ao84 t596.length co84, .slice Ao85 t597.length co85], .int .i64 1] rfl (by (try simp only [List.map_toArray, List.map_cons, List.map_nil]); first | done | (rw [show t596.length = t572.length from (Kd.R_reads' HO_579001.out).1.symm, show t597.length = t575.length from (Kd.R_reads' HO_579002.out).1.symm] <;> rfl) | rfl | (simp only [List.length_drop, List.length_take]; rfl)) ?_; (with_reducible refine (laws_heldVerdict.calls kj34 t571 _ _ t596 _ _ t597 1 t598 _ ?side1 ?side2 ?side3 ?side4 A116.out).mono ?_); (case side1 => exact rr_ HO_579001); (case side2 => rw [show t596.length = t572.length from (Kd.R_reads' HO_579001.out).1.symm]; exact (Kd.R_reads' HO_579001.out).2.1); (case side3 => exact rr_ HO_579002); (case side4 => rw [show t597.length = t575.length from (Kd.R_reads' HO_579002.out).1.symm]; exact (Kd.R_reads' HO_579002.out).2.1); rintro e w135 ⟨rfl, hb⟩; refine ⟨_, rfl, ?_⟩; replace HO_561001 := rb_ HO_561001 hb; replace HO_561002 := rb_ HO_561002 hb; replace HO_567002 := rb_ HO_567002 hb; replace HO_571000 := rb_ HO_571000 hb; replace HO_579001 := rb_ HO_579001 hb; replace HO_579002 := rb_ HO_579002 hb; replace BK541 := kb_ BK541 hb; replace BK542 := kb_ BK542 hb; replace BK560 := kb_ BK560 hb; replace BK566 := kb_ BK566 hb; replace BK570 := kb_ BK570 hb; replace BK578 := kb_ BK578 hb; replace HB := hs_ HB hb; (try clear hb)))
      replace HO_561001 := Aside0.mk (Kd.R_drew HO_561001.out)
      replace HO_561002 := Aside0.mk (Kd.R_drew HO_561002.out)
      replace HO_567002 := Aside0.mk (Kd.R_drew HO_567002.out)
      replace HO_571000 := Aside0.mk (Kd.R_drew HO_571000.out)
      replace HO_579001 := Aside0.mk (Kd.R_drew HO_579001.out)
      replace HO_579002 := Aside0.mk (Kd.R_drew HO_579002.out)
      replace BK541 := Aside0.mk (blk_drew BK541.out)
      replace BK542 := Aside0.mk (blk_drew BK542.out)
      replace BK560 := Aside0.mk (blk_drew BK560.out)
      replace BK566 := Aside0.mk (blk_drew BK566.out)
      replace BK570 := Aside0.mk (blk_drew BK570.out)
      replace BK578 := Aside0.mk (blk_drew BK578.out)
      replace HB := Aside0.mk (below_drew1 HB.out)
      refine start_ (n := 7) (S := fun w' => w'.cell? ⟨gb541, 0, none⟩ = some (.int .i64 a0_0) ∧ w'.cell? ⟨gb541, 1, none⟩ = some (.int .i64 a0_1) ∧ w'.cell? ⟨gb541, 2, none⟩ = some (.slice A0_2 l0_2.length c0_2) ∧ w'.cell? ⟨gb542, 0, none⟩ = some (.slice A1_0 l1_0.length c1_0)) (ds := []) #[false, false, false, false, false, false, false] (by kernel_rfl) rfl rfl ⟨(blk_cell BK541.out 0).trans rfl, (blk_cell BK541.out 1).trans rfl, (blk_cell BK541.out 2).trans rfl, (blk_cell BK542.out 0).trans rfl⟩ (fun hHeld => ?_)
      generalize w135.drew = w136 at HO_561001 HO_561002 HO_567002 HO_571000 HO_579001 HO_579002 BK541 BK542 BK560 BK566 BK570 BK578 HB hHeld ⊢
      refine take_ (i := 0) (N := some 75) (v := ?_) (a' := ?_) (bt_ 7 1) rfl rfl (by kernel_rfl) (fun _ _ _ h => h) (Or.inl ⟨by rfl, ?_⟩) hHeld ?_ ?_
      rotate_left
      ·rintro w' ⟨s0, s1, s2, s3⟩
       go_simp
       with_reducible rfl
      rotate_left
      ·simp only [Act.put, List.setIfInBounds_toArray, List.set_cons_zero, List.set_cons_succ, i64_w, i32_w]
       rfl
      refine take_ (i := 2) (N := some 77) (v := ?_) (a' := ?_) (bt_ 7 5) rfl rfl (by kernel_rfl) (fun _ _ _ h => h) (Or.inl ⟨by rfl, ?_⟩) hHeld ?_ ?_
      rotate_left
      ·rintro w' ⟨s0, s1, s2, s3⟩
       go_simp
       with_reducible rfl
      rotate_left
      ·simp only [Act.put, List.setIfInBounds_toArray, List.set_cons_zero, List.set_cons_succ, i64_w, i32_w]
       rfl
      refine join_ (σ := Value × Value × Value × Value × Nat) 1 #[true, true, true, true, true, true, false] (fun s_ => [(76, .agg #[.int .i64 t599, .int .i64 t600, s_.1]), (78, .agg #[s_.2.1]), (79, .agg #[.int .i64 t607, s_.2.2.1, s_.2.2.2.1]), (13, .pointer (some ⟨s_.2.2.2.2, 0, none⟩))]) (fun s_ w' => (w'.cell? ⟨gb541, 0, none⟩ = some (.int .i64 a0_0) ∧ w'.cell? ⟨gb541, 1, none⟩ = some (.int .i64 a0_1) ∧ w'.cell? ⟨gb541, 2, none⟩ = some (.slice A0_2 l0_2.length c0_2) ∧ w'.cell? ⟨gb542, 0, none⟩ = some (.slice A1_0 l1_0.length c1_0)) ∧ (Kd.R (Kd.int .i64) 3 w' w.heap.size (fun k_ => some k_ ≠ (s_.2.1 : Value).ownBlock ∧ some k_ ≠ (s_.2.2.1 : Value).ownBlock ∧ some k_ ≠ (s_.2.2.2.1 : Value).ownBlock ∧ some k_ ≠ (.slice Ao52 t554.length co52 : Value).ownBlock ∧ some k_ ≠ (.slice Ao54 t557.length co54 : Value).ownBlock ∧ some k_ ≠ (.slice Ao64 t591.length co64 : Value).ownBlock ∧ some k_ ≠ (.slice Ao69 t593.length co69 : Value).ownBlock ∧ some k_ ≠ (.slice Ao84 t572.length co84 : Value).ownBlock ∧ some k_ ≠ (.slice Ao85 t575.length co85 : Value).ownBlock) s_.1 t601) ∧ (Kd.R (Kd.int .i64) 3 w' w.heap.size (fun k_ => some k_ ≠ (s_.1 : Value).ownBlock ∧ some k_ ≠ (s_.2.2.1 : Value).ownBlock ∧ some k_ ≠ (s_.2.2.2.1 : Value).ownBlock ∧ some k_ ≠ (.slice Ao52 t554.length co52 : Value).ownBlock ∧ some k_ ≠ (.slice Ao54 t557.length co54 : Value).ownBlock ∧ some k_ ≠ (.slice Ao64 t591.length co64 : Value).ownBlock ∧ some k_ ≠ (.slice Ao69 t593.length co69 : Value).ownBlock ∧ some k_ ≠ (.slice Ao84 t572.length co84 : Value).ownBlock ∧ some k_ ≠ (.slice Ao85 t575.length co85 : Value).ownBlock) s_.2.1 t604) ∧ (Kd.R (Kd.int .i64) 3 w' w.heap.size (fun k_ => some k_ ≠ (s_.1 : Value).ownBlock ∧ some k_ ≠ (s_.2.1 : Value).ownBlock ∧ some k_ ≠ (s_.2.2.2.1 : Value).ownBlock ∧ some k_ ≠ (.slice Ao52 t554.length co52 : Value).ownBlock ∧ some k_ ≠ (.slice Ao54 t557.length co54 : Value).ownBlock ∧ some k_ ≠ (.slice Ao64 t591.length co64 : Value).ownBlock ∧ some k_ ≠ (.slice Ao69 t593.length co69 : Value).ownBlock ∧ some k_ ≠ (.slice Ao84 t572.length co84 : Value).ownBlock ∧ some k_ ≠ (.slice Ao85 t575.length co85 : Value).ownBlock) s_.2.2.1 t608) ∧ (Kd.R (Kd.int .i64) 3 w' w.heap.size (fun k_ => some k_ ≠ (s_.1 : Value).ownBlock ∧ some k_ ≠ (s_.2.1 : Value).ownBlock ∧ some k_ ≠ (s_.2.2.1 : Value).ownBlock ∧ some k_ ≠ (.slice Ao52 t554.length co52 : Value).ownBlock ∧ some k_ ≠ (.slice Ao54 t557.length co54 : Value).ownBlock ∧ some k_ ≠ (.slice Ao64 t591.length co64 : Value).ownBlock ∧ some k_ ≠ (.slice Ao69 t593.length co69 : Value).ownBlock ∧ some k_ ≠ (.slice Ao84 t572.length co84 : Value).ownBlock ∧ some k_ ≠ (.slice Ao85 t575.length co85 : Value).ownBlock) s_.2.2.2.1 t611) ∧ (Kd.R (Kd.int .i64) 3 w' w.heap.size (fun k_ => some k_ ≠ (s_.1 : Value).ownBlock ∧ some k_ ≠ (s_.2.1 : Value).ownBlock ∧ some k_ ≠ (s_.2.2.1 : Value).ownBlock ∧ some k_ ≠ (s_.2.2.2.1 : Value).ownBlock ∧ some k_ ≠ (.slice Ao54 t557.length co54 : Value).ownBlock ∧ some k_ ≠ (.slice Ao64 t591.length co64 : Value).ownBlock ∧ some k_ ≠ (.slice Ao69 t593.length co69 : Value).ownBlock ∧ some k_ ≠ (.slice Ao84 t572.length co84 : Value).ownBlock ∧ some k_ ≠ (.slice Ao85 t575.length co85 : Value).ownBlock) (.slice Ao52 t554.length co52) t554) ∧ (Kd.R (Kd.int .i64) 3 w' w.heap.size (fun k_ => some k_ ≠ (s_.1 : Value).ownBlock ∧ some k_ ≠ (s_.2.1 : Value).ownBlock ∧ some k_ ≠ (s_.2.2.1 : Value).ownBlock ∧ some k_ ≠ (s_.2.2.2.1 : Value).ownBlock ∧ some k_ ≠ (.slice Ao52 t554.length co52 : Value).ownBlock ∧ some k_ ≠ (.slice Ao64 t591.length co64 : Value).ownBlock ∧ some k_ ≠ (.slice Ao69 t593.length co69 : Value).ownBlock ∧ some k_ ≠ (.slice Ao84 t572.length co84 : Value).ownBlock ∧ some k_ ≠ (.slice Ao85 t575.length co85 : Value).ownBlock) (.slice Ao54 t557.length co54) t557) ∧ (Kd.R (Kd.int .i64) 3 w' w.heap.size (fun k_ => some k_ ≠ (s_.1 : Value).ownBlock ∧ some k_ ≠ (s_.2.1 : Value).ownBlock ∧ some k_ ≠ (s_.2.2.1 : Value).ownBlock ∧ some k_ ≠ (s_.2.2.2.1 : Value).ownBlock ∧ some k_ ≠ (.slice Ao52 t554.length co52 : Value).ownBlock ∧ some k_ ≠ (.slice Ao54 t557.length co54 : Value).ownBlock ∧ some k_ ≠ (.slice Ao69 t593.length co69 : Value).ownBlock ∧ some k_ ≠ (.slice Ao84 t572.length co84 : Value).ownBlock ∧ some k_ ≠ (.slice Ao85 t575.length co85 : Value).ownBlock) (.slice Ao64 t591.length co64) t591) ∧ (Kd.R (Kd.int .i64) 3 w' w.heap.size (fun k_ => some k_ ≠ (s_.1 : Value).ownBlock ∧ some k_ ≠ (s_.2.1 : Value).ownBlock ∧ some k_ ≠ (s_.2.2.1 : Value).ownBlock ∧ some k_ ≠ (s_.2.2.2.1 : Value).ownBlock ∧ some k_ ≠ (.slice Ao52 t554.length co52 : Value).ownBlock ∧ some k_ ≠ (.slice Ao54 t557.length co54 : Value).ownBlock ∧ some k_ ≠ (.slice Ao64 t591.length co64 : Value).ownBlock ∧ some k_ ≠ (.slice Ao84 t572.length co84 : Value).ownBlock ∧ some k_ ≠ (.slice Ao85 t575.length co85 : Value).ownBlock) (.slice Ao69 t593.length co69) t593) ∧ (Kd.R (Kd.int .i64) 3 w' w.heap.size (fun k_ => some k_ ≠ (s_.1 : Value).ownBlock ∧ some k_ ≠ (s_.2.1 : Value).ownBlock ∧ some k_ ≠ (s_.2.2.1 : Value).ownBlock ∧ some k_ ≠ (s_.2.2.2.1 : Value).ownBlock ∧ some k_ ≠ (.slice Ao52 t554.length co52 : Value).ownBlock ∧ some k_ ≠ (.slice Ao54 t557.length co54 : Value).ownBlock ∧ some k_ ≠ (.slice Ao64 t591.length co64 : Value).ownBlock ∧ some k_ ≠ (.slice Ao69 t593.length co69 : Value).ownBlock ∧ some k_ ≠ (.slice Ao85 t575.length co85 : Value).ownBlock) (.slice Ao84 t572.length co84) t596) ∧ (Kd.R (Kd.int .i64) 3 w' w.heap.size (fun k_ => some k_ ≠ (s_.1 : Value).ownBlock ∧ some k_ ≠ (s_.2.1 : Value).ownBlock ∧ some k_ ≠ (s_.2.2.1 : Value).ownBlock ∧ some k_ ≠ (s_.2.2.2.1 : Value).ownBlock ∧ some k_ ≠ (.slice Ao52 t554.length co52 : Value).ownBlock ∧ some k_ ≠ (.slice Ao54 t557.length co54 : Value).ownBlock ∧ some k_ ≠ (.slice Ao64 t591.length co64 : Value).ownBlock ∧ some k_ ≠ (.slice Ao69 t593.length co69 : Value).ownBlock ∧ some k_ ≠ (.slice Ao84 t572.length co84 : Value).ownBlock) (.slice Ao85 t575.length co85) t597) ∧ (w'.heap[gb541]? = some (.cells #[.int .i64 a0_0, .int .i64 a0_1, .slice A0_2 l0_2.length c0_2] 34 (0, 0))) ∧ (w'.heap[gb542]? = some (.cells #[.slice A1_0 l1_0.length c1_0] 36 (0, 0))) ∧ (w'.heap[gb560]? = some (.cells #[.int .i64 t553, .slice Ao52 t554.length co52, .slice Ao54 t557.length co54] 40 (0, 0))) ∧ (w'.heap[gb566]? = some (.cells #[.int .i64 t561, .int .i64 t562, .slice Ao64 t591.length co64] 44 (0, 0))) ∧ (w'.heap[gb570]? = some (.cells #[.slice Ao69 t593.length co69] 46 (0, 0))) ∧ (w'.heap[gb578]? = some (.cells #[.int .i64 t571, .slice Ao84 t572.length co84, .slice Ao85 t575.length co85] 40 (0, 0))) ∧ (w'.heap[s_.2.2.2.2]? = some (.cells #[.int .i64 0, .slice none 0 0, .slice none 0 0] 40 (0, 0))) ∧ (w.heap.size ≤ s_.2.2.2.2) ∧ (w.heap.size ≤ s_.2.2.2.2) ∧ (gb541 ≠ s_.2.2.2.2) ∧ (s_.2.2.2.2 ≠ gb541) ∧ (gb542 ≠ s_.2.2.2.2) ∧ (s_.2.2.2.2 ≠ gb542) ∧ (gb560 ≠ s_.2.2.2.2) ∧ (s_.2.2.2.2 ≠ gb560) ∧ (gb566 ≠ s_.2.2.2.2) ∧ (s_.2.2.2.2 ≠ gb566) ∧ (gb570 ≠ s_.2.2.2.2) ∧ (s_.2.2.2.2 ≠ gb570) ∧ (gb578 ≠ s_.2.2.2.2) ∧ (s_.2.2.2.2 ≠ gb578) ∧ (Below w.heap.size w w')) ?_ ?_
      rotate_left
      ·intro hCont
       refine two_ (i := 1) (j := 5) (Ni := some 76) (Nj := some 13) #[true, true, true, false, false, false, false] #[true, false, true, false, false, true, false] rfl rfl rfl rfl (by kernel_rfl) (by decide) (by decide) (fun K hK => ?_) (fun K hK => ?_)
       ·skip
        refine goes_ Try.func25 (by kernel_rfl) rfl #[.agg #[.int .i64 a0_0, .int .i64 a0_1, .slice A0_2 l0_2.length c0_2]] (by rfl) rfl rfl (by (try simp only [List.map_toArray, List.map_cons, List.map_nil]); first | done | rfl | (simp only [List.length_drop, List.length_take]; rfl)) ?_
        with_reducible refine (laws_toMesh.calls kj34 a0_0 a0_1 _ _ l0_2 t599 t600 t601 _ ?side1 ?side2 A119.out).mono ?_
        (case side1 => exact cb_ HR0_2.out HB.out)
        (case side2 => exact HC0_2.out)
        rintro e w137 ⟨v602, rfl, ho0, hb⟩
        refine ⟨_, rfl, ?_⟩
        have HO603 := Aside0.mk (Kd.R_lower (Kd.R_new' (Kd.R_new' (Kd.R_new' (Kd.R_new' (Kd.R_new' (Kd.R_new' ho0 (rl_ HO_561001.out)) (rl_ HO_561002.out)) (rl_ HO_567002.out)) (rl_ HO_571000.out)) (rl_ HO_579001.out)) (rl_ HO_579002.out)) (bz_ HB.out))
        replace HO_561001 := re_ HO_561001 ho0 hb
        replace HO_561002 := re_ HO_561002 ho0 hb
        replace HO_567002 := re_ HO_567002 ho0 hb
        replace HO_571000 := re_ HO_571000 ho0 hb
        replace HO_579001 := re_ HO_579001 ho0 hb
        replace HO_579002 := re_ HO_579002 ho0 hb
        replace BK541 := kb_ BK541 hb
        replace BK542 := kb_ BK542 hb
        replace BK560 := kb_ BK560 hb
        replace BK566 := kb_ BK566 hb
        replace BK570 := kb_ BK570 hb
        replace BK578 := kb_ BK578 hb
        replace HB := hs_ HB hb
        (try clear hb)
        (try clear hk)
        (try clear ho0)
        refine hK.out _ _ ⟨(blk_cell BK541.out 0).trans rfl, (blk_cell BK541.out 1).trans rfl, (blk_cell BK541.out 2).trans rfl, (blk_cell BK542.out 0).trans rfl⟩ (fun hHeld => ?_)
        clear hK K
        refine norm_ (a' := ?_) ?_ ?_
        rotate_left
        ·show Act.put _ (some 76) _ = _
         simp only [Act.put, List.setIfInBounds_toArray, List.set_cons_zero, List.set_cons_succ, i64_w, i32_w]
         rfl
        refine two_ (i := 3) (j := 5) (Ni := some 78) (Nj := some 13) #[true, true, true, true, false, false, false] #[true, true, true, false, false, true, false] rfl rfl rfl rfl (by kernel_rfl) (by decide) (by decide) (fun K hK => ?_) (fun K hK => ?_)
        ·skip
         refine goes_ Try.func26 (by kernel_rfl) rfl #[.agg #[.slice A1_0 l1_0.length c1_0]] (by rfl) rfl rfl (by (try simp only [List.map_toArray, List.map_cons, List.map_nil]); first | done | rfl | (simp only [List.length_drop, List.length_take]; rfl)) ?_
         with_reducible refine (laws_toTable.calls kj34 _ _ l1_0 t604 _ ?side1 ?side2 A120.out).mono ?_
         (case side1 => exact cb_ HR1_0.out HB.out)
         (case side2 => exact HC1_0.out)
         rintro e w138 ⟨v605, rfl, ho0, hb⟩
         refine ⟨_, rfl, ?_⟩
         have HO606 := Aside0.mk (Kd.R_lower (Kd.R_new' (Kd.R_new' (Kd.R_new' (Kd.R_new' (Kd.R_new' (Kd.R_new' (Kd.R_new' ho0 (rl_ HO_561001.out)) (rl_ HO_561002.out)) (rl_ HO_567002.out)) (rl_ HO_571000.out)) (rl_ HO_579001.out)) (rl_ HO_579002.out)) (rl_ HO603.out)) (bz_ HB.out))
         replace HO_561001 := re_ HO_561001 ho0 hb
         replace HO_561002 := re_ HO_561002 ho0 hb
         replace HO_567002 := re_ HO_567002 ho0 hb
         replace HO_571000 := re_ HO_571000 ho0 hb
         replace HO_579001 := re_ HO_579001 ho0 hb
         replace HO_579002 := re_ HO_579002 ho0 hb
         replace HO603 := re_ HO603 ho0 hb
         replace BK541 := kb_ BK541 hb
         replace BK542 := kb_ BK542 hb
         replace BK560 := kb_ BK560 hb
         replace BK566 := kb_ BK566 hb
         replace BK570 := kb_ BK570 hb
         replace BK578 := kb_ BK578 hb
         replace HB := hs_ HB hb
         (try clear hb)
         (try clear hk)
         (try clear ho0)
         obtain ⟨Ao139, co139, eo139⟩ := Kd.R_slice HO603.out
         (first | subst eo139 | (injection eo139 with f1_ f2_ f3_; have f4_ := f1_.symm; have f5_ := f3_.symm; clear f1_ f2_ f3_; subst f4_; subst f5_))
         obtain ⟨Ao140, co140, eo140⟩ := Kd.R_slice HO606.out
         (first | subst eo140 | (injection eo140 with f1_ f2_ f3_; have f4_ := f1_.symm; have f5_ := f3_.symm; clear f1_ f2_ f3_; subst f4_; subst f5_))
         refine hK.out _ _ ⟨(blk_cell BK541.out 0).trans rfl, (blk_cell BK541.out 1).trans rfl, (blk_cell BK541.out 2).trans rfl, (blk_cell BK542.out 0).trans rfl⟩ (fun hHeld => ?_)
         clear hK K
         refine norm_ (a' := ?_) ?_ ?_
         rotate_left
         ·show Act.put _ (some 78) _ = _
          simp only [Act.put, List.setIfInBounds_toArray, List.set_cons_zero, List.set_cons_succ, i64_w, i32_w]
          rfl
         refine two_ (i := 4) (j := 5) (Ni := some 79) (Nj := some 13) #[true, true, true, true, true, false, false] #[true, true, true, true, false, true, false] rfl rfl rfl rfl (by kernel_rfl) (by decide) (by decide) (fun K hK => ?_) (fun K hK => ?_)
         ·skip
          refine goes_ Try.func27 (by kernel_rfl) rfl #[.agg #[.int .i64 t599, .int .i64 t600, .slice Ao139 t601.length co139], .agg #[.slice Ao140 t604.length co140]] (by rfl) rfl rfl (by (try simp only [List.map_toArray, List.map_cons, List.map_nil]); first | done | rfl | (simp only [List.length_drop, List.length_take]; rfl)) ?_
          with_reducible refine (impl_CheckTable.calls kj34 t599 t600 _ _ t601 _ _ t604 t607 t608 t611 _ ?side1 ?side2 ?side3 ?side4 A121.out).mono ?_
          (case side1 => exact rr_ HO603)
          (case side2 => exact (Kd.R_reads' HO603.out).2.1)
          (case side3 => exact rr_ HO606)
          (case side4 => exact (Kd.R_reads' HO606.out).2.1)
          rintro e w141 ⟨v609, v612, rfl, ho0, ho1, hb⟩
          refine ⟨_, rfl, ?_⟩
          have HO610 := Aside0.mk (Kd.R_lower (Kd.R_new' (Kd.R_new' (Kd.R_new' (Kd.R_new' (Kd.R_new' (Kd.R_new' (Kd.R_new' (Kd.R_new' ho0 (rl_ HO_561001.out)) (rl_ HO_561002.out)) (rl_ HO_567002.out)) (rl_ HO_571000.out)) (rl_ HO_579001.out)) (rl_ HO_579002.out)) (rl_ HO603.out)) (rl_ HO606.out)) (bz_ HB.out))
          have HO613 := Aside0.mk (Kd.R_lower (Kd.R_new' (Kd.R_new' (Kd.R_new' (Kd.R_new' (Kd.R_new' (Kd.R_new' (Kd.R_new' (Kd.R_new' ho1 (rl_ HO_561001.out)) (rl_ HO_561002.out)) (rl_ HO_567002.out)) (rl_ HO_571000.out)) (rl_ HO_579001.out)) (rl_ HO_579002.out)) (rl_ HO603.out)) (rl_ HO606.out)) (bz_ HB.out))
          replace HO_561001 := Aside0.mk (Kd.R_mono (Kd.R_told (Kd.R_told (Kd.R_old (ra_ HO_561001.out) hb) (Kd.R_base ho0)) (Kd.R_base ho1)) (fun _ h_ => h_.1))
          replace HO_561002 := Aside0.mk (Kd.R_mono (Kd.R_told (Kd.R_told (Kd.R_old (ra_ HO_561002.out) hb) (Kd.R_base ho0)) (Kd.R_base ho1)) (fun _ h_ => h_.1))
          replace HO_567002 := Aside0.mk (Kd.R_mono (Kd.R_told (Kd.R_told (Kd.R_old (ra_ HO_567002.out) hb) (Kd.R_base ho0)) (Kd.R_base ho1)) (fun _ h_ => h_.1))
          replace HO_571000 := Aside0.mk (Kd.R_mono (Kd.R_told (Kd.R_told (Kd.R_old (ra_ HO_571000.out) hb) (Kd.R_base ho0)) (Kd.R_base ho1)) (fun _ h_ => h_.1))
          replace HO_579001 := Aside0.mk (Kd.R_mono (Kd.R_told (Kd.R_told (Kd.R_old (ra_ HO_579001.out) hb) (Kd.R_base ho0)) (Kd.R_base ho1)) (fun _ h_ => h_.1))
          replace HO_579002 := Aside0.mk (Kd.R_mono (Kd.R_told (Kd.R_told (Kd.R_old (ra_ HO_579002.out) hb) (Kd.R_base ho0)) (Kd.R_base ho1)) (fun _ h_ => h_.1))
          replace HO603 := Aside0.mk (Kd.R_mono (Kd.R_told (Kd.R_told (Kd.R_old (ra_ HO603.out) hb) (Kd.R_base ho0)) (Kd.R_base ho1)) (fun _ h_ => h_.1))
          replace HO606 := Aside0.mk (Kd.R_mono (Kd.R_told (Kd.R_told (Kd.R_old (ra_ HO606.out) hb) (Kd.R_base ho0)) (Kd.R_base ho1)) (fun _ h_ => h_.1))
          replace BK541 := kb_ BK541 hb
          replace BK542 := kb_ BK542 hb
          replace BK560 := kb_ BK560 hb
          replace BK566 := kb_ BK566 hb
          replace BK570 := kb_ BK570 hb
          replace BK578 := kb_ BK578 hb
          replace HB := hs_ HB hb
          (try clear hb)
          (try clear hk)
          (try clear ho0)
          (try clear ho1)
          refine hK.out _ _ ⟨(blk_cell BK541.out 0).trans rfl, (blk_cell BK541.out 1).trans rfl, (blk_cell BK541.out 2).trans rfl, (blk_cell BK542.out 0).trans rfl⟩ (fun hHeld => ?_)
          clear hK K
          refine norm_ (a' := ?_) ?_ ?_
          rotate_left
          ·show Act.put _ (some 79) _ = _
           simp only [Act.put, List.setIfInBounds_toArray, List.set_cons_zero, List.set_cons_succ, i64_w, i32_w]
           rfl
          refine one_ (i := 5) (N := some 13) (bt_ 7 63) rfl rfl (by kernel_rfl) (by decide) (fun K hK => ?_)
          refine box_step ?hg (N := 13) ?hd (cs := #[.int .i64 0, .slice none 0 0, .slice none 0 0]) (t := 40) ?hr ?_; (case hd => rfl); (case hg => rfl); (case hr => first | (go_simp; done) | (go_simp; rfl))
          intro gb614 hg w142 hbox hb
          have n0_ := Aside0.mk (Kd.R_below (ra_ HO_561001.out) hb)
          have n1_ := Aside0.mk (Kd.R_below (ra_ HO_561002.out) hb)
          have n2_ := Aside0.mk (Kd.R_below (ra_ HO_567002.out) hb)
          have n3_ := Aside0.mk (Kd.R_below (ra_ HO_571000.out) hb)
          have n4_ := Aside0.mk (Kd.R_below (ra_ HO_579001.out) hb)
          have n5_ := Aside0.mk (Kd.R_below (ra_ HO_579002.out) hb)
          have n6_ := Aside0.mk (Kd.R_below (ra_ HO603.out) hb)
          have n7_ := Aside0.mk (Kd.R_below (ra_ HO606.out) hb)
          have n8_ := Aside0.mk (Kd.R_below (ra_ HO610.out) hb)
          have n9_ := Aside0.mk (Kd.R_below (ra_ HO613.out) hb)
          have n10_ := Aside0.mk (bk_ BK541.out hb)
          have n11_ := Aside0.mk (bk_ BK542.out hb)
          have n12_ := Aside0.mk (bk_ BK560.out hb)
          have n13_ := Aside0.mk (bk_ BK566.out hb)
          have n14_ := Aside0.mk (bk_ BK570.out hb)
          have n15_ := Aside0.mk (bk_ BK578.out hb)
          have n16_ := Aside0.mk (bs_ HB.out hb)
          have n17_ := Aside0.mk (hbox)
          have n18_ := Aside0.mk ((by rw [hg]; exact (bz_ HB.out) : w.heap.size ≤ gb614))
          have n19_ := Aside0.mk ((by rw [hg]; exact (bz_ HB.out) : w.heap.size ≤ gb614))
          have n20_ := Aside0.mk ((by rw [hg]; exact Nat.ne_of_lt (bl_ BK541.out) : gb541 ≠ gb614))
          have n21_ := Aside0.mk ((by rw [hg]; exact Nat.ne_of_gt (bl_ BK541.out) : gb614 ≠ gb541))
          have n22_ := Aside0.mk ((by rw [hg]; exact Nat.ne_of_lt (bl_ BK542.out) : gb542 ≠ gb614))
          have n23_ := Aside0.mk ((by rw [hg]; exact Nat.ne_of_gt (bl_ BK542.out) : gb614 ≠ gb542))
          have n24_ := Aside0.mk ((by rw [hg]; exact Nat.ne_of_lt (bl_ BK560.out) : gb560 ≠ gb614))
          have n25_ := Aside0.mk ((by rw [hg]; exact Nat.ne_of_gt (bl_ BK560.out) : gb614 ≠ gb560))
          have n26_ := Aside0.mk ((by rw [hg]; exact Nat.ne_of_lt (bl_ BK566.out) : gb566 ≠ gb614))
          have n27_ := Aside0.mk ((by rw [hg]; exact Nat.ne_of_gt (bl_ BK566.out) : gb614 ≠ gb566))
          have n28_ := Aside0.mk ((by rw [hg]; exact Nat.ne_of_lt (bl_ BK570.out) : gb570 ≠ gb614))
          have n29_ := Aside0.mk ((by rw [hg]; exact Nat.ne_of_gt (bl_ BK570.out) : gb614 ≠ gb570))
          have n30_ := Aside0.mk ((by rw [hg]; exact Nat.ne_of_lt (bl_ BK578.out) : gb578 ≠ gb614))
          have n31_ := Aside0.mk ((by rw [hg]; exact Nat.ne_of_gt (bl_ BK578.out) : gb614 ≠ gb578))
          clear HO_561001 HO_561002 HO_567002 HO_571000 HO_579001 HO_579002 HO603 HO606 HO610 HO613 BK541 BK542 BK560 BK566 BK570 BK578 HB
          have HO_561001 := n0_
          have HO_561002 := n1_
          have HO_567002 := n2_
          have HO_571000 := n3_
          have HO_579001 := n4_
          have HO_579002 := n5_
          have HO603 := n6_
          have HO606 := n7_
          have HO610 := n8_
          have HO613 := n9_
          have BK541 := n10_
          have BK542 := n11_
          have BK560 := n12_
          have BK566 := n13_
          have BK570 := n14_
          have BK578 := n15_
          have HB := n16_
          have BK614 := n17_
          have GW614 := n18_
          have GE614 := n19_
          have NB541_614 := n20_
          have NB614_541 := n21_
          have NB542_614 := n22_
          have NB614_542 := n23_
          have NB560_614 := n24_
          have NB614_560 := n25_
          have NB566_614 := n26_
          have NB614_566 := n27_
          have NB570_614 := n28_
          have NB614_570 := n29_
          have NB578_614 := n30_
          have NB614_578 := n31_
          clear n0_ n1_ n2_ n3_ n4_ n5_ n6_ n7_ n8_ n9_ n10_ n11_ n12_ n13_ n14_ n15_ n16_ n17_ n18_ n19_ n20_ n21_ n22_ n23_ n24_ n25_ n26_ n27_ n28_ n29_ n30_ n31_ hb hbox hg
          refine hK.out _ _ ⟨(blk_cell BK541.out 0).trans rfl, (blk_cell BK541.out 1).trans rfl, (blk_cell BK541.out 2).trans rfl, (blk_cell BK542.out 0).trans rfl⟩ (fun hHeld => ?_)
          clear hK K
          refine norm_ (a' := ?_) ?_ ?_
          rotate_left
          ·show Act.put _ (some 13) _ = _
           simp only [Act.put, List.setIfInBounds_toArray, List.set_cons_zero, List.set_cons_succ, i64_w, i32_w]
           rfl
          exact norm_ (by simp only [putAll, Act.put, List.setIfInBounds_toArray, List.set_cons_zero, List.set_cons_succ]) (hCont (.slice Ao139 t601.length co139, .slice Ao140 t604.length co140, v609, v612, gb614) _ ⟨hHeld, (by (with_reducible repeat (first | apply Kd.R_alloc | apply Kd.R_drewN | apply Kd.R_drew)); exact Kd.R_mono HO603.out (fun _ hk => ⟨hk.1.1.2, ⟨hk.1.2, ⟨hk.2, ⟨hk.1.1.1.1.1.1.1.1.2, ⟨hk.1.1.1.1.1.1.1.2, ⟨hk.1.1.1.1.1.1.2, ⟨hk.1.1.1.1.1.2, ⟨hk.1.1.1.1.2, hk.1.1.1.2⟩⟩⟩⟩⟩⟩⟩⟩)), (by (with_reducible repeat (first | apply Kd.R_alloc | apply Kd.R_drewN | apply Kd.R_drew)); exact Kd.R_mono HO606.out (fun _ hk => ⟨hk.1.1.2, ⟨hk.1.2, ⟨hk.2, ⟨hk.1.1.1.1.1.1.1.1.2, ⟨hk.1.1.1.1.1.1.1.2, ⟨hk.1.1.1.1.1.1.2, ⟨hk.1.1.1.1.1.2, ⟨hk.1.1.1.1.2, hk.1.1.1.2⟩⟩⟩⟩⟩⟩⟩⟩)), (by (with_reducible repeat (first | apply Kd.R_alloc | apply Kd.R_drewN | apply Kd.R_drew)); exact Kd.R_mono HO610.out (fun _ hk => ⟨hk.1.2, ⟨hk.2, ⟨hk.1.1.1.1.1.1.1.1, ⟨hk.1.1.1.1.1.1.1.2, ⟨hk.1.1.1.1.1.1.2, ⟨hk.1.1.1.1.1.2, ⟨hk.1.1.1.1.2, ⟨hk.1.1.1.2, hk.1.1.2⟩⟩⟩⟩⟩⟩⟩⟩)), (by (with_reducible repeat (first | apply Kd.R_alloc | apply Kd.R_drewN | apply Kd.R_drew)); exact Kd.R_mono HO613.out (fun _ hk => ⟨hk.1.2, ⟨hk.2, ⟨hk.1.1.1.1.1.1.1.1, ⟨hk.1.1.1.1.1.1.1.2, ⟨hk.1.1.1.1.1.1.2, ⟨hk.1.1.1.1.1.2, ⟨hk.1.1.1.1.2, ⟨hk.1.1.1.2, hk.1.1.2⟩⟩⟩⟩⟩⟩⟩⟩)), (by (with_reducible repeat (first | apply Kd.R_alloc | apply Kd.R_drewN | apply Kd.R_drew)); exact Kd.R_mono HO_561001.out (fun _ hk => ⟨hk.1.1.1.2, ⟨hk.1.1.2, ⟨hk.1.2, ⟨hk.2, ⟨hk.1.1.1.1.1, ⟨hk.1.1.1.1.2.1, ⟨hk.1.1.1.1.2.2.1, ⟨hk.1.1.1.1.2.2.2.1, hk.1.1.1.1.2.2.2.2⟩⟩⟩⟩⟩⟩⟩⟩)), (by (with_reducible repeat (first | apply Kd.R_alloc | apply Kd.R_drewN | apply Kd.R_drew)); exact Kd.R_mono HO_561002.out (fun _ hk => ⟨hk.1.1.1.2, ⟨hk.1.1.2, ⟨hk.1.2, ⟨hk.2, ⟨hk.1.1.1.1.1, ⟨hk.1.1.1.1.2.1, ⟨hk.1.1.1.1.2.2.1, ⟨hk.1.1.1.1.2.2.2.1, hk.1.1.1.1.2.2.2.2⟩⟩⟩⟩⟩⟩⟩⟩)), (by (with_reducible repeat (first | apply Kd.R_alloc | apply Kd.R_drewN | apply Kd.R_drew)); exact Kd.R_mono HO_567002.out (fun _ hk => ⟨hk.1.1.1.2, ⟨hk.1.1.2, ⟨hk.1.2, ⟨hk.2, ⟨hk.1.1.1.1.1, ⟨hk.1.1.1.1.2.1, ⟨hk.1.1.1.1.2.2.1, ⟨hk.1.1.1.1.2.2.2.1, hk.1.1.1.1.2.2.2.2⟩⟩⟩⟩⟩⟩⟩⟩)), (by (with_reducible repeat (first | apply Kd.R_alloc | apply Kd.R_drewN | apply Kd.R_drew)); exact Kd.R_mono HO_571000.out (fun _ hk => ⟨hk.1.1.1.2, ⟨hk.1.1.2, ⟨hk.1.2, ⟨hk.2, ⟨hk.1.1.1.1.1, ⟨hk.1.1.1.1.2.1, ⟨hk.1.1.1.1.2.2.1, ⟨hk.1.1.1.1.2.2.2.1, hk.1.1.1.1.2.2.2.2⟩⟩⟩⟩⟩⟩⟩⟩)), (by (with_reducible repeat (first | apply Kd.R_alloc | apply Kd.R_drewN | apply Kd.R_drew)); exact Kd.R_mono HO_579001.out (fun _ hk => ⟨hk.1.1.1.2, ⟨hk.1.1.2, ⟨hk.1.2, ⟨hk.2, ⟨hk.1.1.1.1.1, ⟨hk.1.1.1.1.2.1, ⟨hk.1.1.1.1.2.2.1, ⟨hk.1.1.1.1.2.2.2.1, hk.1.1.1.1.2.2.2.2⟩⟩⟩⟩⟩⟩⟩⟩)), (by (with_reducible repeat (first | apply Kd.R_alloc | apply Kd.R_drewN | apply Kd.R_drew)); exact Kd.R_mono HO_579002.out (fun _ hk => ⟨hk.1.1.1.2, ⟨hk.1.1.2, ⟨hk.1.2, ⟨hk.2, ⟨hk.1.1.1.1.1, ⟨hk.1.1.1.1.2.1, ⟨hk.1.1.1.1.2.2.1, ⟨hk.1.1.1.1.2.2.2.1, hk.1.1.1.1.2.2.2.2⟩⟩⟩⟩⟩⟩⟩⟩)), (by (with_reducible repeat (first | refine blk_drewN ?_ _ | refine blk_drew ?_ | refine blk_alloc ?_ _)); exact BK541.out), (by (with_reducible repeat (first | refine blk_drewN ?_ _ | refine blk_drew ?_ | refine blk_alloc ?_ _)); exact BK542.out), (by (with_reducible repeat (first | refine blk_drewN ?_ _ | refine blk_drew ?_ | refine blk_alloc ?_ _)); exact BK560.out), (by (with_reducible repeat (first | refine blk_drewN ?_ _ | refine blk_drew ?_ | refine blk_alloc ?_ _)); exact BK566.out), (by (with_reducible repeat (first | refine blk_drewN ?_ _ | refine blk_drew ?_ | refine blk_alloc ?_ _)); exact BK570.out), (by (with_reducible repeat (first | refine blk_drewN ?_ _ | refine blk_drew ?_ | refine blk_alloc ?_ _)); exact BK578.out), (by (with_reducible repeat (first | refine blk_drewN ?_ _ | refine blk_drew ?_ | refine blk_alloc ?_ _)); exact BK614.out), GW614.out, GE614.out, NB541_614.out, NB614_541.out, NB542_614.out, NB614_542.out, NB560_614.out, NB614_560.out, NB566_614.out, NB614_566.out, NB570_614.out, NB614_570.out, NB578_614.out, NB614_578.out, (by repeat (first | (with_reducible first | exact HB.out | apply below_alloc | apply pw_below_drewN | apply below_drew1 | refine below_set ?_ GW541.out | refine below_set ?_ GW542.out | refine below_set ?_ GE560.out | refine below_set ?_ GW566.out | refine below_set ?_ GW570.out | refine below_set ?_ GW578.out | refine below_set ?_ GE614.out) | exact HB.out))⟩)
         ·skip
          refine box_step ?hg (N := 13) ?hd (cs := #[.int .i64 0, .slice none 0 0, .slice none 0 0]) (t := 40) ?hr ?_; (case hd => rfl); (case hg => rfl); (case hr => first | (go_simp; done) | (go_simp; rfl))
          intro gb614 hg w139 hbox hb
          have n0_ := Aside0.mk (Kd.R_below (ra_ HO_561001.out) hb)
          have n1_ := Aside0.mk (Kd.R_below (ra_ HO_561002.out) hb)
          have n2_ := Aside0.mk (Kd.R_below (ra_ HO_567002.out) hb)
          have n3_ := Aside0.mk (Kd.R_below (ra_ HO_571000.out) hb)
          have n4_ := Aside0.mk (Kd.R_below (ra_ HO_579001.out) hb)
          have n5_ := Aside0.mk (Kd.R_below (ra_ HO_579002.out) hb)
          have n6_ := Aside0.mk (Kd.R_below (ra_ HO603.out) hb)
          have n7_ := Aside0.mk (Kd.R_below (ra_ HO606.out) hb)
          have n8_ := Aside0.mk (bk_ BK541.out hb)
          have n9_ := Aside0.mk (bk_ BK542.out hb)
          have n10_ := Aside0.mk (bk_ BK560.out hb)
          have n11_ := Aside0.mk (bk_ BK566.out hb)
          have n12_ := Aside0.mk (bk_ BK570.out hb)
          have n13_ := Aside0.mk (bk_ BK578.out hb)
          have n14_ := Aside0.mk (bs_ HB.out hb)
          have n15_ := Aside0.mk (hbox)
          have n16_ := Aside0.mk ((by rw [hg]; exact (bz_ HB.out) : w.heap.size ≤ gb614))
          have n17_ := Aside0.mk ((by rw [hg]; exact (bz_ HB.out) : w.heap.size ≤ gb614))
          have n18_ := Aside0.mk ((by rw [hg]; exact Nat.ne_of_lt (bl_ BK541.out) : gb541 ≠ gb614))
          have n19_ := Aside0.mk ((by rw [hg]; exact Nat.ne_of_gt (bl_ BK541.out) : gb614 ≠ gb541))
          have n20_ := Aside0.mk ((by rw [hg]; exact Nat.ne_of_lt (bl_ BK542.out) : gb542 ≠ gb614))
          have n21_ := Aside0.mk ((by rw [hg]; exact Nat.ne_of_gt (bl_ BK542.out) : gb614 ≠ gb542))
          have n22_ := Aside0.mk ((by rw [hg]; exact Nat.ne_of_lt (bl_ BK560.out) : gb560 ≠ gb614))
          have n23_ := Aside0.mk ((by rw [hg]; exact Nat.ne_of_gt (bl_ BK560.out) : gb614 ≠ gb560))
          have n24_ := Aside0.mk ((by rw [hg]; exact Nat.ne_of_lt (bl_ BK566.out) : gb566 ≠ gb614))
          have n25_ := Aside0.mk ((by rw [hg]; exact Nat.ne_of_gt (bl_ BK566.out) : gb614 ≠ gb566))
          have n26_ := Aside0.mk ((by rw [hg]; exact Nat.ne_of_lt (bl_ BK570.out) : gb570 ≠ gb614))
          have n27_ := Aside0.mk ((by rw [hg]; exact Nat.ne_of_gt (bl_ BK570.out) : gb614 ≠ gb570))
          have n28_ := Aside0.mk ((by rw [hg]; exact Nat.ne_of_lt (bl_ BK578.out) : gb578 ≠ gb614))
          have n29_ := Aside0.mk ((by rw [hg]; exact Nat.ne_of_gt (bl_ BK578.out) : gb614 ≠ gb578))
          clear HO_561001 HO_561002 HO_567002 HO_571000 HO_579001 HO_579002 HO603 HO606 BK541 BK542 BK560 BK566 BK570 BK578 HB
          have HO_561001 := n0_
          have HO_561002 := n1_
          have HO_567002 := n2_
          have HO_571000 := n3_
          have HO_579001 := n4_
          have HO_579002 := n5_
          have HO603 := n6_
          have HO606 := n7_
          have BK541 := n8_
          have BK542 := n9_
          have BK560 := n10_
          have BK566 := n11_
          have BK570 := n12_
          have BK578 := n13_
          have HB := n14_
          have BK614 := n15_
          have GW614 := n16_
          have GE614 := n17_
          have NB541_614 := n18_
          have NB614_541 := n19_
          have NB542_614 := n20_
          have NB614_542 := n21_
          have NB560_614 := n22_
          have NB614_560 := n23_
          have NB566_614 := n24_
          have NB614_566 := n25_
          have NB570_614 := n26_
          have NB614_570 := n27_
          have NB578_614 := n28_
          have NB614_578 := n29_
          clear n0_ n1_ n2_ n3_ n4_ n5_ n6_ n7_ n8_ n9_ n10_ n11_ n12_ n13_ n14_ n15_ n16_ n17_ n18_ n19_ n20_ n21_ n22_ n23_ n24_ n25_ n26_ n27_ n28_ n29_ hb hbox hg
          obtain ⟨Ao140, co140, eo140⟩ := Kd.R_slice HO603.out
          (first | subst eo140 | (injection eo140 with f1_ f2_ f3_; have f4_ := f1_.symm; have f5_ := f3_.symm; clear f1_ f2_ f3_; subst f4_; subst f5_))
          obtain ⟨Ao141, co141, eo141⟩ := Kd.R_slice HO606.out
          (first | subst eo141 | (injection eo141 with f1_ f2_ f3_; have f4_ := f1_.symm; have f5_ := f3_.symm; clear f1_ f2_ f3_; subst f4_; subst f5_))
          refine hK.out _ _ ⟨(blk_cell BK541.out 0).trans rfl, (blk_cell BK541.out 1).trans rfl, (blk_cell BK541.out 2).trans rfl, (blk_cell BK542.out 0).trans rfl⟩ (fun hHeld => ?_)
          clear hK K
          refine norm_ (a' := ?_) ?_ ?_
          rotate_left
          ·show Act.put _ (some 13) _ = _
           simp only [Act.put, List.setIfInBounds_toArray, List.set_cons_zero, List.set_cons_succ, i64_w, i32_w]
           rfl
          refine one_ (i := 4) (N := some 79) (bt_ 7 63) rfl rfl (by kernel_rfl) (by decide) (fun K hK => ?_)
          refine goes_ Try.func27 (by kernel_rfl) rfl #[.agg #[.int .i64 t599, .int .i64 t600, .slice Ao140 t601.length co140], .agg #[.slice Ao141 t604.length co141]] (by rfl) rfl rfl (by (try simp only [List.map_toArray, List.map_cons, List.map_nil]); first | done | rfl | (simp only [List.length_drop, List.length_take]; rfl)) ?_
          with_reducible refine (impl_CheckTable.calls kj34 t599 t600 _ _ t601 _ _ t604 t607 t608 t611 _ ?side1 ?side2 ?side3 ?side4 A121.out).mono ?_
          (case side1 => exact rr_ HO603)
          (case side2 => exact (Kd.R_reads' HO603.out).2.1)
          (case side3 => exact rr_ HO606)
          (case side4 => exact (Kd.R_reads' HO606.out).2.1)
          rintro e w142 ⟨v609, v612, rfl, ho0, ho1, hb⟩
          refine ⟨_, rfl, ?_⟩
          have HO610 := Aside0.mk (Kd.R_lower (Kd.R_new' (Kd.R_new' (Kd.R_new' (Kd.R_new' (Kd.R_new' (Kd.R_new' (Kd.R_new' (Kd.R_new' ho0 (rl_ HO_561001.out)) (rl_ HO_561002.out)) (rl_ HO_567002.out)) (rl_ HO_571000.out)) (rl_ HO_579001.out)) (rl_ HO_579002.out)) (rl_ HO603.out)) (rl_ HO606.out)) (bz_ HB.out))
          have HO613 := Aside0.mk (Kd.R_lower (Kd.R_new' (Kd.R_new' (Kd.R_new' (Kd.R_new' (Kd.R_new' (Kd.R_new' (Kd.R_new' (Kd.R_new' ho1 (rl_ HO_561001.out)) (rl_ HO_561002.out)) (rl_ HO_567002.out)) (rl_ HO_571000.out)) (rl_ HO_579001.out)) (rl_ HO_579002.out)) (rl_ HO603.out)) (rl_ HO606.out)) (bz_ HB.out))
          replace HO_561001 := Aside0.mk (Kd.R_mono (Kd.R_told (Kd.R_told (Kd.R_old (ra_ HO_561001.out) hb) (Kd.R_base ho0)) (Kd.R_base ho1)) (fun _ h_ => h_.1))
          replace HO_561002 := Aside0.mk (Kd.R_mono (Kd.R_told (Kd.R_told (Kd.R_old (ra_ HO_561002.out) hb) (Kd.R_base ho0)) (Kd.R_base ho1)) (fun _ h_ => h_.1))
          replace HO_567002 := Aside0.mk (Kd.R_mono (Kd.R_told (Kd.R_told (Kd.R_old (ra_ HO_567002.out) hb) (Kd.R_base ho0)) (Kd.R_base ho1)) (fun _ h_ => h_.1))
          replace HO_571000 := Aside0.mk (Kd.R_mono (Kd.R_told (Kd.R_told (Kd.R_old (ra_ HO_571000.out) hb) (Kd.R_base ho0)) (Kd.R_base ho1)) (fun _ h_ => h_.1))
          replace HO_579001 := Aside0.mk (Kd.R_mono (Kd.R_told (Kd.R_told (Kd.R_old (ra_ HO_579001.out) hb) (Kd.R_base ho0)) (Kd.R_base ho1)) (fun _ h_ => h_.1))
          replace HO_579002 := Aside0.mk (Kd.R_mono (Kd.R_told (Kd.R_told (Kd.R_old (ra_ HO_579002.out) hb) (Kd.R_base ho0)) (Kd.R_base ho1)) (fun _ h_ => h_.1))
          replace HO603 := Aside0.mk (Kd.R_mono (Kd.R_told (Kd.R_told (Kd.R_old (ra_ HO603.out) hb) (Kd.R_base ho0)) (Kd.R_base ho1)) (fun _ h_ => h_.1))
          replace HO606 := Aside0.mk (Kd.R_mono (Kd.R_told (Kd.R_told (Kd.R_old (ra_ HO606.out) hb) (Kd.R_base ho0)) (Kd.R_base ho1)) (fun _ h_ => h_.1))
          replace BK541 := kb_ BK541 hb
          replace BK542 := kb_ BK542 hb
          replace BK560 := kb_ BK560 hb
          replace BK566 := kb_ BK566 hb
          replace BK570 := kb_ BK570 hb
          replace BK578 := kb_ BK578 hb
          replace BK614 := kb_ BK614 hb
          replace HB := hs_ HB hb
          (try clear hb)
          (try clear hk)
          (try clear ho0)
          (try clear ho1)
          refine hK.out _ _ ⟨(blk_cell BK541.out 0).trans rfl, (blk_cell BK541.out 1).trans rfl, (blk_cell BK541.out 2).trans rfl, (blk_cell BK542.out 0).trans rfl⟩ (fun hHeld => ?_)
          clear hK K
          refine norm_ (a' := ?_) ?_ ?_
          rotate_left
          ·show Act.put _ (some 79) _ = _
           simp only [Act.put, List.setIfInBounds_toArray, List.set_cons_zero, List.set_cons_succ, i64_w, i32_w]
           rfl
          exact norm_ (by simp only [putAll, Act.put, List.setIfInBounds_toArray, List.set_cons_zero, List.set_cons_succ]) (hCont (.slice Ao140 t601.length co140, .slice Ao141 t604.length co141, v609, v612, gb614) _ ⟨hHeld, (by (with_reducible repeat (first | apply Kd.R_alloc | apply Kd.R_drewN | apply Kd.R_drew)); exact Kd.R_mono HO603.out (fun _ hk => ⟨hk.1.1.2, ⟨hk.1.2, ⟨hk.2, ⟨hk.1.1.1.1.1.1.1.1.2, ⟨hk.1.1.1.1.1.1.1.2, ⟨hk.1.1.1.1.1.1.2, ⟨hk.1.1.1.1.1.2, ⟨hk.1.1.1.1.2, hk.1.1.1.2⟩⟩⟩⟩⟩⟩⟩⟩)), (by (with_reducible repeat (first | apply Kd.R_alloc | apply Kd.R_drewN | apply Kd.R_drew)); exact Kd.R_mono HO606.out (fun _ hk => ⟨hk.1.1.2, ⟨hk.1.2, ⟨hk.2, ⟨hk.1.1.1.1.1.1.1.1.2, ⟨hk.1.1.1.1.1.1.1.2, ⟨hk.1.1.1.1.1.1.2, ⟨hk.1.1.1.1.1.2, ⟨hk.1.1.1.1.2, hk.1.1.1.2⟩⟩⟩⟩⟩⟩⟩⟩)), (by (with_reducible repeat (first | apply Kd.R_alloc | apply Kd.R_drewN | apply Kd.R_drew)); exact Kd.R_mono HO610.out (fun _ hk => ⟨hk.1.2, ⟨hk.2, ⟨hk.1.1.1.1.1.1.1.1, ⟨hk.1.1.1.1.1.1.1.2, ⟨hk.1.1.1.1.1.1.2, ⟨hk.1.1.1.1.1.2, ⟨hk.1.1.1.1.2, ⟨hk.1.1.1.2, hk.1.1.2⟩⟩⟩⟩⟩⟩⟩⟩)), (by (with_reducible repeat (first | apply Kd.R_alloc | apply Kd.R_drewN | apply Kd.R_drew)); exact Kd.R_mono HO613.out (fun _ hk => ⟨hk.1.2, ⟨hk.2, ⟨hk.1.1.1.1.1.1.1.1, ⟨hk.1.1.1.1.1.1.1.2, ⟨hk.1.1.1.1.1.1.2, ⟨hk.1.1.1.1.1.2, ⟨hk.1.1.1.1.2, ⟨hk.1.1.1.2, hk.1.1.2⟩⟩⟩⟩⟩⟩⟩⟩)), (by (with_reducible repeat (first | apply Kd.R_alloc | apply Kd.R_drewN | apply Kd.R_drew)); exact Kd.R_mono HO_561001.out (fun _ hk => ⟨hk.1.1.1.2, ⟨hk.1.1.2, ⟨hk.1.2, ⟨hk.2, ⟨hk.1.1.1.1.1, ⟨hk.1.1.1.1.2.1, ⟨hk.1.1.1.1.2.2.1, ⟨hk.1.1.1.1.2.2.2.1, hk.1.1.1.1.2.2.2.2⟩⟩⟩⟩⟩⟩⟩⟩)), (by (with_reducible repeat (first | apply Kd.R_alloc | apply Kd.R_drewN | apply Kd.R_drew)); exact Kd.R_mono HO_561002.out (fun _ hk => ⟨hk.1.1.1.2, ⟨hk.1.1.2, ⟨hk.1.2, ⟨hk.2, ⟨hk.1.1.1.1.1, ⟨hk.1.1.1.1.2.1, ⟨hk.1.1.1.1.2.2.1, ⟨hk.1.1.1.1.2.2.2.1, hk.1.1.1.1.2.2.2.2⟩⟩⟩⟩⟩⟩⟩⟩)), (by (with_reducible repeat (first | apply Kd.R_alloc | apply Kd.R_drewN | apply Kd.R_drew)); exact Kd.R_mono HO_567002.out (fun _ hk => ⟨hk.1.1.1.2, ⟨hk.1.1.2, ⟨hk.1.2, ⟨hk.2, ⟨hk.1.1.1.1.1, ⟨hk.1.1.1.1.2.1, ⟨hk.1.1.1.1.2.2.1, ⟨hk.1.1.1.1.2.2.2.1, hk.1.1.1.1.2.2.2.2⟩⟩⟩⟩⟩⟩⟩⟩)), (by (with_reducible repeat (first | apply Kd.R_alloc | apply Kd.R_drewN | apply Kd.R_drew)); exact Kd.R_mono HO_571000.out (fun _ hk => ⟨hk.1.1.1.2, ⟨hk.1.1.2, ⟨hk.1.2, ⟨hk.2, ⟨hk.1.1.1.1.1, ⟨hk.1.1.1.1.2.1, ⟨hk.1.1.1.1.2.2.1, ⟨hk.1.1.1.1.2.2.2.1, hk.1.1.1.1.2.2.2.2⟩⟩⟩⟩⟩⟩⟩⟩)), (by (with_reducible repeat (first | apply Kd.R_alloc | apply Kd.R_drewN | apply Kd.R_drew)); exact Kd.R_mono HO_579001.out (fun _ hk => ⟨hk.1.1.1.2, ⟨hk.1.1.2, ⟨hk.1.2, ⟨hk.2, ⟨hk.1.1.1.1.1, ⟨hk.1.1.1.1.2.1, ⟨hk.1.1.1.1.2.2.1, ⟨hk.1.1.1.1.2.2.2.1, hk.1.1.1.1.2.2.2.2⟩⟩⟩⟩⟩⟩⟩⟩)), (by (with_reducible repeat (first | apply Kd.R_alloc | apply Kd.R_drewN | apply Kd.R_drew)); exact Kd.R_mono HO_579002.out (fun _ hk => ⟨hk.1.1.1.2, ⟨hk.1.1.2, ⟨hk.1.2, ⟨hk.2, ⟨hk.1.1.1.1.1, ⟨hk.1.1.1.1.2.1, ⟨hk.1.1.1.1.2.2.1, ⟨hk.1.1.1.1.2.2.2.1, hk.1.1.1.1.2.2.2.2⟩⟩⟩⟩⟩⟩⟩⟩)), (by (with_reducible repeat (first | refine blk_drewN ?_ _ | refine blk_drew ?_ | refine blk_alloc ?_ _)); exact BK541.out), (by (with_reducible repeat (first | refine blk_drewN ?_ _ | refine blk_drew ?_ | refine blk_alloc ?_ _)); exact BK542.out), (by (with_reducible repeat (first | refine blk_drewN ?_ _ | refine blk_drew ?_ | refine blk_alloc ?_ _)); exact BK560.out), (by (with_reducible repeat (first | refine blk_drewN ?_ _ | refine blk_drew ?_ | refine blk_alloc ?_ _)); exact BK566.out), (by (with_reducible repeat (first | refine blk_drewN ?_ _ | refine blk_drew ?_ | refine blk_alloc ?_ _)); exact BK570.out), (by (with_reducible repeat (first | refine blk_drewN ?_ _ | refine blk_drew ?_ | refine blk_alloc ?_ _)); exact BK578.out), (by (with_reducible repeat (first | refine blk_drewN ?_ _ | refine blk_drew ?_ | refine blk_alloc ?_ _)); exact BK614.out), GW614.out, GE614.out, NB541_614.out, NB614_541.out, NB542_614.out, NB614_542.out, NB560_614.out, NB614_560.out, NB566_614.out, NB614_566.out, NB570_614.out, NB614_570.out, NB578_614.out, NB614_578.out, (by repeat (first | (with_reducible first | exact HB.out | apply below_alloc | apply pw_below_drewN | apply below_drew1 | refine below_set ?_ GW541.out | refine below_set ?_ GW542.out | refine below_set ?_ GE560.out | refine below_set ?_ GW566.out | refine below_set ?_ GW570.out | refine below_set ?_ GW578.out | refine below_set ?_ GE614.out) | exact HB.out))⟩)
        ·skip
         refine box_step ?hg (N := 13) ?hd (cs := #[.int .i64 0, .slice none 0 0, .slice none 0 0]) (t := 40) ?hr ?_; (case hd => rfl); (case hg => rfl); (case hr => first | (go_simp; done) | (go_simp; rfl))
         intro gb614 hg w138 hbox hb
         have n0_ := Aside0.mk (Kd.R_below (ra_ HO_561001.out) hb)
         have n1_ := Aside0.mk (Kd.R_below (ra_ HO_561002.out) hb)
         have n2_ := Aside0.mk (Kd.R_below (ra_ HO_567002.out) hb)
         have n3_ := Aside0.mk (Kd.R_below (ra_ HO_571000.out) hb)
         have n4_ := Aside0.mk (Kd.R_below (ra_ HO_579001.out) hb)
         have n5_ := Aside0.mk (Kd.R_below (ra_ HO_579002.out) hb)
         have n6_ := Aside0.mk (Kd.R_below (ra_ HO603.out) hb)
         have n7_ := Aside0.mk (bk_ BK541.out hb)
         have n8_ := Aside0.mk (bk_ BK542.out hb)
         have n9_ := Aside0.mk (bk_ BK560.out hb)
         have n10_ := Aside0.mk (bk_ BK566.out hb)
         have n11_ := Aside0.mk (bk_ BK570.out hb)
         have n12_ := Aside0.mk (bk_ BK578.out hb)
         have n13_ := Aside0.mk (bs_ HB.out hb)
         have n14_ := Aside0.mk (hbox)
         have n15_ := Aside0.mk ((by rw [hg]; exact (bz_ HB.out) : w.heap.size ≤ gb614))
         have n16_ := Aside0.mk ((by rw [hg]; exact (bz_ HB.out) : w.heap.size ≤ gb614))
         have n17_ := Aside0.mk ((by rw [hg]; exact Nat.ne_of_lt (bl_ BK541.out) : gb541 ≠ gb614))
         have n18_ := Aside0.mk ((by rw [hg]; exact Nat.ne_of_gt (bl_ BK541.out) : gb614 ≠ gb541))
         have n19_ := Aside0.mk ((by rw [hg]; exact Nat.ne_of_lt (bl_ BK542.out) : gb542 ≠ gb614))
         have n20_ := Aside0.mk ((by rw [hg]; exact Nat.ne_of_gt (bl_ BK542.out) : gb614 ≠ gb542))
         have n21_ := Aside0.mk ((by rw [hg]; exact Nat.ne_of_lt (bl_ BK560.out) : gb560 ≠ gb614))
         have n22_ := Aside0.mk ((by rw [hg]; exact Nat.ne_of_gt (bl_ BK560.out) : gb614 ≠ gb560))
         have n23_ := Aside0.mk ((by rw [hg]; exact Nat.ne_of_lt (bl_ BK566.out) : gb566 ≠ gb614))
         have n24_ := Aside0.mk ((by rw [hg]; exact Nat.ne_of_gt (bl_ BK566.out) : gb614 ≠ gb566))
         have n25_ := Aside0.mk ((by rw [hg]; exact Nat.ne_of_lt (bl_ BK570.out) : gb570 ≠ gb614))
         have n26_ := Aside0.mk ((by rw [hg]; exact Nat.ne_of_gt (bl_ BK570.out) : gb614 ≠ gb570))
         have n27_ := Aside0.mk ((by rw [hg]; exact Nat.ne_of_lt (bl_ BK578.out) : gb578 ≠ gb614))
         have n28_ := Aside0.mk ((by rw [hg]; exact Nat.ne_of_gt (bl_ BK578.out) : gb614 ≠ gb578))
         clear HO_561001 HO_561002 HO_567002 HO_571000 HO_579001 HO_579002 HO603 BK541 BK542 BK560 BK566 BK570 BK578 HB
         have HO_561001 := n0_
         have HO_561002 := n1_
         have HO_567002 := n2_
         have HO_571000 := n3_
         have HO_579001 := n4_
         have HO_579002 := n5_
         have HO603 := n6_
         have BK541 := n7_
         have BK542 := n8_
         have BK560 := n9_
         have BK566 := n10_
         have BK570 := n11_
         have BK578 := n12_
         have HB := n13_
         have BK614 := n14_
         have GW614 := n15_
         have GE614 := n16_
         have NB541_614 := n17_
         have NB614_541 := n18_
         have NB542_614 := n19_
         have NB614_542 := n20_
         have NB560_614 := n21_
         have NB614_560 := n22_
         have NB566_614 := n23_
         have NB614_566 := n24_
         have NB570_614 := n25_
         have NB614_570 := n26_
         have NB578_614 := n27_
         have NB614_578 := n28_
         clear n0_ n1_ n2_ n3_ n4_ n5_ n6_ n7_ n8_ n9_ n10_ n11_ n12_ n13_ n14_ n15_ n16_ n17_ n18_ n19_ n20_ n21_ n22_ n23_ n24_ n25_ n26_ n27_ n28_ hb hbox hg
         refine hK.out _ _ ⟨(blk_cell BK541.out 0).trans rfl, (blk_cell BK541.out 1).trans rfl, (blk_cell BK541.out 2).trans rfl, (blk_cell BK542.out 0).trans rfl⟩ (fun hHeld => ?_)
         clear hK K
         refine norm_ (a' := ?_) ?_ ?_
         rotate_left
         ·show Act.put _ (some 13) _ = _
          simp only [Act.put, List.setIfInBounds_toArray, List.set_cons_zero, List.set_cons_succ, i64_w, i32_w]
          rfl
         refine one_ (i := 3) (N := some 78) (bt_ 7 47) rfl rfl (by kernel_rfl) (by decide) (fun K hK => ?_)
         refine goes_ Try.func26 (by kernel_rfl) rfl #[.agg #[.slice A1_0 l1_0.length c1_0]] (by rfl) rfl rfl (by (try simp only [List.map_toArray, List.map_cons, List.map_nil]); first | done | rfl | (simp only [List.length_drop, List.length_take]; rfl)) ?_
         with_reducible refine (laws_toTable.calls kj34 _ _ l1_0 t604 _ ?side1 ?side2 A120.out).mono ?_
         (case side1 => exact cb_ HR1_0.out HB.out)
         (case side2 => exact HC1_0.out)
         rintro e w139 ⟨v605, rfl, ho0, hb⟩
         refine ⟨_, rfl, ?_⟩
         have HO606 := Aside0.mk (Kd.R_lower (Kd.R_new' (Kd.R_new' (Kd.R_new' (Kd.R_new' (Kd.R_new' (Kd.R_new' (Kd.R_new' ho0 (rl_ HO_561001.out)) (rl_ HO_561002.out)) (rl_ HO_567002.out)) (rl_ HO_571000.out)) (rl_ HO_579001.out)) (rl_ HO_579002.out)) (rl_ HO603.out)) (bz_ HB.out))
         replace HO_561001 := re_ HO_561001 ho0 hb
         replace HO_561002 := re_ HO_561002 ho0 hb
         replace HO_567002 := re_ HO_567002 ho0 hb
         replace HO_571000 := re_ HO_571000 ho0 hb
         replace HO_579001 := re_ HO_579001 ho0 hb
         replace HO_579002 := re_ HO_579002 ho0 hb
         replace HO603 := re_ HO603 ho0 hb
         replace BK541 := kb_ BK541 hb
         replace BK542 := kb_ BK542 hb
         replace BK560 := kb_ BK560 hb
         replace BK566 := kb_ BK566 hb
         replace BK570 := kb_ BK570 hb
         replace BK578 := kb_ BK578 hb
         replace BK614 := kb_ BK614 hb
         replace HB := hs_ HB hb
         (try clear hb)
         (try clear hk)
         (try clear ho0)
         obtain ⟨Ao140, co140, eo140⟩ := Kd.R_slice HO603.out
         (first | subst eo140 | (injection eo140 with f1_ f2_ f3_; have f4_ := f1_.symm; have f5_ := f3_.symm; clear f1_ f2_ f3_; subst f4_; subst f5_))
         obtain ⟨Ao141, co141, eo141⟩ := Kd.R_slice HO606.out
         (first | subst eo141 | (injection eo141 with f1_ f2_ f3_; have f4_ := f1_.symm; have f5_ := f3_.symm; clear f1_ f2_ f3_; subst f4_; subst f5_))
         refine hK.out _ _ ⟨(blk_cell BK541.out 0).trans rfl, (blk_cell BK541.out 1).trans rfl, (blk_cell BK541.out 2).trans rfl, (blk_cell BK542.out 0).trans rfl⟩ (fun hHeld => ?_)
         clear hK K
         refine norm_ (a' := ?_) ?_ ?_
         rotate_left
         ·show Act.put _ (some 78) _ = _
          simp only [Act.put, List.setIfInBounds_toArray, List.set_cons_zero, List.set_cons_succ, i64_w, i32_w]
          rfl
         refine one_ (i := 4) (N := some 79) (bt_ 7 63) rfl rfl (by kernel_rfl) (by decide) (fun K hK => ?_)
         refine goes_ Try.func27 (by kernel_rfl) rfl #[.agg #[.int .i64 t599, .int .i64 t600, .slice Ao140 t601.length co140], .agg #[.slice Ao141 t604.length co141]] (by rfl) rfl rfl (by (try simp only [List.map_toArray, List.map_cons, List.map_nil]); first | done | rfl | (simp only [List.length_drop, List.length_take]; rfl)) ?_
         with_reducible refine (impl_CheckTable.calls kj34 t599 t600 _ _ t601 _ _ t604 t607 t608 t611 _ ?side1 ?side2 ?side3 ?side4 A121.out).mono ?_
         (case side1 => exact rr_ HO603)
         (case side2 => exact (Kd.R_reads' HO603.out).2.1)
         (case side3 => exact rr_ HO606)
         (case side4 => exact (Kd.R_reads' HO606.out).2.1)
         rintro e w142 ⟨v609, v612, rfl, ho0, ho1, hb⟩
         refine ⟨_, rfl, ?_⟩
         have HO610 := Aside0.mk (Kd.R_lower (Kd.R_new' (Kd.R_new' (Kd.R_new' (Kd.R_new' (Kd.R_new' (Kd.R_new' (Kd.R_new' (Kd.R_new' ho0 (rl_ HO_561001.out)) (rl_ HO_561002.out)) (rl_ HO_567002.out)) (rl_ HO_571000.out)) (rl_ HO_579001.out)) (rl_ HO_579002.out)) (rl_ HO603.out)) (rl_ HO606.out)) (bz_ HB.out))
         have HO613 := Aside0.mk (Kd.R_lower (Kd.R_new' (Kd.R_new' (Kd.R_new' (Kd.R_new' (Kd.R_new' (Kd.R_new' (Kd.R_new' (Kd.R_new' ho1 (rl_ HO_561001.out)) (rl_ HO_561002.out)) (rl_ HO_567002.out)) (rl_ HO_571000.out)) (rl_ HO_579001.out)) (rl_ HO_579002.out)) (rl_ HO603.out)) (rl_ HO606.out)) (bz_ HB.out))
         replace HO_561001 := Aside0.mk (Kd.R_mono (Kd.R_told (Kd.R_told (Kd.R_old (ra_ HO_561001.out) hb) (Kd.R_base ho0)) (Kd.R_base ho1)) (fun _ h_ => h_.1))
         replace HO_561002 := Aside0.mk (Kd.R_mono (Kd.R_told (Kd.R_told (Kd.R_old (ra_ HO_561002.out) hb) (Kd.R_base ho0)) (Kd.R_base ho1)) (fun _ h_ => h_.1))
         replace HO_567002 := Aside0.mk (Kd.R_mono (Kd.R_told (Kd.R_told (Kd.R_old (ra_ HO_567002.out) hb) (Kd.R_base ho0)) (Kd.R_base ho1)) (fun _ h_ => h_.1))
         replace HO_571000 := Aside0.mk (Kd.R_mono (Kd.R_told (Kd.R_told (Kd.R_old (ra_ HO_571000.out) hb) (Kd.R_base ho0)) (Kd.R_base ho1)) (fun _ h_ => h_.1))
         replace HO_579001 := Aside0.mk (Kd.R_mono (Kd.R_told (Kd.R_told (Kd.R_old (ra_ HO_579001.out) hb) (Kd.R_base ho0)) (Kd.R_base ho1)) (fun _ h_ => h_.1))
         replace HO_579002 := Aside0.mk (Kd.R_mono (Kd.R_told (Kd.R_told (Kd.R_old (ra_ HO_579002.out) hb) (Kd.R_base ho0)) (Kd.R_base ho1)) (fun _ h_ => h_.1))
         replace HO603 := Aside0.mk (Kd.R_mono (Kd.R_told (Kd.R_told (Kd.R_old (ra_ HO603.out) hb) (Kd.R_base ho0)) (Kd.R_base ho1)) (fun _ h_ => h_.1))
         replace HO606 := Aside0.mk (Kd.R_mono (Kd.R_told (Kd.R_told (Kd.R_old (ra_ HO606.out) hb) (Kd.R_base ho0)) (Kd.R_base ho1)) (fun _ h_ => h_.1))
         replace BK541 := kb_ BK541 hb
         replace BK542 := kb_ BK542 hb
         replace BK560 := kb_ BK560 hb
         replace BK566 := kb_ BK566 hb
         replace BK570 := kb_ BK570 hb
         replace BK578 := kb_ BK578 hb
         replace BK614 := kb_ BK614 hb
         replace HB := hs_ HB hb
         (try clear hb)
         (try clear hk)
         (try clear ho0)
         (try clear ho1)
         refine hK.out _ _ ⟨(blk_cell BK541.out 0).trans rfl, (blk_cell BK541.out 1).trans rfl, (blk_cell BK541.out 2).trans rfl, (blk_cell BK542.out 0).trans rfl⟩ (fun hHeld => ?_)
         clear hK K
         refine norm_ (a' := ?_) ?_ ?_
         rotate_left
         ·show Act.put _ (some 79) _ = _
          simp only [Act.put, List.setIfInBounds_toArray, List.set_cons_zero, List.set_cons_succ, i64_w, i32_w]
          rfl
         exact norm_ (by simp only [putAll, Act.put, List.setIfInBounds_toArray, List.set_cons_zero, List.set_cons_succ]) (hCont (.slice Ao140 t601.length co140, .slice Ao141 t604.length co141, v609, v612, gb614) _ ⟨hHeld, (by (with_reducible repeat (first | apply Kd.R_alloc | apply Kd.R_drewN | apply Kd.R_drew)); exact Kd.R_mono HO603.out (fun _ hk => ⟨hk.1.1.2, ⟨hk.1.2, ⟨hk.2, ⟨hk.1.1.1.1.1.1.1.1.2, ⟨hk.1.1.1.1.1.1.1.2, ⟨hk.1.1.1.1.1.1.2, ⟨hk.1.1.1.1.1.2, ⟨hk.1.1.1.1.2, hk.1.1.1.2⟩⟩⟩⟩⟩⟩⟩⟩)), (by (with_reducible repeat (first | apply Kd.R_alloc | apply Kd.R_drewN | apply Kd.R_drew)); exact Kd.R_mono HO606.out (fun _ hk => ⟨hk.1.1.2, ⟨hk.1.2, ⟨hk.2, ⟨hk.1.1.1.1.1.1.1.1.2, ⟨hk.1.1.1.1.1.1.1.2, ⟨hk.1.1.1.1.1.1.2, ⟨hk.1.1.1.1.1.2, ⟨hk.1.1.1.1.2, hk.1.1.1.2⟩⟩⟩⟩⟩⟩⟩⟩)), (by (with_reducible repeat (first | apply Kd.R_alloc | apply Kd.R_drewN | apply Kd.R_drew)); exact Kd.R_mono HO610.out (fun _ hk => ⟨hk.1.2, ⟨hk.2, ⟨hk.1.1.1.1.1.1.1.1, ⟨hk.1.1.1.1.1.1.1.2, ⟨hk.1.1.1.1.1.1.2, ⟨hk.1.1.1.1.1.2, ⟨hk.1.1.1.1.2, ⟨hk.1.1.1.2, hk.1.1.2⟩⟩⟩⟩⟩⟩⟩⟩)), (by (with_reducible repeat (first | apply Kd.R_alloc | apply Kd.R_drewN | apply Kd.R_drew)); exact Kd.R_mono HO613.out (fun _ hk => ⟨hk.1.2, ⟨hk.2, ⟨hk.1.1.1.1.1.1.1.1, ⟨hk.1.1.1.1.1.1.1.2, ⟨hk.1.1.1.1.1.1.2, ⟨hk.1.1.1.1.1.2, ⟨hk.1.1.1.1.2, ⟨hk.1.1.1.2, hk.1.1.2⟩⟩⟩⟩⟩⟩⟩⟩)), (by (with_reducible repeat (first | apply Kd.R_alloc | apply Kd.R_drewN | apply Kd.R_drew)); exact Kd.R_mono HO_561001.out (fun _ hk => ⟨hk.1.1.1.2, ⟨hk.1.1.2, ⟨hk.1.2, ⟨hk.2, ⟨hk.1.1.1.1.1, ⟨hk.1.1.1.1.2.1, ⟨hk.1.1.1.1.2.2.1, ⟨hk.1.1.1.1.2.2.2.1, hk.1.1.1.1.2.2.2.2⟩⟩⟩⟩⟩⟩⟩⟩)), (by (with_reducible repeat (first | apply Kd.R_alloc | apply Kd.R_drewN | apply Kd.R_drew)); exact Kd.R_mono HO_561002.out (fun _ hk => ⟨hk.1.1.1.2, ⟨hk.1.1.2, ⟨hk.1.2, ⟨hk.2, ⟨hk.1.1.1.1.1, ⟨hk.1.1.1.1.2.1, ⟨hk.1.1.1.1.2.2.1, ⟨hk.1.1.1.1.2.2.2.1, hk.1.1.1.1.2.2.2.2⟩⟩⟩⟩⟩⟩⟩⟩)), (by (with_reducible repeat (first | apply Kd.R_alloc | apply Kd.R_drewN | apply Kd.R_drew)); exact Kd.R_mono HO_567002.out (fun _ hk => ⟨hk.1.1.1.2, ⟨hk.1.1.2, ⟨hk.1.2, ⟨hk.2, ⟨hk.1.1.1.1.1, ⟨hk.1.1.1.1.2.1, ⟨hk.1.1.1.1.2.2.1, ⟨hk.1.1.1.1.2.2.2.1, hk.1.1.1.1.2.2.2.2⟩⟩⟩⟩⟩⟩⟩⟩)), (by (with_reducible repeat (first | apply Kd.R_alloc | apply Kd.R_drewN | apply Kd.R_drew)); exact Kd.R_mono HO_571000.out (fun _ hk => ⟨hk.1.1.1.2, ⟨hk.1.1.2, ⟨hk.1.2, ⟨hk.2, ⟨hk.1.1.1.1.1, ⟨hk.1.1.1.1.2.1, ⟨hk.1.1.1.1.2.2.1, ⟨hk.1.1.1.1.2.2.2.1, hk.1.1.1.1.2.2.2.2⟩⟩⟩⟩⟩⟩⟩⟩)), (by (with_reducible repeat (first | apply Kd.R_alloc | apply Kd.R_drewN | apply Kd.R_drew)); exact Kd.R_mono HO_579001.out (fun _ hk => ⟨hk.1.1.1.2, ⟨hk.1.1.2, ⟨hk.1.2, ⟨hk.2, ⟨hk.1.1.1.1.1, ⟨hk.1.1.1.1.2.1, ⟨hk.1.1.1.1.2.2.1, ⟨hk.1.1.1.1.2.2.2.1, hk.1.1.1.1.2.2.2.2⟩⟩⟩⟩⟩⟩⟩⟩)), (by (with_reducible repeat (first | apply Kd.R_alloc | apply Kd.R_drewN | apply Kd.R_drew)); exact Kd.R_mono HO_579002.out (fun _ hk => ⟨hk.1.1.1.2, ⟨hk.1.1.2, ⟨hk.1.2, ⟨hk.2, ⟨hk.1.1.1.1.1, ⟨hk.1.1.1.1.2.1, ⟨hk.1.1.1.1.2.2.1, ⟨hk.1.1.1.1.2.2.2.1, hk.1.1.1.1.2.2.2.2⟩⟩⟩⟩⟩⟩⟩⟩)), (by (with_reducible repeat (first | refine blk_drewN ?_ _ | refine blk_drew ?_ | refine blk_alloc ?_ _)); exact BK541.out), (by (with_reducible repeat (first | refine blk_drewN ?_ _ | refine blk_drew ?_ | refine blk_alloc ?_ _)); exact BK542.out), (by (with_reducible repeat (first | refine blk_drewN ?_ _ | refine blk_drew ?_ | refine blk_alloc ?_ _)); exact BK560.out), (by (with_reducible repeat (first | refine blk_drewN ?_ _ | refine blk_drew ?_ | refine blk_alloc ?_ _)); exact BK566.out), (by (with_reducible repeat (first | refine blk_drewN ?_ _ | refine blk_drew ?_ | refine blk_alloc ?_ _)); exact BK570.out), (by (with_reducible repeat (first | refine blk_drewN ?_ _ | refine blk_drew ?_ | refine blk_alloc ?_ _)); exact BK578.out), (by (with_reducible repeat (first | refine blk_drewN ?_ _ | refine blk_drew ?_ | refine blk_alloc ?_ _)); exact BK614.out), GW614.out, GE614.out, NB541_614.out, NB614_541.out, NB542_614.out, NB614_542.out, NB560_614.out, NB614_560.out, NB566_614.out, NB614_566.out, NB570_614.out, NB614_570.out, NB578_614.out, NB614_578.out, (by repeat (first | (with_reducible first | exact HB.out | apply below_alloc | apply pw_below_drewN | apply below_drew1 | refine below_set ?_ GW541.out | refine below_set ?_ GW542.out | refine below_set ?_ GE560.out | refine below_set ?_ GW566.out | refine below_set ?_ GW570.out | refine below_set ?_ GW578.out | refine below_set ?_ GE614.out) | exact HB.out))⟩)
       ·skip
        refine box_step ?hg (N := 13) ?hd (cs := #[.int .i64 0, .slice none 0 0, .slice none 0 0]) (t := 40) ?hr ?_; (case hd => rfl); (case hg => rfl); (case hr => first | (go_simp; done) | (go_simp; rfl))
        intro gb614 hg w137 hbox hb
        have n0_ := Aside0.mk (Kd.R_below (ra_ HO_561001.out) hb)
        have n1_ := Aside0.mk (Kd.R_below (ra_ HO_561002.out) hb)
        have n2_ := Aside0.mk (Kd.R_below (ra_ HO_567002.out) hb)
        have n3_ := Aside0.mk (Kd.R_below (ra_ HO_571000.out) hb)
        have n4_ := Aside0.mk (Kd.R_below (ra_ HO_579001.out) hb)
        have n5_ := Aside0.mk (Kd.R_below (ra_ HO_579002.out) hb)
        have n6_ := Aside0.mk (bk_ BK541.out hb)
        have n7_ := Aside0.mk (bk_ BK542.out hb)
        have n8_ := Aside0.mk (bk_ BK560.out hb)
        have n9_ := Aside0.mk (bk_ BK566.out hb)
        have n10_ := Aside0.mk (bk_ BK570.out hb)
        have n11_ := Aside0.mk (bk_ BK578.out hb)
        have n12_ := Aside0.mk (bs_ HB.out hb)
        have n13_ := Aside0.mk (hbox)
        have n14_ := Aside0.mk ((by rw [hg]; exact (bz_ HB.out) : w.heap.size ≤ gb614))
        have n15_ := Aside0.mk ((by rw [hg]; exact (bz_ HB.out) : w.heap.size ≤ gb614))
        have n16_ := Aside0.mk ((by rw [hg]; exact Nat.ne_of_lt (bl_ BK541.out) : gb541 ≠ gb614))
        have n17_ := Aside0.mk ((by rw [hg]; exact Nat.ne_of_gt (bl_ BK541.out) : gb614 ≠ gb541))
        have n18_ := Aside0.mk ((by rw [hg]; exact Nat.ne_of_lt (bl_ BK542.out) : gb542 ≠ gb614))
        have n19_ := Aside0.mk ((by rw [hg]; exact Nat.ne_of_gt (bl_ BK542.out) : gb614 ≠ gb542))
        have n20_ := Aside0.mk ((by rw [hg]; exact Nat.ne_of_lt (bl_ BK560.out) : gb560 ≠ gb614))
        have n21_ := Aside0.mk ((by rw [hg]; exact Nat.ne_of_gt (bl_ BK560.out) : gb614 ≠ gb560))
        have n22_ := Aside0.mk ((by rw [hg]; exact Nat.ne_of_lt (bl_ BK566.out) : gb566 ≠ gb614))
        have n23_ := Aside0.mk ((by rw [hg]; exact Nat.ne_of_gt (bl_ BK566.out) : gb614 ≠ gb566))
        have n24_ := Aside0.mk ((by rw [hg]; exact Nat.ne_of_lt (bl_ BK570.out) : gb570 ≠ gb614))
        have n25_ := Aside0.mk ((by rw [hg]; exact Nat.ne_of_gt (bl_ BK570.out) : gb614 ≠ gb570))
        have n26_ := Aside0.mk ((by rw [hg]; exact Nat.ne_of_lt (bl_ BK578.out) : gb578 ≠ gb614))
        have n27_ := Aside0.mk ((by rw [hg]; exact Nat.ne_of_gt (bl_ BK578.out) : gb614 ≠ gb578))
        clear HO_561001 HO_561002 HO_567002 HO_571000 HO_579001 HO_579002 BK541 BK542 BK560 BK566 BK570 BK578 HB
        have HO_561001 := n0_
        have HO_561002 := n1_
        have HO_567002 := n2_
        have HO_571000 := n3_
        have HO_579001 := n4_
        have HO_579002 := n5_
        have BK541 := n6_
        have BK542 := n7_
        have BK560 := n8_
        have BK566 := n9_
        have BK570 := n10_
        have BK578 := n11_
        have HB := n12_
        have BK614 := n13_
        have GW614 := n14_
        have GE614 := n15_
        have NB541_614 := n16_
        have NB614_541 := n17_
        have NB542_614 := n18_
        have NB614_542 := n19_
        have NB560_614 := n20_
        have NB614_560 := n21_
        have NB566_614 := n22_
        have NB614_566 := n23_
        have NB570_614 := n24_
        have NB614_570 := n25_
        have NB578_614 := n26_
        have NB614_578 := n27_
        clear n0_ n1_ n2_ n3_ n4_ n5_ n6_ n7_ n8_ n9_ n10_ n11_ n12_ n13_ n14_ n15_ n16_ n17_ n18_ n19_ n20_ n21_ n22_ n23_ n24_ n25_ n26_ n27_ hb hbox hg
        refine hK.out _ _ ⟨(blk_cell BK541.out 0).trans rfl, (blk_cell BK541.out 1).trans rfl, (blk_cell BK541.out 2).trans rfl, (blk_cell BK542.out 0).trans rfl⟩ (fun hHeld => ?_)
        clear hK K
        refine norm_ (a' := ?_) ?_ ?_
        rotate_left
        ·show Act.put _ (some 13) _ = _
         simp only [Act.put, List.setIfInBounds_toArray, List.set_cons_zero, List.set_cons_succ, i64_w, i32_w]
         rfl
        refine one_ (i := 1) (N := some 76) (bt_ 7 39) rfl rfl (by kernel_rfl) (by decide) (fun K hK => ?_)
        refine goes_ Try.func25 (by kernel_rfl) rfl #[.agg #[.int .i64 a0_0, .int .i64 a0_1, .slice A0_2 l0_2.length c0_2]] (by rfl) rfl rfl (by (try simp only [List.map_toArray, List.map_cons, List.map_nil]); first | done | rfl | (simp only [List.length_drop, List.length_take]; rfl)) ?_
        with_reducible refine (laws_toMesh.calls kj34 a0_0 a0_1 _ _ l0_2 t599 t600 t601 _ ?side1 ?side2 A119.out).mono ?_
        (case side1 => exact cb_ HR0_2.out HB.out)
        (case side2 => exact HC0_2.out)
        rintro e w138 ⟨v602, rfl, ho0, hb⟩
        refine ⟨_, rfl, ?_⟩
        have HO603 := Aside0.mk (Kd.R_lower (Kd.R_new' (Kd.R_new' (Kd.R_new' (Kd.R_new' (Kd.R_new' (Kd.R_new' ho0 (rl_ HO_561001.out)) (rl_ HO_561002.out)) (rl_ HO_567002.out)) (rl_ HO_571000.out)) (rl_ HO_579001.out)) (rl_ HO_579002.out)) (bz_ HB.out))
        replace HO_561001 := re_ HO_561001 ho0 hb
        replace HO_561002 := re_ HO_561002 ho0 hb
        replace HO_567002 := re_ HO_567002 ho0 hb
        replace HO_571000 := re_ HO_571000 ho0 hb
        replace HO_579001 := re_ HO_579001 ho0 hb
        replace HO_579002 := re_ HO_579002 ho0 hb
        replace BK541 := kb_ BK541 hb
        replace BK542 := kb_ BK542 hb
        replace BK560 := kb_ BK560 hb
        replace BK566 := kb_ BK566 hb
        replace BK570 := kb_ BK570 hb
        replace BK578 := kb_ BK578 hb
        replace BK614 := kb_ BK614 hb
        replace HB := hs_ HB hb
        (try clear hb)
        (try clear hk)
        (try clear ho0)
        refine hK.out _ _ ⟨(blk_cell BK541.out 0).trans rfl, (blk_cell BK541.out 1).trans rfl, (blk_cell BK541.out 2).trans rfl, (blk_cell BK542.out 0).trans rfl⟩ (fun hHeld => ?_)
        clear hK K
        refine norm_ (a' := ?_) ?_ ?_
        rotate_left
        ·show Act.put _ (some 76) _ = _
         simp only [Act.put, List.setIfInBounds_toArray, List.set_cons_zero, List.set_cons_succ, i64_w, i32_w]
         rfl
        refine one_ (i := 3) (N := some 78) (bt_ 7 47) rfl rfl (by kernel_rfl) (by decide) (fun K hK => ?_)
        refine goes_ Try.func26 (by kernel_rfl) rfl #[.agg #[.slice A1_0 l1_0.length c1_0]] (by rfl) rfl rfl (by (try simp only [List.map_toArray, List.map_cons, List.map_nil]); first | done | rfl | (simp only [List.length_drop, List.length_take]; rfl)) ?_
        with_reducible refine (laws_toTable.calls kj34 _ _ l1_0 t604 _ ?side1 ?side2 A120.out).mono ?_
        (case side1 => exact cb_ HR1_0.out HB.out)
        (case side2 => exact HC1_0.out)
        rintro e w139 ⟨v605, rfl, ho0, hb⟩
        refine ⟨_, rfl, ?_⟩
        have HO606 := Aside0.mk (Kd.R_lower (Kd.R_new' (Kd.R_new' (Kd.R_new' (Kd.R_new' (Kd.R_new' (Kd.R_new' (Kd.R_new' ho0 (rl_ HO_561001.out)) (rl_ HO_561002.out)) (rl_ HO_567002.out)) (rl_ HO_571000.out)) (rl_ HO_579001.out)) (rl_ HO_579002.out)) (rl_ HO603.out)) (bz_ HB.out))
        replace HO_561001 := re_ HO_561001 ho0 hb
        replace HO_561002 := re_ HO_561002 ho0 hb
        replace HO_567002 := re_ HO_567002 ho0 hb
        replace HO_571000 := re_ HO_571000 ho0 hb
        replace HO_579001 := re_ HO_579001 ho0 hb
        replace HO_579002 := re_ HO_579002 ho0 hb
        replace HO603 := re_ HO603 ho0 hb
        replace BK541 := kb_ BK541 hb
        replace BK542 := kb_ BK542 hb
        replace BK560 := kb_ BK560 hb
        replace BK566 := kb_ BK566 hb
        replace BK570 := kb_ BK570 hb
        replace BK578 := kb_ BK578 hb
        replace BK614 := kb_ BK614 hb
        replace HB := hs_ HB hb
        (try clear hb)
        (try clear hk)
        (try clear ho0)
        obtain ⟨Ao140, co140, eo140⟩ := Kd.R_slice HO603.out
        (first | subst eo140 | (injection eo140 with f1_ f2_ f3_; have f4_ := f1_.symm; have f5_ := f3_.symm; clear f1_ f2_ f3_; subst f4_; subst f5_))
        obtain ⟨Ao141, co141, eo141⟩ := Kd.R_slice HO606.out
        (first | subst eo141 | (injection eo141 with f1_ f2_ f3_; have f4_ := f1_.symm; have f5_ := f3_.symm; clear f1_ f2_ f3_; subst f4_; subst f5_))
        refine hK.out _ _ ⟨(blk_cell BK541.out 0).trans rfl, (blk_cell BK541.out 1).trans rfl, (blk_cell BK541.out 2).trans rfl, (blk_cell BK542.out 0).trans rfl⟩ (fun hHeld => ?_)
        clear hK K
        refine norm_ (a' := ?_) ?_ ?_
        rotate_left
        ·show Act.put _ (some 78) _ = _
         simp only [Act.put, List.setIfInBounds_toArray, List.set_cons_zero, List.set_cons_succ, i64_w, i32_w]
         rfl
        refine one_ (i := 4) (N := some 79) (bt_ 7 63) rfl rfl (by kernel_rfl) (by decide) (fun K hK => ?_)
        refine goes_ Try.func27 (by kernel_rfl) rfl #[.agg #[.int .i64 t599, .int .i64 t600, .slice Ao140 t601.length co140], .agg #[.slice Ao141 t604.length co141]] (by rfl) rfl rfl (by (try simp only [List.map_toArray, List.map_cons, List.map_nil]); first | done | rfl | (simp only [List.length_drop, List.length_take]; rfl)) ?_
        with_reducible refine (impl_CheckTable.calls kj34 t599 t600 _ _ t601 _ _ t604 t607 t608 t611 _ ?side1 ?side2 ?side3 ?side4 A121.out).mono ?_
        (case side1 => exact rr_ HO603)
        (case side2 => exact (Kd.R_reads' HO603.out).2.1)
        (case side3 => exact rr_ HO606)
        (case side4 => exact (Kd.R_reads' HO606.out).2.1)
        rintro e w142 ⟨v609, v612, rfl, ho0, ho1, hb⟩
        refine ⟨_, rfl, ?_⟩
        have HO610 := Aside0.mk (Kd.R_lower (Kd.R_new' (Kd.R_new' (Kd.R_new' (Kd.R_new' (Kd.R_new' (Kd.R_new' (Kd.R_new' (Kd.R_new' ho0 (rl_ HO_561001.out)) (rl_ HO_561002.out)) (rl_ HO_567002.out)) (rl_ HO_571000.out)) (rl_ HO_579001.out)) (rl_ HO_579002.out)) (rl_ HO603.out)) (rl_ HO606.out)) (bz_ HB.out))
        have HO613 := Aside0.mk (Kd.R_lower (Kd.R_new' (Kd.R_new' (Kd.R_new' (Kd.R_new' (Kd.R_new' (Kd.R_new' (Kd.R_new' (Kd.R_new' ho1 (rl_ HO_561001.out)) (rl_ HO_561002.out)) (rl_ HO_567002.out)) (rl_ HO_571000.out)) (rl_ HO_579001.out)) (rl_ HO_579002.out)) (rl_ HO603.out)) (rl_ HO606.out)) (bz_ HB.out))
        replace HO_561001 := Aside0.mk (Kd.R_mono (Kd.R_told (Kd.R_told (Kd.R_old (ra_ HO_561001.out) hb) (Kd.R_base ho0)) (Kd.R_base ho1)) (fun _ h_ => h_.1))
        replace HO_561002 := Aside0.mk (Kd.R_mono (Kd.R_told (Kd.R_told (Kd.R_old (ra_ HO_561002.out) hb) (Kd.R_base ho0)) (Kd.R_base ho1)) (fun _ h_ => h_.1))
        replace HO_567002 := Aside0.mk (Kd.R_mono (Kd.R_told (Kd.R_told (Kd.R_old (ra_ HO_567002.out) hb) (Kd.R_base ho0)) (Kd.R_base ho1)) (fun _ h_ => h_.1))
        replace HO_571000 := Aside0.mk (Kd.R_mono (Kd.R_told (Kd.R_told (Kd.R_old (ra_ HO_571000.out) hb) (Kd.R_base ho0)) (Kd.R_base ho1)) (fun _ h_ => h_.1))
        replace HO_579001 := Aside0.mk (Kd.R_mono (Kd.R_told (Kd.R_told (Kd.R_old (ra_ HO_579001.out) hb) (Kd.R_base ho0)) (Kd.R_base ho1)) (fun _ h_ => h_.1))
        replace HO_579002 := Aside0.mk (Kd.R_mono (Kd.R_told (Kd.R_told (Kd.R_old (ra_ HO_579002.out) hb) (Kd.R_base ho0)) (Kd.R_base ho1)) (fun _ h_ => h_.1))
        replace HO603 := Aside0.mk (Kd.R_mono (Kd.R_told (Kd.R_told (Kd.R_old (ra_ HO603.out) hb) (Kd.R_base ho0)) (Kd.R_base ho1)) (fun _ h_ => h_.1))
        replace HO606 := Aside0.mk (Kd.R_mono (Kd.R_told (Kd.R_told (Kd.R_old (ra_ HO606.out) hb) (Kd.R_base ho0)) (Kd.R_base ho1)) (fun _ h_ => h_.1))
        replace BK541 := kb_ BK541 hb
        replace BK542 := kb_ BK542 hb
        replace BK560 := kb_ BK560 hb
        replace BK566 := kb_ BK566 hb
        replace BK570 := kb_ BK570 hb
        replace BK578 := kb_ BK578 hb
        replace BK614 := kb_ BK614 hb
        replace HB := hs_ HB hb
        (try clear hb)
        (try clear hk)
        (try clear ho0)
        (try clear ho1)
        refine hK.out _ _ ⟨(blk_cell BK541.out 0).trans rfl, (blk_cell BK541.out 1).trans rfl, (blk_cell BK541.out 2).trans rfl, (blk_cell BK542.out 0).trans rfl⟩ (fun hHeld => ?_)
        clear hK K
        refine norm_ (a' := ?_) ?_ ?_
        rotate_left
        ·show Act.put _ (some 79) _ = _
         simp only [Act.put, List.setIfInBounds_toArray, List.set_cons_zero, List.set_cons_succ, i64_w, i32_w]
         rfl
        exact norm_ (by simp only [putAll, Act.put, List.setIfInBounds_toArray, List.set_cons_zero, List.set_cons_succ]) (hCont (.slice Ao140 t601.length co140, .slice Ao141 t604.length co141, v609, v612, gb614) _ ⟨hHeld, (by (with_reducible repeat (first | apply Kd.R_alloc | apply Kd.R_drewN | apply Kd.R_drew)); exact Kd.R_mono HO603.out (fun _ hk => ⟨hk.1.1.2, ⟨hk.1.2, ⟨hk.2, ⟨hk.1.1.1.1.1.1.1.1.2, ⟨hk.1.1.1.1.1.1.1.2, ⟨hk.1.1.1.1.1.1.2, ⟨hk.1.1.1.1.1.2, ⟨hk.1.1.1.1.2, hk.1.1.1.2⟩⟩⟩⟩⟩⟩⟩⟩)), (by (with_reducible repeat (first | apply Kd.R_alloc | apply Kd.R_drewN | apply Kd.R_drew)); exact Kd.R_mono HO606.out (fun _ hk => ⟨hk.1.1.2, ⟨hk.1.2, ⟨hk.2, ⟨hk.1.1.1.1.1.1.1.1.2, ⟨hk.1.1.1.1.1.1.1.2, ⟨hk.1.1.1.1.1.1.2, ⟨hk.1.1.1.1.1.2, ⟨hk.1.1.1.1.2, hk.1.1.1.2⟩⟩⟩⟩⟩⟩⟩⟩)), (by (with_reducible repeat (first | apply Kd.R_alloc | apply Kd.R_drewN | apply Kd.R_drew)); exact Kd.R_mono HO610.out (fun _ hk => ⟨hk.1.2, ⟨hk.2, ⟨hk.1.1.1.1.1.1.1.1, ⟨hk.1.1.1.1.1.1.1.2, ⟨hk.1.1.1.1.1.1.2, ⟨hk.1.1.1.1.1.2, ⟨hk.1.1.1.1.2, ⟨hk.1.1.1.2, hk.1.1.2⟩⟩⟩⟩⟩⟩⟩⟩)), (by (with_reducible repeat (first | apply Kd.R_alloc | apply Kd.R_drewN | apply Kd.R_drew)); exact Kd.R_mono HO613.out (fun _ hk => ⟨hk.1.2, ⟨hk.2, ⟨hk.1.1.1.1.1.1.1.1, ⟨hk.1.1.1.1.1.1.1.2, ⟨hk.1.1.1.1.1.1.2, ⟨hk.1.1.1.1.1.2, ⟨hk.1.1.1.1.2, ⟨hk.1.1.1.2, hk.1.1.2⟩⟩⟩⟩⟩⟩⟩⟩)), (by (with_reducible repeat (first | apply Kd.R_alloc | apply Kd.R_drewN | apply Kd.R_drew)); exact Kd.R_mono HO_561001.out (fun _ hk => ⟨hk.1.1.1.2, ⟨hk.1.1.2, ⟨hk.1.2, ⟨hk.2, ⟨hk.1.1.1.1.1, ⟨hk.1.1.1.1.2.1, ⟨hk.1.1.1.1.2.2.1, ⟨hk.1.1.1.1.2.2.2.1, hk.1.1.1.1.2.2.2.2⟩⟩⟩⟩⟩⟩⟩⟩)), (by (with_reducible repeat (first | apply Kd.R_alloc | apply Kd.R_drewN | apply Kd.R_drew)); exact Kd.R_mono HO_561002.out (fun _ hk => ⟨hk.1.1.1.2, ⟨hk.1.1.2, ⟨hk.1.2, ⟨hk.2, ⟨hk.1.1.1.1.1, ⟨hk.1.1.1.1.2.1, ⟨hk.1.1.1.1.2.2.1, ⟨hk.1.1.1.1.2.2.2.1, hk.1.1.1.1.2.2.2.2⟩⟩⟩⟩⟩⟩⟩⟩)), (by (with_reducible repeat (first | apply Kd.R_alloc | apply Kd.R_drewN | apply Kd.R_drew)); exact Kd.R_mono HO_567002.out (fun _ hk => ⟨hk.1.1.1.2, ⟨hk.1.1.2, ⟨hk.1.2, ⟨hk.2, ⟨hk.1.1.1.1.1, ⟨hk.1.1.1.1.2.1, ⟨hk.1.1.1.1.2.2.1, ⟨hk.1.1.1.1.2.2.2.1, hk.1.1.1.1.2.2.2.2⟩⟩⟩⟩⟩⟩⟩⟩)), (by (with_reducible repeat (first | apply Kd.R_alloc | apply Kd.R_drewN | apply Kd.R_drew)); exact Kd.R_mono HO_571000.out (fun _ hk => ⟨hk.1.1.1.2, ⟨hk.1.1.2, ⟨hk.1.2, ⟨hk.2, ⟨hk.1.1.1.1.1, ⟨hk.1.1.1.1.2.1, ⟨hk.1.1.1.1.2.2.1, ⟨hk.1.1.1.1.2.2.2.1, hk.1.1.1.1.2.2.2.2⟩⟩⟩⟩⟩⟩⟩⟩)), (by (with_reducible repeat (first | apply Kd.R_alloc | apply Kd.R_drewN | apply Kd.R_drew)); exact Kd.R_mono HO_579001.out (fun _ hk => ⟨hk.1.1.1.2, ⟨hk.1.1.2, ⟨hk.1.2, ⟨hk.2, ⟨hk.1.1.1.1.1, ⟨hk.1.1.1.1.2.1, ⟨hk.1.1.1.1.2.2.1, ⟨hk.1.1.1.1.2.2.2.1, hk.1.1.1.1.2.2.2.2⟩⟩⟩⟩⟩⟩⟩⟩)), (by (with_reducible repeat (first | apply Kd.R_alloc | apply Kd.R_drewN | apply Kd.R_drew)); exact Kd.R_mono HO_579002.out (fun _ hk => ⟨hk.1.1.1.2, ⟨hk.1.1.2, ⟨hk.1.2, ⟨hk.2, ⟨hk.1.1.1.1.1, ⟨hk.1.1.1.1.2.1, ⟨hk.1.1.1.1.2.2.1, ⟨hk.1.1.1.1.2.2.2.1, hk.1.1.1.1.2.2.2.2⟩⟩⟩⟩⟩⟩⟩⟩)), (by (with_reducible repeat (first | refine blk_drewN ?_ _ | refine blk_drew ?_ | refine blk_alloc ?_ _)); exact BK541.out), (by (with_reducible repeat (first | refine blk_drewN ?_ _ | refine blk_drew ?_ | refine blk_alloc ?_ _)); exact BK542.out), (by (with_reducible repeat (first | refine blk_drewN ?_ _ | refine blk_drew ?_ | refine blk_alloc ?_ _)); exact BK560.out), (by (with_reducible repeat (first | refine blk_drewN ?_ _ | refine blk_drew ?_ | refine blk_alloc ?_ _)); exact BK566.out), (by (with_reducible repeat (first | refine blk_drewN ?_ _ | refine blk_drew ?_ | refine blk_alloc ?_ _)); exact BK570.out), (by (with_reducible repeat (first | refine blk_drewN ?_ _ | refine blk_drew ?_ | refine blk_alloc ?_ _)); exact BK578.out), (by (with_reducible repeat (first | refine blk_drewN ?_ _ | refine blk_drew ?_ | refine blk_alloc ?_ _)); exact BK614.out), GW614.out, GE614.out, NB541_614.out, NB614_541.out, NB542_614.out, NB614_542.out, NB560_614.out, NB614_560.out, NB566_614.out, NB614_566.out, NB570_614.out, NB614_570.out, NB578_614.out, NB614_578.out, (by repeat (first | (with_reducible first | exact HB.out | apply below_alloc | apply pw_below_drewN | apply below_drew1 | refine below_set ?_ GW541.out | refine below_set ?_ GW542.out | refine below_set ?_ GE560.out | refine below_set ?_ GW566.out | refine below_set ?_ GW570.out | refine below_set ?_ GW578.out | refine below_set ?_ GE614.out) | exact HB.out))⟩)
      rintro ⟨v602, v605, v609, v612, gb614⟩ w143 ⟨hS_, h0_, h1_, h2_, h3_, h4_, h5_, h6_, h7_, h8_, h9_, h10_, h11_, h12_, h13_, h14_, h15_, h16_, h17_, h18_, h19_, h20_, h21_, h22_, h23_, h24_, h25_, h26_, h27_, h28_, h29_, h30_, h31_⟩
      have HO603 : Aside0 (Kd.R (Kd.int .i64) 3 w143 w.heap.size (fun k_ => some k_ ≠ (v605 : Value).ownBlock ∧ some k_ ≠ (v609 : Value).ownBlock ∧ some k_ ≠ (v612 : Value).ownBlock ∧ some k_ ≠ (.slice Ao52 t554.length co52 : Value).ownBlock ∧ some k_ ≠ (.slice Ao54 t557.length co54 : Value).ownBlock ∧ some k_ ≠ (.slice Ao64 t591.length co64 : Value).ownBlock ∧ some k_ ≠ (.slice Ao69 t593.length co69 : Value).ownBlock ∧ some k_ ≠ (.slice Ao84 t572.length co84 : Value).ownBlock ∧ some k_ ≠ (.slice Ao85 t575.length co85 : Value).ownBlock) v602 t601) := ⟨h0_⟩
      have HO606 : Aside0 (Kd.R (Kd.int .i64) 3 w143 w.heap.size (fun k_ => some k_ ≠ (v602 : Value).ownBlock ∧ some k_ ≠ (v609 : Value).ownBlock ∧ some k_ ≠ (v612 : Value).ownBlock ∧ some k_ ≠ (.slice Ao52 t554.length co52 : Value).ownBlock ∧ some k_ ≠ (.slice Ao54 t557.length co54 : Value).ownBlock ∧ some k_ ≠ (.slice Ao64 t591.length co64 : Value).ownBlock ∧ some k_ ≠ (.slice Ao69 t593.length co69 : Value).ownBlock ∧ some k_ ≠ (.slice Ao84 t572.length co84 : Value).ownBlock ∧ some k_ ≠ (.slice Ao85 t575.length co85 : Value).ownBlock) v605 t604) := ⟨h1_⟩
      have HO610 : Aside0 (Kd.R (Kd.int .i64) 3 w143 w.heap.size (fun k_ => some k_ ≠ (v602 : Value).ownBlock ∧ some k_ ≠ (v605 : Value).ownBlock ∧ some k_ ≠ (v612 : Value).ownBlock ∧ some k_ ≠ (.slice Ao52 t554.length co52 : Value).ownBlock ∧ some k_ ≠ (.slice Ao54 t557.length co54 : Value).ownBlock ∧ some k_ ≠ (.slice Ao64 t591.length co64 : Value).ownBlock ∧ some k_ ≠ (.slice Ao69 t593.length co69 : Value).ownBlock ∧ some k_ ≠ (.slice Ao84 t572.length co84 : Value).ownBlock ∧ some k_ ≠ (.slice Ao85 t575.length co85 : Value).ownBlock) v609 t608) := ⟨h2_⟩
      have HO613 : Aside0 (Kd.R (Kd.int .i64) 3 w143 w.heap.size (fun k_ => some k_ ≠ (v602 : Value).ownBlock ∧ some k_ ≠ (v605 : Value).ownBlock ∧ some k_ ≠ (v609 : Value).ownBlock ∧ some k_ ≠ (.slice Ao52 t554.length co52 : Value).ownBlock ∧ some k_ ≠ (.slice Ao54 t557.length co54 : Value).ownBlock ∧ some k_ ≠ (.slice Ao64 t591.length co64 : Value).ownBlock ∧ some k_ ≠ (.slice Ao69 t593.length co69 : Value).ownBlock ∧ some k_ ≠ (.slice Ao84 t572.length co84 : Value).ownBlock ∧ some k_ ≠ (.slice Ao85 t575.length co85 : Value).ownBlock) v612 t611) := ⟨h3_⟩
      replace HO_561001 : Aside0 (Kd.R (Kd.int .i64) 3 w143 w.heap.size (fun k_ => some k_ ≠ (v602 : Value).ownBlock ∧ some k_ ≠ (v605 : Value).ownBlock ∧ some k_ ≠ (v609 : Value).ownBlock ∧ some k_ ≠ (v612 : Value).ownBlock ∧ some k_ ≠ (.slice Ao54 t557.length co54 : Value).ownBlock ∧ some k_ ≠ (.slice Ao64 t591.length co64 : Value).ownBlock ∧ some k_ ≠ (.slice Ao69 t593.length co69 : Value).ownBlock ∧ some k_ ≠ (.slice Ao84 t572.length co84 : Value).ownBlock ∧ some k_ ≠ (.slice Ao85 t575.length co85 : Value).ownBlock) (.slice Ao52 t554.length co52) t554) := ⟨h4_⟩
      replace HO_561002 : Aside0 (Kd.R (Kd.int .i64) 3 w143 w.heap.size (fun k_ => some k_ ≠ (v602 : Value).ownBlock ∧ some k_ ≠ (v605 : Value).ownBlock ∧ some k_ ≠ (v609 : Value).ownBlock ∧ some k_ ≠ (v612 : Value).ownBlock ∧ some k_ ≠ (.slice Ao52 t554.length co52 : Value).ownBlock ∧ some k_ ≠ (.slice Ao64 t591.length co64 : Value).ownBlock ∧ some k_ ≠ (.slice Ao69 t593.length co69 : Value).ownBlock ∧ some k_ ≠ (.slice Ao84 t572.length co84 : Value).ownBlock ∧ some k_ ≠ (.slice Ao85 t575.length co85 : Value).ownBlock) (.slice Ao54 t557.length co54) t557) := ⟨h5_⟩
      replace HO_567002 : Aside0 (Kd.R (Kd.int .i64) 3 w143 w.heap.size (fun k_ => some k_ ≠ (v602 : Value).ownBlock ∧ some k_ ≠ (v605 : Value).ownBlock ∧ some k_ ≠ (v609 : Value).ownBlock ∧ some k_ ≠ (v612 : Value).ownBlock ∧ some k_ ≠ (.slice Ao52 t554.length co52 : Value).ownBlock ∧ some k_ ≠ (.slice Ao54 t557.length co54 : Value).ownBlock ∧ some k_ ≠ (.slice Ao69 t593.length co69 : Value).ownBlock ∧ some k_ ≠ (.slice Ao84 t572.length co84 : Value).ownBlock ∧ some k_ ≠ (.slice Ao85 t575.length co85 : Value).ownBlock) (.slice Ao64 t591.length co64) t591) := ⟨h6_⟩
      replace HO_571000 : Aside0 (Kd.R (Kd.int .i64) 3 w143 w.heap.size (fun k_ => some k_ ≠ (v602 : Value).ownBlock ∧ some k_ ≠ (v605 : Value).ownBlock ∧ some k_ ≠ (v609 : Value).ownBlock ∧ some k_ ≠ (v612 : Value).ownBlock ∧ some k_ ≠ (.slice Ao52 t554.length co52 : Value).ownBlock ∧ some k_ ≠ (.slice Ao54 t557.length co54 : Value).ownBlock ∧ some k_ ≠ (.slice Ao64 t591.length co64 : Value).ownBlock ∧ some k_ ≠ (.slice Ao84 t572.length co84 : Value).ownBlock ∧ some k_ ≠ (.slice Ao85 t575.length co85 : Value).ownBlock) (.slice Ao69 t593.length co69) t593) := ⟨h7_⟩
      replace HO_579001 : Aside0 (Kd.R (Kd.int .i64) 3 w143 w.heap.size (fun k_ => some k_ ≠ (v602 : Value).ownBlock ∧ some k_ ≠ (v605 : Value).ownBlock ∧ some k_ ≠ (v609 : Value).ownBlock ∧ some k_ ≠ (v612 : Value).ownBlock ∧ some k_ ≠ (.slice Ao52 t554.length co52 : Value).ownBlock ∧ some k_ ≠ (.slice Ao54 t557.length co54 : Value).ownBlock ∧ some k_ ≠ (.slice Ao64 t591.length co64 : Value).ownBlock ∧ some k_ ≠ (.slice Ao69 t593.length co69 : Value).ownBlock ∧ some k_ ≠ (.slice Ao85 t575.length co85 : Value).ownBlock) (.slice Ao84 t572.length co84) t596) := ⟨h8_⟩
      replace HO_579002 : Aside0 (Kd.R (Kd.int .i64) 3 w143 w.heap.size (fun k_ => some k_ ≠ (v602 : Value).ownBlock ∧ some k_ ≠ (v605 : Value).ownBlock ∧ some k_ ≠ (v609 : Value).ownBlock ∧ some k_ ≠ (v612 : Value).ownBlock ∧ some k_ ≠ (.slice Ao52 t554.length co52 : Value).ownBlock ∧ some k_ ≠ (.slice Ao54 t557.length co54 : Value).ownBlock ∧ some k_ ≠ (.slice Ao64 t591.length co64 : Value).ownBlock ∧ some k_ ≠ (.slice Ao69 t593.length co69 : Value).ownBlock ∧ some k_ ≠ (.slice Ao84 t572.length co84 : Value).ownBlock) (.slice Ao85 t575.length co85) t597) := ⟨h9_⟩
      replace BK541 : Aside0 (w143.heap[gb541]? = some (.cells #[.int .i64 a0_0, .int .i64 a0_1, .slice A0_2 l0_2.length c0_2] 34 (0, 0))) := ⟨h10_⟩
      replace BK542 : Aside0 (w143.heap[gb542]? = some (.cells #[.slice A1_0 l1_0.length c1_0] 36 (0, 0))) := ⟨h11_⟩
      replace BK560 : Aside0 (w143.heap[gb560]? = some (.cells #[.int .i64 t553, .slice Ao52 t554.length co52, .slice Ao54 t557.length co54] 40 (0, 0))) := ⟨h12_⟩
      replace BK566 : Aside0 (w143.heap[gb566]? = some (.cells #[.int .i64 t561, .int .i64 t562, .slice Ao64 t591.length co64] 44 (0, 0))) := ⟨h13_⟩
      replace BK570 : Aside0 (w143.heap[gb570]? = some (.cells #[.slice Ao69 t593.length co69] 46 (0, 0))) := ⟨h14_⟩
      replace BK578 : Aside0 (w143.heap[gb578]? = some (.cells #[.int .i64 t571, .slice Ao84 t572.length co84, .slice Ao85 t575.length co85] 40 (0, 0))) := ⟨h15_⟩
      have BK614 : Aside0 (w143.heap[gb614]? = some (.cells #[.int .i64 0, .slice none 0 0, .slice none 0 0] 40 (0, 0))) := ⟨h16_⟩
      have GW614 : Aside0 (w.heap.size ≤ gb614) := ⟨h17_⟩
      have GE614 : Aside0 (w.heap.size ≤ gb614) := ⟨h18_⟩
      have NB541_614 : Aside0 (gb541 ≠ gb614) := ⟨h19_⟩
      have NB614_541 : Aside0 (gb614 ≠ gb541) := ⟨h20_⟩
      have NB542_614 : Aside0 (gb542 ≠ gb614) := ⟨h21_⟩
      have NB614_542 : Aside0 (gb614 ≠ gb542) := ⟨h22_⟩
      have NB560_614 : Aside0 (gb560 ≠ gb614) := ⟨h23_⟩
      have NB614_560 : Aside0 (gb614 ≠ gb560) := ⟨h24_⟩
      have NB566_614 : Aside0 (gb566 ≠ gb614) := ⟨h25_⟩
      have NB614_566 : Aside0 (gb614 ≠ gb566) := ⟨h26_⟩
      have NB570_614 : Aside0 (gb570 ≠ gb614) := ⟨h27_⟩
      have NB614_570 : Aside0 (gb614 ≠ gb570) := ⟨h28_⟩
      have NB578_614 : Aside0 (gb578 ≠ gb614) := ⟨h29_⟩
      have NB614_578 : Aside0 (gb614 ≠ gb578) := ⟨h30_⟩
      replace HB : Aside0 (Below w.heap.size w w143) := ⟨h31_⟩
      clear h0_ h1_ h2_ h3_ h4_ h5_ h6_ h7_ h8_ h9_ h10_ h11_ h12_ h13_ h14_ h15_ h16_ h17_ h18_ h19_ h20_ h21_ h22_ h23_ h24_ h25_ h26_ h27_ h28_ h29_ h30_ h31_
      have hHeld : w143.cell? ⟨gb541, 0, none⟩ = some (.int .i64 a0_0) ∧ w143.cell? ⟨gb541, 1, none⟩ = some (.int .i64 a0_1) ∧ w143.cell? ⟨gb541, 2, none⟩ = some (.slice A0_2 l0_2.length c0_2) ∧ w143.cell? ⟨gb542, 0, none⟩ = some (.slice A1_0 l1_0.length c1_0) := hS_
      obtain ⟨Ao145, co145, eo145⟩ := Kd.R_slice HO610.out
      (first | subst eo145 | (injection eo145 with f1_ f2_ f3_; have f4_ := f1_.symm; have f5_ := f3_.symm; clear f1_ f2_ f3_; subst f4_; subst f5_))
      obtain ⟨Ao147, co147, eo147⟩ := Kd.R_slice HO613.out
      (first | subst eo147 | (injection eo147 with f1_ f2_ f3_; have f4_ := f1_.symm; have f5_ := f3_.symm; clear f1_ f2_ f3_; subst f4_; subst f5_))
      refine norm_ (a' := ?_) ?_ ?_
      rotate_left
      ·simp only [putAll, Act.put, List.setIfInBounds_toArray, List.set_cons_zero, List.set_cons_succ]
       rfl
      refine one_ (i := 6) (N := none) (bt_ 7 127) rfl rfl (by kernel_rfl) (by decide) (fun K hK => ?_)
      have hs144 : w143.cell? ⟨gb614, 0, none⟩ = some (.int .i64 0) := (blk_cell BK614.out 0).trans rfl
      have hfs144 := blk_frozen BK614.out 0
      have hns144_0 := NB541_614.out
      have hns144_1 := NB542_614.out
      have hns144_2 := NB560_614.out
      have hns144_3 := NB566_614.out
      have hns144_4 := NB570_614.out
      have hns144_5 := NB578_614.out
      have hms144_0 := NB614_541.out
      have hms144_1 := NB614_542.out
      have hms144_2 := NB614_560.out
      have hms144_3 := NB614_566.out
      have hms144_4 := NB614_570.out
      have hms144_5 := NB614_578.out
      have hs146 : w143.cell? ⟨gb614, 1, none⟩ = some (.slice none 0 0) := (blk_cell BK614.out 1).trans rfl
      have hfs146 := blk_frozen BK614.out 1
      have hns146_0 := NB541_614.out
      have hns146_1 := NB542_614.out
      have hns146_2 := NB560_614.out
      have hns146_3 := NB566_614.out
      have hns146_4 := NB570_614.out
      have hns146_5 := NB578_614.out
      have hms146_0 := NB614_541.out
      have hms146_1 := NB614_542.out
      have hms146_2 := NB614_560.out
      have hms146_3 := NB614_566.out
      have hms146_4 := NB614_570.out
      have hms146_5 := NB614_578.out
      have hs148 : w143.cell? ⟨gb614, 2, none⟩ = some (.slice none 0 0) := (blk_cell BK614.out 2).trans rfl
      have hfs148 := blk_frozen BK614.out 2
      have hns148_0 := NB541_614.out
      have hns148_1 := NB542_614.out
      have hns148_2 := NB560_614.out
      have hns148_3 := NB566_614.out
      have hns148_4 := NB570_614.out
      have hns148_5 := NB578_614.out
      have hms148_0 := NB614_541.out
      have hms148_1 := NB614_542.out
      have hms148_2 := NB614_560.out
      have hms148_3 := NB614_566.out
      have hms148_4 := NB614_570.out
      have hms148_5 := NB614_578.out
      refine skip_ (w1 := ?_) (by rfl) rfl ?_ ?_
      rotate_left
      ·go_simp
       rfl
      refine hK.out _ _ ⟨((cell_far (p := ⟨gb614, _, none⟩) NB541_614.out _).trans (((cell_far (p := ⟨gb614, _, none⟩) NB541_614.out _).trans (((cell_far (p := ⟨gb614, _, none⟩) NB541_614.out _).trans (hHeld.1)))))), ((cell_far (p := ⟨gb614, _, none⟩) NB541_614.out _).trans (((cell_far (p := ⟨gb614, _, none⟩) NB541_614.out _).trans (((cell_far (p := ⟨gb614, _, none⟩) NB541_614.out _).trans (hHeld.2.1)))))), ((cell_far (p := ⟨gb614, _, none⟩) NB541_614.out _).trans (((cell_far (p := ⟨gb614, _, none⟩) NB541_614.out _).trans (((cell_far (p := ⟨gb614, _, none⟩) NB541_614.out _).trans (hHeld.2.2.1)))))), ((cell_far (p := ⟨gb614, _, none⟩) NB542_614.out _).trans (((cell_far (p := ⟨gb614, _, none⟩) NB542_614.out _).trans (((cell_far (p := ⟨gb614, _, none⟩) NB542_614.out _).trans (hHeld.2.2.2))))))⟩ (fun hHeld => ?_)
      clear hK K
      refine done_ (by kernel_rfl) ?_
      have hnb149 := NB614_541.out
      have hnc149 := NB541_614.out
      have hnb150 := NB614_542.out
      have hnc150 := NB542_614.out
      have hnb151 := NB614_560.out
      have hnc151 := NB560_614.out
      have hnb152 := NB614_566.out
      have hnc152 := NB566_614.out
      have hnb153 := NB614_570.out
      have hnc153 := NB570_614.out
      have hnb154 := NB614_578.out
      have hnc154 := NB578_614.out
      obtain ⟨hcz155_0, hcz155_1, hcz155_2, hfz155_0, hfz155_1, hfz155_2⟩ := cz3_ BK614.out
      have hnb156 := NB560_541.out
      have hnc156 := NB541_560.out
      have hnb157 := NB560_542.out
      have hnc157 := NB542_560.out
      have hnb158 := NB560_566.out
      have hnc158 := NB566_560.out
      have hnb159 := NB560_570.out
      have hnc159 := NB570_560.out
      obtain ⟨hcz160_0, hcz160_1, hcz160_2, hfz160_0, hfz160_1, hfz160_2⟩ := cz3_ BK560.out
      try go_wp2_with (first | (go_at_call 28; (with_reducible refine (laws_eqVerdict.calls kj34 t607 _ _ t608 _ _ t611 t553 _ _ t554 _ _ t557 true _ ?side1 ?side2 ?side3 ?side4 ?side5 ?side6 ?side7 ?side8 A122.out).mono ?_); (case side1 => refine (Kd.R_reads' (e := 3) (base := w.heap.size) (ok := fun k_ => (some k_ ≠ (v602 : Value).ownBlock ∧ (some k_ ≠ (v605 : Value).ownBlock ∧ (some k_ ≠ (.slice Ao147 t611.length co147 : Value).ownBlock ∧ (some k_ ≠ (.slice Ao52 t554.length co52 : Value).ownBlock ∧ (some k_ ≠ (.slice Ao54 t557.length co54 : Value).ownBlock ∧ (some k_ ≠ (.slice Ao64 t591.length co64 : Value).ownBlock ∧ (some k_ ≠ (.slice Ao69 t593.length co69 : Value).ownBlock ∧ (some k_ ≠ (.slice Ao84 t572.length co84 : Value).ownBlock ∧ some k_ ≠ (.slice Ao85 t575.length co85 : Value).ownBlock))))))))) (n := t608.length) (c := co145) ?_).2.2; exact (rm_ (Kd.R_types HO610.out BK614.out (by decide)) (fun _ h_ => h_.1))); (case side2 => exact (Kd.R_reads' HO610.out).2.1); (case side3 => refine (Kd.R_reads' (e := 3) (base := w.heap.size) (ok := fun k_ => (some k_ ≠ (v602 : Value).ownBlock ∧ (some k_ ≠ (v605 : Value).ownBlock ∧ (some k_ ≠ (.slice Ao145 t608.length co145 : Value).ownBlock ∧ (some k_ ≠ (.slice Ao52 t554.length co52 : Value).ownBlock ∧ (some k_ ≠ (.slice Ao54 t557.length co54 : Value).ownBlock ∧ (some k_ ≠ (.slice Ao64 t591.length co64 : Value).ownBlock ∧ (some k_ ≠ (.slice Ao69 t593.length co69 : Value).ownBlock ∧ (some k_ ≠ (.slice Ao84 t572.length co84 : Value).ownBlock ∧ some k_ ≠ (.slice Ao85 t575.length co85 : Value).ownBlock))))))))) (n := t611.length) (c := co147) ?_).2.2; exact (rm_ (Kd.R_types HO613.out BK614.out (by decide)) (fun _ h_ => h_.1))); (case side4 => exact (Kd.R_reads' HO613.out).2.1); (case side5 => refine (Kd.R_reads' (e := 3) (base := w.heap.size) (ok := fun k_ => (some k_ ≠ (v602 : Value).ownBlock ∧ (some k_ ≠ (v605 : Value).ownBlock ∧ (some k_ ≠ (.slice Ao145 t608.length co145 : Value).ownBlock ∧ (some k_ ≠ (.slice Ao147 t611.length co147 : Value).ownBlock ∧ (some k_ ≠ (.slice Ao54 t557.length co54 : Value).ownBlock ∧ (some k_ ≠ (.slice Ao64 t591.length co64 : Value).ownBlock ∧ (some k_ ≠ (.slice Ao69 t593.length co69 : Value).ownBlock ∧ (some k_ ≠ (.slice Ao84 t572.length co84 : Value).ownBlock ∧ some k_ ≠ (.slice Ao85 t575.length co85 : Value).ownBlock))))))))) (n := t554.length) (c := co52) ?_).2.2; exact (rm_ (Kd.R_types HO_561001.out BK614.out (by decide)) (fun _ h_ => h_.1))); (case side6 => exact (Kd.R_reads' HO_561001.out).2.1); (case side7 => refine (Kd.R_reads' (e := 3) (base := w.heap.size) (ok := fun k_ => (some k_ ≠ (v602 : Value).ownBlock ∧ (some k_ ≠ (v605 : Value).ownBlock ∧ (some k_ ≠ (.slice Ao145 t608.length co145 : Value).ownBlock ∧ (some k_ ≠ (.slice Ao147 t611.length co147 : Value).ownBlock ∧ (some k_ ≠ (.slice Ao52 t554.length co52 : Value).ownBlock ∧ (some k_ ≠ (.slice Ao64 t591.length co64 : Value).ownBlock ∧ (some k_ ≠ (.slice Ao69 t593.length co69 : Value).ownBlock ∧ (some k_ ≠ (.slice Ao84 t572.length co84 : Value).ownBlock ∧ some k_ ≠ (.slice Ao85 t575.length co85 : Value).ownBlock))))))))) (n := t557.length) (c := co54) ?_).2.2; exact (rm_ (Kd.R_types HO_561002.out BK614.out (by decide)) (fun _ h_ => h_.1))); (case side8 => exact (Kd.R_reads' HO_561002.out).2.1); rintro e w161 ⟨rfl, hb⟩; replace HO_561001 := Aside0.mk (Kd.R_below (rm_ (Kd.R_types HO_561001.out BK614.out (by decide)) (fun _ h_ => h_.1)) hb); replace HO_561002 := Aside0.mk (Kd.R_below (rm_ (Kd.R_types HO_561002.out BK614.out (by decide)) (fun _ h_ => h_.1)) hb); replace HO_567002 := Aside0.mk (Kd.R_below (rm_ (Kd.R_types HO_567002.out BK614.out (by decide)) (fun _ h_ => h_.1)) hb); replace HO_571000 := Aside0.mk (Kd.R_below (rm_ (Kd.R_types HO_571000.out BK614.out (by decide)) (fun _ h_ => h_.1)) hb); replace HO_579001 := Aside0.mk (Kd.R_below (rm_ (Kd.R_types HO_579001.out BK614.out (by decide)) (fun _ h_ => h_.1)) hb); replace HO_579002 := Aside0.mk (Kd.R_below (rm_ (Kd.R_types HO_579002.out BK614.out (by decide)) (fun _ h_ => h_.1)) hb); replace HO603 := Aside0.mk (Kd.R_below (rm_ (Kd.R_types HO603.out BK614.out (by decide)) (fun _ h_ => h_.1)) hb); replace HO606 := Aside0.mk (Kd.R_below (rm_ (Kd.R_types HO606.out BK614.out (by decide)) (fun _ h_ => h_.1)) hb); replace HO610 := Aside0.mk (Kd.R_below (rm_ (Kd.R_types HO610.out BK614.out (by decide)) (fun _ h_ => h_.1)) hb); replace HO613 := Aside0.mk (Kd.R_below (rm_ (Kd.R_types HO613.out BK614.out (by decide)) (fun _ h_ => h_.1)) hb); replace BK541 := Aside0.mk (blk_below (bf_ BK541.out) hb); replace BK542 := Aside0.mk (blk_below (bf_ BK542.out) hb); replace BK560 := Aside0.mk (blk_below (bf_ BK560.out) hb); replace BK566 := Aside0.mk (blk_below (bf_ BK566.out) hb); replace BK570 := Aside0.mk (blk_below (bf_ BK570.out) hb); replace BK578 := Aside0.mk (blk_below (bf_ BK578.out) hb); replace BK614 := Aside0.mk (blk_below (g := gb614) (o := .cells #[.int .i64 t607, .slice Ao145 t608.length co145, .slice Ao147 t611.length co147] 40 (0, 0)) (by (with_reducible repeat (first | refine blk_drewN ?_ _ | refine blk_drew ?_ | refine blk_alloc ?_ _)); refine blk_put (cs := #[.int .i64 t607, .slice Ao145 t608.length co145, .slice none 0 0]) ?_ 2 _ rfl; (with_reducible repeat (first | refine blk_drewN ?_ _ | refine blk_drew ?_ | refine blk_alloc ?_ _)); refine blk_put (cs := #[.int .i64 t607, .slice none 0 0, .slice none 0 0]) ?_ 1 _ rfl; (with_reducible repeat (first | refine blk_drewN ?_ _ | refine blk_drew ?_ | refine blk_alloc ?_ _)); refine blk_put (cs := #[.int .i64 0, .slice none 0 0, .slice none 0 0]) ?_ 0 _ rfl; (with_reducible repeat (first | refine blk_drewN ?_ _ | refine blk_drew ?_ | refine blk_alloc ?_ _)); exact BK614.out) hb); replace HB := hs_ HB hb; (try clear hb); obtain ⟨hcz162_0, hcz162_1, hcz162_2, hfz162_0, hfz162_1, hfz162_2⟩ := cz3_ BK578.out) | ((with_reducible refine gate_callee (f := 34) rfl ?_); refine goesL_ (some 86) rfl rfl Try.func34 (by kernel_rfl) rfl #[.agg #[.int .i64 t571, .slice Ao84 t596.length co84, .slice Ao85 t597.length co85], .int .i64 1] rfl (by (try simp only [List.map_toArray, List.map_cons, List.map_nil]); first | done | (rw [show t596.length = t572.length from (Kd.R_reads' HO_579001.out).1.symm, show t597.length = t575.length from (Kd.R_reads' HO_579002.out).1.symm] <;> rfl) | rfl | (simp only [List.length_drop, List.length_take]; rfl)) ?_; (with_reducible refine (laws_heldVerdict.calls kj34 t571 _ _ t596 _ _ t597 1 t616 _ ?side1 ?side2 ?side3 ?side4 A124.out).mono ?_); (case side1 => exact rr_ HO_579001); (case side2 => rw [show t596.length = t572.length from (Kd.R_reads' HO_579001.out).1.symm]; exact (Kd.R_reads' HO_579001.out).2.1); (case side3 => exact rr_ HO_579002); (case side4 => rw [show t597.length = t575.length from (Kd.R_reads' HO_579002.out).1.symm]; exact (Kd.R_reads' HO_579002.out).2.1); rintro e w163 ⟨rfl, hb⟩; refine ⟨_, rfl, ?_⟩; replace HO_561001 := rb_ HO_561001 hb; replace HO_561002 := rb_ HO_561002 hb; replace HO_567002 := rb_ HO_567002 hb; replace HO_571000 := rb_ HO_571000 hb; replace HO_579001 := rb_ HO_579001 hb; replace HO_579002 := rb_ HO_579002 hb; replace HO603 := rb_ HO603 hb; replace HO606 := rb_ HO606 hb; replace HO610 := rb_ HO610 hb; replace HO613 := rb_ HO613 hb; replace BK541 := kb_ BK541 hb; replace BK542 := kb_ BK542 hb; replace BK560 := kb_ BK560 hb; replace BK566 := kb_ BK566 hb; replace BK570 := kb_ BK570 hb; replace BK578 := kb_ BK578 hb; replace BK614 := kb_ BK614 hb; replace HB := hs_ HB hb; (try clear hb)))
      go_ret
      exact ⟨fin_, bb_ HB.out⟩
   ·replace c26 := Bool.eq_false_iff.mpr c26
    subst c26
    rw [if_neg (show ¬ (false = true) by decide)] at H
    exact absurd H (by simp)

end Go.Proofs.Ytimdefbpoddoaaa.PFnExactCheckTable
-- thin
