/- The law's functions as plain functions, and their calls. No condition. -/
import Derived.Test.YtimdefbpoddoaaaPFnExactSafeRulesx0
import Derived.Test.YtimdefbpoddoaaaPFnExactSafeRulesx12
import Derived.Test.YtimdefbpoddoaaaPFnExactSafeRulesx13
import Derived.Test.YtimdefbpoddoaaaPFnExactSafeRulesx21
namespace Go.Proofs.Ytimdefbpoddoaaa.PFnExactSafeRules
open Go.RowKit Go.Proofs.YtimdefbpoddoaaaW.PrintWords Go.Proofs.YtimdefbpoddoaaaW.PrintLast Go.Proofs.YtimdefbpoddoaaaW.PrintMore
attribute [local go_sem] max2_int min2_int max_two min_two max_three min_three max_four min_four
set_option linter.unusedVariables false
set_option maxHeartbeats 8000000
set_option maxRecDepth 100000
set_option linter.unusedSimpArgs false

/-! ### impl_StandardPort: function 96 -/
mutual
def impl_StandardPort.j0 : Nat → Int → Int → Int → Bool → Int → Int → Option (Int)
 | 0, _, _, _, _, _, _ => none
 | k + 1, x1, x2, x3, x25, x517000, x517001 => if x25 = true then (some (-1)) else (if x1 = 4 then (impl_StandardPort.j1 k (wrap64 (1 + (Int.tmod x3 2))) x2 x3 x517000 x517001) else (impl_StandardPort.j1 k x1 x2 x3 x517000 x517001))
def impl_StandardPort.j1 : Nat → Int → Int → Int → Int → Int → Option (Int)
 | 0, _, _, _, _, _ => none
 | k + 1, x1, x2, x3, x517000, x517001 => if x517000 = 0 then (none) else ((impl_along.f (Int.tmod x2 x517000) (Int.tmod x3 x517000)).bind fun t520 => ((impl_across.f (wrap64 (Int.tdiv x2 x517000)) (wrap64 (Int.tdiv x3 x517000))).bind fun t521 => (if x2 = x3 then (some 4) else (if t521 < 0 then (some t520) else (if t520 ≥ 0 then (if x1 = 1 then (some t520) else (if x1 = 3 then (if t520 = 3 then (some t520) else (some t521)) else (some t521))) else (some t521))))))
end
def impl_StandardPort.f (k : Nat) (a0_0 : Int) (a0_1 : Int) (a1 : Int) (a2 : Int) (a3 : Int) : Option (Int) := (impl_isNode.f a0_0 a0_1 a2).bind fun t517 => (if t517 = true then ((impl_isNode.f a0_0 a0_1 a3).bind fun t518 => (if t518 = true then ((impl_inside.f a1 1 4).bind fun t519 => (impl_StandardPort.j0 k a1 a2 a3 (!t519) a0_0 a0_1)) else (impl_StandardPort.j0 k a1 a2 a3 true a0_0 a0_1))) else (impl_StandardPort.j0 k a1 a2 a3 true a0_0 a0_1))
theorem impl_StandardPort.mono_l : ∀ k, (∀ y0 y1 y2 y3 y4 y5, LeO (impl_StandardPort.j0 k y0 y1 y2 y3 y4 y5) (impl_StandardPort.j0 (k + 1) y0 y1 y2 y3 y4 y5)) ∧ (∀ y0 y1 y2 y3 y4, LeO (impl_StandardPort.j1 k y0 y1 y2 y3 y4) (impl_StandardPort.j1 (k + 1) y0 y1 y2 y3 y4))
 | 0 => ⟨fun _ _ _ _ _ _ r h => by simp [impl_StandardPort.j0] at h, fun _ _ _ _ _ r h => by simp [impl_StandardPort.j1] at h⟩
 | k + 1 => by
  obtain ⟨ih0, ih1⟩ := impl_StandardPort.mono_l k
  refine ⟨?_, ?_⟩
  ·intro y0 y1 y2 y3 y4 y5
   unfold impl_StandardPort.j0
   repeat' first
   | (with_reducible exact ih0 _ _ _ _ _ _)
   | (with_reducible exact ih1 _ _ _ _ _)
   | (with_reducible exact LeO.refl _)
   | (with_reducible exact LeO.none _)
   | (with_reducible refine LeO.ite ?_ ?_)
   | (with_reducible refine LeO.bind ?_ (fun _ => ?_))
   | exact ih0 _ _ _ _ _ _
   | exact ih1 _ _ _ _ _
   | exact LeO.none _
   | refine LeO.ite ?_ ?_
   | refine LeO.bind ?_ (fun _ => ?_)
  ·intro y0 y1 y2 y3 y4
   unfold impl_StandardPort.j1
   repeat' first
   | (with_reducible exact ih0 _ _ _ _ _ _)
   | (with_reducible exact ih1 _ _ _ _ _)
   | (with_reducible exact LeO.refl _)
   | (with_reducible exact LeO.none _)
   | (with_reducible refine LeO.ite ?_ ?_)
   | (with_reducible refine LeO.bind ?_ (fun _ => ?_))
   | exact ih0 _ _ _ _ _ _
   | exact ih1 _ _ _ _ _
   | exact LeO.none _
   | refine LeO.ite ?_ ?_
   | refine LeO.bind ?_ (fun _ => ?_)
theorem impl_StandardPort.mono : ∀ a0 a1 a2 a3 a4 k, LeO (impl_StandardPort.f k a0 a1 a2 a3 a4) (impl_StandardPort.f (k + 1) a0 a1 a2 a3 a4) := by
 intro a0 a1 a2 a3 a4 k
 obtain ⟨ih0, ih1⟩ := impl_StandardPort.mono_l k
 unfold impl_StandardPort.f
 repeat' first
   | (with_reducible exact ih0 _ _ _ _ _ _)
   | (with_reducible exact ih1 _ _ _ _ _)
   | (with_reducible exact LeO.refl _)
   | (with_reducible exact LeO.none _)
   | (with_reducible refine LeO.ite ?_ ?_)
   | (with_reducible refine LeO.bind ?_ (fun _ => ?_))
   | exact ih0 _ _ _ _ _ _
   | exact ih1 _ _ _ _ _
   | exact LeO.none _
   | refine LeO.ite ?_ ?_
   | refine LeO.bind ?_ (fun _ => ?_)
theorem impl_StandardPort.e0 {P : Prop} (h : P := by
 obtain ⟨hcz_0, hcz_1, hfz_0, hfz_1⟩ := cz2_ BK516.out
 go_wp2_with (first | (go_at_call 132; (with_reducible refine (impl_along.calls (Int.tmod a2 a0_0) (Int.tmod a3 a0_0) t520 _ A26.out).mono ?_); rintro e w' ⟨rfl, ⟨nd, rfl⟩⟩; (try first | exact ⟨rfl, _, World.drewN_drewN _ _ _⟩ | exact ⟨rfl, _, Eq.trans (World.drewN_drewN _ _ _) (congrArg (World.drewN _) (Nat.add_assoc _ _ _))⟩)) | (go_at_call 133; (with_reducible refine (impl_across.calls (wrap64 (Int.tdiv a2 a0_0)) (wrap64 (Int.tdiv a3 a0_0)) t521 _ A27.out).mono ?_); rintro e w' ⟨rfl, ⟨nd, rfl⟩⟩; (try first | exact ⟨rfl, _, World.drewN_drewN _ _ _⟩ | exact ⟨rfl, _, Eq.trans (World.drewN_drewN _ _ _) (congrArg (World.drewN _) (Nat.add_assoc _ _ _))⟩)))
 repeat (go_quiet (first | (go_at_call 132; (with_reducible refine (impl_along.calls (Int.tmod a2 a0_0) (Int.tmod a3 a0_0) t520 _ A26.out).mono ?_); rintro e w' ⟨rfl, ⟨nd, rfl⟩⟩; (try first | exact ⟨rfl, _, World.drewN_drewN _ _ _⟩ | exact ⟨rfl, _, Eq.trans (World.drewN_drewN _ _ _) (congrArg (World.drewN _) (Nat.add_assoc _ _ _))⟩)) | (go_at_call 133; (with_reducible refine (impl_across.calls (wrap64 (Int.tdiv a2 a0_0)) (wrap64 (Int.tdiv a3 a0_0)) t521 _ A27.out).mono ?_); rintro e w' ⟨rfl, ⟨nd, rfl⟩⟩; (try first | exact ⟨rfl, _, World.drewN_drewN _ _ _⟩ | exact ⟨rfl, _, Eq.trans (World.drewN_drewN _ _ _) (congrArg (World.drewN _) (Nat.add_assoc _ _ _))⟩))); try go_wp2_with (first | (go_at_call 132; (with_reducible refine (impl_along.calls (Int.tmod a2 a0_0) (Int.tmod a3 a0_0) t520 _ A26.out).mono ?_); rintro e w' ⟨rfl, ⟨nd, rfl⟩⟩; (try first | exact ⟨rfl, _, World.drewN_drewN _ _ _⟩ | exact ⟨rfl, _, Eq.trans (World.drewN_drewN _ _ _) (congrArg (World.drewN _) (Nat.add_assoc _ _ _))⟩)) | (go_at_call 133; (with_reducible refine (impl_across.calls (wrap64 (Int.tdiv a2 a0_0)) (wrap64 (Int.tdiv a3 a0_0)) t521 _ A27.out).mono ?_); rintro e w' ⟨rfl, ⟨nd, rfl⟩⟩; (try first | exact ⟨rfl, _, World.drewN_drewN _ _ _⟩ | exact ⟨rfl, _, Eq.trans (World.drewN_drewN _ _ _) (congrArg (World.drewN _) (Nat.add_assoc _ _ _))⟩))))
 go_ret
 exact ⟨fin_, bb_ HB.out⟩) : P := h
theorem impl_StandardPort.calls (k : Nat) (a0_0 : Int) (a0_1 : Int) (a1 : Int) (a2 : Int) (a3 : Int) (r : Int) (w : World) (h : impl_StandardPort.f k a0_0 a0_1 a1 a2 a3 = some r) :
  Calls Try.prog 96 #[.agg #[.int .i64 a0_0, .int .i64 a0_1], .int .i64 a1, .int .i64 a2, .int .i64 a3] w fun e w' => e = .returned (.int .i64 r) ∧ Below w.heap.size w w' := by
 have hu42 := Try.underlying42
 have HB := Aside0.mk (Below.refl w.heap.size w)
 have H : ((impl_isNode.f a0_0 a0_1 a2).bind fun t517 => (if t517 = true then ((impl_isNode.f a0_0 a0_1 a3).bind fun t518 => (if t518 = true then ((impl_inside.f a1 1 4).bind fun t519 => (impl_StandardPort.j0 k a1 a2 a3 (!t519) a0_0 a0_1)) else (impl_StandardPort.j0 k a1 a2 a3 true a0_0 a0_1))) else (impl_StandardPort.j0 k a1 a2 a3 true a0_0 a0_1))) = some r := h
 clear h
 have HC5 := Aside0.mk H
 clear H
 go_enter Try.func96, Try.ntmps96
 go_upto_region 1 with (first | ((with_reducible refine gate_dst (N := 4) rfl ?_); refine box_event ?hg (N := 4) ?hd (cs := #[.int .i64 a0_0, .int .i64 a0_1]) (t := 42) ?hr ?_; (case hd => rfl); (case hg => rfl); (case hr => first | (go_simp; done) | (go_simp; rfl)); intro gb516 hg w6 hbox hb; have BK516 := Aside0.mk (hbox); have GW516 := Aside0.mk ((by rw [hg]; exact (bz_ HB.out) : w.heap.size ≤ gb516)); have GE516 := Aside0.mk ((by rw [hg]; exact (bz_ HB.out) : w.heap.size ≤ gb516)); replace HB := Aside0.mk (bs_ HB.out hb); clear hb hbox hg))
 repeat (go_quiet (first | ((with_reducible refine gate_dst (N := 4) rfl ?_); refine box_event ?hg (N := 4) ?hd (cs := #[.int .i64 a0_0, .int .i64 a0_1]) (t := 42) ?hr ?_; (case hd => rfl); (case hg => rfl); (case hr => first | (go_simp; done) | (go_simp; rfl)); intro gb516 hg w6 hbox hb; have BK516 := Aside0.mk (hbox); have GW516 := Aside0.mk ((by rw [hg]; exact (bz_ HB.out) : w.heap.size ≤ gb516)); have GE516 := Aside0.mk ((by rw [hg]; exact (bz_ HB.out) : w.heap.size ≤ gb516)); replace HB := Aside0.mk (bs_ HB.out hb); clear hb hbox hg)); go_upto_region 1 with (first | ((with_reducible refine gate_dst (N := 4) rfl ?_); refine box_event ?hg (N := 4) ?hd (cs := #[.int .i64 a0_0, .int .i64 a0_1]) (t := 42) ?hr ?_; (case hd => rfl); (case hg => rfl); (case hr => first | (go_simp; done) | (go_simp; rfl)); intro gb516 hg w6 hbox hb; have BK516 := Aside0.mk (hbox); have GW516 := Aside0.mk ((by rw [hg]; exact (bz_ HB.out) : w.heap.size ≤ gb516)); have GE516 := Aside0.mk ((by rw [hg]; exact (bz_ HB.out) : w.heap.size ≤ gb516)); replace HB := Aside0.mk (bs_ HB.out hb); clear hb hbox hg)))
 (try simp only [Act.put, List.setIfInBounds_toArray, List.set_cons_zero, List.set_cons_succ])
 go_cut [25] (fun v25 wc => ∃ (kq : Nat) (x25_4 : Bool), v25 = .bool x25_4 ∧ Aside0 (impl_StandardPort.j0 kq a1 a2 a3 x25_4 a0_0 a0_1 = some r) ∧ Aside0 (kq ≤ k) ∧ Aside0 (wc.heap[gb516]? = some (.cells #[.int .i64 a0_0, .int .i64 a0_1] 42 (0, 0))) ∧ Aside0 (Below w.heap.size w wc))
 case first =>
  have H := HC5.out
  clear HC5
  replace H := Option.bind_eq_some_iff.mp H
  obtain ⟨t517, A70, H⟩ := H
  try dsimp only at H
  have A7 := Aside0.mk A70
  clear A70
  by_cases c8 : t517 = true
  rotate_left
  ·replace c8 := Bool.eq_false_iff.mpr c8
   subst c8
   rw [if_neg (show ¬ (false = true) by decide)] at H
   have H' := Aside0.mk H
   clear H
   obtain ⟨hcz20_0, hcz20_1, hfz20_0, hfz20_1⟩ := cz2_ BK516.out
   go_wp2_with (first | (go_at_call 131; (with_reducible refine (impl_isNode.calls a0_0 a0_1 a2 false _ A7.out).mono ?_); rintro e w21 ⟨rfl, hb⟩; replace BK516 := Aside0.mk (bk_ BK516.out hb); replace HB := Aside0.mk (bs_ HB.out hb); (try clear hb)))
   repeat (go_quiet (first | (go_at_call 131; (with_reducible refine (impl_isNode.calls a0_0 a0_1 a2 false _ A7.out).mono ?_); rintro e w21 ⟨rfl, hb⟩; replace BK516 := Aside0.mk (bk_ BK516.out hb); replace HB := Aside0.mk (bs_ HB.out hb); (try clear hb))); try go_wp2_with (first | (go_at_call 131; (with_reducible refine (impl_isNode.calls a0_0 a0_1 a2 false _ A7.out).mono ?_); rintro e w21 ⟨rfl, hb⟩; replace BK516 := Aside0.mk (bk_ BK516.out hb); replace HB := Aside0.mk (bs_ HB.out hb); (try clear hb))))
   go_meet
   case rel => exact ⟨_, (true), ef_, H', ⟨kq_⟩, ⟨bq_ BK516.out⟩, ⟨bb_ HB.out⟩⟩
  subst c8
  rw [if_pos rfl] at H
  replace H := Option.bind_eq_some_iff.mp H
  obtain ⟨t518, A90, H⟩ := H
  try dsimp only at H
  have A9 := Aside0.mk A90
  clear A90
  by_cases c10 : t518 = true
  rotate_left
  ·replace c10 := Bool.eq_false_iff.mpr c10
   subst c10
   rw [if_neg (show ¬ (false = true) by decide)] at H
   have H' := Aside0.mk H
   clear H
   obtain ⟨hcz16_0, hcz16_1, hfz16_0, hfz16_1⟩ := cz2_ BK516.out
   go_wp2_with (first | (go_at_call 131; (with_reducible refine (impl_isNode.calls a0_0 a0_1 a2 true _ A7.out).mono ?_); rintro e w17 ⟨rfl, hb⟩; replace BK516 := Aside0.mk (bk_ BK516.out hb); replace HB := Aside0.mk (bs_ HB.out hb); (try clear hb); obtain ⟨hcz18_0, hcz18_1, hfz18_0, hfz18_1⟩ := cz2_ BK516.out) | (go_at_call 131; (with_reducible refine (impl_isNode.calls a0_0 a0_1 a3 false _ A9.out).mono ?_); rintro e w19 ⟨rfl, hb⟩; replace BK516 := Aside0.mk (bk_ BK516.out hb); replace HB := Aside0.mk (bs_ HB.out hb); (try clear hb)))
   repeat (go_quiet (first | (go_at_call 131; (with_reducible refine (impl_isNode.calls a0_0 a0_1 a2 true _ A7.out).mono ?_); rintro e w17 ⟨rfl, hb⟩; replace BK516 := Aside0.mk (bk_ BK516.out hb); replace HB := Aside0.mk (bs_ HB.out hb); (try clear hb); obtain ⟨hcz18_0, hcz18_1, hfz18_0, hfz18_1⟩ := cz2_ BK516.out) | (go_at_call 131; (with_reducible refine (impl_isNode.calls a0_0 a0_1 a3 false _ A9.out).mono ?_); rintro e w19 ⟨rfl, hb⟩; replace BK516 := Aside0.mk (bk_ BK516.out hb); replace HB := Aside0.mk (bs_ HB.out hb); (try clear hb))); try go_wp2_with (first | (go_at_call 131; (with_reducible refine (impl_isNode.calls a0_0 a0_1 a2 true _ A7.out).mono ?_); rintro e w17 ⟨rfl, hb⟩; replace BK516 := Aside0.mk (bk_ BK516.out hb); replace HB := Aside0.mk (bs_ HB.out hb); (try clear hb); obtain ⟨hcz18_0, hcz18_1, hfz18_0, hfz18_1⟩ := cz2_ BK516.out) | (go_at_call 131; (with_reducible refine (impl_isNode.calls a0_0 a0_1 a3 false _ A9.out).mono ?_); rintro e w19 ⟨rfl, hb⟩; replace BK516 := Aside0.mk (bk_ BK516.out hb); replace HB := Aside0.mk (bs_ HB.out hb); (try clear hb))))
   go_meet
   case rel => exact ⟨_, (true), ef_, H', ⟨kq_⟩, ⟨bq_ BK516.out⟩, ⟨bb_ HB.out⟩⟩
  subst c10
  rw [if_pos rfl] at H
  replace H := Option.bind_eq_some_iff.mp H
  obtain ⟨t519, A110, H⟩ := H
  try dsimp only at H
  have A11 := Aside0.mk A110
  clear A110
  have H' := Aside0.mk H
  clear H
  obtain ⟨hcz12_0, hcz12_1, hfz12_0, hfz12_1⟩ := cz2_ BK516.out
  go_wp2_with (first | (go_at_call 131; (with_reducible refine (impl_isNode.calls a0_0 a0_1 a2 true _ A7.out).mono ?_); rintro e w13 ⟨rfl, hb⟩; replace BK516 := Aside0.mk (bk_ BK516.out hb); replace HB := Aside0.mk (bs_ HB.out hb); (try clear hb); obtain ⟨hcz14_0, hcz14_1, hfz14_0, hfz14_1⟩ := cz2_ BK516.out) | (go_at_call 131; (with_reducible refine (impl_isNode.calls a0_0 a0_1 a3 true _ A9.out).mono ?_); rintro e w15 ⟨rfl, hb⟩; replace BK516 := Aside0.mk (bk_ BK516.out hb); replace HB := Aside0.mk (bs_ HB.out hb); (try clear hb)) | (go_at_call 94; (with_reducible refine (impl_inside.calls a1 1 4 t519 _ A11.out).mono ?_); rintro e w' ⟨rfl, ⟨nd, rfl⟩⟩; (try first | exact ⟨rfl, _, World.drewN_drewN _ _ _⟩ | exact ⟨rfl, _, Eq.trans (World.drewN_drewN _ _ _) (congrArg (World.drewN _) (Nat.add_assoc _ _ _))⟩)))
  repeat (go_quiet (first | (go_at_call 131; (with_reducible refine (impl_isNode.calls a0_0 a0_1 a2 true _ A7.out).mono ?_); rintro e w13 ⟨rfl, hb⟩; replace BK516 := Aside0.mk (bk_ BK516.out hb); replace HB := Aside0.mk (bs_ HB.out hb); (try clear hb); obtain ⟨hcz14_0, hcz14_1, hfz14_0, hfz14_1⟩ := cz2_ BK516.out) | (go_at_call 131; (with_reducible refine (impl_isNode.calls a0_0 a0_1 a3 true _ A9.out).mono ?_); rintro e w15 ⟨rfl, hb⟩; replace BK516 := Aside0.mk (bk_ BK516.out hb); replace HB := Aside0.mk (bs_ HB.out hb); (try clear hb)) | (go_at_call 94; (with_reducible refine (impl_inside.calls a1 1 4 t519 _ A11.out).mono ?_); rintro e w' ⟨rfl, ⟨nd, rfl⟩⟩; (try first | exact ⟨rfl, _, World.drewN_drewN _ _ _⟩ | exact ⟨rfl, _, Eq.trans (World.drewN_drewN _ _ _) (congrArg (World.drewN _) (Nat.add_assoc _ _ _))⟩))); try go_wp2_with (first | (go_at_call 131; (with_reducible refine (impl_isNode.calls a0_0 a0_1 a2 true _ A7.out).mono ?_); rintro e w13 ⟨rfl, hb⟩; replace BK516 := Aside0.mk (bk_ BK516.out hb); replace HB := Aside0.mk (bs_ HB.out hb); (try clear hb); obtain ⟨hcz14_0, hcz14_1, hfz14_0, hfz14_1⟩ := cz2_ BK516.out) | (go_at_call 131; (with_reducible refine (impl_isNode.calls a0_0 a0_1 a3 true _ A9.out).mono ?_); rintro e w15 ⟨rfl, hb⟩; replace BK516 := Aside0.mk (bk_ BK516.out hb); replace HB := Aside0.mk (bs_ HB.out hb); (try clear hb)) | (go_at_call 94; (with_reducible refine (impl_inside.calls a1 1 4 t519 _ A11.out).mono ?_); rintro e w' ⟨rfl, ⟨nd, rfl⟩⟩; (try first | exact ⟨rfl, _, World.drewN_drewN _ _ _⟩ | exact ⟨rfl, _, Eq.trans (World.drewN_drewN _ _ _) (congrArg (World.drewN _) (Nat.add_assoc _ _ _))⟩))))
  go_meet
  case rel => exact ⟨_, (!t519), ef_, H', ⟨kq_⟩, ⟨bq_ BK516.out⟩, ⟨bb_ HB.out⟩⟩
 case rest =>
  clear HC5
  obtain ⟨kq, x25_4, rfl, HA, HJ4, BK516, HB⟩ := hcut
  cases kq with
  | zero => exact absurd HA.out (by simp [impl_StandardPort.j0])
  | succ kj4 =>
   have H := HA.out
   clear HA
   simp only [impl_StandardPort.j0] at H
   by_cases c22 : x25_4 = true
   ·subst c22
    rw [if_pos rfl] at H
    obtain rfl := Option.some.inj H
    go_wp2
    repeat (go_quiet (fail); try go_wp2)
    go_ret
    exact ⟨fin_, bb_ HB.out⟩
   ·replace c22 := Bool.eq_false_iff.mpr c22
    subst c22
    rw [if_neg (show ¬ (false = true) by decide)] at H
    have HC23 := Aside0.mk H
    clear H
    go_upto_if 27 with (fail)
    repeat (go_quiet (fail); go_upto_if 27 with (fail))
    go_cut [1] (fun v1 wc => ∃ (kq : Nat) (x1_22 : Int), v1 = .int .i64 x1_22 ∧ Aside0 (impl_StandardPort.j1 kq x1_22 a2 a3 a0_0 a0_1 = some r) ∧ Aside0 (kq ≤ kj4) ∧ Aside0 (wc.heap[gb516]? = some (.cells #[.int .i64 a0_0, .int .i64 a0_1] 42 (0, 0))) ∧ Aside0 (Below w.heap.size w wc))
    case first =>
     have H := HC23.out
     clear HC23
     by_cases c24 : a1 = 4
     rotate_left
     ·rw [if_neg c24] at H
      have c24b0 : (a1 == 4) = false := beq_eq_false_iff_ne.mpr c24
      have c24b1 : (a1 != 4) = true := bne_iff_ne.mpr c24
      (first | rw [c24b0] | (simp only [i64_w, i32_w]; rw [c24b0]) | skip)
      have H' := Aside0.mk H
      clear H
      go_wp2
      repeat (go_quiet (fail); try go_wp2)
      go_meet
      case rel => exact ⟨_, (a1), ef_, H', ⟨by have := HJ4.out; first | omega | exact Nat.le_refl _⟩, ⟨bq_ BK516.out⟩, ⟨bb_ HB.out⟩⟩
     rw [if_pos c24] at H
     have c24b0 : (a1 == 4) = true := beq_iff_eq.mpr c24
     have c24b1 : (a1 != 4) = false := bne_eq_false_iff_eq.mpr c24
     clear c24
     (first | rw [c24b0] | (simp only [i64_w, i32_w]; rw [c24b0]) | skip)
     have H' := Aside0.mk H
     clear H
     go_wp2
     repeat (go_quiet (fail); try go_wp2)
     go_meet
     case rel => exact ⟨_, (wrap64 (1 + (Int.tmod a3 2))), ef_, H', ⟨by have := HJ4.out; first | omega | exact Nat.le_refl _⟩, ⟨bq_ BK516.out⟩, ⟨bb_ HB.out⟩⟩
    case rest =>
     clear HC23
     try clear c22
     obtain ⟨kq, x1_22, rfl, HA, HJ22, BK516, HB⟩ := hcut
     cases kq with
     | zero => exact absurd HA.out (by simp [impl_StandardPort.j1])
     | succ kj22 =>
      have H := HA.out
      clear HA
      simp only [impl_StandardPort.j1] at H
      by_cases c25 : a0_0 = 0
      ·rw [if_pos c25] at H
       exact absurd H (by simp)
      ·rw [if_neg c25] at H
       have c25b0 : (a0_0 == 0) = false := beq_eq_false_iff_ne.mpr c25
       have c25b1 : (a0_0 != 0) = true := bne_iff_ne.mpr c25
       replace H := Option.bind_eq_some_iff.mp H
       obtain ⟨t520, A260, H⟩ := H
       try dsimp only at H
       have A26 := Aside0.mk A260
       clear A260
       replace H := Option.bind_eq_some_iff.mp H
       obtain ⟨t521, A270, H⟩ := H
       try dsimp only at H
       have A27 := Aside0.mk A270
       clear A270
       by_cases c28 : a2 = a3
       ·rw [if_pos c28] at H
        have c28b0 : (a2 == a3) = true := beq_iff_eq.mpr c28
        have c28b1 : (a2 != a3) = false := bne_eq_false_iff_eq.mpr c28
        clear c28
        obtain rfl := Option.some.inj H
        exact impl_StandardPort.e0
       ·rw [if_neg c28] at H
        have c28b0 : (a2 == a3) = false := beq_eq_false_iff_ne.mpr c28
        have c28b1 : (a2 != a3) = true := bne_iff_ne.mpr c28
        by_cases c30 : t521 < 0
        ·rw [if_pos c30] at H
         have c30b0 : decide (t521 < 0) = true := decide_eq_true c30
         clear c30
         obtain rfl := Option.some.inj H
         exact impl_StandardPort.e0
        ·rw [if_neg c30] at H
         have c30b0 : decide (t521 < 0) = false := decide_eq_false c30
         clear c30
         by_cases c32 : t520 ≥ 0
         ·rw [if_pos c32] at H
          have c32b0 : decide (0 ≤ t520) = true := decide_eq_true c32
          clear c32
          by_cases c33 : x1_22 = 1
          ·rw [if_pos c33] at H
           have c33b0 : (x1_22 == 1) = true := beq_iff_eq.mpr c33
           have c33b1 : (x1_22 != 1) = false := bne_eq_false_iff_eq.mpr c33
           clear c33
           obtain rfl := Option.some.inj H
           exact impl_StandardPort.e0
          rw [if_neg c33] at H
          have c33b0 : (x1_22 == 1) = false := beq_eq_false_iff_ne.mpr c33
          have c33b1 : (x1_22 != 1) = true := bne_iff_ne.mpr c33
          by_cases c35 : x1_22 = 3
          rotate_left
          ·rw [if_neg c35] at H
           have c35b0 : (x1_22 == 3) = false := beq_eq_false_iff_ne.mpr c35
           have c35b1 : (x1_22 != 3) = true := bne_iff_ne.mpr c35
           obtain rfl := Option.some.inj H
           exact impl_StandardPort.e0
          rw [if_pos c35] at H
          have c35b0 : (x1_22 == 3) = true := beq_iff_eq.mpr c35
          have c35b1 : (x1_22 != 3) = false := bne_eq_false_iff_eq.mpr c35
          clear c35
          by_cases c36 : t520 = 3
          rotate_left
          ·rw [if_neg c36] at H
           have c36b0 : (t520 == 3) = false := beq_eq_false_iff_ne.mpr c36
           have c36b1 : (t520 != 3) = true := bne_iff_ne.mpr c36
           obtain rfl := Option.some.inj H
           exact impl_StandardPort.e0
          rw [if_pos c36] at H
          have c36b0 : (t520 == 3) = true := beq_iff_eq.mpr c36
          have c36b1 : (t520 != 3) = false := bne_eq_false_iff_eq.mpr c36
          clear c36
          obtain rfl := Option.some.inj H
          exact impl_StandardPort.e0
         ·rw [if_neg c32] at H
          have c32b0 : decide (0 ≤ t520) = false := decide_eq_false c32
          clear c32
          obtain rfl := Option.some.inj H
          exact impl_StandardPort.e0

end Go.Proofs.Ytimdefbpoddoaaa.PFnExactSafeRules
-- thin
