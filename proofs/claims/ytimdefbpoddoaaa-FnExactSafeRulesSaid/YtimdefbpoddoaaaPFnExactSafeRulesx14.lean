/- The law's functions as plain functions, and their calls. No condition. -/
import Derived.Test.YtimdefbpoddoaaaPFnExactSafeRulesx0
import Derived.Test.YtimdefbpoddoaaaPFnExactSafeRulesx12
import Derived.Test.YtimdefbpoddoaaaPFnExactSafeRulesx13
namespace Go.Proofs.Ytimdefbpoddoaaa.PFnExactSafeRules
open Go.RowKit Go.Proofs.YtimdefbpoddoaaaW.PrintWords Go.Proofs.YtimdefbpoddoaaaW.PrintLast Go.Proofs.YtimdefbpoddoaaaW.PrintMore
attribute [local go_sem] max2_int min2_int max_two min_two max_three min_three max_four min_four
set_option linter.unusedVariables false
set_option maxHeartbeats 8000000
set_option maxRecDepth 100000
set_option linter.unusedSimpArgs false

/-! ### impl_NextNode: function 169 -/
def impl_NextNode.f (a0_0 : Int) (a0_1 : Int) (a1 : Int) (a2 : Int) : Option (Int) := (impl_isNode.f a0_0 a0_1 a1).bind fun t375 => (if t375 = true then (if a0_0 = 0 then (none) else (if a2 = 0 then ((impl_NodeAt.f a0_0 a0_1 (Int.tmod a1 a0_0) (wrap64 ((wrap64 (Int.tdiv a1 a0_0)) - 1))).bind fun t376 => (some t376)) else (if a2 = 1 then ((impl_NodeAt.f a0_0 a0_1 (wrap64 ((Int.tmod a1 a0_0) + 1)) (wrap64 (Int.tdiv a1 a0_0))).bind fun t377 => (some t377)) else (if a2 = 2 then ((impl_NodeAt.f a0_0 a0_1 (Int.tmod a1 a0_0) (wrap64 ((wrap64 (Int.tdiv a1 a0_0)) + 1))).bind fun t378 => (some t378)) else (if a2 = 3 then ((impl_NodeAt.f a0_0 a0_1 (wrap64 ((Int.tmod a1 a0_0) - 1)) (wrap64 (Int.tdiv a1 a0_0))).bind fun t379 => (some t379)) else (if a2 = 4 then (some a1) else (some (-1)))))))) else (some (-1)))
theorem impl_NextNode.calls (a0_0 : Int) (a0_1 : Int) (a1 : Int) (a2 : Int) (r : Int) (w : World) (h : impl_NextNode.f a0_0 a0_1 a1 a2 = some r) :
  Calls Try.prog 169 #[.agg #[.int .i64 a0_0, .int .i64 a0_1], .int .i64 a1, .int .i64 a2] w fun e w' => e = .returned (.int .i64 r) ∧ Below w.heap.size w w' := by
 have hu42 := Try.underlying42
 have HB := Aside0.mk (Below.refl w.heap.size w)
 have H : ((impl_isNode.f a0_0 a0_1 a1).bind fun t375 => (if t375 = true then (if a0_0 = 0 then (none) else (if a2 = 0 then ((impl_NodeAt.f a0_0 a0_1 (Int.tmod a1 a0_0) (wrap64 ((wrap64 (Int.tdiv a1 a0_0)) - 1))).bind fun t376 => (some t376)) else (if a2 = 1 then ((impl_NodeAt.f a0_0 a0_1 (wrap64 ((Int.tmod a1 a0_0) + 1)) (wrap64 (Int.tdiv a1 a0_0))).bind fun t377 => (some t377)) else (if a2 = 2 then ((impl_NodeAt.f a0_0 a0_1 (Int.tmod a1 a0_0) (wrap64 ((wrap64 (Int.tdiv a1 a0_0)) + 1))).bind fun t378 => (some t378)) else (if a2 = 3 then ((impl_NodeAt.f a0_0 a0_1 (wrap64 ((Int.tmod a1 a0_0) - 1)) (wrap64 (Int.tdiv a1 a0_0))).bind fun t379 => (some t379)) else (if a2 = 4 then (some a1) else (some (-1)))))))) else (some (-1)))) = some r := h
 clear h
 replace H := Option.bind_eq_some_iff.mp H
 obtain ⟨t375, A40, H⟩ := H
 try dsimp only at H
 have A4 := Aside0.mk A40
 clear A40
 by_cases c5 : t375 = true
 ·subst c5
  rw [if_pos rfl] at H
  by_cases c6 : a0_0 = 0
  ·rw [if_pos c6] at H
   exact absurd H (by simp)
  rw [if_neg c6] at H
  have c6b0 : (a0_0 == 0) = false := beq_eq_false_iff_ne.mpr c6
  have c6b1 : (a0_0 != 0) = true := bne_iff_ne.mpr c6
  by_cases c7 : a2 = 0
  ·rw [if_pos c7] at H
   have c7b0 : (a2 == 0) = true := beq_iff_eq.mpr c7
   have c7b1 : (a2 != 0) = false := bne_eq_false_iff_eq.mpr c7
   clear c7
   replace H := Option.bind_eq_some_iff.mp H
   obtain ⟨t376, A80, H⟩ := H
   try dsimp only at H
   have A8 := Aside0.mk A80
   clear A80
   obtain rfl := Option.some.inj H
   go_enter Try.func169, Try.ntmps169
   go_wp2_with (first | ((with_reducible refine gate_dst (N := 3) rfl ?_); refine box_event ?hg (N := 3) ?hd (cs := #[.int .i64 a0_0, .int .i64 a0_1]) (t := 42) ?hr ?_; (case hd => rfl); (case hg => rfl); (case hr => first | (go_simp; done) | (go_simp; rfl)); intro gb374 hg w9 hbox hb; have BK374 := Aside0.mk (hbox); have GW374 := Aside0.mk ((by rw [hg]; exact (bz_ HB.out) : w.heap.size ≤ gb374)); have GE374 := Aside0.mk ((by rw [hg]; exact (bz_ HB.out) : w.heap.size ≤ gb374)); replace HB := Aside0.mk (bs_ HB.out hb); clear hb hbox hg; obtain ⟨hcz10_0, hcz10_1, hfz10_0, hfz10_1⟩ := cz2_ BK374.out) | (go_at_call 131; (with_reducible refine (impl_isNode.calls a0_0 a0_1 a1 true _ A4.out).mono ?_); rintro e w11 ⟨rfl, hb⟩; replace BK374 := Aside0.mk (bk_ BK374.out hb); replace HB := Aside0.mk (bs_ HB.out hb); (try clear hb); obtain ⟨hcz12_0, hcz12_1, hfz12_0, hfz12_1⟩ := cz2_ BK374.out) | (go_at_call 178; (with_reducible refine (impl_NodeAt.calls a0_0 a0_1 (Int.tmod a1 a0_0) (wrap64 ((wrap64 (Int.tdiv a1 a0_0)) - 1)) t376 _ A8.out).mono ?_); rintro e w13 ⟨rfl, hb⟩; replace BK374 := Aside0.mk (bk_ BK374.out hb); replace HB := Aside0.mk (bs_ HB.out hb); (try clear hb)))
   repeat (go_quiet (first | ((with_reducible refine gate_dst (N := 3) rfl ?_); refine box_event ?hg (N := 3) ?hd (cs := #[.int .i64 a0_0, .int .i64 a0_1]) (t := 42) ?hr ?_; (case hd => rfl); (case hg => rfl); (case hr => first | (go_simp; done) | (go_simp; rfl)); intro gb374 hg w9 hbox hb; have BK374 := Aside0.mk (hbox); have GW374 := Aside0.mk ((by rw [hg]; exact (bz_ HB.out) : w.heap.size ≤ gb374)); have GE374 := Aside0.mk ((by rw [hg]; exact (bz_ HB.out) : w.heap.size ≤ gb374)); replace HB := Aside0.mk (bs_ HB.out hb); clear hb hbox hg; obtain ⟨hcz10_0, hcz10_1, hfz10_0, hfz10_1⟩ := cz2_ BK374.out) | (go_at_call 131; (with_reducible refine (impl_isNode.calls a0_0 a0_1 a1 true _ A4.out).mono ?_); rintro e w11 ⟨rfl, hb⟩; replace BK374 := Aside0.mk (bk_ BK374.out hb); replace HB := Aside0.mk (bs_ HB.out hb); (try clear hb); obtain ⟨hcz12_0, hcz12_1, hfz12_0, hfz12_1⟩ := cz2_ BK374.out) | (go_at_call 178; (with_reducible refine (impl_NodeAt.calls a0_0 a0_1 (Int.tmod a1 a0_0) (wrap64 ((wrap64 (Int.tdiv a1 a0_0)) - 1)) t376 _ A8.out).mono ?_); rintro e w13 ⟨rfl, hb⟩; replace BK374 := Aside0.mk (bk_ BK374.out hb); replace HB := Aside0.mk (bs_ HB.out hb); (try clear hb))); try go_wp2_with (first | ((with_reducible refine gate_dst (N := 3) rfl ?_); refine box_event ?hg (N := 3) ?hd (cs := #[.int .i64 a0_0, .int .i64 a0_1]) (t := 42) ?hr ?_; (case hd => rfl); (case hg => rfl); (case hr => first | (go_simp; done) | (go_simp; rfl)); intro gb374 hg w9 hbox hb; have BK374 := Aside0.mk (hbox); have GW374 := Aside0.mk ((by rw [hg]; exact (bz_ HB.out) : w.heap.size ≤ gb374)); have GE374 := Aside0.mk ((by rw [hg]; exact (bz_ HB.out) : w.heap.size ≤ gb374)); replace HB := Aside0.mk (bs_ HB.out hb); clear hb hbox hg; obtain ⟨hcz10_0, hcz10_1, hfz10_0, hfz10_1⟩ := cz2_ BK374.out) | (go_at_call 131; (with_reducible refine (impl_isNode.calls a0_0 a0_1 a1 true _ A4.out).mono ?_); rintro e w11 ⟨rfl, hb⟩; replace BK374 := Aside0.mk (bk_ BK374.out hb); replace HB := Aside0.mk (bs_ HB.out hb); (try clear hb); obtain ⟨hcz12_0, hcz12_1, hfz12_0, hfz12_1⟩ := cz2_ BK374.out) | (go_at_call 178; (with_reducible refine (impl_NodeAt.calls a0_0 a0_1 (Int.tmod a1 a0_0) (wrap64 ((wrap64 (Int.tdiv a1 a0_0)) - 1)) t376 _ A8.out).mono ?_); rintro e w13 ⟨rfl, hb⟩; replace BK374 := Aside0.mk (bk_ BK374.out hb); replace HB := Aside0.mk (bs_ HB.out hb); (try clear hb))))
   go_ret
   exact ⟨fin_, bb_ HB.out⟩
  rw [if_neg c7] at H
  have c7b0 : (a2 == 0) = false := beq_eq_false_iff_ne.mpr c7
  have c7b1 : (a2 != 0) = true := bne_iff_ne.mpr c7
  by_cases c14 : a2 = 1
  ·rw [if_pos c14] at H
   have c14b0 : (a2 == 1) = true := beq_iff_eq.mpr c14
   have c14b1 : (a2 != 1) = false := bne_eq_false_iff_eq.mpr c14
   clear c14
   replace H := Option.bind_eq_some_iff.mp H
   obtain ⟨t377, A150, H⟩ := H
   try dsimp only at H
   have A15 := Aside0.mk A150
   clear A150
   obtain rfl := Option.some.inj H
   go_enter Try.func169, Try.ntmps169
   go_wp2_with (first | ((with_reducible refine gate_dst (N := 3) rfl ?_); refine box_event ?hg (N := 3) ?hd (cs := #[.int .i64 a0_0, .int .i64 a0_1]) (t := 42) ?hr ?_; (case hd => rfl); (case hg => rfl); (case hr => first | (go_simp; done) | (go_simp; rfl)); intro gb374 hg w16 hbox hb; have BK374 := Aside0.mk (hbox); have GW374 := Aside0.mk ((by rw [hg]; exact (bz_ HB.out) : w.heap.size ≤ gb374)); have GE374 := Aside0.mk ((by rw [hg]; exact (bz_ HB.out) : w.heap.size ≤ gb374)); replace HB := Aside0.mk (bs_ HB.out hb); clear hb hbox hg; obtain ⟨hcz17_0, hcz17_1, hfz17_0, hfz17_1⟩ := cz2_ BK374.out) | (go_at_call 131; (with_reducible refine (impl_isNode.calls a0_0 a0_1 a1 true _ A4.out).mono ?_); rintro e w18 ⟨rfl, hb⟩; replace BK374 := Aside0.mk (bk_ BK374.out hb); replace HB := Aside0.mk (bs_ HB.out hb); (try clear hb); obtain ⟨hcz19_0, hcz19_1, hfz19_0, hfz19_1⟩ := cz2_ BK374.out) | (go_at_call 178; (with_reducible refine (impl_NodeAt.calls a0_0 a0_1 (wrap64 ((Int.tmod a1 a0_0) + 1)) (wrap64 (Int.tdiv a1 a0_0)) t377 _ A15.out).mono ?_); rintro e w20 ⟨rfl, hb⟩; replace BK374 := Aside0.mk (bk_ BK374.out hb); replace HB := Aside0.mk (bs_ HB.out hb); (try clear hb)))
   repeat (go_quiet (first | ((with_reducible refine gate_dst (N := 3) rfl ?_); refine box_event ?hg (N := 3) ?hd (cs := #[.int .i64 a0_0, .int .i64 a0_1]) (t := 42) ?hr ?_; (case hd => rfl); (case hg => rfl); (case hr => first | (go_simp; done) | (go_simp; rfl)); intro gb374 hg w16 hbox hb; have BK374 := Aside0.mk (hbox); have GW374 := Aside0.mk ((by rw [hg]; exact (bz_ HB.out) : w.heap.size ≤ gb374)); have GE374 := Aside0.mk ((by rw [hg]; exact (bz_ HB.out) : w.heap.size ≤ gb374)); replace HB := Aside0.mk (bs_ HB.out hb); clear hb hbox hg; obtain ⟨hcz17_0, hcz17_1, hfz17_0, hfz17_1⟩ := cz2_ BK374.out) | (go_at_call 131; (with_reducible refine (impl_isNode.calls a0_0 a0_1 a1 true _ A4.out).mono ?_); rintro e w18 ⟨rfl, hb⟩; replace BK374 := Aside0.mk (bk_ BK374.out hb); replace HB := Aside0.mk (bs_ HB.out hb); (try clear hb); obtain ⟨hcz19_0, hcz19_1, hfz19_0, hfz19_1⟩ := cz2_ BK374.out) | (go_at_call 178; (with_reducible refine (impl_NodeAt.calls a0_0 a0_1 (wrap64 ((Int.tmod a1 a0_0) + 1)) (wrap64 (Int.tdiv a1 a0_0)) t377 _ A15.out).mono ?_); rintro e w20 ⟨rfl, hb⟩; replace BK374 := Aside0.mk (bk_ BK374.out hb); replace HB := Aside0.mk (bs_ HB.out hb); (try clear hb))); try go_wp2_with (first | ((with_reducible refine gate_dst (N := 3) rfl ?_); refine box_event ?hg (N := 3) ?hd (cs := #[.int .i64 a0_0, .int .i64 a0_1]) (t := 42) ?hr ?_; (case hd => rfl); (case hg => rfl); (case hr => first | (go_simp; done) | (go_simp; rfl)); intro gb374 hg w16 hbox hb; have BK374 := Aside0.mk (hbox); have GW374 := Aside0.mk ((by rw [hg]; exact (bz_ HB.out) : w.heap.size ≤ gb374)); have GE374 := Aside0.mk ((by rw [hg]; exact (bz_ HB.out) : w.heap.size ≤ gb374)); replace HB := Aside0.mk (bs_ HB.out hb); clear hb hbox hg; obtain ⟨hcz17_0, hcz17_1, hfz17_0, hfz17_1⟩ := cz2_ BK374.out) | (go_at_call 131; (with_reducible refine (impl_isNode.calls a0_0 a0_1 a1 true _ A4.out).mono ?_); rintro e w18 ⟨rfl, hb⟩; replace BK374 := Aside0.mk (bk_ BK374.out hb); replace HB := Aside0.mk (bs_ HB.out hb); (try clear hb); obtain ⟨hcz19_0, hcz19_1, hfz19_0, hfz19_1⟩ := cz2_ BK374.out) | (go_at_call 178; (with_reducible refine (impl_NodeAt.calls a0_0 a0_1 (wrap64 ((Int.tmod a1 a0_0) + 1)) (wrap64 (Int.tdiv a1 a0_0)) t377 _ A15.out).mono ?_); rintro e w20 ⟨rfl, hb⟩; replace BK374 := Aside0.mk (bk_ BK374.out hb); replace HB := Aside0.mk (bs_ HB.out hb); (try clear hb))))
   go_ret
   exact ⟨fin_, bb_ HB.out⟩
  rw [if_neg c14] at H
  have c14b0 : (a2 == 1) = false := beq_eq_false_iff_ne.mpr c14
  have c14b1 : (a2 != 1) = true := bne_iff_ne.mpr c14
  by_cases c21 : a2 = 2
  ·rw [if_pos c21] at H
   have c21b0 : (a2 == 2) = true := beq_iff_eq.mpr c21
   have c21b1 : (a2 != 2) = false := bne_eq_false_iff_eq.mpr c21
   clear c21
   replace H := Option.bind_eq_some_iff.mp H
   obtain ⟨t378, A220, H⟩ := H
   try dsimp only at H
   have A22 := Aside0.mk A220
   clear A220
   obtain rfl := Option.some.inj H
   go_enter Try.func169, Try.ntmps169
   go_wp2_with (first | ((with_reducible refine gate_dst (N := 3) rfl ?_); refine box_event ?hg (N := 3) ?hd (cs := #[.int .i64 a0_0, .int .i64 a0_1]) (t := 42) ?hr ?_; (case hd => rfl); (case hg => rfl); (case hr => first | (go_simp; done) | (go_simp; rfl)); intro gb374 hg w23 hbox hb; have BK374 := Aside0.mk (hbox); have GW374 := Aside0.mk ((by rw [hg]; exact (bz_ HB.out) : w.heap.size ≤ gb374)); have GE374 := Aside0.mk ((by rw [hg]; exact (bz_ HB.out) : w.heap.size ≤ gb374)); replace HB := Aside0.mk (bs_ HB.out hb); clear hb hbox hg; obtain ⟨hcz24_0, hcz24_1, hfz24_0, hfz24_1⟩ := cz2_ BK374.out) | (go_at_call 131; (with_reducible refine (impl_isNode.calls a0_0 a0_1 a1 true _ A4.out).mono ?_); rintro e w25 ⟨rfl, hb⟩; replace BK374 := Aside0.mk (bk_ BK374.out hb); replace HB := Aside0.mk (bs_ HB.out hb); (try clear hb); obtain ⟨hcz26_0, hcz26_1, hfz26_0, hfz26_1⟩ := cz2_ BK374.out) | (go_at_call 178; (with_reducible refine (impl_NodeAt.calls a0_0 a0_1 (Int.tmod a1 a0_0) (wrap64 ((wrap64 (Int.tdiv a1 a0_0)) + 1)) t378 _ A22.out).mono ?_); rintro e w27 ⟨rfl, hb⟩; replace BK374 := Aside0.mk (bk_ BK374.out hb); replace HB := Aside0.mk (bs_ HB.out hb); (try clear hb)))
   repeat (go_quiet (first | ((with_reducible refine gate_dst (N := 3) rfl ?_); refine box_event ?hg (N := 3) ?hd (cs := #[.int .i64 a0_0, .int .i64 a0_1]) (t := 42) ?hr ?_; (case hd => rfl); (case hg => rfl); (case hr => first | (go_simp; done) | (go_simp; rfl)); intro gb374 hg w23 hbox hb; have BK374 := Aside0.mk (hbox); have GW374 := Aside0.mk ((by rw [hg]; exact (bz_ HB.out) : w.heap.size ≤ gb374)); have GE374 := Aside0.mk ((by rw [hg]; exact (bz_ HB.out) : w.heap.size ≤ gb374)); replace HB := Aside0.mk (bs_ HB.out hb); clear hb hbox hg; obtain ⟨hcz24_0, hcz24_1, hfz24_0, hfz24_1⟩ := cz2_ BK374.out) | (go_at_call 131; (with_reducible refine (impl_isNode.calls a0_0 a0_1 a1 true _ A4.out).mono ?_); rintro e w25 ⟨rfl, hb⟩; replace BK374 := Aside0.mk (bk_ BK374.out hb); replace HB := Aside0.mk (bs_ HB.out hb); (try clear hb); obtain ⟨hcz26_0, hcz26_1, hfz26_0, hfz26_1⟩ := cz2_ BK374.out) | (go_at_call 178; (with_reducible refine (impl_NodeAt.calls a0_0 a0_1 (Int.tmod a1 a0_0) (wrap64 ((wrap64 (Int.tdiv a1 a0_0)) + 1)) t378 _ A22.out).mono ?_); rintro e w27 ⟨rfl, hb⟩; replace BK374 := Aside0.mk (bk_ BK374.out hb); replace HB := Aside0.mk (bs_ HB.out hb); (try clear hb))); try go_wp2_with (first | ((with_reducible refine gate_dst (N := 3) rfl ?_); refine box_event ?hg (N := 3) ?hd (cs := #[.int .i64 a0_0, .int .i64 a0_1]) (t := 42) ?hr ?_; (case hd => rfl); (case hg => rfl); (case hr => first | (go_simp; done) | (go_simp; rfl)); intro gb374 hg w23 hbox hb; have BK374 := Aside0.mk (hbox); have GW374 := Aside0.mk ((by rw [hg]; exact (bz_ HB.out) : w.heap.size ≤ gb374)); have GE374 := Aside0.mk ((by rw [hg]; exact (bz_ HB.out) : w.heap.size ≤ gb374)); replace HB := Aside0.mk (bs_ HB.out hb); clear hb hbox hg; obtain ⟨hcz24_0, hcz24_1, hfz24_0, hfz24_1⟩ := cz2_ BK374.out) | (go_at_call 131; (with_reducible refine (impl_isNode.calls a0_0 a0_1 a1 true _ A4.out).mono ?_); rintro e w25 ⟨rfl, hb⟩; replace BK374 := Aside0.mk (bk_ BK374.out hb); replace HB := Aside0.mk (bs_ HB.out hb); (try clear hb); obtain ⟨hcz26_0, hcz26_1, hfz26_0, hfz26_1⟩ := cz2_ BK374.out) | (go_at_call 178; (with_reducible refine (impl_NodeAt.calls a0_0 a0_1 (Int.tmod a1 a0_0) (wrap64 ((wrap64 (Int.tdiv a1 a0_0)) + 1)) t378 _ A22.out).mono ?_); rintro e w27 ⟨rfl, hb⟩; replace BK374 := Aside0.mk (bk_ BK374.out hb); replace HB := Aside0.mk (bs_ HB.out hb); (try clear hb))))
   go_ret
   exact ⟨fin_, bb_ HB.out⟩
  rw [if_neg c21] at H
  have c21b0 : (a2 == 2) = false := beq_eq_false_iff_ne.mpr c21
  have c21b1 : (a2 != 2) = true := bne_iff_ne.mpr c21
  by_cases c28 : a2 = 3
  ·rw [if_pos c28] at H
   have c28b0 : (a2 == 3) = true := beq_iff_eq.mpr c28
   have c28b1 : (a2 != 3) = false := bne_eq_false_iff_eq.mpr c28
   clear c28
   replace H := Option.bind_eq_some_iff.mp H
   obtain ⟨t379, A290, H⟩ := H
   try dsimp only at H
   have A29 := Aside0.mk A290
   clear A290
   obtain rfl := Option.some.inj H
   go_enter Try.func169, Try.ntmps169
   go_wp2_with (first | ((with_reducible refine gate_dst (N := 3) rfl ?_); refine box_event ?hg (N := 3) ?hd (cs := #[.int .i64 a0_0, .int .i64 a0_1]) (t := 42) ?hr ?_; (case hd => rfl); (case hg => rfl); (case hr => first | (go_simp; done) | (go_simp; rfl)); intro gb374 hg w30 hbox hb; have BK374 := Aside0.mk (hbox); have GW374 := Aside0.mk ((by rw [hg]; exact (bz_ HB.out) : w.heap.size ≤ gb374)); have GE374 := Aside0.mk ((by rw [hg]; exact (bz_ HB.out) : w.heap.size ≤ gb374)); replace HB := Aside0.mk (bs_ HB.out hb); clear hb hbox hg; obtain ⟨hcz31_0, hcz31_1, hfz31_0, hfz31_1⟩ := cz2_ BK374.out) | (go_at_call 131; (with_reducible refine (impl_isNode.calls a0_0 a0_1 a1 true _ A4.out).mono ?_); rintro e w32 ⟨rfl, hb⟩; replace BK374 := Aside0.mk (bk_ BK374.out hb); replace HB := Aside0.mk (bs_ HB.out hb); (try clear hb); obtain ⟨hcz33_0, hcz33_1, hfz33_0, hfz33_1⟩ := cz2_ BK374.out) | (go_at_call 178; (with_reducible refine (impl_NodeAt.calls a0_0 a0_1 (wrap64 ((Int.tmod a1 a0_0) - 1)) (wrap64 (Int.tdiv a1 a0_0)) t379 _ A29.out).mono ?_); rintro e w34 ⟨rfl, hb⟩; replace BK374 := Aside0.mk (bk_ BK374.out hb); replace HB := Aside0.mk (bs_ HB.out hb); (try clear hb)))
   repeat (go_quiet (first | ((with_reducible refine gate_dst (N := 3) rfl ?_); refine box_event ?hg (N := 3) ?hd (cs := #[.int .i64 a0_0, .int .i64 a0_1]) (t := 42) ?hr ?_; (case hd => rfl); (case hg => rfl); (case hr => first | (go_simp; done) | (go_simp; rfl)); intro gb374 hg w30 hbox hb; have BK374 := Aside0.mk (hbox); have GW374 := Aside0.mk ((by rw [hg]; exact (bz_ HB.out) : w.heap.size ≤ gb374)); have GE374 := Aside0.mk ((by rw [hg]; exact (bz_ HB.out) : w.heap.size ≤ gb374)); replace HB := Aside0.mk (bs_ HB.out hb); clear hb hbox hg; obtain ⟨hcz31_0, hcz31_1, hfz31_0, hfz31_1⟩ := cz2_ BK374.out) | (go_at_call 131; (with_reducible refine (impl_isNode.calls a0_0 a0_1 a1 true _ A4.out).mono ?_); rintro e w32 ⟨rfl, hb⟩; replace BK374 := Aside0.mk (bk_ BK374.out hb); replace HB := Aside0.mk (bs_ HB.out hb); (try clear hb); obtain ⟨hcz33_0, hcz33_1, hfz33_0, hfz33_1⟩ := cz2_ BK374.out) | (go_at_call 178; (with_reducible refine (impl_NodeAt.calls a0_0 a0_1 (wrap64 ((Int.tmod a1 a0_0) - 1)) (wrap64 (Int.tdiv a1 a0_0)) t379 _ A29.out).mono ?_); rintro e w34 ⟨rfl, hb⟩; replace BK374 := Aside0.mk (bk_ BK374.out hb); replace HB := Aside0.mk (bs_ HB.out hb); (try clear hb))); try go_wp2_with (first | ((with_reducible refine gate_dst (N := 3) rfl ?_); refine box_event ?hg (N := 3) ?hd (cs := #[.int .i64 a0_0, .int .i64 a0_1]) (t := 42) ?hr ?_; (case hd => rfl); (case hg => rfl); (case hr => first | (go_simp; done) | (go_simp; rfl)); intro gb374 hg w30 hbox hb; have BK374 := Aside0.mk (hbox); have GW374 := Aside0.mk ((by rw [hg]; exact (bz_ HB.out) : w.heap.size ≤ gb374)); have GE374 := Aside0.mk ((by rw [hg]; exact (bz_ HB.out) : w.heap.size ≤ gb374)); replace HB := Aside0.mk (bs_ HB.out hb); clear hb hbox hg; obtain ⟨hcz31_0, hcz31_1, hfz31_0, hfz31_1⟩ := cz2_ BK374.out) | (go_at_call 131; (with_reducible refine (impl_isNode.calls a0_0 a0_1 a1 true _ A4.out).mono ?_); rintro e w32 ⟨rfl, hb⟩; replace BK374 := Aside0.mk (bk_ BK374.out hb); replace HB := Aside0.mk (bs_ HB.out hb); (try clear hb); obtain ⟨hcz33_0, hcz33_1, hfz33_0, hfz33_1⟩ := cz2_ BK374.out) | (go_at_call 178; (with_reducible refine (impl_NodeAt.calls a0_0 a0_1 (wrap64 ((Int.tmod a1 a0_0) - 1)) (wrap64 (Int.tdiv a1 a0_0)) t379 _ A29.out).mono ?_); rintro e w34 ⟨rfl, hb⟩; replace BK374 := Aside0.mk (bk_ BK374.out hb); replace HB := Aside0.mk (bs_ HB.out hb); (try clear hb))))
   go_ret
   exact ⟨fin_, bb_ HB.out⟩
  rw [if_neg c28] at H
  have c28b0 : (a2 == 3) = false := beq_eq_false_iff_ne.mpr c28
  have c28b1 : (a2 != 3) = true := bne_iff_ne.mpr c28
  by_cases c35 : a2 = 4
  rotate_left
  ·rw [if_neg c35] at H
   have c35b0 : (a2 == 4) = false := beq_eq_false_iff_ne.mpr c35
   have c35b1 : (a2 != 4) = true := bne_iff_ne.mpr c35
   obtain rfl := Option.some.inj H
   go_enter Try.func169, Try.ntmps169
   go_wp2_with (first | ((with_reducible refine gate_dst (N := 3) rfl ?_); refine box_event ?hg (N := 3) ?hd (cs := #[.int .i64 a0_0, .int .i64 a0_1]) (t := 42) ?hr ?_; (case hd => rfl); (case hg => rfl); (case hr => first | (go_simp; done) | (go_simp; rfl)); intro gb374 hg w40 hbox hb; have BK374 := Aside0.mk (hbox); have GW374 := Aside0.mk ((by rw [hg]; exact (bz_ HB.out) : w.heap.size ≤ gb374)); have GE374 := Aside0.mk ((by rw [hg]; exact (bz_ HB.out) : w.heap.size ≤ gb374)); replace HB := Aside0.mk (bs_ HB.out hb); clear hb hbox hg; obtain ⟨hcz41_0, hcz41_1, hfz41_0, hfz41_1⟩ := cz2_ BK374.out) | (go_at_call 131; (with_reducible refine (impl_isNode.calls a0_0 a0_1 a1 true _ A4.out).mono ?_); rintro e w42 ⟨rfl, hb⟩; replace BK374 := Aside0.mk (bk_ BK374.out hb); replace HB := Aside0.mk (bs_ HB.out hb); (try clear hb); obtain ⟨hcz43_0, hcz43_1, hfz43_0, hfz43_1⟩ := cz2_ BK374.out))
   repeat (go_quiet (first | ((with_reducible refine gate_dst (N := 3) rfl ?_); refine box_event ?hg (N := 3) ?hd (cs := #[.int .i64 a0_0, .int .i64 a0_1]) (t := 42) ?hr ?_; (case hd => rfl); (case hg => rfl); (case hr => first | (go_simp; done) | (go_simp; rfl)); intro gb374 hg w40 hbox hb; have BK374 := Aside0.mk (hbox); have GW374 := Aside0.mk ((by rw [hg]; exact (bz_ HB.out) : w.heap.size ≤ gb374)); have GE374 := Aside0.mk ((by rw [hg]; exact (bz_ HB.out) : w.heap.size ≤ gb374)); replace HB := Aside0.mk (bs_ HB.out hb); clear hb hbox hg; obtain ⟨hcz41_0, hcz41_1, hfz41_0, hfz41_1⟩ := cz2_ BK374.out) | (go_at_call 131; (with_reducible refine (impl_isNode.calls a0_0 a0_1 a1 true _ A4.out).mono ?_); rintro e w42 ⟨rfl, hb⟩; replace BK374 := Aside0.mk (bk_ BK374.out hb); replace HB := Aside0.mk (bs_ HB.out hb); (try clear hb); obtain ⟨hcz43_0, hcz43_1, hfz43_0, hfz43_1⟩ := cz2_ BK374.out)); try go_wp2_with (first | ((with_reducible refine gate_dst (N := 3) rfl ?_); refine box_event ?hg (N := 3) ?hd (cs := #[.int .i64 a0_0, .int .i64 a0_1]) (t := 42) ?hr ?_; (case hd => rfl); (case hg => rfl); (case hr => first | (go_simp; done) | (go_simp; rfl)); intro gb374 hg w40 hbox hb; have BK374 := Aside0.mk (hbox); have GW374 := Aside0.mk ((by rw [hg]; exact (bz_ HB.out) : w.heap.size ≤ gb374)); have GE374 := Aside0.mk ((by rw [hg]; exact (bz_ HB.out) : w.heap.size ≤ gb374)); replace HB := Aside0.mk (bs_ HB.out hb); clear hb hbox hg; obtain ⟨hcz41_0, hcz41_1, hfz41_0, hfz41_1⟩ := cz2_ BK374.out) | (go_at_call 131; (with_reducible refine (impl_isNode.calls a0_0 a0_1 a1 true _ A4.out).mono ?_); rintro e w42 ⟨rfl, hb⟩; replace BK374 := Aside0.mk (bk_ BK374.out hb); replace HB := Aside0.mk (bs_ HB.out hb); (try clear hb); obtain ⟨hcz43_0, hcz43_1, hfz43_0, hfz43_1⟩ := cz2_ BK374.out)))
   go_ret
   exact ⟨fin_, bb_ HB.out⟩
  rw [if_pos c35] at H
  have c35b0 : (a2 == 4) = true := beq_iff_eq.mpr c35
  have c35b1 : (a2 != 4) = false := bne_eq_false_iff_eq.mpr c35
  clear c35
  obtain rfl := Option.some.inj H
  go_enter Try.func169, Try.ntmps169
  go_wp2_with (first | ((with_reducible refine gate_dst (N := 3) rfl ?_); refine box_event ?hg (N := 3) ?hd (cs := #[.int .i64 a0_0, .int .i64 a0_1]) (t := 42) ?hr ?_; (case hd => rfl); (case hg => rfl); (case hr => first | (go_simp; done) | (go_simp; rfl)); intro gb374 hg w36 hbox hb; have BK374 := Aside0.mk (hbox); have GW374 := Aside0.mk ((by rw [hg]; exact (bz_ HB.out) : w.heap.size ≤ gb374)); have GE374 := Aside0.mk ((by rw [hg]; exact (bz_ HB.out) : w.heap.size ≤ gb374)); replace HB := Aside0.mk (bs_ HB.out hb); clear hb hbox hg; obtain ⟨hcz37_0, hcz37_1, hfz37_0, hfz37_1⟩ := cz2_ BK374.out) | (go_at_call 131; (with_reducible refine (impl_isNode.calls a0_0 a0_1 a1 true _ A4.out).mono ?_); rintro e w38 ⟨rfl, hb⟩; replace BK374 := Aside0.mk (bk_ BK374.out hb); replace HB := Aside0.mk (bs_ HB.out hb); (try clear hb); obtain ⟨hcz39_0, hcz39_1, hfz39_0, hfz39_1⟩ := cz2_ BK374.out))
  repeat (go_quiet (first | ((with_reducible refine gate_dst (N := 3) rfl ?_); refine box_event ?hg (N := 3) ?hd (cs := #[.int .i64 a0_0, .int .i64 a0_1]) (t := 42) ?hr ?_; (case hd => rfl); (case hg => rfl); (case hr => first | (go_simp; done) | (go_simp; rfl)); intro gb374 hg w36 hbox hb; have BK374 := Aside0.mk (hbox); have GW374 := Aside0.mk ((by rw [hg]; exact (bz_ HB.out) : w.heap.size ≤ gb374)); have GE374 := Aside0.mk ((by rw [hg]; exact (bz_ HB.out) : w.heap.size ≤ gb374)); replace HB := Aside0.mk (bs_ HB.out hb); clear hb hbox hg; obtain ⟨hcz37_0, hcz37_1, hfz37_0, hfz37_1⟩ := cz2_ BK374.out) | (go_at_call 131; (with_reducible refine (impl_isNode.calls a0_0 a0_1 a1 true _ A4.out).mono ?_); rintro e w38 ⟨rfl, hb⟩; replace BK374 := Aside0.mk (bk_ BK374.out hb); replace HB := Aside0.mk (bs_ HB.out hb); (try clear hb); obtain ⟨hcz39_0, hcz39_1, hfz39_0, hfz39_1⟩ := cz2_ BK374.out)); try go_wp2_with (first | ((with_reducible refine gate_dst (N := 3) rfl ?_); refine box_event ?hg (N := 3) ?hd (cs := #[.int .i64 a0_0, .int .i64 a0_1]) (t := 42) ?hr ?_; (case hd => rfl); (case hg => rfl); (case hr => first | (go_simp; done) | (go_simp; rfl)); intro gb374 hg w36 hbox hb; have BK374 := Aside0.mk (hbox); have GW374 := Aside0.mk ((by rw [hg]; exact (bz_ HB.out) : w.heap.size ≤ gb374)); have GE374 := Aside0.mk ((by rw [hg]; exact (bz_ HB.out) : w.heap.size ≤ gb374)); replace HB := Aside0.mk (bs_ HB.out hb); clear hb hbox hg; obtain ⟨hcz37_0, hcz37_1, hfz37_0, hfz37_1⟩ := cz2_ BK374.out) | (go_at_call 131; (with_reducible refine (impl_isNode.calls a0_0 a0_1 a1 true _ A4.out).mono ?_); rintro e w38 ⟨rfl, hb⟩; replace BK374 := Aside0.mk (bk_ BK374.out hb); replace HB := Aside0.mk (bs_ HB.out hb); (try clear hb); obtain ⟨hcz39_0, hcz39_1, hfz39_0, hfz39_1⟩ := cz2_ BK374.out)))
  go_ret
  exact ⟨fin_, bb_ HB.out⟩
 ·replace c5 := Bool.eq_false_iff.mpr c5
  subst c5
  rw [if_neg (show ¬ (false = true) by decide)] at H
  obtain rfl := Option.some.inj H
  go_enter Try.func169, Try.ntmps169
  go_wp2_with (first | ((with_reducible refine gate_dst (N := 3) rfl ?_); refine box_event ?hg (N := 3) ?hd (cs := #[.int .i64 a0_0, .int .i64 a0_1]) (t := 42) ?hr ?_; (case hd => rfl); (case hg => rfl); (case hr => first | (go_simp; done) | (go_simp; rfl)); intro gb374 hg w44 hbox hb; have BK374 := Aside0.mk (hbox); have GW374 := Aside0.mk ((by rw [hg]; exact (bz_ HB.out) : w.heap.size ≤ gb374)); have GE374 := Aside0.mk ((by rw [hg]; exact (bz_ HB.out) : w.heap.size ≤ gb374)); replace HB := Aside0.mk (bs_ HB.out hb); clear hb hbox hg; obtain ⟨hcz45_0, hcz45_1, hfz45_0, hfz45_1⟩ := cz2_ BK374.out) | (go_at_call 131; (with_reducible refine (impl_isNode.calls a0_0 a0_1 a1 false _ A4.out).mono ?_); rintro e w46 ⟨rfl, hb⟩; replace BK374 := Aside0.mk (bk_ BK374.out hb); replace HB := Aside0.mk (bs_ HB.out hb); (try clear hb)))
  repeat (go_quiet (first | ((with_reducible refine gate_dst (N := 3) rfl ?_); refine box_event ?hg (N := 3) ?hd (cs := #[.int .i64 a0_0, .int .i64 a0_1]) (t := 42) ?hr ?_; (case hd => rfl); (case hg => rfl); (case hr => first | (go_simp; done) | (go_simp; rfl)); intro gb374 hg w44 hbox hb; have BK374 := Aside0.mk (hbox); have GW374 := Aside0.mk ((by rw [hg]; exact (bz_ HB.out) : w.heap.size ≤ gb374)); have GE374 := Aside0.mk ((by rw [hg]; exact (bz_ HB.out) : w.heap.size ≤ gb374)); replace HB := Aside0.mk (bs_ HB.out hb); clear hb hbox hg; obtain ⟨hcz45_0, hcz45_1, hfz45_0, hfz45_1⟩ := cz2_ BK374.out) | (go_at_call 131; (with_reducible refine (impl_isNode.calls a0_0 a0_1 a1 false _ A4.out).mono ?_); rintro e w46 ⟨rfl, hb⟩; replace BK374 := Aside0.mk (bk_ BK374.out hb); replace HB := Aside0.mk (bs_ HB.out hb); (try clear hb))); try go_wp2_with (first | ((with_reducible refine gate_dst (N := 3) rfl ?_); refine box_event ?hg (N := 3) ?hd (cs := #[.int .i64 a0_0, .int .i64 a0_1]) (t := 42) ?hr ?_; (case hd => rfl); (case hg => rfl); (case hr => first | (go_simp; done) | (go_simp; rfl)); intro gb374 hg w44 hbox hb; have BK374 := Aside0.mk (hbox); have GW374 := Aside0.mk ((by rw [hg]; exact (bz_ HB.out) : w.heap.size ≤ gb374)); have GE374 := Aside0.mk ((by rw [hg]; exact (bz_ HB.out) : w.heap.size ≤ gb374)); replace HB := Aside0.mk (bs_ HB.out hb); clear hb hbox hg; obtain ⟨hcz45_0, hcz45_1, hfz45_0, hfz45_1⟩ := cz2_ BK374.out) | (go_at_call 131; (with_reducible refine (impl_isNode.calls a0_0 a0_1 a1 false _ A4.out).mono ?_); rintro e w46 ⟨rfl, hb⟩; replace BK374 := Aside0.mk (bk_ BK374.out hb); replace HB := Aside0.mk (bs_ HB.out hb); (try clear hb))))
  go_ret
  exact ⟨fin_, bb_ HB.out⟩

/-! ### impl_leads: function 141 -/
def impl_leads.f (a0_0 : Int) (a0_1 : Int) (a1 : Int) : Option (Bool) := (impl_NodeCount.f a0_0 a0_1).bind fun t381 => ((impl_inside.f a1 0 (wrap64 ((wrap64 (4 * t381)) - 1))).bind fun t382 => (if t382 = true then ((impl_NextNode.f a0_0 a0_1 (wrap64 (Int.tdiv a1 4)) (Int.tmod a1 4)).bind fun t383 => (some (decide (t383 ≥ 0)))) else (some false)))
theorem impl_leads.e0 {P : Prop} (h : P := by
 go_enter Try.func141, Try.ntmps141
 go_wp2_with (first | ((with_reducible refine gate_dst (N := 2) rfl ?_); refine box_event ?hg (N := 2) ?hd (cs := #[.int .i64 a0_0, .int .i64 a0_1]) (t := 42) ?hr ?_; (case hd => rfl); (case hg => rfl); (case hr => first | (go_simp; done) | (go_simp; rfl)); intro gb380 hg w_0 hbox hb; have BK380 := Aside0.mk (hbox); have GW380 := Aside0.mk ((by rw [hg]; exact (bz_ HB.out) : w.heap.size ≤ gb380)); have GE380 := Aside0.mk ((by rw [hg]; exact (bz_ HB.out) : w.heap.size ≤ gb380)); replace HB := Aside0.mk (bs_ HB.out hb); clear hb hbox hg; obtain ⟨hcz_0, hcz_1, hfz_0, hfz_1⟩ := cz2_ BK380.out) | ((with_reducible refine gate_callee (f := 95) rfl ?_); refine gm_ (some 7) Try.func95 #[.agg #[.int .i64 a0_0, .int .i64 a0_1]] rfl ?_; (with_reducible refine (impl_NodeCount.calls a0_0 a0_1 t381 _ A3.out).mono ?_); rintro e w_0 ⟨rfl, hb⟩; refine ⟨_, rfl, ?_⟩; replace BK380 := Aside0.mk (bk_ BK380.out hb); replace HB := Aside0.mk (bs_ HB.out hb); (try clear hb)) | ((with_reducible refine gate_callee (f := 94) rfl ?_); refine gm_ (some 10) Try.func94 #[.int .i64 a1, .int .i64 0, .int .i64 (wrap64 ((wrap64 (4 * t381)) - 1))] rfl ?_; (with_reducible refine (impl_inside.calls a1 0 (wrap64 ((wrap64 (4 * t381)) - 1)) _ _ A4.out).mono ?_); rintro e w' ⟨rfl, ⟨nd, rfl⟩⟩; refine ⟨_, rfl, ?_⟩; obtain ⟨hcz_0, hcz_1, hfz_0, hfz_1⟩ := cz2_ BK380.out) | (go_at_call 169; (with_reducible refine (impl_NextNode.calls a0_0 a0_1 (wrap64 (Int.tdiv a1 4)) (Int.tmod a1 4) t383 _ A6.out).mono ?_); rintro e w_0 ⟨rfl, hb⟩; replace BK380 := Aside0.mk (bk_ BK380.out hb); replace HB := Aside0.mk (bs_ HB.out hb); (try clear hb)))
 go_ret
 exact ⟨fin_, bb_ HB.out⟩) : P := h
theorem impl_leads.calls (a0_0 : Int) (a0_1 : Int) (a1 : Int) (r : Bool) (w : World) (h : impl_leads.f a0_0 a0_1 a1 = some r) :
  Calls Try.prog 141 #[.agg #[.int .i64 a0_0, .int .i64 a0_1], .int .i64 a1] w fun e w' => e = .returned (.bool r) ∧ Below w.heap.size w w' := by
 have hu42 := Try.underlying42
 have HB := Aside0.mk (Below.refl w.heap.size w)
 have H : ((impl_NodeCount.f a0_0 a0_1).bind fun t381 => ((impl_inside.f a1 0 (wrap64 ((wrap64 (4 * t381)) - 1))).bind fun t382 => (if t382 = true then ((impl_NextNode.f a0_0 a0_1 (wrap64 (Int.tdiv a1 4)) (Int.tmod a1 4)).bind fun t383 => (some (decide (t383 ≥ 0)))) else (some false)))) = some r := h
 clear h
 replace H := Option.bind_eq_some_iff.mp H
 obtain ⟨t381, A30, H⟩ := H
 try dsimp only at H
 have A3 := Aside0.mk A30
 clear A30
 replace H := Option.bind_eq_some_iff.mp H
 obtain ⟨t382, A40, H⟩ := H
 try dsimp only at H
 have A4 := Aside0.mk A40
 clear A40
 by_cases c5 : t382 = true
 ·subst c5
  rw [if_pos rfl] at H
  replace H := Option.bind_eq_some_iff.mp H
  obtain ⟨t383, A60, H⟩ := H
  try dsimp only at H
  have A6 := Aside0.mk A60
  clear A60
  obtain rfl := Option.some.inj H
  exact impl_leads.e0
 ·replace c5 := Bool.eq_false_iff.mpr c5
  subst c5
  rw [if_neg (show ¬ (false = true) by decide)] at H
  obtain rfl := Option.some.inj H
  exact impl_leads.e0

/-! ### impl_MeshOk: function 116 -/
def impl_MeshOk.l0 : Nat → List Int → Int → Int → Int → Int → List Int → Option (Bool)
 | 0, _, _, _, _, _, _ => none
 | k + 1, x6, x7, x8, x385000, x385001, x385002 => if x8 < x7 then (if 0 ≤ x8 then (if x8 < (x6.length : Int) then ((impl_leads.f x385000 x385001 (rd x6 x8)).bind fun t386 => (if t386 = true then (if x8 > 0 then (if 0 ≤ (wrap64 (x8 - 1)) then (if (wrap64 (x8 - 1)) < (x385002.length : Int) then (if (rd x385002 (wrap64 (x8 - 1))) ≥ (rd x6 x8) then (some false) else (impl_MeshOk.l0 k x6 x7 (wrap64 (x8 + 1)) x385000 x385001 x385002)) else (none)) else (none)) else (impl_MeshOk.l0 k x6 x7 (wrap64 (x8 + 1)) x385000 x385001 x385002)) else (some false))) else (none)) else (none)) else ((impl_GridOk.f x385000 x385001).bind fun t388 => (some t388))
def impl_MeshOk.f (k : Nat) (a0_0 : Int) (a0_1 : Int) (l0_2 : List Int) : Option (Bool) := impl_MeshOk.l0 k l0_2 (l0_2.length : Int) 0 a0_0 a0_1 l0_2
theorem impl_MeshOk.mono_l : ∀ k, (∀ y0 y1 y2 y3 y4 y5, LeO (impl_MeshOk.l0 k y0 y1 y2 y3 y4 y5) (impl_MeshOk.l0 (k + 1) y0 y1 y2 y3 y4 y5))
 | 0 => fun _ _ _ _ _ _ r h => by simp [impl_MeshOk.l0] at h
 | k + 1 => by
  have ih0 := impl_MeshOk.mono_l k
  ·intro y0 y1 y2 y3 y4 y5
   unfold impl_MeshOk.l0
   repeat' first
   | (with_reducible exact ih0 _ _ _ _ _ _)
   | (with_reducible exact LeO.refl _)
   | (with_reducible exact LeO.none _)
   | (with_reducible refine LeO.ite ?_ ?_)
   | (with_reducible refine LeO.bind ?_ (fun _ => ?_))
   | exact ih0 _ _ _ _ _ _
   | exact LeO.none _
   | refine LeO.ite ?_ ?_
   | refine LeO.bind ?_ (fun _ => ?_)
theorem impl_MeshOk.mono : ∀ a0 a1 a2 k, LeO (impl_MeshOk.f k a0 a1 a2) (impl_MeshOk.f (k + 1) a0 a1 a2) := by
 intro a0 a1 a2 k
 have ih0 := impl_MeshOk.mono_l k
 unfold impl_MeshOk.f
 repeat' first
   | (with_reducible exact ih0 _ _ _ _ _ _)
   | (with_reducible exact LeO.refl _)
   | (with_reducible exact LeO.none _)
   | (with_reducible refine LeO.ite ?_ ?_)
   | (with_reducible refine LeO.bind ?_ (fun _ => ?_))
   | exact ih0 _ _ _ _ _ _
   | exact LeO.none _
   | refine LeO.ite ?_ ?_
   | refine LeO.bind ?_ (fun _ => ?_)
theorem impl_MeshOk.e0 {P : Prop} (h : P := by
 obtain ⟨hcz_0, hcz_1, hcz_2, hfz_0, hfz_1, hfz_2⟩ := cz3_ BK384.out
 go_wp2_with (first | ((with_reducible refine gate_callee (f := 141) rfl ?_); refine gm_ (some 16) Try.func141 #[.agg #[.int .i64 a0_0, .int .i64 a0_1], .int .i64 (rd l0_2 x8_1)] rfl ?_; (with_reducible refine (impl_leads.calls a0_0 a0_1 (rd l0_2 x8_1) _ _ A7.out).mono ?_); rintro e w_0 ⟨rfl, hb⟩; refine ⟨_, rfl, ?_⟩; replace BK384 := Aside0.mk (bk_ BK384.out hb); replace HB := Aside0.mk (bs_ HB.out hb); (try clear hb); obtain ⟨hcz_0, hcz_1, hcz_2, hfz_0, hfz_1, hfz_2⟩ := cz3_ BK384.out; have p387 : 0 ≤ ((ji10) : Int) := of_decide_eq_true dg_; have q387 : (ji10) < (l0_2.length : Int) := of_decide_eq_true dg_; obtain ⟨ad387, e387, hx387_0⟩ := Kd.at_int HR0_2.out (ji10) p387 q387; obtain rfl : ad385 = ad387 := (by injection e387); replace hx387_0 := (HB.out.cell (World.block_lt_of_cell? w _ hx387_0)).trans hx387_0; replace p387 := eq_true p387; replace q387 := eq_true q387) | ((with_reducible refine gate_callee (f := 141) rfl ?_); refine gm_ (some 16) Try.func141 #[.agg #[.int .i64 a0_0, .int .i64 a0_1], .int .i64 (rd l0_2 x8_1)] rfl ?_; (with_reducible refine (impl_leads.calls a0_0 a0_1 (rd l0_2 x8_1) _ _ A7.out).mono ?_); rintro e w_0 ⟨rfl, hb⟩; refine ⟨_, rfl, ?_⟩; replace BK384 := Aside0.mk (bk_ BK384.out hb); replace HB := Aside0.mk (bs_ HB.out hb); (try clear hb)))
 go_roundg k1
 case measure => have := HK1.out; omega
 case rel => exact ⟨(wrap64 (x8_1 + 1)), ef_, H', ⟨by have := HK1.out; omega⟩, ⟨bq_ BK384.out⟩, ⟨bb_ HB.out⟩⟩) : P := h
theorem impl_MeshOk.e1 {P : Prop} (h : P := by
 obtain ⟨hcz_0, hcz_1, hcz_2, hfz_0, hfz_1, hfz_2⟩ := cz3_ BK384.out
 go_wp2_with (first | ((with_reducible refine gate_callee (f := 141) rfl ?_); refine gm_ (some 16) Try.func141 #[.agg #[.int .i64 a0_0, .int .i64 a0_1], .int .i64 (rd l0_2 x8_1)] rfl ?_; (with_reducible refine (impl_leads.calls a0_0 a0_1 (rd l0_2 x8_1) _ _ A7.out).mono ?_); rintro e w_0 ⟨rfl, hb⟩; refine ⟨_, rfl, ?_⟩; replace BK384 := Aside0.mk (bk_ BK384.out hb); replace HB := Aside0.mk (bs_ HB.out hb); (try clear hb)) | ((with_reducible refine gate_callee (f := 93) rfl ?_); refine gm_ (some 35) Try.func93 #[.agg #[.int .i64 a0_0, .int .i64 a0_1]] rfl ?_; (with_reducible refine (impl_GridOk.calls a0_0 a0_1 t388 _ A24.out).mono ?_); rintro e w_0 ⟨rfl, hb⟩; refine ⟨_, rfl, ?_⟩; replace BK384 := Aside0.mk (bk_ BK384.out hb); replace HB := Aside0.mk (bs_ HB.out hb); (try clear hb)))
 go_ret
 exact ⟨fin_, bb_ HB.out⟩) : P := h
theorem impl_MeshOk.calls (k : Nat) (a0_0 : Int) (a0_1 : Int) (A0_2 : Option Addr) (c0_2 : Nat) (l0_2 : List Int) (r : Bool) (w : World) (hr0_2 : Kd.C (Kd.int .i64) w A0_2 l0_2.length l0_2) (hc0_2 : l0_2.length ≤ c0_2) (h : impl_MeshOk.f k a0_0 a0_1 l0_2 = some r) :
  Calls Try.prog 116 #[.agg #[.int .i64 a0_0, .int .i64 a0_1, .slice A0_2 l0_2.length c0_2]] w fun e w' => e = .returned (.bool r) ∧ Below w.heap.size w w' := by
 have hu44 := Try.underlying44
 have hu42 := Try.underlying42
 have HR0_2 := Aside0.mk hr0_2
 have HC0_2 := Aside0.mk hc0_2
 clear hr0_2 hc0_2
 have HB := Aside0.mk (Below.refl w.heap.size w)
 have H : (impl_MeshOk.l0 k l0_2 (l0_2.length : Int) 0 a0_0 a0_1 l0_2) = some r := h
 clear h
 have H' := Aside0.mk H
 clear H
 go_enter Try.func116, Try.ntmps116
 go_wp2_with (first | ((with_reducible refine gate_dst (N := 1) rfl ?_); refine box_event ?hg (N := 1) ?hd (cs := #[.int .i64 a0_0, .int .i64 a0_1, .slice A0_2 l0_2.length c0_2]) (t := 44) ?hr ?_; (case hd => rfl); (case hg => rfl); (case hr => first | (go_simp; done) | (go_simp; rfl)); intro gb384 hg w2 hbox hb; have BK384 := Aside0.mk (hbox); have GW384 := Aside0.mk ((by rw [hg]; exact (bz_ HB.out) : w.heap.size ≤ gb384)); have GE384 := Aside0.mk ((by rw [hg]; exact (bz_ HB.out) : w.heap.size ≤ gb384)); replace HB := Aside0.mk (bs_ HB.out hb); clear hb hbox hg; obtain ⟨hcz3_0, hcz3_1, hcz3_2, hfz3_0, hfz3_1, hfz3_2⟩ := cz3_ BK384.out))
 go_loopg [8] k (fun kq v8 w' => ∃ (x8_1 : Int), v8 = .int .i64 x8_1 ∧ Aside0 (impl_MeshOk.l0 kq l0_2 (l0_2.length : Int) x8_1 a0_0 a0_1 l0_2 = some r) ∧ Aside0 (kq ≤ k) ∧ Aside0 (w'.heap[gb384]? = some (.cells #[.int .i64 a0_0, .int .i64 a0_1, (.slice A0_2 l0_2.length c0_2)] 44 (0, 0))) ∧ Aside0 (Below w.heap.size w w'))
 case atStart => exact ⟨(0), ef_, H', ⟨Nat.le_refl _⟩, ⟨bq_ BK384.out⟩, ⟨bb_ HB.out⟩⟩
 clear H'
 try clear hcz3_0 hcz3_1 hcz3_2 hfz3_0 hfz3_1 hfz3_2
 obtain ⟨x8_1, rfl, HA, HK1, BK384, HB⟩ := hrel
 obtain _ | k1 := gk
 ·exact absurd HA.out (by simp [impl_MeshOk.l0])
 have H := HA.out
 clear HA
 simp only [impl_MeshOk.l0] at H
 by_cases c4 : x8_1 < (l0_2.length : Int)
 rotate_left
 ·rw [if_neg c4] at H
  have c4b0 : decide (x8_1 < (l0_2.length : Int)) = false := decide_eq_false c4
  clear c4
  replace H := Option.bind_eq_some_iff.mp H
  obtain ⟨t388, A240, H⟩ := H
  try dsimp only at H
  have A24 := Aside0.mk A240
  clear A240
  obtain rfl := Option.some.inj H
  exact impl_MeshOk.e1
 rw [if_pos c4] at H
 have c4b0 : decide (x8_1 < (l0_2.length : Int)) = true := decide_eq_true c4
 clear c4
 by_cases c5 : 0 ≤ x8_1
 rotate_left
 ·rw [if_neg c5] at H
  exact absurd H (by simp)
 rw [if_pos c5] at H
 have c5b0 : decide (0 ≤ x8_1) = true := decide_eq_true c5
 clear c5
 by_cases c6 : x8_1 < (l0_2.length : Int)
 rotate_left
 ·rw [if_neg c6] at H
  exact absurd H (by simp)
 rw [if_pos c6] at H
 have c6b0 : decide (x8_1 < (l0_2.length : Int)) = true := decide_eq_true c6
 clear c6
 replace H := Option.bind_eq_some_iff.mp H
 obtain ⟨t386, A70, H⟩ := H
 try dsimp only at H
 have A7 := Aside0.mk A70
 clear A70
 by_cases c8 : t386 = true
 rotate_left
 ·replace c8 := Bool.eq_false_iff.mpr c8
  subst c8
  rw [if_neg (show ¬ (false = true) by decide)] at H
  obtain rfl := Option.some.inj H
  have p385 : 0 ≤ (x8_1 : Int) := of_decide_eq_true dg_
  have q385 : x8_1 < (l0_2.length : Int) := of_decide_eq_true dg_
  obtain ⟨ad385, e385, hx385_0⟩ := Kd.at_int HR0_2.out x8_1 p385 q385
  cases e385
  replace hx385_0 := (HB.out.cell (World.block_lt_of_cell? w _ hx385_0)).trans hx385_0
  replace p385 := eq_true p385
  replace q385 := eq_true q385
  exact impl_MeshOk.e1
 subst c8
 rw [if_pos rfl] at H
 by_cases c9 : x8_1 > 0
 rotate_left
 ·rw [if_neg c9] at H
  have c9b0 : decide (0 < x8_1) = false := decide_eq_false c9
  clear c9
  have H' := Aside0.mk H
  clear H
  have p385 : 0 ≤ (x8_1 : Int) := of_decide_eq_true dg_
  have q385 : x8_1 < (l0_2.length : Int) := of_decide_eq_true dg_
  obtain ⟨ad385, e385, hx385_0⟩ := Kd.at_int HR0_2.out x8_1 p385 q385
  cases e385
  replace hx385_0 := (HB.out.cell (World.block_lt_of_cell? w _ hx385_0)).trans hx385_0
  replace p385 := eq_true p385
  replace q385 := eq_true q385
  exact impl_MeshOk.e0
 rw [if_pos c9] at H
 have c9b0 : decide (0 < x8_1) = true := decide_eq_true c9
 clear c9
 obtain ⟨ji10, hji10⟩ : ∃ j_ : Int, (wrap64 (x8_1 - 1)) = j_ := ⟨_, rfl⟩
 replace H : (if 0 ≤ (ji10) then (if (ji10) < (l0_2.length : Int) then (if (rd l0_2 (ji10)) ≥ (rd l0_2 x8_1) then (some false) else (impl_MeshOk.l0 k1 l0_2 (l0_2.length : Int) (wrap64 (x8_1 + 1)) a0_0 a0_1 l0_2)) else (none)) else (none)) = some r := by first | (rw [hji10] at H; exact H) | (simp only [hji10] at H ⊢; exact H)
 (try rw [hji10] at A7)
 have hji10w : (IntKind.i64.wrap (x8_1 - 1)) = ji10 := (i64_w _).trans hji10
 by_cases c11 : 0 ≤ (ji10)
 rotate_left
 ·rw [if_neg c11] at H
  exact absurd H (by simp)
 rw [if_pos c11] at H
 have c11b0 : decide (0 ≤ (ji10)) = true := decide_eq_true c11
 clear c11
 by_cases c12 : (ji10) < (l0_2.length : Int)
 rotate_left
 ·rw [if_neg c12] at H
  exact absurd H (by simp)
 rw [if_pos c12] at H
 have c12b0 : decide ((ji10) < (l0_2.length : Int)) = true := decide_eq_true c12
 clear c12
 by_cases c13 : (rd l0_2 (ji10)) ≥ (rd l0_2 x8_1)
 rotate_left
 ·rw [if_neg c13] at H
  have c13b0 : decide ((rd l0_2 x8_1) ≤ (rd l0_2 (ji10))) = false := decide_eq_false c13
  clear c13
  have H' := Aside0.mk H
  clear H
  have p385 : 0 ≤ (x8_1 : Int) := of_decide_eq_true dg_
  have q385 : x8_1 < (l0_2.length : Int) := of_decide_eq_true dg_
  obtain ⟨ad385, e385, hx385_0⟩ := Kd.at_int HR0_2.out x8_1 p385 q385
  cases e385
  replace hx385_0 := (HB.out.cell (World.block_lt_of_cell? w _ hx385_0)).trans hx385_0
  replace p385 := eq_true p385
  replace q385 := eq_true q385
  exact impl_MeshOk.e0
 rw [if_pos c13] at H
 have c13b0 : decide ((rd l0_2 x8_1) ≤ (rd l0_2 (ji10))) = true := decide_eq_true c13
 clear c13
 obtain rfl := Option.some.inj H
 have p385 : 0 ≤ (x8_1 : Int) := of_decide_eq_true dg_
 have q385 : x8_1 < (l0_2.length : Int) := of_decide_eq_true dg_
 obtain ⟨ad385, e385, hx385_0⟩ := Kd.at_int HR0_2.out x8_1 p385 q385
 cases e385
 replace hx385_0 := (HB.out.cell (World.block_lt_of_cell? w _ hx385_0)).trans hx385_0
 replace p385 := eq_true p385
 replace q385 := eq_true q385
 obtain ⟨hcz14_0, hcz14_1, hcz14_2, hfz14_0, hfz14_1, hfz14_2⟩ := cz3_ BK384.out
 go_wp2_with (first | ((with_reducible refine gate_callee (f := 141) rfl ?_); refine gm_ (some 16) Try.func141 #[.agg #[.int .i64 a0_0, .int .i64 a0_1], .int .i64 (rd l0_2 x8_1)] rfl ?_; (with_reducible refine (impl_leads.calls a0_0 a0_1 (rd l0_2 x8_1) true _ A7.out).mono ?_); rintro e w15 ⟨rfl, hb⟩; refine ⟨_, rfl, ?_⟩; replace BK384 := Aside0.mk (bk_ BK384.out hb); replace HB := Aside0.mk (bs_ HB.out hb); (try clear hb); obtain ⟨hcz16_0, hcz16_1, hcz16_2, hfz16_0, hfz16_1, hfz16_2⟩ := cz3_ BK384.out; have p387 : 0 ≤ ((ji10) : Int) := of_decide_eq_true dg_; have q387 : (ji10) < (l0_2.length : Int) := of_decide_eq_true dg_; obtain ⟨ad387, e387, hx387_0⟩ := Kd.at_int HR0_2.out (ji10) p387 q387; obtain rfl : ad385 = ad387 := (by injection e387); replace hx387_0 := (HB.out.cell (World.block_lt_of_cell? w _ hx387_0)).trans hx387_0; replace p387 := eq_true p387; replace q387 := eq_true q387))
 go_ret
 exact ⟨by first | rfl | (simp [errW_none, errW_some] <;> rfl) | (simp only [← hji10]; first | rfl | (simp [errW_none, errW_some] <;> rfl)) | (simp [*, errW_none, errW_some] <;> rfl), bb_ HB.out⟩

/-! ### impl_PortAt: function 142 -/
def impl_PortAt.f (k : Nat) (a0_0 : Int) (a0_1 : Int) (l0_2 : List Int) (l1_0 : List Int) (a2 : Int) (a3 : Int) : Option (Int) := (impl_NodeCount.f a0_0 a0_1).bind fun t391 => ((impl_MeshOk.f k a0_0 a0_1 l0_2).bind fun t392 => (if t392 = true then ((impl_inside.f a2 0 (wrap64 (t391 - 1))).bind fun t393 => (if t393 = true then ((impl_inside.f a3 0 (wrap64 (t391 - 1))).bind fun t394 => (if t394 = true then (if (l1_0.length : Int) = (wrap64 (t391 * t391)) then (if 0 ≤ (wrap64 ((wrap64 (a2 * t391)) + a3)) then (if (wrap64 ((wrap64 (a2 * t391)) + a3)) < (l1_0.length : Int) then ((impl_inside.f (rd l1_0 (wrap64 ((wrap64 (a2 * t391)) + a3))) 0 4).bind fun t396 => (if t396 = true then (some (rd l1_0 (wrap64 ((wrap64 (a2 * t391)) + a3)))) else (some (-1)))) else (none)) else (none)) else (some (-1))) else (some (-1)))) else (some (-1)))) else (some (-1))))
theorem impl_PortAt.mono : ∀ a0 a1 a2 a3 a4 a5 k, LeO (impl_PortAt.f k a0 a1 a2 a3 a4 a5) (impl_PortAt.f (k + 1) a0 a1 a2 a3 a4 a5) := by
 intro a0 a1 a2 a3 a4 a5 k
 unfold impl_PortAt.f
 repeat' first
   | (with_reducible exact impl_MeshOk.mono _ _ _ _)
   | (with_reducible exact LeO.refl _)
   | (with_reducible exact LeO.none _)
   | (with_reducible refine LeO.ite ?_ ?_)
   | (with_reducible refine LeO.bind ?_ (fun _ => ?_))
   | exact impl_MeshOk.mono _ _ _ _
   | exact LeO.none _
   | refine LeO.ite ?_ ?_
   | refine LeO.bind ?_ (fun _ => ?_)
theorem impl_PortAt.e0 {P : Prop} (h : P := by
 go_enter Try.func142, Try.ntmps142
 go_wp2_with (first | ((with_reducible refine gate_dst (N := 4) rfl ?_); (try (refine gate_guard (by rfl) ?_; dsimp only)); refine box_event ?hg (N := 4) ?hd (cs := #[.int .i64 a0_0, .int .i64 a0_1, .slice A0_2 l0_2.length c0_2]) (t := 44) ?hr ?_; (case hd => rfl); (case hg => rfl); (case hr => first | (go_simp; done) | (go_simp; rfl)); intro gb389 hg w_0 hbox hb; have BK389 := Aside0.mk (hbox); have GW389 := Aside0.mk ((by rw [hg]; exact (bz_ HB.out) : w.heap.size ≤ gb389)); have GE389 := Aside0.mk ((by rw [hg]; exact (bz_ HB.out) : w.heap.size ≤ gb389)); replace HB := Aside0.mk (bs_ HB.out hb); clear hb hbox hg) | ((with_reducible refine gate_dst (N := 5) rfl ?_); (try (refine gate_guard (by rfl) ?_; dsimp only)); refine box_event ?hg (N := 5) ?hd (cs := #[.slice A1_0 l1_0.length c1_0]) (t := 46) ?hr ?_; (case hd => rfl); (case hg => rfl); (case hr => first | (go_simp; done) | (go_simp; rfl)); intro gb390 hg w_0 hbox hb; have BK390 := Aside0.mk (hbox); have GW390 := Aside0.mk ((by rw [hg]; exact (bz_ HB.out) : w.heap.size ≤ gb390)); have GE390 := Aside0.mk ((by rw [hg]; exact (bz_ HB.out) : w.heap.size ≤ gb390)); replace HB := Aside0.mk (bs_ HB.out hb); have NB389_390 := Aside0.mk ((by rw [hg]; exact Nat.ne_of_lt (bl_ BK389.out) : gb389 ≠ gb390)); have NB390_389 := Aside0.mk ((by rw [hg]; exact Nat.ne_of_gt (bl_ BK389.out) : gb390 ≠ gb389)); replace BK389 := Aside0.mk (bk_ BK389.out hb); clear hb hbox hg; have hnb_ := NB389_390.out; have hnc_ := NB390_389.out; obtain ⟨hcz_0, hcz_1, hcz_2, hfz_0, hfz_1, hfz_2⟩ := cz3_ BK389.out) | ((with_reducible refine gate_callee (f := 95) rfl ?_); refine gm_ (some 12) Try.func95 #[.agg #[.int .i64 a0_0, .int .i64 a0_1]] rfl ?_; (with_reducible refine (impl_NodeCount.calls a0_0 a0_1 t391 _ A5.out).mono ?_); rintro e w_0 ⟨rfl, hb⟩; refine ⟨_, rfl, ?_⟩; replace BK389 := Aside0.mk (bk_ BK389.out hb); replace BK390 := Aside0.mk (bk_ BK390.out hb); replace HB := Aside0.mk (bs_ HB.out hb); (try clear hb); obtain ⟨hcz_0, hcz_1, hcz_2, hfz_0, hfz_1, hfz_2⟩ := cz3_ BK389.out) | ((with_reducible refine gate_callee (f := 116) rfl ?_); refine gm_ (some 14) Try.func116 #[.agg #[.int .i64 a0_0, .int .i64 a0_1, .slice A0_2 l0_2.length c0_2]] rfl ?_; (with_reducible refine (impl_MeshOk.calls k a0_0 a0_1 _ _ l0_2 _ _ ?side1 HC0_2.out A6.out).mono ?_); (case side1 => exact cb_ HR0_2.out HB.out); rintro e w_0 ⟨rfl, hb⟩; refine ⟨_, rfl, ?_⟩; replace BK389 := Aside0.mk (bk_ BK389.out hb); replace BK390 := Aside0.mk (bk_ BK390.out hb); replace HB := Aside0.mk (bs_ HB.out hb); (try clear hb)) | (go_at_call 94; (with_reducible refine (impl_inside.calls a2 0 (wrap64 (t391 - 1)) _ _ A8.out).mono ?_); rintro e w' ⟨rfl, ⟨nd, rfl⟩⟩) | (go_at_call 94; (with_reducible refine (impl_inside.calls a3 0 (wrap64 (t391 - 1)) _ _ A10.out).mono ?_); rintro e w' ⟨rfl, ⟨nd, rfl⟩⟩; obtain ⟨hcz_0, hfz_0⟩ := cz1_ BK390.out; have p395 : 0 ≤ ((ji13) : Int) := of_decide_eq_true dg_; have q395 : (ji13) < (l1_0.length : Int) := of_decide_eq_true dg_; obtain ⟨ad395, e395, hx395_0⟩ := Kd.at_int HR1_0.out (ji13) p395 q395; cases e395; replace hx395_0 := (HB.out.cell (World.block_lt_of_cell? w _ hx395_0)).trans hx395_0; replace p395 := eq_true p395; replace q395 := eq_true q395) | (go_at_call 94; (with_reducible refine (impl_inside.calls (rd l1_0 (ji13)) 0 4 _ _ A16.out).mono ?_); rintro e w' ⟨rfl, ⟨nd, rfl⟩⟩; have p397 : 0 ≤ ((ji13) : Int) := of_decide_eq_true dg_; have q397 : (ji13) < (l1_0.length : Int) := of_decide_eq_true dg_; obtain ⟨ad397, e397, hx397_0⟩ := Kd.at_int HR1_0.out (ji13) p397 q397; obtain rfl : ad395 = ad397 := (by injection e397); replace hx397_0 := (HB.out.cell (World.block_lt_of_cell? w _ hx397_0)).trans hx397_0; replace p397 := eq_true p397; replace q397 := eq_true q397) | (go_at_call 94; (with_reducible refine (impl_inside.calls (rd l1_0 (ji13)) 0 4 _ _ A16.out).mono ?_); rintro e w' ⟨rfl, ⟨nd, rfl⟩⟩))
 go_ret
 exact ⟨by first | rfl | (simp [errW_none, errW_some] <;> rfl) | (simp only [← hji13]; first | rfl | (simp [errW_none, errW_some] <;> rfl)) | (simp [*, errW_none, errW_some] <;> rfl), bb_ HB.out⟩) : P := h
theorem impl_PortAt.e1 {P : Prop} (h : P := by
 go_enter Try.func142, Try.ntmps142
 go_wp2_with (first | ((with_reducible refine gate_dst (N := 4) rfl ?_); (try (refine gate_guard (by rfl) ?_; dsimp only)); refine box_event ?hg (N := 4) ?hd (cs := #[.int .i64 a0_0, .int .i64 a0_1, .slice A0_2 l0_2.length c0_2]) (t := 44) ?hr ?_; (case hd => rfl); (case hg => rfl); (case hr => first | (go_simp; done) | (go_simp; rfl)); intro gb389 hg w_0 hbox hb; have BK389 := Aside0.mk (hbox); have GW389 := Aside0.mk ((by rw [hg]; exact (bz_ HB.out) : w.heap.size ≤ gb389)); have GE389 := Aside0.mk ((by rw [hg]; exact (bz_ HB.out) : w.heap.size ≤ gb389)); replace HB := Aside0.mk (bs_ HB.out hb); clear hb hbox hg) | ((with_reducible refine gate_dst (N := 5) rfl ?_); (try (refine gate_guard (by rfl) ?_; dsimp only)); refine box_event ?hg (N := 5) ?hd (cs := #[.slice A1_0 l1_0.length c1_0]) (t := 46) ?hr ?_; (case hd => rfl); (case hg => rfl); (case hr => first | (go_simp; done) | (go_simp; rfl)); intro gb390 hg w_0 hbox hb; have BK390 := Aside0.mk (hbox); have GW390 := Aside0.mk ((by rw [hg]; exact (bz_ HB.out) : w.heap.size ≤ gb390)); have GE390 := Aside0.mk ((by rw [hg]; exact (bz_ HB.out) : w.heap.size ≤ gb390)); replace HB := Aside0.mk (bs_ HB.out hb); have NB389_390 := Aside0.mk ((by rw [hg]; exact Nat.ne_of_lt (bl_ BK389.out) : gb389 ≠ gb390)); have NB390_389 := Aside0.mk ((by rw [hg]; exact Nat.ne_of_gt (bl_ BK389.out) : gb390 ≠ gb389)); replace BK389 := Aside0.mk (bk_ BK389.out hb); clear hb hbox hg; have hnb_ := NB389_390.out; have hnc_ := NB390_389.out; obtain ⟨hcz_0, hcz_1, hcz_2, hfz_0, hfz_1, hfz_2⟩ := cz3_ BK389.out) | ((with_reducible refine gate_callee (f := 95) rfl ?_); refine gm_ (some 12) Try.func95 #[.agg #[.int .i64 a0_0, .int .i64 a0_1]] rfl ?_; (with_reducible refine (impl_NodeCount.calls a0_0 a0_1 t391 _ A5.out).mono ?_); rintro e w_0 ⟨rfl, hb⟩; refine ⟨_, rfl, ?_⟩; replace BK389 := Aside0.mk (bk_ BK389.out hb); replace BK390 := Aside0.mk (bk_ BK390.out hb); replace HB := Aside0.mk (bs_ HB.out hb); (try clear hb); obtain ⟨hcz_0, hcz_1, hcz_2, hfz_0, hfz_1, hfz_2⟩ := cz3_ BK389.out) | ((with_reducible refine gate_callee (f := 116) rfl ?_); refine gm_ (some 14) Try.func116 #[.agg #[.int .i64 a0_0, .int .i64 a0_1, .slice A0_2 l0_2.length c0_2]] rfl ?_; (with_reducible refine (impl_MeshOk.calls k a0_0 a0_1 _ _ l0_2 _ _ ?side1 HC0_2.out A6.out).mono ?_); (case side1 => exact cb_ HR0_2.out HB.out); rintro e w_0 ⟨rfl, hb⟩; refine ⟨_, rfl, ?_⟩; replace BK389 := Aside0.mk (bk_ BK389.out hb); replace BK390 := Aside0.mk (bk_ BK390.out hb); replace HB := Aside0.mk (bs_ HB.out hb); (try clear hb)) | (go_at_call 94; (with_reducible refine (impl_inside.calls a2 0 (wrap64 (t391 - 1)) _ _ A8.out).mono ?_); rintro e w' ⟨rfl, ⟨nd, rfl⟩⟩) | (go_at_call 94; (with_reducible refine (impl_inside.calls a3 0 (wrap64 (t391 - 1)) _ _ A10.out).mono ?_); rintro e w' ⟨rfl, ⟨nd, rfl⟩⟩; obtain ⟨hcz_0, hfz_0⟩ := cz1_ BK390.out))
 go_ret
 exact ⟨fin_, bb_ HB.out⟩) : P := h
theorem impl_PortAt.calls (k : Nat) (a0_0 : Int) (a0_1 : Int) (A0_2 : Option Addr) (c0_2 : Nat) (l0_2 : List Int) (A1_0 : Option Addr) (c1_0 : Nat) (l1_0 : List Int) (a2 : Int) (a3 : Int) (r : Int) (w : World) (hr0_2 : Kd.C (Kd.int .i64) w A0_2 l0_2.length l0_2) (hc0_2 : l0_2.length ≤ c0_2) (hr1_0 : Kd.C (Kd.int .i64) w A1_0 l1_0.length l1_0) (hc1_0 : l1_0.length ≤ c1_0) (h : impl_PortAt.f k a0_0 a0_1 l0_2 l1_0 a2 a3 = some r) :
  Calls Try.prog 142 #[.agg #[.int .i64 a0_0, .int .i64 a0_1, .slice A0_2 l0_2.length c0_2], .agg #[.slice A1_0 l1_0.length c1_0], .int .i64 a2, .int .i64 a3] w fun e w' => e = .returned (.int .i64 r) ∧ Below w.heap.size w w' := by
 have hu44 := Try.underlying44
 have hu46 := Try.underlying46
 have hu42 := Try.underlying42
 have HR0_2 := Aside0.mk hr0_2
 have HC0_2 := Aside0.mk hc0_2
 clear hr0_2 hc0_2
 have HR1_0 := Aside0.mk hr1_0
 have HC1_0 := Aside0.mk hc1_0
 clear hr1_0 hc1_0
 have HB := Aside0.mk (Below.refl w.heap.size w)
 have H : ((impl_NodeCount.f a0_0 a0_1).bind fun t391 => ((impl_MeshOk.f k a0_0 a0_1 l0_2).bind fun t392 => (if t392 = true then ((impl_inside.f a2 0 (wrap64 (t391 - 1))).bind fun t393 => (if t393 = true then ((impl_inside.f a3 0 (wrap64 (t391 - 1))).bind fun t394 => (if t394 = true then (if (l1_0.length : Int) = (wrap64 (t391 * t391)) then (if 0 ≤ (wrap64 ((wrap64 (a2 * t391)) + a3)) then (if (wrap64 ((wrap64 (a2 * t391)) + a3)) < (l1_0.length : Int) then ((impl_inside.f (rd l1_0 (wrap64 ((wrap64 (a2 * t391)) + a3))) 0 4).bind fun t396 => (if t396 = true then (some (rd l1_0 (wrap64 ((wrap64 (a2 * t391)) + a3)))) else (some (-1)))) else (none)) else (none)) else (some (-1))) else (some (-1)))) else (some (-1)))) else (some (-1))))) = some r := h
 clear h
 replace H := Option.bind_eq_some_iff.mp H
 obtain ⟨t391, A50, H⟩ := H
 try dsimp only at H
 have A5 := Aside0.mk A50
 clear A50
 replace H := Option.bind_eq_some_iff.mp H
 obtain ⟨t392, A60, H⟩ := H
 try dsimp only at H
 have A6 := Aside0.mk A60
 clear A60
 by_cases c7 : t392 = true
 ·subst c7
  rw [if_pos rfl] at H
  replace H := Option.bind_eq_some_iff.mp H
  obtain ⟨t393, A80, H⟩ := H
  try dsimp only at H
  have A8 := Aside0.mk A80
  clear A80
  by_cases c9 : t393 = true
  rotate_left
  ·replace c9 := Bool.eq_false_iff.mpr c9
   subst c9
   rw [if_neg (show ¬ (false = true) by decide)] at H
   obtain rfl := Option.some.inj H
   exact impl_PortAt.e1
  subst c9
  rw [if_pos rfl] at H
  replace H := Option.bind_eq_some_iff.mp H
  obtain ⟨t394, A100, H⟩ := H
  try dsimp only at H
  have A10 := Aside0.mk A100
  clear A100
  by_cases c11 : t394 = true
  rotate_left
  ·replace c11 := Bool.eq_false_iff.mpr c11
   subst c11
   rw [if_neg (show ¬ (false = true) by decide)] at H
   obtain rfl := Option.some.inj H
   exact impl_PortAt.e1
  subst c11
  rw [if_pos rfl] at H
  by_cases c12 : (l1_0.length : Int) = (wrap64 (t391 * t391))
  rotate_left
  ·rw [if_neg c12] at H
   have c12b0 : ((l1_0.length : Int) == (wrap64 (t391 * t391))) = false := beq_eq_false_iff_ne.mpr c12
   have c12b1 : ((l1_0.length : Int) != (wrap64 (t391 * t391))) = true := bne_iff_ne.mpr c12
   obtain rfl := Option.some.inj H
   exact impl_PortAt.e1
  rw [if_pos c12] at H
  have c12b0 : ((l1_0.length : Int) == (wrap64 (t391 * t391))) = true := beq_iff_eq.mpr c12
  have c12b1 : ((l1_0.length : Int) != (wrap64 (t391 * t391))) = false := bne_eq_false_iff_eq.mpr c12
  clear c12
  obtain ⟨ji13, hji13⟩ : ∃ j_ : Int, (wrap64 ((wrap64 (a2 * t391)) + a3)) = j_ := ⟨_, rfl⟩
  replace H : (if 0 ≤ (ji13) then (if (ji13) < (l1_0.length : Int) then ((impl_inside.f (rd l1_0 (ji13)) 0 4).bind fun t396 => (if t396 = true then (some (rd l1_0 (ji13))) else (some (-1)))) else (none)) else (none)) = some r := by first | (rw [hji13] at H; exact H) | (simp only [hji13] at H ⊢; exact H)
  (try rw [hji13] at A5)
  (try rw [hji13] at A6)
  (try rw [hji13] at A8)
  (try rw [hji13] at A10)
  have hji13w : (IntKind.i64.wrap ((wrap64 (a2 * t391)) + a3)) = ji13 := (i64_w _).trans hji13
  by_cases c14 : 0 ≤ (ji13)
  rotate_left
  ·rw [if_neg c14] at H
   exact absurd H (by simp)
  rw [if_pos c14] at H
  have c14b0 : decide (0 ≤ (ji13)) = true := decide_eq_true c14
  clear c14
  by_cases c15 : (ji13) < (l1_0.length : Int)
  rotate_left
  ·rw [if_neg c15] at H
   exact absurd H (by simp)
  rw [if_pos c15] at H
  have c15b0 : decide ((ji13) < (l1_0.length : Int)) = true := decide_eq_true c15
  clear c15
  replace H := Option.bind_eq_some_iff.mp H
  obtain ⟨t396, A160, H⟩ := H
  try dsimp only at H
  have A16 := Aside0.mk A160
  clear A160
  by_cases c17 : t396 = true
  ·subst c17
   rw [if_pos rfl] at H
   obtain rfl := Option.some.inj H
   exact impl_PortAt.e0
  replace c17 := Bool.eq_false_iff.mpr c17
  subst c17
  rw [if_neg (show ¬ (false = true) by decide)] at H
  obtain rfl := Option.some.inj H
  exact impl_PortAt.e0
 ·replace c7 := Bool.eq_false_iff.mpr c7
  subst c7
  rw [if_neg (show ¬ (false = true) by decide)] at H
  obtain rfl := Option.some.inj H
  exact impl_PortAt.e1

/-! ### slices_Index_int_int: function 150 -/
def slices_Index_int_int.l0 : Nat → List Int → Int → Int → Int → Option (Int)
 | 0, _, _, _, _ => none
 | k + 1, x0, x1, x7, x8 => if x8 < x7 then (if 0 ≤ x8 then (if x8 < (x0.length : Int) then (if x1 = (rd x0 x8) then (some x8) else (slices_Index_int_int.l0 k x0 x1 x7 (wrap64 (x8 + 1)))) else (none)) else (none)) else (some (-1))
def slices_Index_int_int.f (k : Nat) (l0 : List Int) (a1 : Int) : Option (Int) := slices_Index_int_int.l0 k l0 a1 (l0.length : Int) 0
theorem slices_Index_int_int.mono_l : ∀ k, (∀ y0 y1 y2 y3, LeO (slices_Index_int_int.l0 k y0 y1 y2 y3) (slices_Index_int_int.l0 (k + 1) y0 y1 y2 y3))
 | 0 => fun _ _ _ _ r h => by simp [slices_Index_int_int.l0] at h
 | k + 1 => by
  have ih0 := slices_Index_int_int.mono_l k
  ·intro y0 y1 y2 y3
   unfold slices_Index_int_int.l0
   repeat' first
   | (with_reducible exact ih0 _ _ _ _)
   | (with_reducible exact LeO.refl _)
   | (with_reducible exact LeO.none _)
   | (with_reducible refine LeO.ite ?_ ?_)
   | (with_reducible refine LeO.bind ?_ (fun _ => ?_))
   | exact ih0 _ _ _ _
   | exact LeO.none _
   | refine LeO.ite ?_ ?_
   | refine LeO.bind ?_ (fun _ => ?_)
theorem slices_Index_int_int.mono : ∀ a0 a1 k, LeO (slices_Index_int_int.f k a0 a1) (slices_Index_int_int.f (k + 1) a0 a1) := by
 intro a0 a1 k
 have ih0 := slices_Index_int_int.mono_l k
 unfold slices_Index_int_int.f
 repeat' first
   | (with_reducible exact ih0 _ _ _ _)
   | (with_reducible exact LeO.refl _)
   | (with_reducible exact LeO.none _)
   | (with_reducible refine LeO.ite ?_ ?_)
   | (with_reducible refine LeO.bind ?_ (fun _ => ?_))
   | exact ih0 _ _ _ _
   | exact LeO.none _
   | refine LeO.ite ?_ ?_
   | refine LeO.bind ?_ (fun _ => ?_)
theorem slices_Index_int_int.calls (k : Nat) (A0 : Option Addr) (c0 : Nat) (l0 : List Int) (a1 : Int) (r : Int) (w : World) (hr0 : Kd.C (Kd.int .i64) w A0 l0.length l0) (hc0 : l0.length ≤ c0) (h : slices_Index_int_int.f k l0 a1 = some r) :
  Calls Try.prog 150 #[.slice A0 l0.length c0, .int .i64 a1] w fun e w' => e = .returned (.int .i64 r) ∧ Drawn0 w w' := by
 have HR0 := Aside0.mk hr0
 have HC0 := Aside0.mk hc0
 clear hr0 hc0
 have H : (slices_Index_int_int.l0 k l0 a1 (l0.length : Int) 0) = some r := h
 clear h
 have H' := Aside0.mk H
 clear H
 go_enter Try.func150, Try.ntmps150
 go_wp2
 go_loopg [8] k (fun kq v8 w' => ∃ (x8_1 : Int), v8 = .int .i64 x8_1 ∧ Aside0 (slices_Index_int_int.l0 kq l0 a1 (l0.length : Int) x8_1 = some r) ∧ Aside0 (kq ≤ k) ∧ Drawn0 w w')
 case atStart => exact ⟨(0), ef_, H', ⟨Nat.le_refl _⟩, by repeat (first | exact Drawn0.refl _ | apply Drawn0.step)⟩
 clear H'
 obtain ⟨x8_1, rfl, HA, HK1, ⟨m1, rfl⟩⟩ := hrel
 obtain _ | k1 := gk
 ·exact absurd HA.out (by simp [slices_Index_int_int.l0])
 have H := HA.out
 clear HA
 simp only [slices_Index_int_int.l0] at H
 by_cases c3 : x8_1 < (l0.length : Int)
 rotate_left
 ·rw [if_neg c3] at H
  have c3b0 : decide (x8_1 < (l0.length : Int)) = false := decide_eq_false c3
  clear c3
  obtain rfl := Option.some.inj H
  go_wp2
  go_ret
  exact ⟨by first | rfl | (simp; done) | (simp [*]; done), by repeat (first | exact Drawn0.refl _ | apply Drawn0.step)⟩
 rw [if_pos c3] at H
 have c3b0 : decide (x8_1 < (l0.length : Int)) = true := decide_eq_true c3
 clear c3
 by_cases c4 : 0 ≤ x8_1
 rotate_left
 ·rw [if_neg c4] at H
  exact absurd H (by simp)
 rw [if_pos c4] at H
 have c4b0 : decide (0 ≤ x8_1) = true := decide_eq_true c4
 clear c4
 by_cases c5 : x8_1 < (l0.length : Int)
 rotate_left
 ·rw [if_neg c5] at H
  exact absurd H (by simp)
 rw [if_pos c5] at H
 have c5b0 : decide (x8_1 < (l0.length : Int)) = true := decide_eq_true c5
 clear c5
 by_cases c6 : a1 = (rd l0 x8_1)
 ·rw [if_pos c6] at H
  have c6b0 : (a1 == (rd l0 x8_1)) = true := beq_iff_eq.mpr c6
  have c6b1 : (a1 != (rd l0 x8_1)) = false := bne_eq_false_iff_eq.mpr c6
  clear c6
  obtain rfl := Option.some.inj H
  have p398 : 0 ≤ (x8_1 : Int) := of_decide_eq_true dg_
  have q398 : x8_1 < (l0.length : Int) := of_decide_eq_true dg_
  obtain ⟨ad398, e398, hx398_0⟩ := Kd.at_int HR0.out x8_1 p398 q398
  cases e398
  replace p398 := eq_true p398
  replace q398 := eq_true q398
  go_wp2
  go_ret
  exact ⟨by first | rfl | (simp; done) | (simp [*]; done), by repeat (first | exact Drawn0.refl _ | apply Drawn0.step)⟩
 rw [if_neg c6] at H
 have c6b0 : (a1 == (rd l0 x8_1)) = false := beq_eq_false_iff_ne.mpr c6
 have c6b1 : (a1 != (rd l0 x8_1)) = true := bne_iff_ne.mpr c6
 have H' := Aside0.mk H
 clear H
 have p398 : 0 ≤ (x8_1 : Int) := of_decide_eq_true dg_
 have q398 : x8_1 < (l0.length : Int) := of_decide_eq_true dg_
 obtain ⟨ad398, e398, hx398_0⟩ := Kd.at_int HR0.out x8_1 p398 q398
 cases e398
 replace p398 := eq_true p398
 replace q398 := eq_true q398
 go_wp2
 go_roundg k1
 case measure => have := HK1.out; omega
 case rel => exact ⟨(wrap64 (x8_1 + 1)), ef_, H', ⟨by have := HK1.out; omega⟩, by repeat (first | exact Drawn0.refl _ | apply Drawn0.step)⟩

/-! ### slices_Contains_int_int: function 125 -/
def slices_Contains_int_int.f (k : Nat) (l0 : List Int) (a1 : Int) : Option (Bool) := (slices_Index_int_int.f k l0 a1).bind fun t399 => (some (decide (t399 ≥ 0)))
theorem slices_Contains_int_int.mono : ∀ a0 a1 k, LeO (slices_Contains_int_int.f k a0 a1) (slices_Contains_int_int.f (k + 1) a0 a1) := by
 intro a0 a1 k
 unfold slices_Contains_int_int.f
 repeat' first
   | (with_reducible exact slices_Index_int_int.mono _ _ _)
   | (with_reducible exact LeO.refl _)
   | (with_reducible exact LeO.none _)
   | (with_reducible refine LeO.ite ?_ ?_)
   | (with_reducible refine LeO.bind ?_ (fun _ => ?_))
   | exact slices_Index_int_int.mono _ _ _
   | exact LeO.none _
   | refine LeO.ite ?_ ?_
   | refine LeO.bind ?_ (fun _ => ?_)
theorem slices_Contains_int_int.calls (k : Nat) (A0 : Option Addr) (c0 : Nat) (l0 : List Int) (a1 : Int) (r : Bool) (w : World) (hr0 : Kd.C (Kd.int .i64) w A0 l0.length l0) (hc0 : l0.length ≤ c0) (h : slices_Contains_int_int.f k l0 a1 = some r) :
  Calls Try.prog 125 #[.slice A0 l0.length c0, .int .i64 a1] w fun e w' => e = .returned (.bool r) ∧ Drawn0 w w' := by
 have HR0 := Aside0.mk hr0
 have HC0 := Aside0.mk hc0
 clear hr0 hc0
 have H : ((slices_Index_int_int.f k l0 a1).bind fun t399 => (some (decide (t399 ≥ 0)))) = some r := h
 clear h
 replace H := Option.bind_eq_some_iff.mp H
 obtain ⟨t399, A30, H⟩ := H
 try dsimp only at H
 have A3 := Aside0.mk A30
 clear A30
 obtain rfl := Option.some.inj H
 go_enter Try.func125, Try.ntmps125
 go_wp2_with (first | ((with_reducible refine gate_callee (f := 150) rfl ?_); refine gm_ (some 7) Try.func150 #[.slice A0 l0.length c0, .int .i64 a1] rfl ?_; (with_reducible refine (slices_Index_int_int.calls k _ _ l0 a1 t399 _ ?side1 HC0.out A3.out).mono ?_); (case side1 => repeat (first | exact HR0.out | (with_reducible refine Kd.C_alloc ?_ _) | (with_reducible refine Kd.C_drewN ?_ _) | (with_reducible refine Kd.C_drew ?_))); rintro e w' ⟨rfl, ⟨nd, rfl⟩⟩; refine ⟨_, rfl, ?_⟩))
 go_ret
 exact ⟨by first | rfl | (simp; done) | (simp [*]; done), by repeat (first | exact Drawn0.refl _ | apply Drawn0.step)⟩

/-! ### impl_HasChannel: function 143 -/
def impl_HasChannel.f (k : Nat) (a0_0 : Int) (a0_1 : Int) (l0_2 : List Int) (a1 : Int) : Option (Bool) := (impl_MeshOk.f k a0_0 a0_1 l0_2).bind fun t401 => (if t401 = true then ((impl_leads.f a0_0 a0_1 a1).bind fun t402 => (if t402 = true then ((slices_Contains_int_int.f k l0_2 a1).bind fun t403 => (some (!t403))) else (some false))) else (some false))
theorem impl_HasChannel.mono : ∀ a0 a1 a2 a3 k, LeO (impl_HasChannel.f k a0 a1 a2 a3) (impl_HasChannel.f (k + 1) a0 a1 a2 a3) := by
 intro a0 a1 a2 a3 k
 unfold impl_HasChannel.f
 repeat' first
   | (with_reducible exact impl_MeshOk.mono _ _ _ _)
   | (with_reducible exact slices_Contains_int_int.mono _ _ _)
   | (with_reducible exact LeO.refl _)
   | (with_reducible exact LeO.none _)
   | (with_reducible refine LeO.ite ?_ ?_)
   | (with_reducible refine LeO.bind ?_ (fun _ => ?_))
   | exact impl_MeshOk.mono _ _ _ _
   | exact slices_Contains_int_int.mono _ _ _
   | exact LeO.none _
   | refine LeO.ite ?_ ?_
   | refine LeO.bind ?_ (fun _ => ?_)
theorem impl_HasChannel.e0 {P : Prop} (h : P := by
 go_enter Try.func143, Try.ntmps143
 go_wp2_with (first | ((with_reducible refine gate_dst (N := 2) rfl ?_); refine box_event ?hg (N := 2) ?hd (cs := #[.int .i64 a0_0, .int .i64 a0_1, .slice A0_2 l0_2.length c0_2]) (t := 44) ?hr ?_; (case hd => rfl); (case hg => rfl); (case hr => first | (go_simp; done) | (go_simp; rfl)); intro gb400 hg w_0 hbox hb; have BK400 := Aside0.mk (hbox); have GW400 := Aside0.mk ((by rw [hg]; exact (bz_ HB.out) : w.heap.size ≤ gb400)); have GE400 := Aside0.mk ((by rw [hg]; exact (bz_ HB.out) : w.heap.size ≤ gb400)); replace HB := Aside0.mk (bs_ HB.out hb); clear hb hbox hg; obtain ⟨hcz_0, hcz_1, hcz_2, hfz_0, hfz_1, hfz_2⟩ := cz3_ BK400.out) | ((with_reducible refine gate_callee (f := 116) rfl ?_); refine gm_ (some 6) Try.func116 #[.agg #[.int .i64 a0_0, .int .i64 a0_1, .slice A0_2 l0_2.length c0_2]] rfl ?_; (with_reducible refine (impl_MeshOk.calls k a0_0 a0_1 _ _ l0_2 _ _ ?side1 HC0_2.out A3.out).mono ?_); (case side1 => exact cb_ HR0_2.out HB.out); rintro e w_0 ⟨rfl, hb⟩; refine ⟨_, rfl, ?_⟩; replace BK400 := Aside0.mk (bk_ BK400.out hb); replace HB := Aside0.mk (bs_ HB.out hb); (try clear hb); obtain ⟨hcz_0, hcz_1, hcz_2, hfz_0, hfz_1, hfz_2⟩ := cz3_ BK400.out) | (go_at_call 141; (with_reducible refine (impl_leads.calls a0_0 a0_1 a1 _ _ A5.out).mono ?_); rintro e w_0 ⟨rfl, hb⟩; replace BK400 := Aside0.mk (bk_ BK400.out hb); replace HB := Aside0.mk (bs_ HB.out hb); (try clear hb); obtain ⟨hcz_0, hcz_1, hcz_2, hfz_0, hfz_1, hfz_2⟩ := cz3_ BK400.out) | (go_at_call 125; (with_reducible refine (slices_Contains_int_int.calls k _ _ l0_2 a1 t403 _ ?side1 HC0_2.out A7.out).mono ?_); (case side1 => exact cb_ HR0_2.out HB.out); rintro e w' ⟨rfl, ⟨nd, rfl⟩⟩))
 go_ret
 exact ⟨fin_, bb_ HB.out⟩) : P := h
theorem impl_HasChannel.calls (k : Nat) (a0_0 : Int) (a0_1 : Int) (A0_2 : Option Addr) (c0_2 : Nat) (l0_2 : List Int) (a1 : Int) (r : Bool) (w : World) (hr0_2 : Kd.C (Kd.int .i64) w A0_2 l0_2.length l0_2) (hc0_2 : l0_2.length ≤ c0_2) (h : impl_HasChannel.f k a0_0 a0_1 l0_2 a1 = some r) :
  Calls Try.prog 143 #[.agg #[.int .i64 a0_0, .int .i64 a0_1, .slice A0_2 l0_2.length c0_2], .int .i64 a1] w fun e w' => e = .returned (.bool r) ∧ Below w.heap.size w w' := by
 have hu44 := Try.underlying44
 have hu42 := Try.underlying42
 have HR0_2 := Aside0.mk hr0_2
 have HC0_2 := Aside0.mk hc0_2
 clear hr0_2 hc0_2
 have HB := Aside0.mk (Below.refl w.heap.size w)
 have H : ((impl_MeshOk.f k a0_0 a0_1 l0_2).bind fun t401 => (if t401 = true then ((impl_leads.f a0_0 a0_1 a1).bind fun t402 => (if t402 = true then ((slices_Contains_int_int.f k l0_2 a1).bind fun t403 => (some (!t403))) else (some false))) else (some false))) = some r := h
 clear h
 replace H := Option.bind_eq_some_iff.mp H
 obtain ⟨t401, A30, H⟩ := H
 try dsimp only at H
 have A3 := Aside0.mk A30
 clear A30
 by_cases c4 : t401 = true
 ·subst c4
  rw [if_pos rfl] at H
  replace H := Option.bind_eq_some_iff.mp H
  obtain ⟨t402, A50, H⟩ := H
  try dsimp only at H
  have A5 := Aside0.mk A50
  clear A50
  by_cases c6 : t402 = true
  rotate_left
  ·replace c6 := Bool.eq_false_iff.mpr c6
   subst c6
   rw [if_neg (show ¬ (false = true) by decide)] at H
   obtain rfl := Option.some.inj H
   exact impl_HasChannel.e0
  subst c6
  rw [if_pos rfl] at H
  replace H := Option.bind_eq_some_iff.mp H
  obtain ⟨t403, A70, H⟩ := H
  try dsimp only at H
  have A7 := Aside0.mk A70
  clear A70
  obtain rfl := Option.some.inj H
  exact impl_HasChannel.e0
 ·replace c4 := Bool.eq_false_iff.mpr c4
  subst c4
  rw [if_neg (show ¬ (false = true) by decide)] at H
  obtain rfl := Option.some.inj H
  exact impl_HasChannel.e0

/-! ### impl_endOf: function 144 -/
def impl_endOf.f (a0_0 : Int) (a0_1 : Int) (l0_2 : List Int) (a1 : Int) : Option (Int) := (impl_NextNode.f a0_0 a0_1 (wrap64 (Int.tdiv a1 4)) (Int.tmod a1 4)).bind fun t405 => (some t405)
theorem impl_endOf.calls (a0_0 : Int) (a0_1 : Int) (A0_2 : Option Addr) (c0_2 : Nat) (l0_2 : List Int) (a1 : Int) (r : Int) (w : World) (hr0_2 : Kd.C (Kd.int .i64) w A0_2 l0_2.length l0_2) (hc0_2 : l0_2.length ≤ c0_2) (h : impl_endOf.f a0_0 a0_1 l0_2 a1 = some r) :
  Calls Try.prog 144 #[.agg #[.int .i64 a0_0, .int .i64 a0_1, .slice A0_2 l0_2.length c0_2], .int .i64 a1] w fun e w' => e = .returned (.int .i64 r) ∧ Below w.heap.size w w' := by
 have hu44 := Try.underlying44
 have hu42 := Try.underlying42
 have HR0_2 := Aside0.mk hr0_2
 have HC0_2 := Aside0.mk hc0_2
 clear hr0_2 hc0_2
 have HB := Aside0.mk (Below.refl w.heap.size w)
 have H : ((impl_NextNode.f a0_0 a0_1 (wrap64 (Int.tdiv a1 4)) (Int.tmod a1 4)).bind fun t405 => (some t405)) = some r := h
 clear h
 replace H := Option.bind_eq_some_iff.mp H
 obtain ⟨t405, A30, H⟩ := H
 try dsimp only at H
 have A3 := Aside0.mk A30
 clear A30
 obtain rfl := Option.some.inj H
 go_enter Try.func144, Try.ntmps144
 go_wp2_with (first | ((with_reducible refine gate_dst (N := 2) rfl ?_); refine box_event ?hg (N := 2) ?hd (cs := #[.int .i64 a0_0, .int .i64 a0_1, .slice A0_2 l0_2.length c0_2]) (t := 44) ?hr ?_; (case hd => rfl); (case hg => rfl); (case hr => first | (go_simp; done) | (go_simp; rfl)); intro gb404 hg w4 hbox hb; have BK404 := Aside0.mk (hbox); have GW404 := Aside0.mk ((by rw [hg]; exact (bz_ HB.out) : w.heap.size ≤ gb404)); have GE404 := Aside0.mk ((by rw [hg]; exact (bz_ HB.out) : w.heap.size ≤ gb404)); replace HB := Aside0.mk (bs_ HB.out hb); clear hb hbox hg; obtain ⟨hcz5_0, hcz5_1, hcz5_2, hfz5_0, hfz5_1, hfz5_2⟩ := cz3_ BK404.out) | ((with_reducible refine gate_callee (f := 169) rfl ?_); refine gm_ (some 11) Try.func169 #[.agg #[.int .i64 a0_0, .int .i64 a0_1], .int .i64 (wrap64 (Int.tdiv a1 4)), .int .i64 (Int.tmod a1 4)] rfl ?_; (with_reducible refine (impl_NextNode.calls a0_0 a0_1 (wrap64 (Int.tdiv a1 4)) (Int.tmod a1 4) t405 _ A3.out).mono ?_); rintro e w6 ⟨rfl, hb⟩; refine ⟨_, rfl, ?_⟩; replace BK404 := Aside0.mk (bk_ BK404.out hb); replace HB := Aside0.mk (bs_ HB.out hb); (try clear hb)))
 go_ret
 exact ⟨fin_, bb_ HB.out⟩

end Go.Proofs.Ytimdefbpoddoaaa.PFnExactSafeRules
-- thin
