/- The law's functions as plain functions, and their calls. No condition. -/
import Derived.Test.YtimdefbpoddoaaaGreatPFnVerdictsx0
import Derived.Test.YtimdefbpoddoaaaGreatPFnVerdictsx2
namespace Go.Proofs.YtimdefbpoddoaaaGreat.PFnVerdicts
open Go.RowKit Go.Proofs.YtimdefbpoddoaaaGreatW.PrintWords Go.Proofs.YtimdefbpoddoaaaGreatW.PrintLast Go.Proofs.YtimdefbpoddoaaaGreatW.PrintMore
attribute [local go_sem] max2_int min2_int max_two min_two max_three min_three max_four min_four
set_option linter.unusedVariables false
set_option maxHeartbeats 8000000
set_option maxRecDepth 100000
set_option linter.unusedSimpArgs false

/-! ### the cursor, and what was there before, in one -/
structure Cu (w0 w W : World) (g : Nat) (b : List Int) (i h : Int) : Prop where
  s : IsS95 w0 W g b i h
  bl : Below w0.heap.size w0 W
  k : KeepBut w W g none
section
variable {w0 w W W' : World} {g : Nat} {b : List Int} {i h i' h' : Int}
theorem Cu.drewN (c : Cu w0 w W g b i h) (m : Nat) : Cu w0 w (W.drewN m) g b i h := ⟨c.s.drewN m, pw_below_drewN c.bl m, keep_drewN c.k m⟩
theorem Cu.drew (c : Cu w0 w W g b i h) : Cu w0 w W.drew g b i h := ⟨c.s.drew, below_drew1 c.bl, keep_drew c.k⟩
theorem Cu.alloc (c : Cu w0 w W g b i h) (o : Obj) : Cu w0 w (W.alloc o) g b i h := ⟨c.s.alloc o, below_alloc c.bl o, keep_alloc c.k o⟩
theorem Cu.below (c : Cu w0 w W g b i h) (hb : Below W.heap.size W W') : Cu w0 w W' g b i h := ⟨c.s.below hb, below_step c.bl hb, c.k.trans (KeepBut.of_below hb g none) (.inl rfl)⟩
theorem Cu.far (c : Cu w0 w W g b i h) {x j : Nat} (hp : w.heap.size ≤ x) (hg : g < w.heap.size) (u : Value) : Cu w0 w (W.setCell ⟨x, j, none⟩ u) g b i h := ⟨c.s.far (p := ⟨x, j, none⟩) (Nat.ne_of_lt (Nat.lt_of_lt_of_le hg hp)) u, below_set c.bl (Nat.le_trans c.s.ge (Nat.le_trans (Nat.le_of_lt hg) hp)), keep_far (p := ⟨x, j, none⟩) c.k hp u⟩
theorem Cu.step (c : Cu w0 w W g b i h) (hs : IsS95 w0 W' g b i' h') (hb : Below w0.heap.size w0 W') (hk : KeepBut W W' g none) : Cu w0 w W' g b i' h' := ⟨hs, hb, c.k.trans hk (.inl rfl)⟩
theorem Cu.blk {o : Obj} {x : Nat} (hg : g < w.heap.size) (hx : w.heap.size ≤ x) (hb : W.heap[x]? = some o) (hk : KeepBut W W' g none) : W'.heap[x]? = some o := hk.blk hb (by omega) (by simp)
theorem Cu.row {α : Type} {d : Kd α} {e : Nat} {ok : Nat → Prop} {v : Value} {xs : List α} (hg : g < w.heap.size) (hr : d.R e W w.heap.size ok v xs) (hk : KeepBut W W' g none) : d.R e W' w.heap.size ok v xs := Kd.R_mono (Kd.R_keep (Kd.R_bound hr) hk (fun k h_ => by have := h_.2.1; omega)) (fun _ h_ => h_.1)
theorem Cu.grown (c : Cu w0 w W g b i h) (hg0 : g < w.heap.size) {ok : Nat → Prop} {v : Value} {xs : List Int} (ho : (Kd.int .i64).R 3 W w.heap.size ok v xs) (hg : W.grownBy W' v.ownBlock) (hb : Below w.heap.size W W') : Cu w0 w W' g b i h := ⟨c.s.grown hg (c.s.own_ne ho (by decide)), below_weaken c.bl (Nat.le_trans c.s.ge (Nat.le_of_lt hg0)) hb, c.k.trans (KeepBut.of_grown hg g) (Kd.R_base2 ho)⟩
theorem cu_ {V : World} (c : Cu w0 w V g b i h) (k : Cu w0 w V g b i h → Cu w0 w W g b i h := by (intro h_; repeat (first | (with_reducible first | exact h_ | apply Cu.drewN | apply Cu.drew | apply Cu.alloc) | exact h_))) : Cu w0 w W g b i h := k c
theorem Cu.new (c : Cu w0 w W g b i h) (o : Obj) : ∃ x W', W.heap.size = x ∧ W.alloc o = W' ∧ W'.heap[x]? = some o ∧ w.heap.size ≤ x ∧ Below W.heap.size W W' ∧ Cu w0 w W' g b i h := ⟨_, _, rfl, rfl, blk_new W o, c.k.1, below_alloc (Below.refl _ _) o, c.alloc o⟩
end
def st3_ (w : World) (g : Nat) (u0 u1 u2 : Value) : World := ((w.setCell ⟨g, 0, none⟩ u0).setCell ⟨g, 1, none⟩ u1).setCell ⟨g, 2, none⟩ u2
section
variable {w0 w W : World} {x g : Nat} {t : TypeId} {b : List Int} {i h : Int} {c0 c1 c2 u0 u1 u2 : Value}
theorem st3_blk (h : W.heap[x]? = some (.cells #[c0, c1, c2] t (0, 0))) : (st3_ W x u0 u1 u2).heap[x]? = some (.cells #[u0, u1, u2] t (0, 0)) := by
  refine blk_put (cs := #[u0, u1, c2]) ?_ 2 _ rfl
  refine blk_put (cs := #[u0, c1, c2]) ?_ 1 _ rfl
  refine blk_put (cs := #[c0, c1, c2]) ?_ 0 _ rfl
  exact h
theorem st3_far {k : Nat} (h : k ≠ x) : (st3_ W x u0 u1 u2).heap[k]? = W.heap[k]? := by
  unfold st3_
  repeat rw [Below.heap_setCell _ _ _ _ h]
theorem st3_cu (c : Cu w0 w W g b i h) (hx : w.heap.size ≤ x) (hg : g < w.heap.size) : Cu w0 w (st3_ W x u0 u1 u2) g b i h := by
  unfold st3_
  repeat refine Cu.far ?_ hx hg _
  exact c
theorem st3_row {α : Type} {d : Kd α} {e base : Nat} {ok : Nat → Prop} {v : Value} {xs : List α} {cs : Array Value} (hr : d.R e W base ok v xs) (hb : W.heap[x]? = some (.cells cs t (0, 0))) (ht : ∀ q, q ∈ e :: d.E → q ≠ t) : d.R e (st3_ W x u0 u1 u2) base ok v xs := Kd.R_mono (Kd.R_move (Kd.R_types hr hb ht) (fun k h_ => st3_far h_.2)) (fun _ h_ => h_.1)
theorem st3_rowQ {α : Type} {d : Kd α} {e base : Nat} {ok : Nat → Prop} {v : Value} {xs : List α} {cs : Array Value} (hr : d.Q e W base ok v xs) (hb : W.heap[x]? = some (.cells cs t (0, 0))) (ht : ∀ q, q ∈ e :: d.E → q ≠ t) : d.Q e (st3_ W x u0 u1 u2) base ok v xs := Kd.Q_mono (Kd.Q_move (Kd.Q_types hr hb ht) (fun k h_ => st3_far h_.2)) (fun _ h_ => h_.1)
end
def st2_ (w : World) (g : Nat) (u0 u1 : Value) : World := (w.setCell ⟨g, 0, none⟩ u0).setCell ⟨g, 1, none⟩ u1
section
variable {w0 w W : World} {x g : Nat} {t : TypeId} {b : List Int} {i h : Int} {c0 c1 u0 u1 : Value}
theorem st2_blk (h : W.heap[x]? = some (.cells #[c0, c1] t (0, 0))) : (st2_ W x u0 u1).heap[x]? = some (.cells #[u0, u1] t (0, 0)) := by
  refine blk_put (cs := #[u0, c1]) ?_ 1 _ rfl
  refine blk_put (cs := #[c0, c1]) ?_ 0 _ rfl
  exact h
theorem st2_far {k : Nat} (h : k ≠ x) : (st2_ W x u0 u1).heap[k]? = W.heap[k]? := by
  unfold st2_
  repeat rw [Below.heap_setCell _ _ _ _ h]
theorem st2_cu (c : Cu w0 w W g b i h) (hx : w.heap.size ≤ x) (hg : g < w.heap.size) : Cu w0 w (st2_ W x u0 u1) g b i h := by
  unfold st2_
  repeat refine Cu.far ?_ hx hg _
  exact c
theorem st2_row {α : Type} {d : Kd α} {e base : Nat} {ok : Nat → Prop} {v : Value} {xs : List α} {cs : Array Value} (hr : d.R e W base ok v xs) (hb : W.heap[x]? = some (.cells cs t (0, 0))) (ht : ∀ q, q ∈ e :: d.E → q ≠ t) : d.R e (st2_ W x u0 u1) base ok v xs := Kd.R_mono (Kd.R_move (Kd.R_types hr hb ht) (fun k h_ => st2_far h_.2)) (fun _ h_ => h_.1)
theorem st2_rowQ {α : Type} {d : Kd α} {e base : Nat} {ok : Nat → Prop} {v : Value} {xs : List α} {cs : Array Value} (hr : d.Q e W base ok v xs) (hb : W.heap[x]? = some (.cells cs t (0, 0))) (ht : ∀ q, q ∈ e :: d.E → q ≠ t) : d.Q e (st2_ W x u0 u1) base ok v xs := Kd.Q_mono (Kd.Q_move (Kd.Q_types hr hb ht) (fun k h_ => st2_far h_.2)) (fun _ h_ => h_.1)
end
section
variable {P : Program} {ops : Array Oper} {Q : Exit → Act → World → Prop} {md : Region.Mode} {S : World → Prop} {ds : List Nat} {oi : Oper} {v : Value} {fuel : Nat} {l : Array Bool} {a a' : Act} {w : World}
theorem pk_ (i N : Nat) (l' : Array Bool) (h : wpAnyLast P md ops Q S ds fuel l' a' w) (hi : ops[i]? = some oi := by rfl) (hN : oi.dst = some N := by rfl) (hc : anyB md ops l l' i = true := by kernel_rfl) (hQ : ∀ c a w, Q (.panic c) (a.put oi.dst v) w → Q (.panic c) a w := by (exact fun _ _ _ h => h)) (hw : Region.wanted oi (yielded ops a.tmps) = true := by rfl) (hy : ∀ w, (execOp a.eval oi).run P w = .ok (.value v) w := by (intro w'; go_simp; with_reducible rfl)) (ha : a.put (some N) v = a' := by (simp only [Act.put, List.setIfInBounds_toArray, List.set_cons_zero, List.set_cons_succ, i64_w, i32_w]; rfl)) : wpAnyLast P md ops Q S ds (fuel + 1) l a w := pure_ l' hi hN hc hQ (Or.inl ⟨hw, hy⟩) ha h
theorem tk_ (i N : Nat) (l' : Array Bool) (hS : S w) (h : wpAnyLast P md ops Q S ds fuel l' a' w) (hi : ops[i]? = some oi := by rfl) (hN : oi.dst = some N := by rfl) (hc : takeB md ops ds l l' i = true := by kernel_rfl) (hQ : ∀ c a w, Q (.panic c) (a.put oi.dst v) w → Q (.panic c) a w := by (exact fun _ _ _ h => h)) (hw : Region.wanted oi (yielded ops a.tmps) = true := by rfl) (ha : a.put (some N) v = a' := by (simp only [Act.put, List.setIfInBounds_toArray, List.set_cons_zero, List.set_cons_succ, i64_w, i32_w]; rfl)) (hy : ∀ w, S w → (execOp a.eval oi).run P w = .ok (.value v) w) : wpAnyLast P md ops Q S ds (fuel + 1) l a w := take_ l' hi hN hc hQ (Or.inl ⟨hw, hy⟩) hS ha h
end

/-! ### spec_l05Make: function 99 -/
def spec_l05Make.l0 : Nat → Int → Int → Int → Int → Int → List Int → Option (List Int)
 | 0, _, _, _, _, _, _ => none
 | k + 1, x1, x6, x7, x143000, x143001, x145000 => if x7 < (wrap64 (x6 * x6)) then (if x6 = 0 then (none) else ((spec_l05Port.f k x143000 x143001 x1 (wrap64 (Int.tdiv x7 x6)) (Int.tmod x7 x6)).bind fun t146 => (if x145000.length < 17592186044416 then (spec_l05Make.l0 k x1 x6 (wrap64 (x7 + 1)) x143000 x143001 (x145000 ++ [t146])) else (none)))) else (some x145000)
def spec_l05Make.f (k : Nat) (a0_0 : Int) (a0_1 : Int) (a1 : Int) : Option (List Int) := (spec_NodeCount.f a0_0 a0_1).bind fun t145 => (spec_l05Make.l0 k a1 t145 0 a0_0 a0_1 ([] : List Int))
theorem spec_l05Make.mono_l : ∀ k, (∀ y0 y1 y2 y3 y4 y5, LeO (spec_l05Make.l0 k y0 y1 y2 y3 y4 y5) (spec_l05Make.l0 (k + 1) y0 y1 y2 y3 y4 y5))
 | 0 => fun _ _ _ _ _ _ r h => by simp [spec_l05Make.l0] at h
 | k + 1 => by
  have ih0 := spec_l05Make.mono_l k
  ·intro y0 y1 y2 y3 y4 y5
   unfold spec_l05Make.l0
   repeat' (with_reducible first | exact ih0 .. | exact spec_l05Port.mono .. | exact LeO.refl .. | exact LeO.none .. | refine LeO.ite ?_ ?_ | refine LeO.bind ?_ (fun _ => ?_))
theorem spec_l05Make.mono : ∀ a0 a1 a2 k, LeO (spec_l05Make.f k a0 a1 a2) (spec_l05Make.f (k + 1) a0 a1 a2) := by
 intro a0 a1 a2 k
 have ih0 := spec_l05Make.mono_l k
 unfold spec_l05Make.f
 repeat' (with_reducible first | exact ih0 .. | exact spec_l05Port.mono .. | exact LeO.refl .. | exact LeO.none .. | refine LeO.ite ?_ ?_ | refine LeO.bind ?_ (fun _ => ?_))
def spec_l05Make.T6 : Bool × List (List Nat × List Nat) := (true, [([], []), ([0], [0]), ([], []), ([], []), ([], []), ([], []), ([4, 5], [4, 5]), ([], []), ([], []), ([7, 8], [7, 8]), ([2, 3, 6, 9], [2, 3, 6, 9]), ([10], [10]), ([1, 11, 10], [1, 11]), ([0, 1, 2, 3, 4, 5, 6, 7, 8, 9, 10, 11, 12], []), ([13, 12, 12, 0, 1, 2, 3, 4, 5, 6, 7, 8, 9, 10, 11, 12], [12, 13])])
def spec_l05Make.B6 : List Nat := [0, 1, 0, 0, 0, 0, 48, 0, 0, 384, 1020, 2044, 4095, 8191, 16383]
theorem spec_l05Make.tab6 : rtab .any (opsOf Tryz.f99 6) = spec_l05Make.T6 := by kernel_rfl
theorem spec_l05Make.bits6 : waitsOk spec_l05Make.T6.2 spec_l05Make.B6 = true := by kernel_rfl
theorem spec_l05Make.calls (k : Nat) (a0_0 : Int) (a0_1 : Int) (a1 : Int) (r : List Int) (w : World) (h : spec_l05Make.f k a0_0 a0_1 a1 = some r) :
  Calls Tryz.prog 99 #[.agg #[.int .i64 a0_0, .int .i64 a0_1], .int .i64 a1] w fun e w' => ∃ v0_ : Value, e = .returned (.agg #[v0_]) ∧ Kd.R (Kd.int .i64) 3 w' w.heap.size (fun _ => True) v0_ r ∧ Below w.heap.size w w' := by
 have hu36 := Tryz.underlying36
 have hu40 := Tryz.underlying40
 have HB := Aside0.mk (Below.refl w.heap.size w)
 have H : ((spec_NodeCount.f a0_0 a0_1).bind fun t145 => (spec_l05Make.l0 k a1 t145 0 a0_0 a0_1 ([] : List Int))) = some r := h
 clear h
 obtain ⟨t145, A3, H⟩ := bi_ H
 have H' := Aside0.mk H
 clear H
 go_enter Tryz.func99, Tryz.ntmps99
 go_wp2_with (first | ((with_reducible refine gate_dst (N := 2) rfl ?_); refine box_event ?hg (N := 2) ?hd (cs := #[.int .i64 a0_0, .int .i64 a0_1]) (t := 36) ?hr ?_; (case hd => rfl); (case hg => rfl); (case hr => first | (go_simp; done) | (go_simp; rfl)); intro gb142 hg w4 hbox hb; have BK142 := Aside0.mk (hbox); have GW142 := gw_ hg HB; have GE142 := gw_ hg HB; replace HB := hs_ HB hb; clear hb hbox hg) | ((with_reducible refine gate_dst (N := 4) rfl ?_); refine box_event ?hg (N := 4) ?hd (cs := #[.slice none 0 0]) (t := 40) ?hr ?_; (case hd => rfl); (case hg => rfl); (case hr => first | (go_simp; done) | (go_simp; rfl)); intro gb143 hg w5 hbox hb; have BK143 := Aside0.mk (hbox); have GW143 := gw_ hg HB; have GE143 := gw_ hg HB; replace HB := hs_ HB hb; have NB142_143 := nl_ hg BK142; have NB143_142 := ng_ hg BK142; replace BK142 := kb_ BK142 hb; clear hb hbox hg) | ((with_reducible refine gate_dst (N := 5) rfl ?_); refine box_event ?hg (N := 5) ?hd (cs := #[.slice none 0 0]) (t := 40) ?hr ?_; (case hd => rfl); (case hg => rfl); (case hr => first | (go_simp; done) | (go_simp; rfl)); intro gb144 hg w6 hbox hb; have BK144 := Aside0.mk (hbox); have GW144 := gw_ hg HB; have GE144 := gw_ hg HB; replace HB := hs_ HB hb; have NB142_144 := nl_ hg BK142; have NB144_142 := ng_ hg BK142; replace BK142 := kb_ BK142 hb; have NB143_144 := nl_ hg BK143; have NB144_143 := ng_ hg BK143; replace BK143 := kb_ BK143 hb; clear hb hbox hg; have hnb7 := NB144_142.out; have hnc7 := NB142_144.out; have hnb8 := NB144_143.out; have hnc8 := NB143_144.out; obtain ⟨hcz9_0, hfz9_0⟩ := cz1_ BK144.out; have hnb10 := NB142_143.out; have hnc10 := NB143_142.out; obtain ⟨hcz11_0, hcz11_1, hfz11_0, hfz11_1⟩ := cz2_ BK142.out) | ((with_reducible refine gate_callee (f := 80) rfl ?_); refine gm_ (some 10) Tryz.func80 #[.agg #[.int .i64 a0_0, .int .i64 a0_1]] rfl ?_; (with_reducible refine (spec_NodeCount.calls a0_0 a0_1 t145 _ A3.out).mono ?_); rintro e w12 ⟨rfl, hb⟩; refine ⟨_, rfl, ?_⟩; replace BK142 := Aside0.mk (blk_below (bf_ BK142.out) hb); replace BK143 := Aside0.mk (blk_below (bf_ BK143.out) hb); replace BK144 := Aside0.mk (blk_below (g := gb144) (o := .cells #[.slice none 0 0] 40 (0, 0)) (by (with_reducible repeat (first | refine blk_drewN ?_ _ | refine blk_drew ?_ | refine blk_alloc ?_ _)); refine blk_put (cs := #[.slice none 0 0]) ?_ 0 _ rfl; (with_reducible repeat (first | refine blk_drewN ?_ _ | refine blk_drew ?_ | refine blk_alloc ?_ _)); exact BK144.out) hb); replace HB := hs_ HB hb; (try clear hb)))
 go_loopg [7] k (fun kq v7 w' => ∃ (x7_1 : Int) (x145000_1 : List Int) (u145000 : Value), v7 = .int .i64 x7_1 ∧ Aside0 (spec_l05Make.l0 kq a1 t145 x7_1 a0_0 a0_1 x145000_1 = some r) ∧ Aside0 (kq ≤ k) ∧ Aside0 (Kd.R (Kd.int .i64) 3 w' w.heap.size (fun _ => True) u145000 x145000_1) ∧ Aside0 (w'.heap[gb142]? = some (.cells #[.int .i64 a0_0, .int .i64 a0_1] 36 (0, 0))) ∧ Aside0 (w'.heap[gb143]? = some (.cells #[(.slice none 0 0)] 40 (0, 0))) ∧ Aside0 (w'.heap[gb144]? = some (.cells #[u145000] 40 (0, 0))) ∧ Aside0 (Below w.heap.size w w'))
 case atStart => exact ⟨(0), (([] : List Int)), (.slice none 0 0), ef_, H', ⟨Nat.le_refl _⟩, ⟨by first | exact Kd.R_nil _ _ _ _ _ | exact Kd.N_nil _ _ _ _ _ | exact Kd.V_nil _ _ _ _ _ | exact Kd.Q_nil _ _ _ _ _ | exact Kd.S_nil _ _ _ _ _⟩, ⟨bq_ BK142.out⟩, ⟨bq_ BK143.out⟩, ⟨bq_ BK144.out⟩, ⟨bb_ HB.out⟩⟩
 clear H'
 try clear hcz11_0 hcz11_1 hfz11_0 hfz11_1
 try clear hcz9_0 hfz9_0
 obtain ⟨x7_1, x145000_1, u145000, rfl, HA, HK1, HO_145000, BK142, BK143, BK144, HB⟩ := hrel
 obtain _ | k1 := gk
 ·exact absurd HA.out (by simp [spec_l05Make.l0])
 have H := HA.out
 clear HA
 simp only [spec_l05Make.l0] at H
 by_cases c13 : x7_1 < (wrap64 (t145 * t145))
 rotate_left
 ·rw [if_neg c13] at H
  have c13b0 : decide (x7_1 < (wrap64 (t145 * t145))) = false := decide_eq_false c13
  clear c13
  obtain rfl := Option.some.inj H
  have hnb22 := NB144_142.out
  have hnc22 := NB142_144.out
  have hnb23 := NB144_143.out
  have hnc23 := NB143_144.out
  obtain ⟨hcz24_0, hfz24_0⟩ := cz1_ BK144.out
  obtain ⟨Ao25, co25, eo25⟩ := Kd.R_slice HO_145000.out
  subst eo25
  have hnb26 := NB143_142.out
  have hnc26 := NB142_143.out
  obtain ⟨hcz27_0, hfz27_0⟩ := cz1_ BK143.out
  go_wp2
  refine bodyPost_ret (results_cell_row rfl _ _ gb143 40 #[.slice Ao25 x145000_1.length co25] (0, 0) _ rfl (by (with_reducible repeat (first | refine blk_drewN ?_ _ | refine blk_drew ?_ | refine blk_alloc ?_ _)); refine blk_put (cs := #[.slice none 0 0]) ?_ 0 _ rfl; (with_reducible repeat (first | refine blk_drewN ?_ _ | refine blk_drew ?_ | refine blk_alloc ?_ _)); exact BK143.out) Tryz.underlying40 rfl (by kernel_rfl)) rfl ?_
  exact ⟨_, fin_, rm_ (Kd.R_types HO_145000.out BK143.out (by decide)) (fun _ hk => trivial), bb_ HB.out⟩
 rw [if_pos c13] at H
 have c13b0 : decide (x7_1 < (wrap64 (t145 * t145))) = true := decide_eq_true c13
 clear c13
 by_cases c14 : t145 = 0
 ·rw [if_pos c14] at H
  exact absurd H (by simp)
 rw [if_neg c14] at H
 have c14b0 : (t145 == 0) = false := beq_eq_false_iff_ne.mpr c14
 have c14b1 : (t145 != 0) = true := bne_iff_ne.mpr c14
 obtain ⟨t146, A15, H⟩ := bi_ H
 by_cases c16 : x145000_1.length < 17592186044416
 rotate_left
 ·rw [if_neg c16] at H
  exact absurd H (by simp)
 rw [if_pos c16] at H
 have LMc16 := Aside0.mk c16
 clear c16
 obtain ⟨y147, hy147⟩ : ∃ y_ : List Int, y_ = (x145000_1 ++ [t146]) := ⟨_, rfl⟩
 replace H : (spec_l05Make.l0 k1 a1 t145 (wrap64 (x7_1 + 1)) a0_0 a0_1 y147) = some r := by first | (rw [hy147]; with_reducible exact H) | (have H2_ := (Option.bind_some _ _).symm.trans H; rw [hy147]; with_reducible exact H2_) | (have H2_ := (Option.bind_some _ _).symm.trans H; with_reducible exact H2_) | with_reducible exact H | (rw [hy147]; exact H) | exact H
 have Ny147 := Aside0.mk hy147
 clear hy147
 have H' := Aside0.mk H
 clear H
 try go_wp2
 replace HO_145000 := Aside0.mk (Kd.R_drew HO_145000.out)
 replace BK142 := Aside0.mk (blk_drew BK142.out)
 replace BK143 := Aside0.mk (blk_drew BK143.out)
 replace BK144 := Aside0.mk (blk_drew BK144.out)
 replace HB := Aside0.mk (below_drew1 HB.out)
 refine start_ (n := 15) (S := fun w' => w'.cell? ⟨gb144, 0, none⟩ = some (u145000) ∧ w'.cell? ⟨gb142, 0, none⟩ = some (.int .i64 a0_0) ∧ w'.cell? ⟨gb142, 1, none⟩ = some (.int .i64 a0_1)) (ds := [14]) #[false, false, false, false, false, false, false, false, false, false, false, false, false, false, false] (by kernel_rfl) rfl rfl ⟨(blk_cell BK144.out 0).trans rfl, (blk_cell BK142.out 0).trans rfl, (blk_cell BK142.out 1).trans rfl⟩ (fun hHeld => ?_); refine with_tabW spec_l05Make.tab6 spec_l05Make.bits6 (fun HT_ HW_ => ?_)
 generalize wr.drew = w17 at HO_145000 BK142 BK143 BK144 HB hHeld ⊢
 refine pu_ 0 18 (bt_ 15 1) HT_ ?_
 refine pu_ 3 21 (bt_ 15 9) HT_ ?_
 refine pu_ 4 22 (bt_ 15 25) HT_ ?_
 refine pu_ 5 23 (bt_ 15 57) HT_ ?_
 refine pu_ 6 24 (bt_ 15 121) HT_ ?_
 refine pu_ 7 25 (bt_ 15 249) HT_ ?_
 refine pu_ 8 26 (bt_ 15 505) HT_ ?_
 refine pu_ 9 27 (bt_ 15 1017) HT_ ?_
 refine take_ (i := 1) (N := some 19) (v := ?_) (a' := ?_) (bt_ 15 1019) rfl rfl (take_ofW HT_.out HW_.out (by kernel_rfl)) (fun _ _ _ h => h) (Or.inl ⟨by rfl, ?_⟩) hHeld ?_ ?_
 rotate_left
 ·rintro w' ⟨s0, s1, s2⟩
  go_simp
  with_reducible rfl
 rotate_left
 ·simp only [Act.put, List.setIfInBounds_toArray, List.set_cons_zero, List.set_cons_succ, i64_w, i32_w]
  rfl
 refine take_ (i := 2) (N := some 20) (v := ?_) (a' := ?_) (bt_ 15 1023) rfl rfl (take_ofW HT_.out HW_.out (by kernel_rfl)) (fun _ _ _ h => h) (Or.inl ⟨by rfl, ?_⟩) hHeld ?_ ?_
 rotate_left
 ·rintro w' ⟨s0, s1, s2⟩
  go_simp
  with_reducible rfl
 rotate_left
 ·simp only [Act.put, List.setIfInBounds_toArray, List.set_cons_zero, List.set_cons_succ, i64_w, i32_w]
  rfl
 refine one_ (i := 10) (N := some 28) (bt_ 15 2047) rfl rfl (one_of HT_.out (by kernel_rfl)) (by decide) (fun K hK => ?_)
 refine goes_ Tryz.func122 (by kernel_rfl) rfl #[.agg #[.int .i64 a0_0, .int .i64 a0_1], .int .i64 a1, .int .i64 (wrap64 (Int.tdiv x7_1 t145)), .int .i64 (Int.tmod x7_1 t145)] (by rfl) rfl rfl (by (try simp only [List.map_toArray, List.map_cons, List.map_nil]); first | done | rfl | (simp only [List.length_drop, List.length_take]; rfl)) ?_
 with_reducible refine (spec_l05Port.calls k1 a0_0 a0_1 a1 (wrap64 (Int.tdiv x7_1 t145)) (Int.tmod x7_1 t145) t146 _ A15.out).mono ?_
 rintro e w18 ⟨rfl, hb⟩
 refine ⟨_, rfl, ?_⟩
 replace HO_145000 := rb_ HO_145000 hb
 replace BK142 := kb_ BK142 hb
 replace BK143 := kb_ BK143 hb
 replace BK144 := kb_ BK144 hb
 replace HB := hs_ HB hb
 (try clear hb)
 (try clear hk)
 refine hK.out _ _ ⟨(blk_cell BK144.out 0).trans rfl, (blk_cell BK142.out 0).trans rfl, (blk_cell BK142.out 1).trans rfl⟩ (fun hHeld => ?_)
 clear hK K
 refine norm_ (a' := ?_) ?_ ?_
 rotate_left
 ·show Act.put _ (some 28) _ = _
  simp only [Act.put, List.setIfInBounds_toArray, List.set_cons_zero, List.set_cons_succ, i64_w, i32_w]
  rfl
 refine one_ (i := 11) (N := some 29) (bt_ 15 4095) rfl rfl (one_of HT_.out (by kernel_rfl)) (by decide) (fun K hK => ?_)
 refine value_ (w1 := ?_) (v := ?_) (by rfl) rfl ?_ ?_
 rotate_left 2
 ·go_simp
  constructor
  ·rfl
  ·rfl
 refine hK.out _ _ ⟨(blk_cell (blk_alloc BK144.out _) 0).trans rfl, (blk_cell (blk_alloc BK142.out _) 0).trans rfl, (blk_cell (blk_alloc BK142.out _) 1).trans rfl⟩ (fun hHeld => ?_)
 clear hK K
 refine norm_ (a' := ?_) ?_ ?_
 rotate_left
 ·show Act.put _ (some 29) _ = _
  simp only [Act.put, List.setIfInBounds_toArray, List.set_cons_zero, List.set_cons_succ, i64_w, i32_w]
  rfl
 refine one_ (i := 12) (N := some 30) (bt_ 15 8191) rfl rfl (one_of HT_.out (by kernel_rfl)) (by decide) (fun K hK => ?_)
 refine Kd.R_append_step (Kd.int .i64) (w0 := w) w.heap.size (by rfl) (.tmp 19) (.tmp 29) 24 3 (.int .i64 0) 8 rfl Tryz.underlying24 info3 rfl (by decide) (by omega) u145000 x145000_1 t146 [.int .i64 t146] (fun _ => True) (fun _ => False) rfl rfl ?aP (fun _ hk => hk.elim) ?aF ?aO ?aB ?aS ?aL ?_
 (case aP => exact rfl)
 (case aB => exact (by repeat (first | (with_reducible first | exact HB.out | apply below_alloc | apply pw_below_drewN | apply below_drew1 | refine below_set ?_ GE142.out | refine below_set ?_ GE143.out | refine below_set ?_ GE144.out) | exact HB.out)))
 (case aF => exact (fun _ _ => trivial))
 (case aO => exact (ra_ HO_145000.out))
 (case aS => exact (bz_ HB.out))
 (case aL => have := LMc16.out; omega)
 intro v148 w19 ho hb hg hat
 rw [← Ny147.out] at ho
 have n0_ := Aside0.mk (blk_grown (g := gb142) (o := .cells #[.int .i64 a0_0, .int .i64 a0_1] 36 (0, 0)) (by (with_reducible repeat (first | refine blk_drewN ?_ _ | refine blk_drew ?_ | refine blk_alloc ?_ _)); exact BK142.out) hg (Kd.R_ne HO_145000.out BK142.out (by decide)))
 have n1_ := Aside0.mk (blk_grown (g := gb143) (o := .cells #[.slice none 0 0] 40 (0, 0)) (by (with_reducible repeat (first | refine blk_drewN ?_ _ | refine blk_drew ?_ | refine blk_alloc ?_ _)); exact BK143.out) hg (Kd.R_ne HO_145000.out BK143.out (by decide)))
 have n2_ := Aside0.mk (blk_grown (g := gb144) (o := .cells #[u145000] 40 (0, 0)) (by (with_reducible repeat (first | refine blk_drewN ?_ _ | refine blk_drew ?_ | refine blk_alloc ?_ _)); exact BK144.out) hg (Kd.R_ne HO_145000.out BK144.out (by decide)))
 have n3_ := Aside0.mk (hb)
 have n4_ := Aside0.mk (ho)
 clear BK142 BK143 BK144 HB HO_145000
 have BK142 := n0_
 have BK143 := n1_
 have BK144 := n2_
 have HB := n3_
 have HO149 := n4_
 clear n0_ n1_ n2_ n3_ n4_ ho hb hg hat
 obtain ⟨Ao20, co20, eo20⟩ := Kd.R_slice HO149.out
 (first | subst eo20 | (injection eo20 with f1_ f2_ f3_; have f4_ := f1_.symm; have f5_ := f3_.symm; clear f1_ f2_ f3_; subst f4_; subst f5_))
 refine hK.out _ _ ⟨(blk_cell BK144.out 0).trans rfl, (blk_cell BK142.out 0).trans rfl, (blk_cell BK142.out 1).trans rfl⟩ (fun hHeld => ?_)
 clear hK K
 refine norm_ (a' := ?_) ?_ ?_
 rotate_left
 ·show Act.put _ (some 30) _ = _
  simp only [Act.put, List.setIfInBounds_toArray, List.set_cons_zero, List.set_cons_succ, i64_w, i32_w]
  rfl
 refine pu_ 13 31 (bt_ 15 16383) HT_ ?_
 refine last_ (i := 14) (N := none) (bt_ 15 32767) rfl rfl (one_of HT_.out (by kernel_rfl)) (by decide) (fun K hK => ?_)
 have hs21 : w19.cell? ⟨gb144, 0, none⟩ = some (u145000) := (blk_cell BK144.out 0).trans rfl
 have hfs21 := blk_frozen BK144.out 0
 have hns21_0 := NB142_144.out
 have hns21_1 := NB143_144.out
 have hms21_0 := NB144_142.out
 have hms21_1 := NB144_143.out
 refine skip_ (w1 := ?_) (by rfl) rfl ?_ ?_
 rotate_left
 ·go_simp
  rfl
 refine hK.out _ _ ?_
 clear hK K
 refine done_ (done_of HT_.out (by kernel_rfl)) ?_
 try go_wp2
 go_roundg k1
 case measure => have := HK1.out; omega
 case rel => exact ⟨(wrap64 (x7_1 + 1)), (y147), (.slice Ao20 y147.length co20), ef_, H', ⟨by have := HK1.out; omega⟩, ⟨rm_ (Kd.R_types HO149.out BK144.out (by decide)) (fun _ hk => trivial)⟩, ⟨by (with_reducible repeat (first | refine blk_drewN ?_ _ | refine blk_drew ?_ | refine blk_alloc ?_ _)); refine blk_far ?_ NB142_144.out _; (with_reducible repeat (first | refine blk_drewN ?_ _ | refine blk_drew ?_ | refine blk_alloc ?_ _)); exact BK142.out⟩, ⟨by (with_reducible repeat (first | refine blk_drewN ?_ _ | refine blk_drew ?_ | refine blk_alloc ?_ _)); refine blk_far ?_ NB143_144.out _; (with_reducible repeat (first | refine blk_drewN ?_ _ | refine blk_drew ?_ | refine blk_alloc ?_ _)); exact BK143.out⟩, ⟨by (with_reducible repeat (first | refine blk_drewN ?_ _ | refine blk_drew ?_ | refine blk_alloc ?_ _)); refine blk_put (cs := #[u145000]) ?_ 0 _ rfl; (with_reducible repeat (first | refine blk_drewN ?_ _ | refine blk_drew ?_ | refine blk_alloc ?_ _)); exact BK144.out⟩, ⟨bb_ HB.out⟩⟩

/-! ### spec_l04Case: function 68 -/
def spec_l04Case.f (k : Nat) (s0_0 : List Int) (s0_1 : Int) (s0_2 : Int) : Option (Int × Int × List Int × List Int × Int × Int) := (spec_l02Grid.f s0_0 s0_1 s0_2).bind fun bt152 => ((spec_l01Below.f s0_0 bt152.2.2.1 bt152.2.2.2 4).bind fun bt157 => ((spec_l05Make.f k bt152.1 bt152.2.1 (wrap64 (1 + bt157.1))).bind fun t160 => (some (bt152.1, bt152.2.1, ([] : List Int), t160, bt157.2.1, bt157.2.2))))
theorem spec_l04Case.mono : ∀ a0 a1 a2 k, LeO (spec_l04Case.f k a0 a1 a2) (spec_l04Case.f (k + 1) a0 a1 a2) := by
 intro a0 a1 a2 k
 unfold spec_l04Case.f
 repeat' (with_reducible first | exact spec_l05Make.mono .. | exact LeO.refl .. | exact LeO.none .. | refine LeO.ite ?_ ?_ | refine LeO.bind ?_ (fun _ => ?_))
theorem spec_l04Case.calls (k : Nat) (g : Nat) (s0_0 : List Int) (s0_1 : Int) (s0_2 : Int) (r1 : Int) (r2 : Int) (r3 : List Int) (r4 : List Int) (r5 : Int) (r6 : Int) (w0 w : World) (hI : IsS95 w0 w g s0_0 s0_1 s0_2) (hB : Below w0.heap.size w0 w) (h : spec_l04Case.f k s0_0 s0_1 s0_2 = some (r1, r2, r3, r4, r5, r6)) :
  Calls Tryz.prog 68 #[.pointer (some ⟨g, 0, none⟩)] w fun e w' => ∃ v2_ v3_ : Value, e = .returned (.tuple #[.agg #[.int .i64 r1, .int .i64 r2, v2_], .agg #[v3_]]) ∧ Kd.R (Kd.int .i64) 3 w' w.heap.size (fun k_ => some k_ ≠ (v3_ : Value).ownBlock) v2_ r3 ∧ Kd.R (Kd.int .i64) 3 w' w.heap.size (fun k_ => some k_ ≠ (v2_ : Value).ownBlock) v3_ r4 ∧ IsS95 w0 w' g s0_0 r5 r6 ∧ Below w0.heap.size w0 w' ∧ KeepBut w w' g none := by
 have HG := Aside0.mk hI.lt
 have HC := Aside0.mk (Cu.mk hI hB (KeepBut.refl w g none))
 clear hI hB
 have hu36 := Tryz.underlying36
 have hu38 := Tryz.underlying38
 have hu40 := Tryz.underlying40
 unfold spec_l04Case.f at h
 obtain ⟨⟨t1, t2, i1, j1⟩, e1, G_⟩ := Option.bind_eq_some_iff.1 h
 clear h; have h := G_; clear G_
 obtain ⟨⟨x, i2, j2⟩, e2, G_⟩ := Option.bind_eq_some_iff.1 h
 clear h; have h := G_; clear G_
 obtain ⟨ps, e3, G_⟩ := Option.bind_eq_some_iff.1 h
 clear h; have h := G_; clear G_
 dsimp only at e2 e3 h
 simp only [Option.some.injEq, Prod.mk.injEq] at h
 obtain ⟨rfl, rfl, rfl, rfl, rfl, rfl⟩ := h
 have E1 := Aside0.mk e1; have E2 := Aside0.mk e2; have E3 := Aside0.mk e3; clear e1 e2 e3
 go_enter Tryz.func68, Tryz.ntmps68
 go_upto_region 2 with (first | ((with_reducible refine gate_dst (N := 2) rfl ?_); refine box_event ?hg (N := 2) ?hd (cs := #[.int .i64 0, .int .i64 0, .slice none 0 0]) (t := 38) ?hr ?_; (case hd => rfl); (case hg => rfl); (case hr => first | (go_simp; done) | (go_simp; rfl)); intro g2 hg w1 hbox hb; have B2_ := Aside0.mk hbox; have G2 := Aside0.mk (show w.heap.size ≤ g2 by rw [hg]; exact (cu_ HC.out).k.1); skip; have B2 := B2_; clear B2_; replace HC := Aside0.mk ((cu_ HC.out).below hb); clear hb hbox hg) | ((with_reducible refine gate_dst (N := 3) rfl ?_); refine box_event ?hg (N := 3) ?hd (cs := #[.slice none 0 0]) (t := 40) ?hr ?_; (case hd => rfl); (case hg => rfl); (case hr => first | (go_simp; done) | (go_simp; rfl)); intro g3 hg w1 hbox hb; have B3_ := Aside0.mk hbox; have G3 := Aside0.mk (show w.heap.size ≤ g3 by rw [hg]; exact (cu_ HC.out).k.1); have N23 := Aside0.mk (show g2 ≠ g3 by rw [hg]; exact Nat.ne_of_lt (bl_ B2.out)); replace B2 := Aside0.mk (bk_ B2.out hb); have B3 := B3_; clear B3_; replace HC := Aside0.mk ((cu_ HC.out).below hb); clear hb hbox hg) | (go_at_call 98; (with_reducible refine (spec_l02Grid.calls  g s0_0 s0_1 s0_2  t1 t2 i1 j1 w0 _ ?s1 ?s2  E1.out).mono ?_); (case s1 => exact (cu_ HC.out).s); (case s2 => exact (cu_ HC.out).bl); rintro e wa ⟨rfl, hs, hb, hk⟩; replace B2 := Aside0.mk (Cu.blk HG.out G2.out (bq_ B2.out) hk); replace B3 := Aside0.mk (Cu.blk HG.out G3.out (bq_ B3.out) hk); replace HC := Aside0.mk ((cu_ HC.out).step hs hb hk); clear hs hb hk))
 obtain ⟨g4, wb, hx_, hw_, B4_, G4_, hb_, HC_⟩ := HC.out.new (Obj.cells #[.int .i64 t1, .int .i64 t2, .slice none 0 0] 38 (0, 0))
 have N24 := Aside0.mk (show g2 ≠ g4 by rw [← hx_]; exact Nat.ne_of_lt (blk_lt B2.out))
 have N34 := Aside0.mk (show g3 ≠ g4 by rw [← hx_]; exact Nat.ne_of_lt (blk_lt B3.out))
 replace B2 := Aside0.mk (bk_ B2.out hb_)
 replace B3 := Aside0.mk (bk_ B3.out hb_)
 rw [hx_, hw_]
 clear hb_ hx_ hw_
 have B4 := Aside0.mk B4_; have G4 := Aside0.mk G4_; replace HC := Aside0.mk HC_; clear B4_ G4_ HC_
 refine start_ (n := 9) (S := fun w' => w'.cell? ⟨g4, 0, none⟩ = some (.int .i64 t1) ∧ w'.cell? ⟨g4, 1, none⟩ = some (.int .i64 t2) ∧ w'.cell? ⟨g4, 2, none⟩ = some (.slice none 0 0)) (ds := []) #[false, false, false, false, false, false, false, false, false] (by kernel_rfl) rfl rfl ⟨(blk_cell B4.out 0).trans rfl, (blk_cell B4.out 1).trans rfl, (blk_cell B4.out 2).trans rfl⟩ (fun hHeld => ?_)
 replace B2 := Aside0.mk (bq_ B2.out : wb.drew.heap[g2]? = _)
 replace B3 := Aside0.mk (bq_ B3.out : wb.drew.heap[g3]? = _)
 replace B4 := Aside0.mk (bq_ B4.out : wb.drew.heap[g4]? = _)
 replace HC := Aside0.mk (Cu.drew HC.out)
 generalize wb.drew = wc at *
 refine pk_ 1 9 (bt_ 9 2) ?_
 refine pk_ 3 11 (bt_ 9 10) ?_
 refine tk_ (v := .agg #[.int .i64 t1, .int .i64 t2, .slice none 0 0]) 0 8 (bt_ 9 11) hHeld ?_ (hy := by rintro w' ⟨s0, s1, s2⟩; go_simp)
 refine tk_ (v := .agg #[.int .i64 t1, .int .i64 t2]) 2 10 (bt_ 9 15) hHeld ?_ (hy := by rintro w' ⟨s0, s1, s2⟩; go_simp)
 refine one_ (i := 4) (N := some 12) (bt_ 9 31) rfl rfl (by kernel_rfl) (by decide) (fun K hK => ?_)
 refine goes_ Tryz.func69 (by kernel_rfl) rfl #[.pointer (some ⟨g, 0, none⟩), .int .i64 4] (by rfl) rfl rfl (by (try simp only [List.map_toArray, List.map_cons, List.map_nil]); first | done | rfl) ?_
 (with_reducible refine (spec_l01Below.calls  g s0_0 i1 j1 4 x i2 j2 w0 _ ?s1 ?s2  E2.out).mono ?_); (case s1 => exact (cu_ HC.out).s); (case s2 => exact (cu_ HC.out).bl); rintro e wd ⟨rfl, hs, hb, hk⟩; refine ⟨_, rfl, ?_⟩; replace B2 := Aside0.mk (Cu.blk HG.out G2.out (bq_ B2.out) hk); replace B3 := Aside0.mk (Cu.blk HG.out G3.out (bq_ B3.out) hk); replace B4 := Aside0.mk (Cu.blk HG.out G4.out (bq_ B4.out) hk); replace HC := Aside0.mk ((cu_ HC.out).step hs hb hk); clear hs hb hk
 refine hK.out _ _ ⟨(blk_cell B4.out 0).trans rfl, (blk_cell B4.out 1).trans rfl, (blk_cell B4.out 2).trans rfl⟩ (fun hHeld => ?_)
 clear hK K
 refine norm_ (a' := ?_) ?_ ?_
 rotate_left
 · show Act.put _ (some 12) _ = _
   simp only [Act.put, List.setIfInBounds_toArray, List.set_cons_zero, List.set_cons_succ, i64_w, i32_w]
   rfl
 refine pk_ 5 13 (bt_ 9 63) ?_
 refine one_ (i := 6) (N := some 14) (bt_ 9 127) rfl rfl (by kernel_rfl) (by decide) (fun K hK => ?_)
 refine goes_ Tryz.func99 (by kernel_rfl) rfl #[.agg #[.int .i64 t1, .int .i64 t2], .int .i64 (wrap64 (1 + x))] (by rfl) rfl rfl (by (try simp only [List.map_toArray, List.map_cons, List.map_nil]); first | done | rfl) ?_
 with_reducible refine (spec_l05Make.calls k t1 t2 (wrap64 (1 + x)) ps _ E3.out).mono ?_
 rintro e we ⟨v_, rfl, ho, hb⟩
 refine ⟨_, rfl, ?_⟩
 have HP := Aside0.mk (Kd.R_lower ho (cu_ HC.out).k.1)
 obtain ⟨Ap, cp, e_⟩ := Kd.R_slice ho
 subst e_
 replace B2 := Aside0.mk (bk_ B2.out hb)
 replace B3 := Aside0.mk (bk_ B3.out hb)
 replace B4 := Aside0.mk (bk_ B4.out hb)
 replace HC := Aside0.mk ((cu_ HC.out).below hb)
 clear ho hb
 refine hK.out _ _ ⟨(blk_cell B4.out 0).trans rfl, (blk_cell B4.out 1).trans rfl, (blk_cell B4.out 2).trans rfl⟩ (fun hHeld => ?_)
 clear hK K
 refine norm_ (a' := ?_) ?_ ?_
 rotate_left
 · show Act.put _ (some 14) _ = _
   simp only [Act.put, List.setIfInBounds_toArray, List.set_cons_zero, List.set_cons_succ, i64_w, i32_w]
   rfl
 refine one_ (i := 7) (N := none) (bt_ 9 255) rfl rfl (by kernel_rfl) (by decide) (fun K hK => ?_)
 obtain ⟨z0, z1, z2, zf0, zf1, zf2⟩ := cz3_ B2.out
 refine skip_ (w1 := ?_) (by rfl) rfl ?_ ?_
 rotate_left
 · go_simp
   rfl
 clear z0 z1 z2 zf0 zf1 zf2
 change K _ (st3_ _ g2 (.int .i64 t1) (.int .i64 t2) (.slice none 0 0))
 replace HP := Aside0.mk (st3_row HP.out B2.out (by decide) : Kd.R _ _ (st3_ _ g2 (.int .i64 t1) (.int .i64 t2) (.slice none 0 0)) _ _ _ _)
 replace B3 := Aside0.mk ((st3_far N23.out.symm : (st3_ _ g2 (.int .i64 t1) (.int .i64 t2) (.slice none 0 0)).heap[g3]? = _).trans B3.out)
 replace B4 := Aside0.mk ((st3_far N24.out.symm : (st3_ _ g2 (.int .i64 t1) (.int .i64 t2) (.slice none 0 0)).heap[g4]? = _).trans B4.out)
 replace HC := Aside0.mk (st3_cu HC.out G2.out HG.out : Cu w0 w (st3_ _ g2 (.int .i64 t1) (.int .i64 t2) (.slice none 0 0)) g s0_0 _ _)
 replace B2 := Aside0.mk (st3_blk B2.out : (st3_ _ g2 (.int .i64 t1) (.int .i64 t2) (.slice none 0 0)).heap[g2]? = _)
 generalize st3_ _ g2 (.int .i64 t1) (.int .i64 t2) (.slice none 0 0) = wf at *
 refine hK.out _ _ ⟨(blk_cell B4.out 0).trans rfl, (blk_cell B4.out 1).trans rfl, (blk_cell B4.out 2).trans rfl⟩ (fun hHeld => ?_)
 clear hK K
 refine one_ (i := 8) (N := none) (bt_ 9 511) rfl rfl (by kernel_rfl) (by decide) (fun K hK => ?_)
 obtain ⟨z0, zf0⟩ := cz1_ B3.out
 refine skip_ (w1 := ?_) (by rfl) rfl ?_ ?_
 rotate_left
 · go_simp
   rfl
 clear z0 zf0
 replace HP := Aside0.mk (Kd.R_mono (Kd.R_far (p := ⟨g3, 0, none⟩) (Kd.R_types HP.out B3.out (by decide)) (fun _ hk => hk.2) (.slice Ap ps.length cp)) (fun _ hk => hk.1))
 replace B2 := Aside0.mk ((Below.heap_setCell _ _ _ _ N23.out : (wf.setCell ⟨g3, 0, none⟩ (.slice Ap ps.length cp)).heap[g2]? = _).trans B2.out)
 replace B4 := Aside0.mk ((Below.heap_setCell _ _ _ _ N34.out.symm : (wf.setCell ⟨g3, 0, none⟩ (.slice Ap ps.length cp)).heap[g4]? = _).trans B4.out)
 replace B3 := Aside0.mk (blk_put B3.out 0 (.slice Ap ps.length cp) rfl : (wf.setCell ⟨g3, 0, none⟩ (.slice Ap ps.length cp)).heap[g3]? = _)
 replace HC := Aside0.mk (Cu.far HC.out G3.out HG.out _ : Cu w0 w (wf.setCell ⟨g3, 0, none⟩ (.slice Ap ps.length cp)) g s0_0 _ _)
 generalize wf.setCell ⟨g3, 0, none⟩ (.slice Ap ps.length cp) = wg at *
 refine hK.out _ _ ⟨(blk_cell B4.out 0).trans rfl, (blk_cell B4.out 1).trans rfl, (blk_cell B4.out 2).trans rfl⟩ (fun hHeld => ?_)
 clear hK K hHeld
 refine done_ (by kernel_rfl) ?_
 try go_wp2
 refine bodyPost_ret (results_cc rfl _ _ g2 g3 38 40 _ _ (0, 0) (0, 0) _ _ rfl (bq_ B2.out) Tryz.underlying38 rfl (by kernel_rfl) rfl (bq_ B3.out) Tryz.underlying40 rfl (by kernel_rfl)) rfl ?_
 exact ⟨_, _, rfl, Kd.R_nil _ _ _ _ _, Kd.R_mono (ra_ HP.out) (fun k_ _ => by simp [Value.ownBlock]), (cu_ HC.out).s, (cu_ HC.out).bl, (cu_ HC.out).k⟩

/-! ### spec_l01Once: function 123 -/
def spec_l01Once.f (s0_0 : List Int) (s0_1 : Int) (s0_2 : Int) (a1 : Int) : Option (Bool × Int × Int) := (spec_l01Below.f s0_0 s0_1 s0_2 a1).bind fun bt163 => (some ((bt163.1 == 0), bt163.2.1, bt163.2.2))
theorem spec_l01Once.calls (g : Nat) (s0_0 : List Int) (s0_1 : Int) (s0_2 : Int) (a1 : Int) (r1 : Bool) (r2 : Int) (r3 : Int) (w0 w : World) (hI : IsS95 w0 w g s0_0 s0_1 s0_2) (hB : Below w0.heap.size w0 w) (h : spec_l01Once.f s0_0 s0_1 s0_2 a1 = some (r1, r2, r3)) :
  Calls Tryz.prog 123 #[.pointer (some ⟨g, 0, none⟩), .int .i64 a1] w fun e w' => e = .returned (.bool r1) ∧ IsS95 w0 w' g s0_0 r2 r3 ∧ Below w0.heap.size w0 w' ∧ KeepBut w w' g none := by
 have HI0 := Aside0.mk hI
 have HK := Aside0.mk (KeepBut.refl w g none)
 have HL := Aside0.mk hB.size
 clear hI
 have HW0 := Aside0.mk hB.size
 have HB := Aside0.mk hB
 clear hB
 have H : ((spec_l01Below.f s0_0 s0_1 s0_2 a1).bind fun bt163 => (some ((bt163.1 == 0), bt163.2.1, bt163.2.2))) = some (r1, r2, r3) := h
 clear h
 obtain ⟨⟨t163, t164, t165⟩, A3, H⟩ := bi_ H
 try dsimp only at H
 simp only [Option.some.injEq, Prod.mk.injEq] at H
 obtain ⟨rfl, rfl, rfl⟩ := H
 go_enter Tryz.func123, Tryz.ntmps123
 go_wp2_with (first | ((with_reducible refine gate_callee (f := 69) rfl ?_); refine gm_ (some 7) Tryz.func69 #[.pointer (some ⟨g, 0, none⟩), .int .i64 a1] rfl ?_; (with_reducible refine (spec_l01Below.calls g s0_0 s0_1 s0_2 a1 t163 t164 t165 w0 _ ?side1 ?side2 A3.out).mono ?_); (case side1 => repeat (first | (with_reducible first | exact HI0.out | apply IsS95.alloc | apply IsS95.drewN | apply IsS95.drew | apply IsS95.set_1 | apply IsS95.set_2) | exact HI0.out)); (case side2 => repeat (first | (with_reducible first | exact HB.out | apply below_alloc | apply pw_below_drewN | apply below_drew1 | refine below_set ?_ (IsS95.ge HI0.out)) | exact HB.out)); rintro e w4 ⟨rfl, hi, hb, hk⟩; refine ⟨_, rfl, ?_⟩; replace HK := Aside0.mk (KeepBut.trans (by repeat (first | (with_reducible first | exact HK.out | apply KeepBut.set_ | apply keep_drewN | apply keep_drew | apply keep_alloc) | exact HK.out)) hk (.inl rfl)); replace HB := Aside0.mk (hb); replace HI0 := Aside0.mk (hi); (try clear hb)))
 go_ret
 exact ⟨fin_, by repeat (first | (with_reducible first | exact HI0.out | apply IsS95.alloc | apply IsS95.drewN | apply IsS95.drew | apply IsS95.set_1 | apply IsS95.set_2) | exact HI0.out), by repeat (first | (with_reducible first | exact HB.out | apply below_alloc | apply pw_below_drewN | apply below_drew1 | refine below_set ?_ (IsS95.ge HI0.out)) | exact HB.out), by repeat (first | (with_reducible first | exact HK.out | apply KeepBut.set_ | apply keep_drewN | apply keep_drew | apply keep_alloc) | exact HK.out)⟩

/-! ### spec_l02Has: function 127 -/
def spec_l02Has.f (a0_0 : Int) (a0_1 : Int) (a1 : Int) : Option (Bool) := (spec_NodeCount.f a0_0 a0_1).bind fun t167 => ((spec_l01In.f a1 0 (wrap64 (t167 - 1))).bind fun t168 => (some t168))
theorem spec_l02Has.calls (a0_0 : Int) (a0_1 : Int) (a1 : Int) (r : Bool) (w : World) (h : spec_l02Has.f a0_0 a0_1 a1 = some r) :
  Calls Tryz.prog 127 #[.agg #[.int .i64 a0_0, .int .i64 a0_1], .int .i64 a1] w fun e w' => e = .returned (.bool r) ∧ Below w.heap.size w w' := by
 have hu36 := Tryz.underlying36
 have HB := Aside0.mk (Below.refl w.heap.size w)
 have H : ((spec_NodeCount.f a0_0 a0_1).bind fun t167 => ((spec_l01In.f a1 0 (wrap64 (t167 - 1))).bind fun t168 => (some t168))) = some r := h
 clear h
 obtain ⟨t167, A3, H⟩ := bi_ H
 obtain ⟨t168, A4, H⟩ := bi_ H
 obtain rfl := Option.some.inj H
 go_enter Tryz.func127, Tryz.ntmps127
 go_wp2_with (first | ((with_reducible refine gate_dst (N := 2) rfl ?_); refine box_event ?hg (N := 2) ?hd (cs := #[.int .i64 a0_0, .int .i64 a0_1]) (t := 36) ?hr ?_; (case hd => rfl); (case hg => rfl); (case hr => first | (go_simp; done) | (go_simp; rfl)); intro gb166 hg w5 hbox hb; have BK166 := Aside0.mk (hbox); have GW166 := gw_ hg HB; have GE166 := gw_ hg HB; replace HB := hs_ HB hb; clear hb hbox hg; obtain ⟨hcz6_0, hcz6_1, hfz6_0, hfz6_1⟩ := cz2_ BK166.out) | ((with_reducible refine gate_callee (f := 80) rfl ?_); refine gm_ (some 7) Tryz.func80 #[.agg #[.int .i64 a0_0, .int .i64 a0_1]] rfl ?_; (with_reducible refine (spec_NodeCount.calls a0_0 a0_1 t167 _ A3.out).mono ?_); rintro e w7 ⟨rfl, hb⟩; refine ⟨_, rfl, ?_⟩; replace BK166 := kb_ BK166 hb; replace HB := hs_ HB hb; (try clear hb)) | ((with_reducible refine gate_callee (f := 91) rfl ?_); refine gm_ (some 9) Tryz.func91 #[.int .i64 a1, .int .i64 0, .int .i64 (wrap64 (t167 - 1))] rfl ?_; (with_reducible refine (spec_l01In.calls a1 0 (wrap64 (t167 - 1)) t168 _ A4.out).mono ?_); rintro e w' ⟨rfl, ⟨nd, rfl⟩⟩; refine ⟨_, rfl, ?_⟩))
 go_ret
 exact ⟨fin_, bb_ HB.out⟩

/-! ### spec_NodeAt: function 128 -/
def spec_NodeAt.f (a0_0 : Int) (a0_1 : Int) (a1 : Int) (a2 : Int) : Option (Int) := (spec_GridOk.f a0_0 a0_1).bind fun t170 => (if t170 = true then ((spec_l01In.f a1 0 (wrap64 (a0_0 - 1))).bind fun t171 => (if t171 = true then ((spec_l01In.f a2 0 (wrap64 (a0_1 - 1))).bind fun t172 => (if t172 = true then (some (wrap64 ((wrap64 (a2 * a0_0)) + a1))) else (some (-1)))) else (some (-1)))) else (some (-1)))
theorem spec_NodeAt.e0 {P : Prop} (h : P := by
 go_enter Tryz.func128, Tryz.ntmps128
 go_wp2_with (first | ((with_reducible refine gate_dst (N := 3) rfl ?_); refine box_event ?hg (N := 3) ?hd (cs := #[.int .i64 a0_0, .int .i64 a0_1]) (t := 36) ?hr ?_; (case hd => rfl); (case hg => rfl); (case hr => first | (go_simp; done) | (go_simp; rfl)); intro gb169 hg w_0 hbox hb; have BK169 := Aside0.mk (hbox); have GW169 := gw_ hg HB; have GE169 := gw_ hg HB; replace HB := hs_ HB hb; clear hb hbox hg; obtain ⟨hcz_0, hcz_1, hfz_0, hfz_1⟩ := cz2_ BK169.out) | ((with_reducible refine gate_callee (f := 112) rfl ?_); refine gm_ (some 8) Tryz.func112 #[.agg #[.int .i64 a0_0, .int .i64 a0_1]] rfl ?_; (with_reducible refine (spec_GridOk.calls a0_0 a0_1 _ _ A4.out).mono ?_); rintro e w_0 ⟨rfl, hb⟩; refine ⟨_, rfl, ?_⟩; replace BK169 := kb_ BK169 hb; replace HB := hs_ HB hb; (try clear hb); obtain ⟨hcz_0, hcz_1, hfz_0, hfz_1⟩ := cz2_ BK169.out) | (go_at_call 91; (with_reducible refine (spec_l01In.calls a1 0 (wrap64 (a0_0 - 1)) _ _ A6.out).mono ?_); rintro e w' ⟨rfl, ⟨nd, rfl⟩⟩) | (go_at_call 91; (with_reducible refine (spec_l01In.calls a2 0 (wrap64 (a0_1 - 1)) _ _ A8.out).mono ?_); rintro e w' ⟨rfl, ⟨nd, rfl⟩⟩))
 go_ret
 exact ⟨fin_, bb_ HB.out⟩) : P := h
theorem spec_NodeAt.calls (a0_0 : Int) (a0_1 : Int) (a1 : Int) (a2 : Int) (r : Int) (w : World) (h : spec_NodeAt.f a0_0 a0_1 a1 a2 = some r) :
  Calls Tryz.prog 128 #[.agg #[.int .i64 a0_0, .int .i64 a0_1], .int .i64 a1, .int .i64 a2] w fun e w' => e = .returned (.int .i64 r) ∧ Below w.heap.size w w' := by
 have hu36 := Tryz.underlying36
 have HB := Aside0.mk (Below.refl w.heap.size w)
 have H : ((spec_GridOk.f a0_0 a0_1).bind fun t170 => (if t170 = true then ((spec_l01In.f a1 0 (wrap64 (a0_0 - 1))).bind fun t171 => (if t171 = true then ((spec_l01In.f a2 0 (wrap64 (a0_1 - 1))).bind fun t172 => (if t172 = true then (some (wrap64 ((wrap64 (a2 * a0_0)) + a1))) else (some (-1)))) else (some (-1)))) else (some (-1)))) = some r := h
 clear h
 obtain ⟨t170, A4, H⟩ := bi_ H
 by_cases c5 : t170 = true
 ·subst c5
  rw [if_pos rfl] at H
  obtain ⟨t171, A6, H⟩ := bi_ H
  by_cases c7 : t171 = true
  rotate_left
  ·replace c7 := Bool.eq_false_iff.mpr c7
   subst c7
   rw [if_neg (show ¬ (false = true) by decide)] at H
   obtain rfl := Option.some.inj H
   exact spec_NodeAt.e0
  subst c7
  rw [if_pos rfl] at H
  obtain ⟨t172, A8, H⟩ := bi_ H
  by_cases c9 : t172 = true
  ·subst c9
   rw [if_pos rfl] at H
   obtain rfl := Option.some.inj H
   exact spec_NodeAt.e0
  replace c9 := Bool.eq_false_iff.mpr c9
  subst c9
  rw [if_neg (show ¬ (false = true) by decide)] at H
  obtain rfl := Option.some.inj H
  exact spec_NodeAt.e0
 ·replace c5 := Bool.eq_false_iff.mpr c5
  subst c5
  rw [if_neg (show ¬ (false = true) by decide)] at H
  obtain rfl := Option.some.inj H
  exact spec_NodeAt.e0

/-! ### spec_NextNode: function 114 -/
def spec_NextNode.f (a0_0 : Int) (a0_1 : Int) (a1 : Int) (a2 : Int) : Option (Int) := (spec_l02Has.f a0_0 a0_1 a1).bind fun t174 => (if t174 = true then (if a0_0 = 0 then (none) else (if a2 = 0 then ((spec_NodeAt.f a0_0 a0_1 (Int.tmod a1 a0_0) (wrap64 ((wrap64 (Int.tdiv a1 a0_0)) - 1))).bind fun t175 => (some t175)) else (if a2 = 1 then ((spec_NodeAt.f a0_0 a0_1 (wrap64 ((Int.tmod a1 a0_0) + 1)) (wrap64 (Int.tdiv a1 a0_0))).bind fun t176 => (some t176)) else (if a2 = 2 then ((spec_NodeAt.f a0_0 a0_1 (Int.tmod a1 a0_0) (wrap64 ((wrap64 (Int.tdiv a1 a0_0)) + 1))).bind fun t177 => (some t177)) else (if a2 = 3 then ((spec_NodeAt.f a0_0 a0_1 (wrap64 ((Int.tmod a1 a0_0) - 1)) (wrap64 (Int.tdiv a1 a0_0))).bind fun t178 => (some t178)) else (if a2 = 4 then (some a1) else (some (-1)))))))) else (some (-1)))
theorem spec_NextNode.e0 {P : Prop} (h : P := by
 go_enter Tryz.func114, Tryz.ntmps114
 go_wp2_with (first | ((with_reducible refine gate_dst (N := 3) rfl ?_); refine box_event ?hg (N := 3) ?hd (cs := #[.int .i64 a0_0, .int .i64 a0_1]) (t := 36) ?hr ?_; (case hd => rfl); (case hg => rfl); (case hr => first | (go_simp; done) | (go_simp; rfl)); intro gb173 hg w_0 hbox hb; have BK173 := Aside0.mk (hbox); have GW173 := gw_ hg HB; have GE173 := gw_ hg HB; replace HB := hs_ HB hb; clear hb hbox hg; obtain ⟨hcz_0, hcz_1, hfz_0, hfz_1⟩ := cz2_ BK173.out) | ((with_reducible refine gate_callee (f := 127) rfl ?_); refine gm_ (some 11) Tryz.func127 #[.agg #[.int .i64 a0_0, .int .i64 a0_1], .int .i64 a1] rfl ?_; (with_reducible refine (spec_l02Has.calls a0_0 a0_1 a1 _ _ A4.out).mono ?_); rintro e w_0 ⟨rfl, hb⟩; refine ⟨_, rfl, ?_⟩; replace BK173 := kb_ BK173 hb; replace HB := hs_ HB hb; (try clear hb); obtain ⟨hcz_0, hcz_1, hfz_0, hfz_1⟩ := cz2_ BK173.out) | ((with_reducible refine gate_callee (f := 128) rfl ?_); refine gm_ (some 28) Tryz.func128 #[.agg #[.int .i64 a0_0, .int .i64 a0_1], .int .i64 (Int.tmod a1 a0_0), .int .i64 (wrap64 ((wrap64 (Int.tdiv a1 a0_0)) - 1))] rfl ?_; (with_reducible refine (spec_NodeAt.calls a0_0 a0_1 (Int.tmod a1 a0_0) (wrap64 ((wrap64 (Int.tdiv a1 a0_0)) - 1)) t175 _ A8.out).mono ?_); rintro e w_0 ⟨rfl, hb⟩; refine ⟨_, rfl, ?_⟩; replace BK173 := kb_ BK173 hb; replace HB := hs_ HB hb; (try clear hb)) | ((with_reducible refine gate_callee (f := 128) rfl ?_); refine gm_ (some 35) Tryz.func128 #[.agg #[.int .i64 a0_0, .int .i64 a0_1], .int .i64 (wrap64 ((Int.tmod a1 a0_0) + 1)), .int .i64 (wrap64 (Int.tdiv a1 a0_0))] rfl ?_; (with_reducible refine (spec_NodeAt.calls a0_0 a0_1 (wrap64 ((Int.tmod a1 a0_0) + 1)) (wrap64 (Int.tdiv a1 a0_0)) t176 _ A15.out).mono ?_); rintro e w_0 ⟨rfl, hb⟩; refine ⟨_, rfl, ?_⟩; replace BK173 := kb_ BK173 hb; replace HB := hs_ HB hb; (try clear hb)) | ((with_reducible refine gate_callee (f := 128) rfl ?_); refine gm_ (some 42) Tryz.func128 #[.agg #[.int .i64 a0_0, .int .i64 a0_1], .int .i64 (Int.tmod a1 a0_0), .int .i64 (wrap64 ((wrap64 (Int.tdiv a1 a0_0)) + 1))] rfl ?_; (with_reducible refine (spec_NodeAt.calls a0_0 a0_1 (Int.tmod a1 a0_0) (wrap64 ((wrap64 (Int.tdiv a1 a0_0)) + 1)) t177 _ A22.out).mono ?_); rintro e w_0 ⟨rfl, hb⟩; refine ⟨_, rfl, ?_⟩; replace BK173 := kb_ BK173 hb; replace HB := hs_ HB hb; (try clear hb)) | ((with_reducible refine gate_callee (f := 128) rfl ?_); refine gm_ (some 49) Tryz.func128 #[.agg #[.int .i64 a0_0, .int .i64 a0_1], .int .i64 (wrap64 ((Int.tmod a1 a0_0) - 1)), .int .i64 (wrap64 (Int.tdiv a1 a0_0))] rfl ?_; (with_reducible refine (spec_NodeAt.calls a0_0 a0_1 (wrap64 ((Int.tmod a1 a0_0) - 1)) (wrap64 (Int.tdiv a1 a0_0)) t178 _ A29.out).mono ?_); rintro e w_0 ⟨rfl, hb⟩; refine ⟨_, rfl, ?_⟩; replace BK173 := kb_ BK173 hb; replace HB := hs_ HB hb; (try clear hb)))
 go_ret
 exact ⟨fin_, bb_ HB.out⟩) : P := h
theorem spec_NextNode.calls (a0_0 : Int) (a0_1 : Int) (a1 : Int) (a2 : Int) (r : Int) (w : World) (h : spec_NextNode.f a0_0 a0_1 a1 a2 = some r) :
  Calls Tryz.prog 114 #[.agg #[.int .i64 a0_0, .int .i64 a0_1], .int .i64 a1, .int .i64 a2] w fun e w' => e = .returned (.int .i64 r) ∧ Below w.heap.size w w' := by
 have hu36 := Tryz.underlying36
 have HB := Aside0.mk (Below.refl w.heap.size w)
 have H : ((spec_l02Has.f a0_0 a0_1 a1).bind fun t174 => (if t174 = true then (if a0_0 = 0 then (none) else (if a2 = 0 then ((spec_NodeAt.f a0_0 a0_1 (Int.tmod a1 a0_0) (wrap64 ((wrap64 (Int.tdiv a1 a0_0)) - 1))).bind fun t175 => (some t175)) else (if a2 = 1 then ((spec_NodeAt.f a0_0 a0_1 (wrap64 ((Int.tmod a1 a0_0) + 1)) (wrap64 (Int.tdiv a1 a0_0))).bind fun t176 => (some t176)) else (if a2 = 2 then ((spec_NodeAt.f a0_0 a0_1 (Int.tmod a1 a0_0) (wrap64 ((wrap64 (Int.tdiv a1 a0_0)) + 1))).bind fun t177 => (some t177)) else (if a2 = 3 then ((spec_NodeAt.f a0_0 a0_1 (wrap64 ((Int.tmod a1 a0_0) - 1)) (wrap64 (Int.tdiv a1 a0_0))).bind fun t178 => (some t178)) else (if a2 = 4 then (some a1) else (some (-1)))))))) else (some (-1)))) = some r := h
 clear h
 obtain ⟨t174, A4, H⟩ := bi_ H
 by_cases c5 : t174 = true
 ·subst c5
  rw [if_pos rfl] at H
  by_cases c6 : a0_0 = 0
  ·rw [if_pos c6] at H
   exact absurd H (by simp)
  rw [if_neg c6] at H
  have c6b0 : (a0_0 == 0) = false := beq_eq_false_iff_ne.mpr c6
  have c6b1 : (a0_0 != 0) = true := bne_iff_ne.mpr c6
  by_cases c7 : a2 = 0
  ·rw [if_pos c7] at H
   have c7b0 : (a2 == 0) = true := beq_iff_eq.mpr c7
   have c7b1 : (a2 != 0) = false := bne_eq_false_iff_eq.mpr c7
   clear c7
   obtain ⟨t175, A8, H⟩ := bi_ H
   obtain rfl := Option.some.inj H
   exact spec_NextNode.e0
  rw [if_neg c7] at H
  have c7b0 : (a2 == 0) = false := beq_eq_false_iff_ne.mpr c7
  have c7b1 : (a2 != 0) = true := bne_iff_ne.mpr c7
  by_cases c14 : a2 = 1
  ·rw [if_pos c14] at H
   have c14b0 : (a2 == 1) = true := beq_iff_eq.mpr c14
   have c14b1 : (a2 != 1) = false := bne_eq_false_iff_eq.mpr c14
   clear c14
   obtain ⟨t176, A15, H⟩ := bi_ H
   obtain rfl := Option.some.inj H
   exact spec_NextNode.e0
  rw [if_neg c14] at H
  have c14b0 : (a2 == 1) = false := beq_eq_false_iff_ne.mpr c14
  have c14b1 : (a2 != 1) = true := bne_iff_ne.mpr c14
  by_cases c21 : a2 = 2
  ·rw [if_pos c21] at H
   have c21b0 : (a2 == 2) = true := beq_iff_eq.mpr c21
   have c21b1 : (a2 != 2) = false := bne_eq_false_iff_eq.mpr c21
   clear c21
   obtain ⟨t177, A22, H⟩ := bi_ H
   obtain rfl := Option.some.inj H
   exact spec_NextNode.e0
  rw [if_neg c21] at H
  have c21b0 : (a2 == 2) = false := beq_eq_false_iff_ne.mpr c21
  have c21b1 : (a2 != 2) = true := bne_iff_ne.mpr c21
  by_cases c28 : a2 = 3
  ·rw [if_pos c28] at H
   have c28b0 : (a2 == 3) = true := beq_iff_eq.mpr c28
   have c28b1 : (a2 != 3) = false := bne_eq_false_iff_eq.mpr c28
   clear c28
   obtain ⟨t178, A29, H⟩ := bi_ H
   obtain rfl := Option.some.inj H
   exact spec_NextNode.e0
  rw [if_neg c28] at H
  have c28b0 : (a2 == 3) = false := beq_eq_false_iff_ne.mpr c28
  have c28b1 : (a2 != 3) = true := bne_iff_ne.mpr c28
  by_cases c35 : a2 = 4
  rotate_left
  ·rw [if_neg c35] at H
   have c35b0 : (a2 == 4) = false := beq_eq_false_iff_ne.mpr c35
   have c35b1 : (a2 != 4) = true := bne_iff_ne.mpr c35
   obtain rfl := Option.some.inj H
   exact spec_NextNode.e0
  rw [if_pos c35] at H
  have c35b0 : (a2 == 4) = true := beq_iff_eq.mpr c35
  have c35b1 : (a2 != 4) = false := bne_eq_false_iff_eq.mpr c35
  clear c35
  obtain rfl := Option.some.inj H
  exact spec_NextNode.e0
 ·replace c5 := Bool.eq_false_iff.mpr c5
  subst c5
  rw [if_neg (show ¬ (false = true) by decide)] at H
  obtain rfl := Option.some.inj H
  exact spec_NextNode.e0

/-! ### spec_l03Leads: function 124 -/
def spec_l03Leads.f (a0_0 : Int) (a0_1 : Int) (a1 : Int) : Option (Bool) := (spec_NodeCount.f a0_0 a0_1).bind fun t180 => ((spec_l01In.f a1 0 (wrap64 ((wrap64 (4 * t180)) - 1))).bind fun t181 => (if t181 = true then ((spec_NextNode.f a0_0 a0_1 (wrap64 (Int.tdiv a1 4)) (Int.tmod a1 4)).bind fun t182 => (some (decide (t182 ≥ 0)))) else (some false)))
theorem spec_l03Leads.e0 {P : Prop} (h : P := by
 go_enter Tryz.func124, Tryz.ntmps124
 go_wp2_with (first | ((with_reducible refine gate_dst (N := 2) rfl ?_); refine box_event ?hg (N := 2) ?hd (cs := #[.int .i64 a0_0, .int .i64 a0_1]) (t := 36) ?hr ?_; (case hd => rfl); (case hg => rfl); (case hr => first | (go_simp; done) | (go_simp; rfl)); intro gb179 hg w_0 hbox hb; have BK179 := Aside0.mk (hbox); have GW179 := gw_ hg HB; have GE179 := gw_ hg HB; replace HB := hs_ HB hb; clear hb hbox hg; obtain ⟨hcz_0, hcz_1, hfz_0, hfz_1⟩ := cz2_ BK179.out) | ((with_reducible refine gate_callee (f := 80) rfl ?_); refine gm_ (some 7) Tryz.func80 #[.agg #[.int .i64 a0_0, .int .i64 a0_1]] rfl ?_; (with_reducible refine (spec_NodeCount.calls a0_0 a0_1 t180 _ A3.out).mono ?_); rintro e w_0 ⟨rfl, hb⟩; refine ⟨_, rfl, ?_⟩; replace BK179 := kb_ BK179 hb; replace HB := hs_ HB hb; (try clear hb)) | ((with_reducible refine gate_callee (f := 91) rfl ?_); refine gm_ (some 10) Tryz.func91 #[.int .i64 a1, .int .i64 0, .int .i64 (wrap64 ((wrap64 (4 * t180)) - 1))] rfl ?_; (with_reducible refine (spec_l01In.calls a1 0 (wrap64 ((wrap64 (4 * t180)) - 1)) _ _ A4.out).mono ?_); rintro e w' ⟨rfl, ⟨nd, rfl⟩⟩; refine ⟨_, rfl, ?_⟩; obtain ⟨hcz_0, hcz_1, hfz_0, hfz_1⟩ := cz2_ BK179.out) | (go_at_call 114; (with_reducible refine (spec_NextNode.calls a0_0 a0_1 (wrap64 (Int.tdiv a1 4)) (Int.tmod a1 4) t182 _ A6.out).mono ?_); rintro e w_0 ⟨rfl, hb⟩; replace BK179 := kb_ BK179 hb; replace HB := hs_ HB hb; (try clear hb)))
 go_ret
 exact ⟨fin_, bb_ HB.out⟩) : P := h
theorem spec_l03Leads.calls (a0_0 : Int) (a0_1 : Int) (a1 : Int) (r : Bool) (w : World) (h : spec_l03Leads.f a0_0 a0_1 a1 = some r) :
  Calls Tryz.prog 124 #[.agg #[.int .i64 a0_0, .int .i64 a0_1], .int .i64 a1] w fun e w' => e = .returned (.bool r) ∧ Below w.heap.size w w' := by
 have hu36 := Tryz.underlying36
 have HB := Aside0.mk (Below.refl w.heap.size w)
 have H : ((spec_NodeCount.f a0_0 a0_1).bind fun t180 => ((spec_l01In.f a1 0 (wrap64 ((wrap64 (4 * t180)) - 1))).bind fun t181 => (if t181 = true then ((spec_NextNode.f a0_0 a0_1 (wrap64 (Int.tdiv a1 4)) (Int.tmod a1 4)).bind fun t182 => (some (decide (t182 ≥ 0)))) else (some false)))) = some r := h
 clear h
 obtain ⟨t180, A3, H⟩ := bi_ H
 obtain ⟨t181, A4, H⟩ := bi_ H
 by_cases c5 : t181 = true
 ·subst c5
  rw [if_pos rfl] at H
  obtain ⟨t182, A6, H⟩ := bi_ H
  obtain rfl := Option.some.inj H
  exact spec_l03Leads.e0
 ·replace c5 := Bool.eq_false_iff.mpr c5
  subst c5
  rw [if_neg (show ¬ (false = true) by decide)] at H
  obtain rfl := Option.some.inj H
  exact spec_l03Leads.e0

end Go.Proofs.YtimdefbpoddoaaaGreat.PFnVerdicts
-- thin
