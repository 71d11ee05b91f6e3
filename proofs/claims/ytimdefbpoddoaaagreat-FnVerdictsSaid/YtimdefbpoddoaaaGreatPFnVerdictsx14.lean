/- The law's functions as plain functions, and their calls. No condition. -/
import Derived.Test.YtimdefbpoddoaaaGreatPFnVerdictsx0
import Derived.Test.YtimdefbpoddoaaaGreatPFnVerdictsx1
import Derived.Test.YtimdefbpoddoaaaGreatPFnVerdictsx6
import Derived.Test.YtimdefbpoddoaaaGreatPFnVerdictsx7
import Derived.Test.YtimdefbpoddoaaaGreatPFnVerdictsx8
import Derived.Test.YtimdefbpoddoaaaGreatPFnVerdictsx9
import Derived.Test.YtimdefbpoddoaaaGreatPFnVerdictsx12
import Derived.Test.YtimdefbpoddoaaaGreatPFnVerdictsx13
namespace Go.Proofs.YtimdefbpoddoaaaGreat.PFnVerdicts
open Go.RowKit Go.Proofs.YtimdefbpoddoaaaGreatW.PrintWords Go.Proofs.YtimdefbpoddoaaaGreatW.PrintLast Go.Proofs.YtimdefbpoddoaaaGreatW.PrintMore
attribute [local go_sem] max2_int min2_int max_two min_two max_three min_three max_four min_four
set_option linter.unusedVariables false
set_option maxHeartbeats 8000000
set_option maxRecDepth 100000
set_option linter.unusedSimpArgs false

attribute [local go_sem high] eqA98
/-! ### impl_DependsOf: function 45 -/
/-- The dependencies along one walk, put behind what there is. -/
def impl_DependsOf.l3 : Nat → List Int → Int → List S98 → Option (List S98)
 | 0, _, _, _ => none
 | k + 1, ws, i, o => if i < (ws.length : Int) then (if 0 ≤ wrap64 (i - 1) then (if wrap64 (i - 1) < (ws.length : Int) then (if 0 ≤ i then (if o.length < 8796093022208 then (impl_DependsOf.l3 k ws (wrap64 (i + 1)) (o ++ [(⟨rd ws (wrap64 (i - 1)), rd ws i⟩ : S98)])) else none) else none) else none) else none) else (some o)
def impl_DependsOf.v (k : Nat) (a0 a1 : Int) (l2 l3 : List Int) (x y : Int) (o : List S98) : Option (List S98) := (impl_WalkTable.f k a0 a1 l2 l3 x y).bind fun ws => impl_DependsOf.l3 k ws 1 o
mutual
def impl_DependsOf.l1 : Nat → Int → Int → List Int → List Int → Int → Int → List S98 → Option (List S98)
 | 0, _, _, _, _, _, _, _ => none
 | k + 1, a0, a1, l2, l3, n, x, o => if x < n then (impl_DependsOf.l2 k a0 a1 l2 l3 n x 0 o) else (some o)
def impl_DependsOf.l2 : Nat → Int → Int → List Int → List Int → Int → Int → Int → List S98 → Option (List S98)
 | 0, _, _, _, _, _, _, _, _ => none
 | k + 1, a0, a1, l2, l3, n, x, y, o => if y < n then (if x = y then (impl_DependsOf.l2 k a0 a1 l2 l3 n x (wrap64 (y + 1)) o) else ((impl_DependsOf.v k a0 a1 l2 l3 x y o).bind fun o' => impl_DependsOf.l2 k a0 a1 l2 l3 n x (wrap64 (y + 1)) o')) else (impl_DependsOf.l1 k a0 a1 l2 l3 n (wrap64 (x + 1)) o)
end
def impl_DependsOf.ps (k : Nat) (a0 a1 : Int) (l2 l3 : List Int) (o : List S98) : Option (List S98) := (impl_NodeCount.f a0 a1).bind fun n => impl_DependsOf.l1 k a0 a1 l2 l3 n 0 o
def impl_DependsOf.f (k : Nat) (a0 a1 : Int) (l2 l3 : List Int) : Option (List S98) := (impl_TableOk.f k a0 a1 l2 l3).bind fun ok => (if ok = true then ((impl_DependsOf.ps k a0 a1 l2 l3 []).bind fun o => impl_arranged.f o) else (some []))
theorem impl_DependsOf.mono_l3 : ∀ k ws i o, LeO (impl_DependsOf.l3 k ws i o) (impl_DependsOf.l3 (k + 1) ws i o)
 | 0, _, _, _ => fun r h => by simp [impl_DependsOf.l3] at h
 | k + 1, ws, i, o => by
  have ih := impl_DependsOf.mono_l3 k
  unfold impl_DependsOf.l3
  exact LeO.ite (LeO.ite (LeO.ite (LeO.ite (LeO.ite (ih _ _ _) (LeO.refl _)) (LeO.refl _)) (LeO.refl _)) (LeO.refl _)) (LeO.refl _)
theorem impl_DependsOf.v_mono (k : Nat) (a0 a1 : Int) (l2 l3 : List Int) (x y : Int) (o : List S98) : LeO (impl_DependsOf.v k a0 a1 l2 l3 x y o) (impl_DependsOf.v (k + 1) a0 a1 l2 l3 x y o) := by
 unfold impl_DependsOf.v
 exact LeO.bind (impl_WalkTable.mono _ _ _ _ _ _ _) (fun _ => impl_DependsOf.mono_l3 _ _ _ _)
theorem impl_DependsOf.mono_l : ∀ k, (∀ a0 a1 l2 l3 n x o, LeO (impl_DependsOf.l1 k a0 a1 l2 l3 n x o) (impl_DependsOf.l1 (k + 1) a0 a1 l2 l3 n x o)) ∧ (∀ a0 a1 l2 l3 n x y o, LeO (impl_DependsOf.l2 k a0 a1 l2 l3 n x y o) (impl_DependsOf.l2 (k + 1) a0 a1 l2 l3 n x y o))
 | 0 => ⟨fun _ _ _ _ _ _ _ r h => by simp [impl_DependsOf.l1] at h, fun _ _ _ _ _ _ _ _ r h => by simp [impl_DependsOf.l2] at h⟩
 | k + 1 => by
  obtain ⟨ih1, ih2⟩ := impl_DependsOf.mono_l k
  refine ⟨fun a0 a1 l2 l3 n x o => ?_, fun a0 a1 l2 l3 n x y o => ?_⟩
  ·unfold impl_DependsOf.l1
   exact LeO.ite (ih2 _ _ _ _ _ _ _ _) (LeO.refl _)
  ·unfold impl_DependsOf.l2
   exact LeO.ite (LeO.ite (ih2 _ _ _ _ _ _ _ _) (LeO.bind (impl_DependsOf.v_mono _ _ _ _ _ _ _ _) (fun _ => ih2 _ _ _ _ _ _ _ _))) (ih1 _ _ _ _ _ _ _)
theorem impl_DependsOf.ps_mono (k : Nat) (a0 a1 : Int) (l2 l3 : List Int) (o : List S98) : LeO (impl_DependsOf.ps k a0 a1 l2 l3 o) (impl_DependsOf.ps (k + 1) a0 a1 l2 l3 o) := by
 unfold impl_DependsOf.ps
 exact LeO.bind (LeO.refl _) (fun _ => (impl_DependsOf.mono_l k).1 _ _ _ _ _ _ _)
theorem impl_DependsOf.mono (a0 a1 : Int) (l2 l3 : List Int) : ∀ k, LeO (impl_DependsOf.f k a0 a1 l2 l3) (impl_DependsOf.f (k + 1) a0 a1 l2 l3) := by
 intro k
 unfold impl_DependsOf.f
 exact LeO.bind (impl_TableOk.mono _ _ _ _ _) (fun _ => LeO.ite (LeO.bind (impl_DependsOf.ps_mono _ _ _ _ _ _) (fun _ => LeO.refl _)) (LeO.refl _))
/-- What a call beneath may write: the box g, and rows of dependencies. -/
def impl_DependsOf.St (g : Nat) (w W : World) : Prop := w.heap.size ≤ W.heap.size ∧ ∀ k, k < w.heap.size → k ≠ g → (∀ cs, w.heap[k]? ≠ some (.cells cs 98 (0, 0))) → W.heap[k]? = w.heap[k]?
theorem impl_DependsOf.St.trans {g : Nat} {w V W : World} (h1 : impl_DependsOf.St g w V) (h2 : impl_DependsOf.St g V W) : impl_DependsOf.St g w W := ⟨Nat.le_trans h1.1 h2.1, fun k hk hg hc => by
 have e := h1.2 k hk hg hc
 rw [h2.2 k (Nat.lt_of_lt_of_le hk h1.1) hg (by rw [e]; exact hc), e]⟩
theorem impl_DependsOf.St.of_below {g : Nat} {w W : World} (h : Below w.heap.size w W) : impl_DependsOf.St g w W := ⟨h.size, fun k hk _ _ => h.block k hk⟩
theorem impl_DependsOf.St.blk {g gb : Nat} {w W : World} {t : TypeId} {cs : Array Value} (h : impl_DependsOf.St g w W) (hb : w.heap[gb]? = some (.cells cs t (0, 0))) (hg : gb ≠ g) (ht : t ≠ 98) : W.heap[gb]? = some (.cells cs t (0, 0)) := (h.2 gb (blk_lt hb) hg (fun cs' e => by
 rw [hb] at e
 injection e with e
 injection e with _ e _
 exact ht e)).trans hb
theorem impl_DependsOf.St.grown {g base : Nat} {ok : Nat → Prop} {W w1 : World} {v : Value} {o : List S98} (hg : W.grownBy w1 v.ownBlock) (hR : Kd.R k98 98 W base ok v o) : impl_DependsOf.St g W w1 := ⟨hg.size, fun k hk _ hc => hg.block k hk (fun e => by
 obtain ⟨cells, h⟩ := Kd.R_typed hR k e.symm
 exact hc cells h)⟩
theorem impl_DependsOf.St.set (g : Nat) (w : World) (u : Value) : impl_DependsOf.St g w (w.setCell ⟨g, 0, none⟩ u) := ⟨((Below.refl 0 w).setCell (p := ⟨g, 0, none⟩) (Nat.zero_le _) u).size, fun k _ hg _ => Below.heap_setCell w ⟨g, 0, none⟩ u k hg⟩
theorem impl_DependsOf.St.ri {g base : Nat} {ok : Nat → Prop} {w W : World} {v u : Value} {xs : List Int} (h : impl_DependsOf.St g w W) (hgo : w.heap[g]? = some (.cells #[u] 62 (0, 0))) (hR : Kd.R (Kd.int .i64) 3 w base ok v xs) : Kd.R (Kd.int .i64) 3 W base ok v xs :=
 Kd.R_mono (Kd.R_move (Kd.R_bound hR) (fun k hk => by
  obtain ⟨_, _, hlt, q, hq, cells, hc⟩ := hk
  have hq : q ∈ [3] := hq
  rw [List.mem_singleton] at hq
  subst hq
  refine h.2 k hlt (fun e => ?_) (fun cs e => ?_)
  ·rw [e, hgo] at hc
   injection hc with hc
   injection hc with _ hc _
   exact absurd hc (by decide)
  ·rw [hc] at e
   injection e with e
   injection e with _ e _
   exact absurd e (by decide))) (fun _ hk => hk.1)
theorem impl_DependsOf.inf : (Tryz.prog.info? 98).map (fun i => (i.zero, i.size, i.bytes)) = some (some (.agg #[(.int .i64 0), (.int .i64 0)]), 2, 16) := by kernel_rfl
/-- The list so far, in its box. -/
def impl_DependsOf.Ok (w0 : World) (g : Nat) (w : World) (o : List S98) : Prop := Below w0.heap.size w0 w ∧ w0.heap.size ≤ g ∧ ∃ v, w.heap[g]? = some (.cells #[v] 62 (0, 0)) ∧ Kd.R k98 98 w w0.heap.size (fun _ => True) v o
theorem impl_DependsOf.Ok.below {w0 w W : World} {g : Nat} {o : List S98} (h : impl_DependsOf.Ok w0 g w o) (hb : Below w.heap.size w W) : impl_DependsOf.Ok w0 g W o := by
 obtain ⟨h1, h2, v, h3, h4⟩ := h
 exact ⟨below_step h1 hb, h2, v, blk_below h3 hb, Kd.R_below h4 hb⟩
set_option maxHeartbeats 2000000 in
/-- The function literal: one dependency more. -/
theorem impl_DependsOf.vis (g : Nat) (x y : Int) (o : List S98) (w0 w : World) (hok : impl_DependsOf.Ok w0 g w o) (hl : o.length < 8796093022208) :
  Calls Tryz.prog 72 #[.int .i64 x, .int .i64 y, .pointer (some ⟨g, 0, none⟩)] w fun e w' => e = .returned (.tuple #[]) ∧ impl_DependsOf.Ok w0 g w' (o ++ [(⟨x, y⟩ : S98)]) ∧ impl_DependsOf.St g w w' := by
 obtain ⟨hB, hg, v, hb, hR⟩ := hok
 obtain ⟨hcz, hfz⟩ := cz1_ hb
 have HBK := Aside0.mk hb
 have HR := Aside0.mk hR
 have HB := Aside0.mk hB
 have HG := Aside0.mk hg
 have HL := Aside0.mk hl
 have HS := Aside0.mk (Below.refl w.heap.size w)
 have HNE := Aside0.mk (show some g ≠ v.ownBlock from fun e => by
  obtain ⟨cells, hc⟩ := Kd.R_typed hR g e.symm
  rw [hb] at hc
  injection hc with hc
  injection hc with _ hc _
  exact absurd hc (by decide))
 clear hb hR hB hg hl
 go_enter Tryz.func72, Tryz.ntmps72
 go_wp2_with (first | ((with_reducible refine gate_builtin (b := .append) (xs := #[.tmp 5, .tmp 9]) rfl ?_); at_builtin; refine Kd.R_append k98 (w0 := w0) w0.heap.size rfl (.tmp 5) (.tmp 9) 62 98 (.agg #[(.int .i64 0), (.int .i64 0)]) 16 rfl Tryz.underlying62 impl_DependsOf.inf rfl (by decide) (by omega) v o (⟨x, y⟩ : S98) [.int .i64 x, .int .i64 y] (fun _ => True) (fun _ => False) rfl rfl ?aP (fun _ hk => hk.elim) ?aF ?aO ?aB ?aS ?aL ?_; (case aP => exact k98_mkM _ _ _ (⟨x, y⟩ : S98)); (case aF => exact fun _ _ => trivial); (case aO => exact (ra_ HR.out)); (case aB => exact bb_ HB.out); (case aS => exact bz_ HB.out); (case aL => have := HL.out; omega); intro v1 w1 ho hb1 hg1 hat; (generalize hq : o ++ [(⟨x, y⟩ : S98)] = q at ho); have HQ := Aside0.mk hq; clear hq; obtain ⟨Ao, co, rfl⟩ := Kd.R_slice ho; have HO := Aside0.mk ho; have HB1 := Aside0.mk hb1; have HS1 := Aside0.mk (impl_DependsOf.St.trans (g := g) (impl_DependsOf.St.of_below (bb_ HS.out)) (impl_DependsOf.St.grown hg1 (ra_ HR.out))); have HBK1 := Aside0.mk (blk_grown (bq_ HBK.out) hg1 HNE.out); clear ho hb1 hg1 hat hcz hfz; obtain ⟨hcz, hfz⟩ := cz1_ HBK1.out))
 go_end0
 rw [HQ.out]
 exact ⟨by first | rfl | (simp; done), ⟨HB1.out.setCell HG.out _, HG.out, _, blk_put HBK1.out 0 _ rfl, Kd.R_set HO.out HBK1.out (by decide) 0 _⟩, impl_DependsOf.St.trans HS1.out (impl_DependsOf.St.set g _ _)⟩
set_option maxHeartbeats 4000000 in
/-- The function literal of 'adjacent': the walk between two nodes, hop by hop. -/
theorem impl_DependsOf.adj1 (k : Nat) (a0 a1 : Int) (A2 : Option Addr) (c2 : Nat) (l2 : List Int) (A3 : Option Addr) (c3 : Nat) (l3 : List Int) (x y : Int) (o r : List S98) (gm gt gv g : Nat) (w0 w : World)
  (hr2 : Kd.C (Kd.int .i64) w0 A2 l2.length l2) (hc2 : l2.length ≤ c2) (hr3 : Kd.C (Kd.int .i64) w0 A3 l3.length l3) (hc3 : l3.length ≤ c3)
  (bm : w.heap[gm]? = some (.cells #[.int .i64 a0, .int .i64 a1, .slice A2 l2.length c2] 38 (0, 0))) (bt : w.heap[gt]? = some (.cells #[.slice A3 l3.length c3] 40 (0, 0)))
  (bv : w.heap[gv]? = some (.cells #[.func (.func 72) #[] #[.pointer (some ⟨g, 0, none⟩)]] 99 (0, 0)))
  (hok : impl_DependsOf.Ok w0 g w o) (h : impl_DependsOf.v k a0 a1 l2 l3 x y o = some r) :
  Calls Tryz.prog 104 #[.int .i64 x, .int .i64 y, .pointer (some ⟨gm, 0, none⟩), .pointer (some ⟨gt, 0, none⟩), .pointer (some ⟨gv, 0, none⟩)] w fun e w' => e = .returned (.bool true) ∧ impl_DependsOf.Ok w0 g w' r ∧ impl_DependsOf.St g w w' := by
 obtain ⟨ws, hw, hv⟩ := Option.bind_eq_some_iff.1 h
 obtain ⟨hm0, hm1, hm2, fm0, fm1, fm2⟩ := cz3_ bm
 obtain ⟨ht0, ft0⟩ := cz1_ bt
 have HR2 := Aside0.mk (Kd.C_below hr2 hok.1)
 have HR3 := Aside0.mk (Kd.C_below hr3 hok.1)
 have HC2 := Aside0.mk hc2
 have HC3 := Aside0.mk hc3
 have HW := Aside0.mk hw
 have HV := Aside0.mk hv
 have HGV := Aside0.mk (show gv ≠ g from by
  obtain ⟨_, _, v, hb, _⟩ := hok
  exact blk_ne bv hb (by decide))
 have HBV := Aside0.mk bv
 have HO := Aside0.mk hok
 have HS := Aside0.mk (Below.refl w.heap.size w)
 clear hr2 hr3 hc2 hc3 hw hv h bm bt bv hok
 go_enter Tryz.func104, Tryz.ntmps104
 go_wp2_with (first | (go_at_call 57; (with_reducible refine (impl_WalkTable.calls k a0 a1 A2 c2 l2 A3 c3 l3 x y ws _ ?side1 HC2.out ?side2 HC3.out HW.out).mono ?_); (case side1 => exact cb_ HR2.out HS.out); (case side2 => exact cb_ HR3.out HS.out); rintro e w1 ⟨v, rfl, hR, hb⟩; obtain ⟨Aw, cw, rfl⟩ := Kd.R_slice hR; have HS1 := Aside0.mk (bs_ HS.out hb); have HWK := Aside0.mk (Kd.R_lower hR (bz_ HO.out.1)); clear hR hb hm0 hm1 hm2 fm0 fm1 fm2 ht0 ft0))
 go_loopg [9] k (fun kq v9 w' => ∃ (i : Int) (q : List S98), v9 = .int .i64 i ∧ Aside0 (impl_DependsOf.l3 kq ws i q = some r) ∧ Aside0 (kq ≤ k) ∧ Aside0 (impl_DependsOf.Ok w0 g w' q) ∧ Aside0 (impl_DependsOf.St g w w') ∧ Aside0 (Kd.R (Kd.int .i64) 3 w' w0.heap.size (fun _ => True) (.slice Aw ws.length cw) ws))
 case atStart => exact ⟨1, o, ef_, HV, ⟨Nat.le_refl _⟩, ⟨impl_DependsOf.Ok.below HO.out (bb_ HS1.out)⟩, ⟨impl_DependsOf.St.of_below (bb_ HS1.out)⟩, ⟨ra_ HWK.out⟩⟩
 clear HV
 obtain ⟨i, q, rfl, HA, HK1, HO1, HST, HWK1⟩ := hrel
 obtain _ | k1 := gk
 ·exact absurd HA.out (by simp [impl_DependsOf.l3])
 have H := HA.out
 clear HA
 simp only [impl_DependsOf.l3] at H
 by_cases c1 : i < (ws.length : Int)
 rotate_left
 ·rw [if_neg c1] at H
  have c1b : decide (i < (ws.length : Int)) = false := decide_eq_false c1
  clear c1
  obtain rfl := Option.some.inj H
  go_wp2
  go_ret
  exact ⟨by first | rfl | (simp; done), impl_DependsOf.Ok.below HO1.out (bb_ (Below.refl _ _)), impl_DependsOf.St.trans HST.out (impl_DependsOf.St.of_below (bb_ (Below.refl _ _)))⟩
 rw [if_pos c1] at H
 have c1b : decide (i < (ws.length : Int)) = true := decide_eq_true c1
 obtain ⟨j, hj⟩ : ∃ j : Int, wrap64 (i - 1) = j := ⟨_, rfl⟩
 rw [hj] at H
 have hjw : (IntKind.i64.wrap (i - 1)) = j := (i64_w _).trans hj
 by_cases c2 : 0 ≤ j
 rotate_left
 ·rw [if_neg c2] at H
  exact absurd H (by simp)
 rw [if_pos c2] at H
 by_cases c3 : j < (ws.length : Int)
 rotate_left
 ·rw [if_neg c3] at H
  exact absurd H (by simp)
 rw [if_pos c3] at H
 by_cases c4 : 0 ≤ i
 rotate_left
 ·rw [if_neg c4] at H
  exact absurd H (by simp)
 rw [if_pos c4] at H
 by_cases c5 : q.length < 8796093022208
 rotate_left
 ·rw [if_neg c5] at H
  exact absurd H (by simp)
 rw [if_pos c5] at H
 have H' := Aside0.mk H
 have C5 := Aside0.mk c5
 have hbv := impl_DependsOf.St.blk HST.out HBV.out HGV.out (by decide)
 obtain ⟨hv0, fv0⟩ := cz1_ hbv
 obtain ⟨ad0, e0, hx0⟩ := Kd.at_int (Kd.R_reads' HWK1.out).2.2 j c2 c3
 obtain ⟨ad1, e1, hx1⟩ := Kd.at_int (Kd.R_reads' HWK1.out).2.2 i c4 c1
 cases e0
 cases e1
 have c2b : decide (0 ≤ j) = true := decide_eq_true c2
 have c3b : decide (j < (ws.length : Int)) = true := decide_eq_true c3
 have c4b : decide (0 ≤ i) = true := decide_eq_true c4
 replace c1 := eq_true c1
 replace c2 := eq_true c2
 replace c3 := eq_true c3
 replace c4 := eq_true c4
 have HBV1 := Aside0.mk hbv
 have HG1 := Aside0.mk HO1.out.2.2
 have HC := Aside0.mk (And.intro (And.intro c1 c2) (And.intro c3 c4))
 clear H c5 hbv
 go_wp2_with fail
 go_region_held3 (fun w' => w'.cell? ⟨gv, 0, none⟩ = some (.func (.func 72) #[] #[.pointer (some ⟨g, 0, none⟩)]) ∧ w'.cell? (ad0.add j.toNat) = some (.int .i64 (rd ws j)) ∧ w'.cell? (ad0.add i.toNat) = some (.int .i64 (rd ws i)))
  (first | exact ⟨hv0, hx0, hx1⟩ | exact ⟨m0, m1, m2⟩)
  (first
   | (go_at_call 72; refine (impl_DependsOf.vis g (rd ws j) (rd ws i) q w0 _ (impl_DependsOf.Ok.below HO1.out (bb_ (Below.refl _ _))) C5.out).mono ?_; rintro e w2 ⟨rfl, hok2, hst2⟩; have m0 := (cz1_ (impl_DependsOf.St.blk hst2 (bq_ HBV1.out) HGV.out (by decide))).1; obtain ⟨v1, hg1, _⟩ := HG1.out; have HWK2 := Aside0.mk (impl_DependsOf.St.ri hst2 (bq_ hg1) (ra_ HWK1.out)); obtain ⟨_, e_, m1⟩ := Kd.at_int (Kd.R_reads' HWK2.out).2.2 j (of_eq_true HC.out.1.2) (of_eq_true HC.out.2.1); cases e_; obtain ⟨_, e_, m2⟩ := Kd.at_int (Kd.R_reads' HWK2.out).2.2 i (of_eq_true HC.out.2.2) (of_eq_true HC.out.1.1); cases e_; have HO2 := Aside0.mk hok2; have HS2 := Aside0.mk (impl_DependsOf.St.trans (impl_DependsOf.St.trans HST.out (impl_DependsOf.St.of_below (bb_ (Below.refl _ _)))) hst2); clear hok2 hst2 hg1))
 go_wp2
 go_roundg k1
 case measure => have := HK1.out; omega
 case rel => exact ⟨wrap64 (i + 1), _, (by first | rfl | (simp; done)), H', ⟨by have := HK1.out; omega⟩, ⟨impl_DependsOf.Ok.below HO2.out (bb_ (Below.refl _ _))⟩, ⟨impl_DependsOf.St.trans HS2.out (impl_DependsOf.St.of_below (bb_ (Below.refl _ _)))⟩, ⟨ra_ HWK2.out⟩⟩
set_option maxHeartbeats 2000000 in
/-- 'pairs' at the function literal of 'adjacent'. -/
theorem impl_DependsOf.prs (k : Nat) (a0 a1 : Int) (A2 : Option Addr) (c2 : Nat) (l2 : List Int) (A3 : Option Addr) (c3 : Nat) (l3 : List Int) (o r : List S98) (gm gt gv g : Nat) (w0 w : World)
  (hr2 : Kd.C (Kd.int .i64) w0 A2 l2.length l2) (hc2 : l2.length ≤ c2) (hr3 : Kd.C (Kd.int .i64) w0 A3 l3.length l3) (hc3 : l3.length ≤ c3)
  (bm : w.heap[gm]? = some (.cells #[.int .i64 a0, .int .i64 a1, .slice A2 l2.length c2] 38 (0, 0))) (bt : w.heap[gt]? = some (.cells #[.slice A3 l3.length c3] 40 (0, 0)))
  (bv : w.heap[gv]? = some (.cells #[.func (.func 72) #[] #[.pointer (some ⟨g, 0, none⟩)]] 99 (0, 0)))
  (hok : impl_DependsOf.Ok w0 g w o) (h : impl_DependsOf.ps k a0 a1 l2 l3 o = some r) :
  Calls Tryz.prog 55 #[.agg #[.int .i64 a0, .int .i64 a1], .func (.func 104) #[] #[.pointer (some ⟨gm, 0, none⟩), .pointer (some ⟨gt, 0, none⟩), .pointer (some ⟨gv, 0, none⟩)]] w fun e w' => e = .returned (.bool true) ∧ impl_DependsOf.Ok w0 g w' r ∧ impl_DependsOf.St g w w' := by
 obtain ⟨n, hn, h1⟩ := Option.bind_eq_some_iff.1 h
 have HBX := Aside0.mk (show gm ≠ g ∧ gt ≠ g ∧ gv ≠ g from by
  obtain ⟨_, _, v, hb, _⟩ := hok
  exact ⟨blk_ne bm hb (by decide), blk_ne bt hb (by decide), blk_ne bv hb (by decide)⟩)
 have HR2 := Aside0.mk hr2
 have HC2 := Aside0.mk hc2
 have HR3 := Aside0.mk hr3
 have HC3 := Aside0.mk hc3
 have BM := Aside0.mk bm
 have BT := Aside0.mk bt
 have BV := Aside0.mk bv
 have HN := Aside0.mk hn
 have H' := Aside0.mk h1
 have HO := Aside0.mk hok
 clear hr2 hc2 hr3 hc3 bm bt bv hn h1 h hok
 have HB := Aside0.mk (Below.refl w.heap.size w)
 go_enter Tryz.func55, Tryz.ntmps55
 go_wp2_with (first | (go_at_call 53; (with_reducible refine (impl_NodeCount.calls a0 a1 n _ HN.out).mono ?_); rintro e w' ⟨rfl, hb⟩; have HB1 := Aside0.mk (bs_ HB.out hb); clear HB hb; have HB := HB1; clear HB1))
 go_loopg [11] k (fun kq v11 w' => ∃ (x : Int) (q : List S98), v11 = .int .i64 x ∧ Aside0 (impl_DependsOf.l1 kq a0 a1 l2 l3 n x q = some r) ∧ Aside0 (kq ≤ k) ∧ Aside0 (impl_DependsOf.Ok w0 g w' q) ∧ Aside0 (impl_DependsOf.St g w w'))
 case atStart => exact ⟨0, o, (by first | rfl | (simp; done)), H', ⟨Nat.le_refl _⟩, ⟨impl_DependsOf.Ok.below HO.out (bb_ HB.out)⟩, ⟨impl_DependsOf.St.of_below (bb_ HB.out)⟩⟩
 clear H' HB HO
 obtain ⟨x, q, rfl, HA, HK1, HO, HS⟩ := hrel
 obtain _ | k1 := gk
 ·exact absurd HA.out (by simp [impl_DependsOf.l1])
 have H := HA.out
 clear HA
 simp only [impl_DependsOf.l1] at H
 by_cases c1 : x < n
 rotate_left
 ·rw [if_neg c1] at H
  have c1b : decide (x < n) = false := decide_eq_false c1
  clear c1
  obtain rfl := Option.some.inj H
  go_wp2
  go_ret
  exact ⟨by first | rfl | (simp; done), impl_DependsOf.Ok.below HO.out (bb_ (Below.refl _ _)), impl_DependsOf.St.trans HS.out (impl_DependsOf.St.of_below (bb_ (Below.refl _ _)))⟩
 rw [if_pos c1] at H
 have c1b : decide (x < n) = true := decide_eq_true c1
 clear c1
 have H' := Aside0.mk H
 clear H
 go_wp2
 go_loopg [15] k1 (fun kq v15 w' => ∃ (y : Int) (q : List S98), v15 = .int .i64 y ∧ Aside0 (impl_DependsOf.l2 kq a0 a1 l2 l3 n x y q = some r) ∧ Aside0 (kq ≤ k1) ∧ Aside0 (impl_DependsOf.Ok w0 g w' q) ∧ Aside0 (impl_DependsOf.St g w w'))
 case atStart => exact ⟨0, q, (by first | rfl | (simp; done)), H', ⟨Nat.le_refl _⟩, ⟨impl_DependsOf.Ok.below HO.out (bb_ (Below.refl _ _))⟩, ⟨impl_DependsOf.St.trans HS.out (impl_DependsOf.St.of_below (bb_ (Below.refl _ _)))⟩⟩
 clear H' HO HS c1b
 obtain ⟨y, q2, rfl, HA, HK2, HO, HS⟩ := hrel
 obtain _ | k2 := gk
 ·exact absurd HA.out (by simp [impl_DependsOf.l2])
 have H := HA.out
 clear HA
 simp only [impl_DependsOf.l2] at H
 by_cases c2 : y < n
 rotate_left
 ·rw [if_neg c2] at H
  have c2b : decide (y < n) = false := decide_eq_false c2
  clear c2
  have H' := Aside0.mk H
  clear H
  go_wp2
  go_roundg k2
  case measure => have := HK1.out; have := HK2.out; omega
  case rel => exact ⟨wrap64 (x + 1), q2, (by first | rfl | (simp; done)), H', ⟨by have := HK1.out; have := HK2.out; omega⟩, ⟨impl_DependsOf.Ok.below HO.out (bb_ (Below.refl _ _))⟩, ⟨impl_DependsOf.St.trans HS.out (impl_DependsOf.St.of_below (bb_ (Below.refl _ _)))⟩⟩
 rw [if_pos c2] at H
 have c2b : decide (y < n) = true := decide_eq_true c2
 clear c2
 by_cases c3 : x = y
 ·rw [if_pos c3] at H
  have c3b : (x == y) = true := beq_iff_eq.mpr c3
  have c3c : (x != y) = false := bne_eq_false_iff_eq.mpr c3
  clear c3
  have H' := Aside0.mk H
  clear H
  go_wp2
  go_roundg k2
  case measure => have := HK2.out; omega
  case rel => exact ⟨wrap64 (y + 1), q2, (by first | rfl | (simp; done)), H', ⟨by have := HK2.out; omega⟩, ⟨impl_DependsOf.Ok.below HO.out (bb_ (Below.refl _ _))⟩, ⟨impl_DependsOf.St.trans HS.out (impl_DependsOf.St.of_below (bb_ (Below.refl _ _)))⟩⟩
 rw [if_neg c3] at H
 have c3b : (x == y) = false := beq_eq_false_iff_ne.mpr c3
 have c3c : (x != y) = true := bne_iff_ne.mpr c3
 clear c3
 obtain ⟨q3, hb0, H2⟩ := Option.bind_eq_some_iff.1 H
 clear H
 have HV := Aside0.mk hb0
 clear hb0
 have H' := Aside0.mk (show impl_DependsOf.l2 k2 a0 a1 l2 l3 n x (wrap64 (y + 1)) q3 = some r from H2)
 clear H2
 go_wp2_with fail
 refine (impl_DependsOf.adj1 k2 a0 a1 A2 c2 l2 A3 c3 l3 x y q2 q3 gm gt gv g w0 _ HR2.out HC2.out HR3.out HC3.out (bq_ (impl_DependsOf.St.blk HS.out BM.out HBX.out.1 (by decide))) (bq_ (impl_DependsOf.St.blk HS.out BT.out HBX.out.2.1 (by decide))) (bq_ (impl_DependsOf.St.blk HS.out BV.out HBX.out.2.2 (by decide))) (impl_DependsOf.Ok.below HO.out (bb_ (Below.refl _ _))) HV.out).mono ?_
 rintro e w' ⟨rfl, hok2, hst2⟩
 have HO2 := Aside0.mk hok2
 have HS2 := Aside0.mk (impl_DependsOf.St.trans (impl_DependsOf.St.trans HS.out (impl_DependsOf.St.of_below (bb_ (Below.refl _ _)))) hst2)
 clear hok2 hst2
 go_wp2
 go_roundg k2
 case measure => have := HK2.out; omega
 case rel => exact ⟨wrap64 (y + 1), q3, (by first | rfl | (simp; done)), H', ⟨by have := HK2.out; omega⟩, ⟨impl_DependsOf.Ok.below HO2.out (bb_ (Below.refl _ _))⟩, ⟨impl_DependsOf.St.trans HS2.out (impl_DependsOf.St.of_below (bb_ (Below.refl _ _)))⟩⟩
set_option maxHeartbeats 2000000 in
theorem impl_DependsOf.adj (k : Nat) (a0 a1 : Int) (A2 : Option Addr) (c2 : Nat) (l2 : List Int) (A3 : Option Addr) (c3 : Nat) (l3 : List Int) (o r : List S98) (g : Nat) (w0 w : World)
  (hr2 : Kd.C (Kd.int .i64) w0 A2 l2.length l2) (hc2 : l2.length ≤ c2) (hr3 : Kd.C (Kd.int .i64) w0 A3 l3.length l3) (hc3 : l3.length ≤ c3) (hok : impl_DependsOf.Ok w0 g w o) (h : impl_DependsOf.ps k a0 a1 l2 l3 o = some r) :
  Calls Tryz.prog 71 #[.agg #[.int .i64 a0, .int .i64 a1, .slice A2 l2.length c2], .agg #[.slice A3 l3.length c3], .func (.func 72) #[] #[.pointer (some ⟨g, 0, none⟩)]] w fun e w' => e = .returned (.tuple #[]) ∧ impl_DependsOf.Ok w0 g w' r ∧ impl_DependsOf.St g w w' := by
 have hmf : ∀ (fn : Fn) (first cap : Array Value) (w : World), (Instr.makeFunc fn first cap).run Tryz.prog w = .ok (.func fn first cap) w := fun _ _ _ _ => rfl
 have HR2 := Aside0.mk hr2
 have HC2 := Aside0.mk hc2
 have HR3 := Aside0.mk hr3
 have HC3 := Aside0.mk hc3
 have HO := Aside0.mk hok
 have HP := Aside0.mk h
 clear hr2 hc2 hr3 hc3 hok h
 go_enter Tryz.func71, Tryz.ntmps71
 go_wp2_with (first
  | ((with_reducible refine gate_dst (N := 3) rfl ?_); refine box_event ?hg (N := 3) ?hd (cs := #[.int .i64 a0, .int .i64 a1, .slice A2 l2.length c2]) (t := 38) ?hr ?_; (case hd => rfl); (case hg => rfl); (case hr => first | (go_simp; done) | (go_simp; rfl)); intro gm hgm w1 hbx1 hb1; clear hgm; have HS1 := Aside0.mk hb1; have BX1 := Aside0.mk hbx1; obtain ⟨hm0, hm1, hm2, fm0, fm1, fm2⟩ := cz3_ hbx1; clear hb1 hbx1)
  | ((with_reducible refine gate_dst (N := 4) rfl ?_); refine box_event ?hg (N := 4) ?hd (cs := #[.slice A3 l3.length c3]) (t := 40) ?hr ?_; (case hd => rfl); (case hg => rfl); (case hr => first | (go_simp; done) | (go_simp; rfl)); intro gt hgt w2 hbx2 hb2; clear hgt hm0 hm1 hm2 fm0 fm1 fm2; have HS2 := Aside0.mk (below_step HS1.out hb2); replace BX1 := Aside0.mk (bk_ BX1.out hb2); have BX2 := Aside0.mk hbx2; clear hb2 hbx2)
  | ((with_reducible refine gate_dst (N := 5) rfl ?_); refine box_event ?hg (N := 5) ?hd (cs := #[.func (.func 72) #[] #[.pointer (some ⟨g, 0, none⟩)]]) (t := 99) ?hr ?_; (case hd => rfl); (case hg => rfl); (case hr => first | (go_simp; done) | (go_simp; rfl)); intro gv hgv w3 hbx3 hb3; clear hgv; have HS3 := Aside0.mk (below_step HS2.out hb3); replace BX1 := Aside0.mk (bk_ BX1.out hb3); replace BX2 := Aside0.mk (bk_ BX2.out hb3); have BX3 := Aside0.mk hbx3; obtain ⟨hm0, hm1, hm2, fm0, fm1, fm2⟩ := cz3_ BX1.out; clear hb3 hbx3)
  | (go_at_call 55; (with_reducible refine (impl_DependsOf.prs k a0 a1 A2 c2 l2 A3 c3 l3 o r gm gt gv g w0 _ HR2.out HC2.out HR3.out HC3.out (bq_ BX1.out) (bq_ BX2.out) (bq_ BX3.out) ?side1 HP.out).mono ?_); (case side1 => exact impl_DependsOf.Ok.below HO.out (bb_ HS3.out)); rintro e w4 ⟨rfl, hok2, hst2⟩; have HO2 := Aside0.mk hok2; have HST := Aside0.mk (impl_DependsOf.St.trans (impl_DependsOf.St.of_below (bb_ HS3.out)) hst2); clear hok2 hst2))
 go_end0
 exact ⟨by first | rfl | (simp; done), impl_DependsOf.Ok.below HO2.out (bb_ (Below.refl _ _)), impl_DependsOf.St.trans HST.out (impl_DependsOf.St.of_below (bb_ (Below.refl _ _)))⟩
set_option maxHeartbeats 4000000 in
theorem impl_DependsOf.calls (k : Nat) (a0_0 : Int) (a0_1 : Int) (A0_2 : Option Addr) (c0_2 : Nat) (l0_2 : List Int) (A1_0 : Option Addr) (c1_0 : Nat) (l1_0 : List Int) (r : List S98) (w : World) (hr0_2 : Kd.C (Kd.int .i64) w A0_2 l0_2.length l0_2) (hc0_2 : l0_2.length ≤ c0_2) (hr1_0 : Kd.C (Kd.int .i64) w A1_0 l1_0.length l1_0) (hc1_0 : l1_0.length ≤ c1_0) (h : impl_DependsOf.f k a0_0 a0_1 l0_2 l1_0 = some r) :
  Calls Tryz.prog 45 #[.agg #[.int .i64 a0_0, .int .i64 a0_1, .slice A0_2 l0_2.length c0_2], .agg #[.slice A1_0 l1_0.length c1_0]] w fun e w' => ∃ v0_ : Value, e = .returned (v0_) ∧ Kd.R k98 98 w' w.heap.size (fun _ => True) v0_ r ∧ Below w.heap.size w w' := by
 have hmf : ∀ (fn : Fn) (first cap : Array Value) (w : World), (Instr.makeFunc fn first cap).run Tryz.prog w = .ok (.func fn first cap) w := fun _ _ _ _ => rfl
 obtain ⟨ok, ho, h2⟩ := Option.bind_eq_some_iff.1 h
 have HR2 := Aside0.mk hr0_2
 have HC2 := Aside0.mk hc0_2
 have HR3 := Aside0.mk hr1_0
 have HC3 := Aside0.mk hc1_0
 have HTO := Aside0.mk ho
 have H2 := Aside0.mk h2
 have HB := Aside0.mk (Below.refl w.heap.size w)
 clear hr0_2 hc0_2 hr1_0 hc1_0 ho h h2
 cases ok with
 | false =>
  have h3 : some [] = some r := H2.out
  obtain rfl := Option.some.inj h3
  clear h3 H2
  go_enter Tryz.func45, Tryz.ntmps45
  go_wp2_with (first
   | ((with_reducible refine gate_dst (N := 2) rfl ?_); refine box_event ?hg (N := 2) ?hd (cs := #[.int .i64 a0_0, .int .i64 a0_1, .slice A0_2 l0_2.length c0_2]) (t := 38) ?hr ?_; (case hd => rfl); (case hg => rfl); (case hr => first | (go_simp; done) | (go_simp; rfl)); intro gm hgm w1 hbx1 hb1; clear hgm; replace HB := Aside0.mk (bs_ HB.out hb1); have BX1 := Aside0.mk hbx1; clear hb1 hbx1)
   | ((with_reducible refine gate_dst (N := 3) rfl ?_); refine box_event ?hg (N := 3) ?hd (cs := #[.slice A1_0 l1_0.length c1_0]) (t := 40) ?hr ?_; (case hd => rfl); (case hg => rfl); (case hr => first | (go_simp; done) | (go_simp; rfl)); intro gt hgt w2 hbx2 hb2; clear hgt; replace HB := Aside0.mk (bs_ HB.out hb2); replace BX1 := Aside0.mk (bk_ BX1.out hb2); have BX2 := Aside0.mk hbx2; clear hb2 hbx2)
   | ((with_reducible refine gate_dst (N := 6) rfl ?_); refine Kd.R_lit k98 _ 98 ?hg (N := 6) ?hd (xs := ([] : List S98)) (inner := []) (ok := fun _ => True) (okp := fun _ => True) ?hr ?hp (fun _ hk => hk) trivial (Below.refl _ _) (Nat.le_refl _) (by simp) ?_; (case hd => rfl); (case hg => rfl); (case hr => first | (go_simp; done) | (go_simp; rfl)); (case hp => exact (Reps.none _ _)); intro v6 w6 ho hb hg_ hnew_; clear hg_ hnew_; have HR6 := Aside0.mk (Kd.R_lower ho (bz_ HB.out)); replace BX1 := Aside0.mk (bk_ BX1.out hb); replace BX2 := Aside0.mk (bk_ BX2.out hb); replace HB := hs_ HB hb; clear ho hb; obtain ⟨Ao, co, rfl⟩ := Kd.R_slice HR6.out)
   | ((with_reducible refine gate_dst (N := 5) rfl ?_); refine box_event ?hg (N := 5) ?hd (cs := #[.slice none 0 0]) (t := 62) ?hr ?_; (case hd => rfl); (case hg => rfl); (case hr => first | (go_simp; done) | (go_simp; rfl)); intro g hgz w5 hbx5 hb5; have HGZ := Aside0.mk (show w.heap.size ≤ g from by rw [hgz]; exact bz_ HB.out); clear hgz; replace HR6 := Aside0.mk (Kd.R_below (ra_ HR6.out) hb5); replace BX1 := Aside0.mk (bk_ BX1.out hb5); replace BX2 := Aside0.mk (bk_ BX2.out hb5); replace HB := Aside0.mk (bs_ HB.out hb5); have BX5 := Aside0.mk hbx5; obtain ⟨hz0, fz0⟩ := cz1_ hbx5; have ngm : gm ≠ g := blk_ne BX1.out hbx5 (by decide); have ngt : gt ≠ g := blk_ne BX2.out hbx5 (by decide); obtain ⟨hm0, hm1, hm2, fm0, fm1, fm2⟩ := cz3_ (blk_far (p := ⟨g, 0, none⟩) BX1.out ngm (.slice Ao 0 co)); obtain ⟨ht0, ft0⟩ := cz1_ (blk_far (p := ⟨g, 0, none⟩) BX2.out ngt (.slice Ao 0 co)); have HT := Aside0.mk (And.intro (blk_far (p := ⟨g, 0, none⟩) BX1.out ngm (.slice Ao 0 co)) (blk_far (p := ⟨g, 0, none⟩) BX2.out ngt (.slice Ao 0 co))); have HOK := Aside0.mk (show impl_DependsOf.Ok w g (w5.setCell ⟨g, 0, none⟩ (.slice Ao 0 co)) [] from ⟨HB.out.setCell HGZ.out _, HGZ.out, .slice Ao 0 co, blk_put hbx5 0 _ rfl, Kd.R_set HR6.out hbx5 (by decide) 0 _⟩); clear hb5 hbx5 ngm ngt)
   | (go_at_call 24; (with_reducible refine (impl_TableOk.calls k a0_0 a0_1 A0_2 c0_2 l0_2 A1_0 c1_0 l1_0 _ _ ?side1 HC2.out ?side2 HC3.out HTO.out).mono ?_); (case side1 => exact Kd.C_below HR2.out (impl_DependsOf.Ok.below HOK.out (bb_ (Below.refl _ _))).1); (case side2 => exact Kd.C_below HR3.out (impl_DependsOf.Ok.below HOK.out (bb_ (Below.refl _ _))).1); rintro e w7 ⟨rfl, hb⟩; clear hm0 hm1 hm2 fm0 fm1 fm2 ht0 ft0 hz0 fz0; have HOK7 := Aside0.mk (impl_DependsOf.Ok.below (impl_DependsOf.Ok.below HOK.out (bb_ (Below.refl _ _))) hb); have BX1b := Aside0.mk (bk_ HT.out.1 hb); have BX2b := Aside0.mk (bk_ HT.out.2 hb); obtain ⟨hm0, hm1, hm2, fm0, fm1, fm2⟩ := cz3_ BX1b.out; obtain ⟨ht0, ft0⟩ := cz1_ BX2b.out; obtain ⟨v7, hg7, hR7⟩ := HOK7.out.2.2; obtain ⟨A7, c7, rfl⟩ := Kd.R_slice hR7; have HR7 := Aside0.mk hR7; have BX7 := Aside0.mk hg7; obtain ⟨hz0, fz0⟩ := cz1_ hg7; clear hb hg7 hR7))
  go_ret
  exact ⟨_, by first | rfl | (simp; done), (by first | exact ra_ HR7.out | skip), (impl_DependsOf.Ok.below HOK7.out (bb_ (Below.refl _ _))).1⟩
 | true =>
  obtain ⟨q, hq, har⟩ := Option.bind_eq_some_iff.1 (show (impl_DependsOf.ps k a0_0 a0_1 l0_2 l1_0 []).bind (fun o => impl_arranged.f o) = some r from H2.out)
  have HPS := Aside0.mk hq
  have HAR := Aside0.mk har
  clear hq har H2
  go_enter Tryz.func45, Tryz.ntmps45
  go_wp2_with (first
   | ((with_reducible refine gate_dst (N := 2) rfl ?_); refine box_event ?hg (N := 2) ?hd (cs := #[.int .i64 a0_0, .int .i64 a0_1, .slice A0_2 l0_2.length c0_2]) (t := 38) ?hr ?_; (case hd => rfl); (case hg => rfl); (case hr => first | (go_simp; done) | (go_simp; rfl)); intro gm hgm w1 hbx1 hb1; clear hgm; replace HB := Aside0.mk (bs_ HB.out hb1); have BX1 := Aside0.mk hbx1; clear hb1 hbx1)
   | ((with_reducible refine gate_dst (N := 3) rfl ?_); refine box_event ?hg (N := 3) ?hd (cs := #[.slice A1_0 l1_0.length c1_0]) (t := 40) ?hr ?_; (case hd => rfl); (case hg => rfl); (case hr => first | (go_simp; done) | (go_simp; rfl)); intro gt hgt w2 hbx2 hb2; clear hgt; replace HB := Aside0.mk (bs_ HB.out hb2); replace BX1 := Aside0.mk (bk_ BX1.out hb2); have BX2 := Aside0.mk hbx2; clear hb2 hbx2)
   | ((with_reducible refine gate_dst (N := 6) rfl ?_); refine Kd.R_lit k98 _ 98 ?hg (N := 6) ?hd (xs := ([] : List S98)) (inner := []) (ok := fun _ => True) (okp := fun _ => True) ?hr ?hp (fun _ hk => hk) trivial (Below.refl _ _) (Nat.le_refl _) (by simp) ?_; (case hd => rfl); (case hg => rfl); (case hr => first | (go_simp; done) | (go_simp; rfl)); (case hp => exact (Reps.none _ _)); intro v6 w6 ho hb hg_ hnew_; clear hg_ hnew_; have HR6 := Aside0.mk (Kd.R_lower ho (bz_ HB.out)); replace BX1 := Aside0.mk (bk_ BX1.out hb); replace BX2 := Aside0.mk (bk_ BX2.out hb); replace HB := hs_ HB hb; clear ho hb; obtain ⟨Ao, co, rfl⟩ := Kd.R_slice HR6.out)
   | ((with_reducible refine gate_dst (N := 5) rfl ?_); refine box_event ?hg (N := 5) ?hd (cs := #[.slice none 0 0]) (t := 62) ?hr ?_; (case hd => rfl); (case hg => rfl); (case hr => first | (go_simp; done) | (go_simp; rfl)); intro g hgz w5 hbx5 hb5; have HGZ := Aside0.mk (show w.heap.size ≤ g from by rw [hgz]; exact bz_ HB.out); clear hgz; replace HR6 := Aside0.mk (Kd.R_below (ra_ HR6.out) hb5); replace BX1 := Aside0.mk (bk_ BX1.out hb5); replace BX2 := Aside0.mk (bk_ BX2.out hb5); replace HB := Aside0.mk (bs_ HB.out hb5); have BX5 := Aside0.mk hbx5; obtain ⟨hz0, fz0⟩ := cz1_ hbx5; have ngm : gm ≠ g := blk_ne BX1.out hbx5 (by decide); have ngt : gt ≠ g := blk_ne BX2.out hbx5 (by decide); obtain ⟨hm0, hm1, hm2, fm0, fm1, fm2⟩ := cz3_ (blk_far (p := ⟨g, 0, none⟩) BX1.out ngm (.slice Ao 0 co)); obtain ⟨ht0, ft0⟩ := cz1_ (blk_far (p := ⟨g, 0, none⟩) BX2.out ngt (.slice Ao 0 co)); have HT := Aside0.mk (And.intro (blk_far (p := ⟨g, 0, none⟩) BX1.out ngm (.slice Ao 0 co)) (blk_far (p := ⟨g, 0, none⟩) BX2.out ngt (.slice Ao 0 co))); have HOK := Aside0.mk (show impl_DependsOf.Ok w g (w5.setCell ⟨g, 0, none⟩ (.slice Ao 0 co)) [] from ⟨HB.out.setCell HGZ.out _, HGZ.out, .slice Ao 0 co, blk_put hbx5 0 _ rfl, Kd.R_set HR6.out hbx5 (by decide) 0 _⟩); clear hb5 hbx5 ngm ngt)
   | (go_at_call 24; (with_reducible refine (impl_TableOk.calls k a0_0 a0_1 A0_2 c0_2 l0_2 A1_0 c1_0 l1_0 _ _ ?side1 HC2.out ?side2 HC3.out HTO.out).mono ?_); (case side1 => exact Kd.C_below HR2.out (impl_DependsOf.Ok.below HOK.out (bb_ (Below.refl _ _))).1); (case side2 => exact Kd.C_below HR3.out (impl_DependsOf.Ok.below HOK.out (bb_ (Below.refl _ _))).1); rintro e w7 ⟨rfl, hb⟩; clear hm0 hm1 hm2 fm0 fm1 fm2 ht0 ft0 hz0 fz0; have HOK7 := Aside0.mk (impl_DependsOf.Ok.below (impl_DependsOf.Ok.below HOK.out (bb_ (Below.refl _ _))) hb); have BX1b := Aside0.mk (bk_ HT.out.1 hb); have BX2b := Aside0.mk (bk_ HT.out.2 hb); obtain ⟨hm0, hm1, hm2, fm0, fm1, fm2⟩ := cz3_ BX1b.out; obtain ⟨ht0, ft0⟩ := cz1_ BX2b.out; obtain ⟨v7, hg7, hR7⟩ := HOK7.out.2.2; obtain ⟨A7, c7, rfl⟩ := Kd.R_slice hR7; have HR7 := Aside0.mk hR7; have BX7 := Aside0.mk hg7; obtain ⟨hz0, fz0⟩ := cz1_ hg7; clear hb hg7 hR7)
   | (go_at_call 71; (with_reducible refine (impl_DependsOf.adj k a0_0 a0_1 A0_2 c0_2 l0_2 A1_0 c1_0 l1_0 [] q g w _ HR2.out HC2.out HR3.out HC3.out ?side1 HPS.out).mono ?_); (case side1 => exact impl_DependsOf.Ok.below HOK7.out (bb_ (Below.refl _ _))); rintro e w8 ⟨rfl, hok8, _⟩; clear hz0 fz0 hm0 hm1 hm2 fm0 fm1 fm2 ht0 ft0; obtain ⟨v8, hg8, hR8⟩ := hok8.2.2; obtain ⟨A8, c8, rfl⟩ := Kd.R_slice hR8; have HR8 := Aside0.mk hR8; have HB8 := Aside0.mk hok8.1; obtain ⟨hz0, fz0⟩ := cz1_ hg8; clear hg8 hR8 hok8)
   | (go_at_call 73; (with_reducible refine (impl_arranged.calls (fun k_ => some k_ = (.slice A8 q.length c8 : Value).ownBlock) (.slice A8 q.length c8) q r w _ ?side1 ?side2 HAR.out).mono ?_); (case side1 => exact bb_ HB8.out); (case side2 => exact Kd.R_tight rfl (ra_ HR8.out)); rintro e w9 ⟨v9, rfl, ho9, hb9, hkp⟩; have HO9 := Aside0.mk (Kd.R_mono (ok' := fun k_ => True) ho9 (fun k_ hk_ => trivial)); have HB9 := Aside0.mk hb9; clear hb9 hkp ho9; obtain ⟨A9, c9, rfl⟩ := Kd.R_slice HO9.out))
  go_ret
  exact ⟨_, by first | rfl | (simp; done), ra_ HO9.out, bb_ HB9.out⟩

/-! ### impl_CheckTable: function 20 -/
def impl_CheckTable.f (k : Nat) (a0_0 : Int) (a0_1 : Int) (l0_2 : List Int) (l1_0 : List Int) : Option (Int × List Int × List Int) := (impl_TableOk.f k a0_0 a0_1 l0_2 l1_0).bind fun t442 => (if t442 = true then ((impl_DependsOf.f k a0_0 a0_1 l0_2 l1_0).bind fun t443 => ((impl_judged.f k t443).bind fun bt446 => (some (bt446.1, bt446.2.1, bt446.2.2)))) else (some (0, ([] : List Int), ([] : List Int))))
theorem impl_CheckTable.mono : ∀ a0 a1 a2 a3 k, LeO (impl_CheckTable.f k a0 a1 a2 a3) (impl_CheckTable.f (k + 1) a0 a1 a2 a3) := by
 intro a0 a1 a2 a3 k
 unfold impl_CheckTable.f
 repeat' (with_reducible first | exact impl_DependsOf.mono .. | exact impl_TableOk.mono .. | exact impl_judged.mono .. | exact LeO.refl .. | exact LeO.none .. | refine LeO.ite ?_ ?_ | refine LeO.bind ?_ (fun _ => ?_))
theorem impl_CheckTable.calls (k : Nat) (a0_0 : Int) (a0_1 : Int) (A0_2 : Option Addr) (c0_2 : Nat) (l0_2 : List Int) (A1_0 : Option Addr) (c1_0 : Nat) (l1_0 : List Int) (r1 : Int) (r2 : List Int) (r3 : List Int) (w : World) (hr0_2 : Kd.C (Kd.int .i64) w A0_2 l0_2.length l0_2) (hc0_2 : l0_2.length ≤ c0_2) (hr1_0 : Kd.C (Kd.int .i64) w A1_0 l1_0.length l1_0) (hc1_0 : l1_0.length ≤ c1_0) (h : impl_CheckTable.f k a0_0 a0_1 l0_2 l1_0 = some (r1, r2, r3)) :
  Calls Tryz.prog 20 #[.agg #[.int .i64 a0_0, .int .i64 a0_1, .slice A0_2 l0_2.length c0_2], .agg #[.slice A1_0 l1_0.length c1_0]] w fun e w' => ∃ v1_ v2_ : Value, e = .returned (.agg #[.int .i64 r1, v1_, v2_]) ∧ Kd.R (Kd.int .i64) 3 w' w.heap.size (fun k_ => some k_ ≠ (v2_ : Value).ownBlock) v1_ r2 ∧ Kd.R (Kd.int .i64) 3 w' w.heap.size (fun k_ => some k_ ≠ (v1_ : Value).ownBlock) v2_ r3 ∧ Below w.heap.size w w' := by
 have hu38 := Tryz.underlying38
 have hu40 := Tryz.underlying40
 have hu34 := Tryz.underlying34
 have HR0_2 := Aside0.mk hr0_2
 have HC0_2 := Aside0.mk hc0_2
 clear hr0_2 hc0_2
 have HR1_0 := Aside0.mk hr1_0
 have HC1_0 := Aside0.mk hc1_0
 clear hr1_0 hc1_0
 have HB := Aside0.mk (Below.refl w.heap.size w)
 have H : ((impl_TableOk.f k a0_0 a0_1 l0_2 l1_0).bind fun t442 => (if t442 = true then ((impl_DependsOf.f k a0_0 a0_1 l0_2 l1_0).bind fun t443 => ((impl_judged.f k t443).bind fun bt446 => (some (bt446.1, bt446.2.1, bt446.2.2)))) else (some (0, ([] : List Int), ([] : List Int))))) = some (r1, r2, r3) := h
 clear h
 obtain ⟨t442, A3, H⟩ := bi_ H
 by_cases c4 : t442 = true
 ·subst c4
  rw [if_pos rfl] at H
  obtain ⟨t443, A5, H⟩ := bi_ H
  obtain ⟨⟨t446, t447, t450⟩, A6, H⟩ := bi_ H
  try dsimp only at H
  simp only [Option.some.injEq, Prod.mk.injEq] at H
  obtain ⟨rfl, rfl, rfl⟩ := H
  go_enter Tryz.func20, Tryz.ntmps20
  go_wp2_with (first | ((with_reducible refine gate_dst (N := 2) rfl ?_); refine box_event ?hg (N := 2) ?hd (cs := #[.int .i64 a0_0, .int .i64 a0_1, .slice A0_2 l0_2.length c0_2]) (t := 38) ?hr ?_; (case hd => rfl); (case hg => rfl); (case hr => first | (go_simp; done) | (go_simp; rfl)); intro gb439 hg w7 hbox hb; have BK439 := Aside0.mk (hbox); have GW439 := gw_ hg HB; have GE439 := gw_ hg HB; replace HB := hs_ HB hb; clear hb hbox hg) | ((with_reducible refine gate_dst (N := 3) rfl ?_); refine box_event ?hg (N := 3) ?hd (cs := #[.slice A1_0 l1_0.length c1_0]) (t := 40) ?hr ?_; (case hd => rfl); (case hg => rfl); (case hr => first | (go_simp; done) | (go_simp; rfl)); intro gb440 hg w8 hbox hb; have BK440 := Aside0.mk (hbox); have GW440 := gw_ hg HB; have GE440 := gw_ hg HB; replace HB := hs_ HB hb; have NB439_440 := nl_ hg BK439; have NB440_439 := ng_ hg BK439; replace BK439 := kb_ BK439 hb; clear hb hbox hg) | ((with_reducible refine gate_dst (N := 4) rfl ?_); refine box_event ?hg (N := 4) ?hd (cs := #[.int .i64 0, .slice none 0 0, .slice none 0 0]) (t := 34) ?hr ?_; (case hd => rfl); (case hg => rfl); (case hr => first | (go_simp; done) | (go_simp; rfl)); intro gb441 hg w9 hbox hb; have BK441 := Aside0.mk (hbox); have GW441 := gw_ hg HB; have GE441 := gw_ hg HB; replace HB := hs_ HB hb; have NB439_441 := nl_ hg BK439; have NB441_439 := ng_ hg BK439; replace BK439 := kb_ BK439 hb; have NB440_441 := nl_ hg BK440; have NB441_440 := ng_ hg BK440; replace BK440 := kb_ BK440 hb; clear hb hbox hg; have hnb10 := NB439_440.out; have hnc10 := NB440_439.out; have hnb11 := NB439_441.out; have hnc11 := NB441_439.out; obtain ⟨hcz12_0, hcz12_1, hcz12_2, hfz12_0, hfz12_1, hfz12_2⟩ := cz3_ BK439.out; have hnb13 := NB440_441.out; have hnc13 := NB441_440.out; obtain ⟨hcz14_0, hfz14_0⟩ := cz1_ BK440.out) | ((with_reducible refine gate_callee (f := 24) rfl ?_); refine gm_ (some 7) Tryz.func24 #[.agg #[.int .i64 a0_0, .int .i64 a0_1, .slice A0_2 l0_2.length c0_2], .agg #[.slice A1_0 l1_0.length c1_0]] rfl ?_; (with_reducible refine (impl_TableOk.calls k a0_0 a0_1 _ _ l0_2 _ _ l1_0 true _ ?side1 HC0_2.out ?side3 HC1_0.out A3.out).mono ?_); (case side1 => exact cb_ HR0_2.out HB.out); (case side3 => exact cb_ HR1_0.out HB.out); rintro e w15 ⟨rfl, hb⟩; refine ⟨_, rfl, ?_⟩; replace BK439 := kb_ BK439 hb; replace BK440 := kb_ BK440 hb; replace BK441 := kb_ BK441 hb; replace HB := hs_ HB hb; (try clear hb); obtain ⟨hcz16_0, hcz16_1, hcz16_2, hfz16_0, hfz16_1, hfz16_2⟩ := cz3_ BK439.out; obtain ⟨hcz17_0, hfz17_0⟩ := cz1_ BK440.out) | ((with_reducible refine gate_callee (f := 45) rfl ?_); refine gm_ (some 12) Tryz.func45 #[.agg #[.int .i64 a0_0, .int .i64 a0_1, .slice A0_2 l0_2.length c0_2], .agg #[.slice A1_0 l1_0.length c1_0]] rfl ?_; (with_reducible refine (impl_DependsOf.calls k a0_0 a0_1 _ _ l0_2 _ _ l1_0 t443 _ ?side1 HC0_2.out ?side3 HC1_0.out A5.out).mono ?_); (case side1 => exact cb_ HR0_2.out HB.out); (case side3 => exact cb_ HR1_0.out HB.out); rintro e w18 ⟨v444, rfl, ho0, hb⟩; refine ⟨_, rfl, ?_⟩; have HO445 := Aside0.mk (Kd.R_lower ho0 (bz_ HB.out)); replace BK439 := kb_ BK439 hb; replace BK440 := kb_ BK440 hb; replace BK441 := kb_ BK441 hb; replace HB := hs_ HB hb; (try clear hb); (try clear ho0); obtain ⟨Ao19, co19, eo19⟩ := Kd.R_slice HO445.out; subst eo19) | ((with_reducible refine gate_callee (f := 35) rfl ?_); refine gm_ (some 13) Tryz.func35 #[.slice Ao19 t443.length co19] rfl ?_; (with_reducible refine (impl_judged.calls k _ _ t443 t446 t447 t450 _ ?side1 ?side2 A6.out).mono ?_); (case side1 => exact rr_ HO445); (case side2 => exact (Kd.R_reads' HO445.out).2.1); rintro e w20 ⟨v448, v451, rfl, ho0, ho1, hb⟩; refine ⟨_, rfl, ?_⟩; replace HO445 := rb_ HO445 hb; have HO449 := Aside0.mk (Kd.R_lower ho0 (bz_ HB.out)); have HO452 := Aside0.mk (Kd.R_lower ho1 (bz_ HB.out)); replace BK439 := kb_ BK439 hb; replace BK440 := kb_ BK440 hb; replace BK441 := kb_ BK441 hb; replace HB := hs_ HB hb; (try clear hb); (try clear ho0); (try clear ho1); obtain ⟨hcz21_0, hcz21_1, hcz21_2, hfz21_0, hfz21_1, hfz21_2⟩ := cz3_ BK441.out; obtain ⟨Ao22, co22, eo22⟩ := Kd.R_slice HO449.out; subst eo22; obtain ⟨Ao23, co23, eo23⟩ := Kd.R_slice HO452.out; subst eo23))
  refine bodyPost_ret (results_cell_row rfl _ _ gb441 34 #[.int .i64 t446, .slice Ao22 t447.length co22, .slice Ao23 t450.length co23] (0, 0) _ rfl (by (with_reducible repeat (first | refine blk_drewN ?_ _ | refine blk_drew ?_ | refine blk_alloc ?_ _)); refine blk_put (cs := #[.int .i64 t446, .slice Ao22 t447.length co22, .slice none 0 0]) ?_ 2 _ rfl; (with_reducible repeat (first | refine blk_drewN ?_ _ | refine blk_drew ?_ | refine blk_alloc ?_ _)); refine blk_put (cs := #[.int .i64 t446, .slice none 0 0, .slice none 0 0]) ?_ 1 _ rfl; (with_reducible repeat (first | refine blk_drewN ?_ _ | refine blk_drew ?_ | refine blk_alloc ?_ _)); refine blk_put (cs := #[.int .i64 0, .slice none 0 0, .slice none 0 0]) ?_ 0 _ rfl; (with_reducible repeat (first | refine blk_drewN ?_ _ | refine blk_drew ?_ | refine blk_alloc ?_ _)); exact BK441.out) Tryz.underlying34 rfl (by kernel_rfl)) rfl ?_
  exact ⟨_, _, fin_, rm_ (Kd.R_types HO449.out BK441.out (by decide)) (fun _ hk => hk.1), rm_ (Kd.R_types HO452.out BK441.out (by decide)) (fun _ hk => hk.1), bb_ HB.out⟩
 ·replace c4 := Bool.eq_false_iff.mpr c4
  subst c4
  rw [if_neg (show ¬ (false = true) by decide)] at H
  simp only [Option.some.injEq, Prod.mk.injEq] at H
  obtain ⟨rfl, rfl, rfl⟩ := H
  go_enter Tryz.func20, Tryz.ntmps20
  go_wp2_with (first | ((with_reducible refine gate_dst (N := 2) rfl ?_); refine box_event ?hg (N := 2) ?hd (cs := #[.int .i64 a0_0, .int .i64 a0_1, .slice A0_2 l0_2.length c0_2]) (t := 38) ?hr ?_; (case hd => rfl); (case hg => rfl); (case hr => first | (go_simp; done) | (go_simp; rfl)); intro gb439 hg w24 hbox hb; have BK439 := Aside0.mk (hbox); have GW439 := gw_ hg HB; have GE439 := gw_ hg HB; replace HB := hs_ HB hb; clear hb hbox hg) | ((with_reducible refine gate_dst (N := 3) rfl ?_); refine box_event ?hg (N := 3) ?hd (cs := #[.slice A1_0 l1_0.length c1_0]) (t := 40) ?hr ?_; (case hd => rfl); (case hg => rfl); (case hr => first | (go_simp; done) | (go_simp; rfl)); intro gb440 hg w25 hbox hb; have BK440 := Aside0.mk (hbox); have GW440 := gw_ hg HB; have GE440 := gw_ hg HB; replace HB := hs_ HB hb; have NB439_440 := nl_ hg BK439; have NB440_439 := ng_ hg BK439; replace BK439 := kb_ BK439 hb; clear hb hbox hg) | ((with_reducible refine gate_dst (N := 4) rfl ?_); refine box_event ?hg (N := 4) ?hd (cs := #[.int .i64 0, .slice none 0 0, .slice none 0 0]) (t := 34) ?hr ?_; (case hd => rfl); (case hg => rfl); (case hr => first | (go_simp; done) | (go_simp; rfl)); intro gb441 hg w26 hbox hb; have BK441 := Aside0.mk (hbox); have GW441 := gw_ hg HB; have GE441 := gw_ hg HB; replace HB := hs_ HB hb; have NB439_441 := nl_ hg BK439; have NB441_439 := ng_ hg BK439; replace BK439 := kb_ BK439 hb; have NB440_441 := nl_ hg BK440; have NB441_440 := ng_ hg BK440; replace BK440 := kb_ BK440 hb; clear hb hbox hg; have hnb27 := NB439_440.out; have hnc27 := NB440_439.out; have hnb28 := NB439_441.out; have hnc28 := NB441_439.out; obtain ⟨hcz29_0, hcz29_1, hcz29_2, hfz29_0, hfz29_1, hfz29_2⟩ := cz3_ BK439.out; have hnb30 := NB440_441.out; have hnc30 := NB441_440.out; obtain ⟨hcz31_0, hfz31_0⟩ := cz1_ BK440.out) | ((with_reducible refine gate_callee (f := 24) rfl ?_); refine gm_ (some 7) Tryz.func24 #[.agg #[.int .i64 a0_0, .int .i64 a0_1, .slice A0_2 l0_2.length c0_2], .agg #[.slice A1_0 l1_0.length c1_0]] rfl ?_; (with_reducible refine (impl_TableOk.calls k a0_0 a0_1 _ _ l0_2 _ _ l1_0 false _ ?side1 HC0_2.out ?side3 HC1_0.out A3.out).mono ?_); (case side1 => exact cb_ HR0_2.out HB.out); (case side3 => exact cb_ HR1_0.out HB.out); rintro e w32 ⟨rfl, hb⟩; refine ⟨_, rfl, ?_⟩; replace BK439 := kb_ BK439 hb; replace BK440 := kb_ BK440 hb; replace BK441 := kb_ BK441 hb; replace HB := hs_ HB hb; (try clear hb); obtain ⟨hcz33_0, hcz33_1, hcz33_2, hfz33_0, hfz33_1, hfz33_2⟩ := cz3_ BK441.out))
  refine bodyPost_ret (results_cell_row rfl _ _ gb441 34 #[.int .i64 0, .slice none 0 0, .slice none 0 0] (0, 0) _ rfl (by (with_reducible repeat (first | refine blk_drewN ?_ _ | refine blk_drew ?_ | refine blk_alloc ?_ _)); refine blk_put (cs := #[.int .i64 0, .slice none 0 0, .slice none 0 0]) ?_ 2 _ rfl; (with_reducible repeat (first | refine blk_drewN ?_ _ | refine blk_drew ?_ | refine blk_alloc ?_ _)); refine blk_put (cs := #[.int .i64 0, .slice none 0 0, .slice none 0 0]) ?_ 1 _ rfl; (with_reducible repeat (first | refine blk_drewN ?_ _ | refine blk_drew ?_ | refine blk_alloc ?_ _)); refine blk_put (cs := #[.int .i64 0, .slice none 0 0, .slice none 0 0]) ?_ 0 _ rfl; (with_reducible repeat (first | refine blk_drewN ?_ _ | refine blk_drew ?_ | refine blk_alloc ?_ _)); exact BK441.out) Tryz.underlying34 rfl (by kernel_rfl)) rfl ?_
  exact ⟨_, _, fin_, by first | exact Kd.R_nil _ _ _ _ _ | exact Kd.N_nil _ _ _ _ _ | exact Kd.V_nil _ _ _ _ _ | exact Kd.Q_nil _ _ _ _ _ | exact Kd.S_nil _ _ _ _ _, by first | exact Kd.R_nil _ _ _ _ _ | exact Kd.N_nil _ _ _ _ _ | exact Kd.V_nil _ _ _ _ _ | exact Kd.Q_nil _ _ _ _ _ | exact Kd.S_nil _ _ _ _ _, bb_ HB.out⟩

/-! ### impl_IsOrder: function 46 -/
def impl_IsOrder.l0 : Nat → List Int → Int → Option Bool
 | 0, _, _ => none
 | k + 1, a, x => if x < 128 then ((slices_Contains_int_int.f k a x).bind fun t => (if t = true then (impl_IsOrder.l0 k a (wrap64 (x + 1))) else (some false))) else (some true)
def impl_IsOrder.l1 : Nat → List S98 → List Int → Int → Option Int
 | 0, _, _, _ => none
 | k + 1, l, a, x => if x < (l.length : Int) then (if 0 ≤ x then (if 0 ≤ (rd_T98 l x).f0 then (if (rd_T98 l x).f0 < (a.length : Int) then (if 0 ≤ (rd_T98 l x).f1 then (if (rd_T98 l x).f1 < (a.length : Int) then (if rd a (rd_T98 l x).f0 ≥ rd a (rd_T98 l x).f1 then (some x) else (impl_IsOrder.l1 k l a (wrap64 (x + 1)))) else none) else none) else none) else none) else none) else (some (-1))
def impl_IsOrder.f (k : Nat) (l0 : List S98) (l1 : List Int) : Option Bool := (impl_DependsOk.f k l0).bind fun b => (if b = true then (if (l1.length : Int) = 128 then ((impl_IsOrder.l0 k l1 0).bind fun t => (if t = true then ((impl_IsOrder.l1 k l0 l1 0).bind fun i => (some (!(decide (i ≥ 0))))) else (some false))) else (some false)) else (some false))
theorem impl_IsOrder.mono_l : ∀ k a x, LeO (impl_IsOrder.l0 k a x) (impl_IsOrder.l0 (k + 1) a x)
 | 0, _, _ => fun r h => by simp [impl_IsOrder.l0] at h
 | k + 1, a, x => by
  have ih := impl_IsOrder.mono_l k
  unfold impl_IsOrder.l0
  exact LeO.ite (LeO.bind (slices_Contains_int_int.mono _ _ _) (fun _ => LeO.ite (ih _ _) (LeO.refl _))) (LeO.refl _)
theorem impl_IsOrder.mono_l1 : ∀ k l a x, LeO (impl_IsOrder.l1 k l a x) (impl_IsOrder.l1 (k + 1) l a x)
 | 0, _, _, _ => fun r h => by simp [impl_IsOrder.l1] at h
 | k + 1, l, a, x => by
  have ih := impl_IsOrder.mono_l1 k
  unfold impl_IsOrder.l1
  exact LeO.ite (LeO.ite (LeO.ite (LeO.ite (LeO.ite (LeO.ite (LeO.ite (LeO.refl _) (ih _ _ _)) (LeO.refl _)) (LeO.refl _)) (LeO.refl _)) (LeO.refl _)) (LeO.refl _)) (LeO.refl _)
theorem impl_IsOrder.mono (l0 : List S98) (l1 : List Int) : ∀ k, LeO (impl_IsOrder.f k l0 l1) (impl_IsOrder.f (k + 1) l0 l1) := by
 intro k
 unfold impl_IsOrder.f
 exact LeO.bind (impl_DependsOk.mono _ _) (fun _ => LeO.ite (LeO.ite (LeO.bind (impl_IsOrder.mono_l _ _ _) (fun _ => LeO.ite (LeO.bind (impl_IsOrder.mono_l1 _ _ _ _) (fun _ => LeO.refl _)) (LeO.refl _))) (LeO.refl _)) (LeO.refl _))
theorem below_drawn0 {w V W : World} (h : Below w.heap.size w V) (d : Drawn0 V W) : Below w.heap.size w W := by
 obtain ⟨m, rfl⟩ := d
 exact pw_below_drewN h m
theorem bd0_ {w W : World} {g : Nat} {X} (h : w.heap[g]? = X) (d : Drawn0 w W) : W.heap[g]? = X := by
 obtain ⟨m, rfl⟩ := d
 exact h
set_option maxHeartbeats 4000000 in
theorem impl_IsOrder.gt (gb : Nat) (A1 : Option Addr) (c1 : Nat) (a : List Int) (f0 f1 : Int) (w : World) (hb : w.heap[gb]? = some (.cells #[.slice A1 a.length c1] 24 (0, 0))) (hr : Kd.C (Kd.int .i64) w A1 a.length a) (h0 : 0 ≤ f0) (h1 : f0 < (a.length : Int)) (h2 : 0 ≤ f1) (h3 : f1 < (a.length : Int)) :
  Calls Tryz.prog 77 #[.agg #[.int .i64 f0, .int .i64 f1], .pointer (some ⟨gb, 0, none⟩)] w fun e w' => e = .returned (.bool (decide (rd a f0 ≥ rd a f1))) ∧ Below w.heap.size w w' := by
 have HR := Aside0.mk hr
 have BK := Aside0.mk hb
 clear hr hb
 have HB := Aside0.mk (Below.refl w.heap.size w)
 have p0 := eq_true h0
 have p1 := eq_true h1
 have p2 := eq_true h2
 have p3 := eq_true h3
 have b0 : decide (0 ≤ f0) = true := decide_eq_true h0
 have b1 : decide (f0 < (a.length : Int)) = true := decide_eq_true h1
 have b2 : decide (0 ≤ f1) = true := decide_eq_true h2
 have b3 : decide (f1 < (a.length : Int)) = true := decide_eq_true h3
 go_enter Tryz.func77, Tryz.ntmps77
 go_wp2_with (first | ((with_reducible refine gate_dst (N := 2) rfl ?_); refine box_event ?hg (N := 2) ?hd (cs := #[.int .i64 f0, .int .i64 f1]) (t := 98) ?hr ?_; (case hd => rfl); (case hg => rfl); (case hr => first | (go_simp; done) | (go_simp; rfl)); intro gd hg w_0 hbox hb; have BD := Aside0.mk hbox; replace BK := Aside0.mk (bk_ BK.out hb); replace HR := Aside0.mk (Kd.C_below HR.out hb); replace HB := hs_ HB hb; clear hb hbox hg))
 obtain ⟨hcz_0, hfz_0⟩ := cz1_ BK.out
 obtain ⟨hcd_0, hcd_1, hfd_0, hfd_1⟩ := cz2_ BD.out
 obtain ⟨ad0, e0, hx0⟩ := Kd.at_int HR.out f0 h0 h1
 obtain ⟨ad1, e1, hx1⟩ := Kd.at_int HR.out f1 h2 h3
 cases e0
 cases e1
 repeat (go_quiet (fail); try go_wp2)
 go_ret
 exact ⟨by first | rfl | (simp; done) | (simp [*]; done), bb_ HB.out⟩
set_option maxHeartbeats 4000000 in
theorem impl_IsOrder.idx (k gb : Nat) (A0 : Option Addr) (c0 : Nat) (l0 : List S98) (A1 : Option Addr) (c1 : Nat) (a : List Int) (r : Int) (w : World) (hb : w.heap[gb]? = some (.cells #[.slice A1 a.length c1] 24 (0, 0))) (hr0 : Kd.C k98 w A0 l0.length l0) (hr1 : Kd.C (Kd.int .i64) w A1 a.length a) (h : impl_IsOrder.l1 k l0 a 0 = some r) :
  Calls Tryz.prog 109 #[.slice A0 l0.length c0, .func (.func 77) #[] #[.pointer (some ⟨gb, 0, none⟩)]] w fun e w' => e = .returned (.int .i64 r) ∧ Below w.heap.size w w' := by
 have HR0 := Aside0.mk hr0
 have HR1 := Aside0.mk hr1
 have BK := Aside0.mk hb
 have H' := Aside0.mk h
 have HB := Aside0.mk (Below.refl w.heap.size w)
 clear hr0 hr1 hb h
 go_enter Tryz.func109, Tryz.ntmps109
 go_wp2
 go_loopg [8] k (fun kq v8 w' => ∃ (x : Int), v8 = .int .i64 x ∧ Aside0 (impl_IsOrder.l1 kq l0 a x = some r) ∧ Aside0 (kq ≤ k) ∧ Aside0 (Below w.heap.size w w'))
 case atStart => exact ⟨(0), ef_, H', ⟨Nat.le_refl _⟩, ⟨bb_ HB.out⟩⟩
 clear H' HB
 obtain ⟨x, rfl, HA, HK1, HB⟩ := hrel
 obtain _ | k1 := gk
 ·exact absurd HA.out (by simp [impl_IsOrder.l1])
 have H := HA.out
 clear HA
 simp only [impl_IsOrder.l1] at H
 by_cases q1 : x < (l0.length : Int)
 rotate_left
 ·rw [if_neg q1] at H
  have q1b : decide (x < (l0.length : Int)) = false := decide_eq_false q1
  clear q1
  obtain rfl := Option.some.inj H
  go_wp2
  go_ret
  exact ⟨by first | rfl | (simp; done) | (simp [*]; done), bb_ HB.out⟩
 rw [if_pos q1] at H
 have q1b : decide (x < (l0.length : Int)) = true := decide_eq_true q1
 by_cases q2 : 0 ≤ x
 rotate_left
 ·rw [if_neg q2] at H
  exact absurd H (by simp)
 rw [if_pos q2] at H
 have q2b : decide (0 ≤ x) = true := decide_eq_true q2
 by_cases q3 : 0 ≤ (rd_T98 l0 x).f0
 rotate_left
 ·rw [if_neg q3] at H
  exact absurd H (by simp)
 rw [if_pos q3] at H
 by_cases q4 : (rd_T98 l0 x).f0 < (a.length : Int)
 rotate_left
 ·rw [if_neg q4] at H
  exact absurd H (by simp)
 rw [if_pos q4] at H
 by_cases q5 : 0 ≤ (rd_T98 l0 x).f1
 rotate_left
 ·rw [if_neg q5] at H
  exact absurd H (by simp)
 rw [if_pos q5] at H
 by_cases q6 : (rd_T98 l0 x).f1 < (a.length : Int)
 rotate_left
 ·rw [if_neg q6] at H
  exact absurd H (by simp)
 rw [if_pos q6] at H
 have A3 := Aside0.mk (And.intro (And.intro q3 q4) (And.intro q5 q6))
 clear q3 q4 q5 q6
 obtain ⟨ad1, e1, hx0, hx1⟩ := at_T98 (cb_ HR0.out HB.out) x q2 q1
 cases e1
 replace q1 := eq_true q1
 replace q2 := eq_true q2
 by_cases q7 : rd a (rd_T98 l0 x).f0 ≥ rd a (rd_T98 l0 x).f1
 ·rw [if_pos q7] at H
  have q7b : decide (rd a (rd_T98 l0 x).f0 ≥ rd a (rd_T98 l0 x).f1) = true := decide_eq_true q7
  clear q7
  obtain rfl := Option.some.inj H
  go_wp2_with (first | (go_at_call 77; (with_reducible refine (impl_IsOrder.gt gb A1 c1 a _ _ _ (bk_ BK.out HB.out) ?side1 A3.out.1.1 A3.out.1.2 A3.out.2.1 A3.out.2.2).mono ?_); (case side1 => exact cb_ HR1.out HB.out); rw [q7b]; rintro e w1 ⟨rfl, hb⟩; replace HB := hs_ HB hb; clear hb))
  go_ret
  exact ⟨by first | rfl | (simp; done) | (simp [*]; done), bb_ HB.out⟩
 rw [if_neg q7] at H
 have q7b : decide (rd a (rd_T98 l0 x).f0 ≥ rd a (rd_T98 l0 x).f1) = false := decide_eq_false q7
 clear q7
 have H' := Aside0.mk H
 clear H
 go_wp2_with (first | (go_at_call 77; (with_reducible refine (impl_IsOrder.gt gb A1 c1 a _ _ _ (bk_ BK.out HB.out) ?side1 A3.out.1.1 A3.out.1.2 A3.out.2.1 A3.out.2.2).mono ?_); (case side1 => exact cb_ HR1.out HB.out); rw [q7b]; rintro e w1 ⟨rfl, hb⟩; replace HB := hs_ HB hb; clear hb))
 go_roundg k1
 case measure => have := HK1.out; omega
 case rel => exact ⟨(wrap64 (x + 1)), ef_, H', ⟨by have := HK1.out; omega⟩, ⟨bb_ HB.out⟩⟩
set_option maxHeartbeats 4000000 in
theorem impl_IsOrder.cont (k gb : Nat) (A0 : Option Addr) (c0 : Nat) (l0 : List S98) (A1 : Option Addr) (c1 : Nat) (a : List Int) (r : Int) (w : World) (hb : w.heap[gb]? = some (.cells #[.slice A1 a.length c1] 24 (0, 0))) (hr0 : Kd.C k98 w A0 l0.length l0) (hr1 : Kd.C (Kd.int .i64) w A1 a.length a) (h : impl_IsOrder.l1 k l0 a 0 = some r) :
  Calls Tryz.prog 76 #[.slice A0 l0.length c0, .func (.func 77) #[] #[.pointer (some ⟨gb, 0, none⟩)]] w fun e w' => e = .returned (.bool (decide (r ≥ 0))) ∧ Below w.heap.size w w' := by
 have hq := Aside0.mk (impl_IsOrder.idx k gb A0 c0 l0 A1 c1 a r w hb hr0 hr1 h)
 have HB := Aside0.mk (Below.refl w.heap.size w)
 clear hb hr0 hr1 h
 go_enter Tryz.func76, Tryz.ntmps76
 go_wp2_with (first | (go_at_call 109; (with_reducible refine hq.out.mono ?_); rintro e w1 ⟨rfl, hb⟩; replace HB := hs_ HB hb; clear hb))
 go_ret
 exact ⟨by first | rfl | (simp; done) | (simp [*]; done), bb_ HB.out⟩
theorem impl_IsOrder.e0 {P : Prop} (h : P := by
 go_enter Tryz.func46, Tryz.ntmps46
 go_wp2_with (first | ((with_reducible refine gate_dst (N := 3) rfl ?_); refine box_event ?hg (N := 3) ?hd (cs := #[.slice A1 l1.length c1]) (t := 24) ?hr ?_; (case hd => rfl); (case hg => rfl); (case hr => first | (go_simp; done) | (go_simp; rfl)); intro gb hg w_0 hbox hb; have BK := Aside0.mk hbox; replace HB := hs_ HB hb; clear hb hbox hg; obtain ⟨hcz_0, hfz_0⟩ := cz1_ BK.out) | (go_at_call 74; (with_reducible refine (impl_DependsOk.calls k A0 c0 l0 _ _ ?side1 HC0.out A1_.out).mono ?_); (case side1 => exact cb_ HR0.out HB.out); rintro e w_0 ⟨rfl, hb⟩; replace BK := Aside0.mk (bk_ BK.out hb); replace HB := hs_ HB hb; (try clear hb); obtain ⟨hcz_0, hfz_0⟩ := cz1_ BK.out))
 go_ret
 exact ⟨by first | rfl | (simp; done) | (simp [*]; done), bb_ HB.out⟩) : P := h
set_option maxHeartbeats 4000000 in
theorem impl_IsOrder.calls (k : Nat) (A0 : Option Addr) (c0 : Nat) (l0 : List S98) (A1 : Option Addr) (c1 : Nat) (l1 : List Int) (r : Bool) (w : World) (hr0 : Kd.C k98 w A0 l0.length l0) (hc0 : l0.length ≤ c0) (hr1 : Kd.C (Kd.int .i64) w A1 l1.length l1) (hc1 : l1.length ≤ c1) (h : impl_IsOrder.f k l0 l1 = some r) :
  Calls Tryz.prog 46 #[.slice A0 l0.length c0, .slice A1 l1.length c1] w fun e w' => e = .returned (.bool r) ∧ Below w.heap.size w w' := by
 have HR0 := Aside0.mk hr0
 have HC0 := Aside0.mk hc0
 have HR1 := Aside0.mk hr1
 have HC1 := Aside0.mk hc1
 have HB := Aside0.mk (Below.refl w.heap.size w)
 clear hr0 hc0 hr1 hc1
 unfold impl_IsOrder.f at h
 obtain ⟨b1, A10, h⟩ := Option.bind_eq_some_iff.1 h
 have A1_ := Aside0.mk A10
 clear A10
 cases b1 with
 | false =>
  have h1 : some false = some r := h
  obtain rfl := Option.some.inj h1
  clear h h1
  exact impl_IsOrder.e0
 | true =>
  rw [if_pos rfl] at h
  by_cases q0 : (l1.length : Int) = 128
  ·rw [if_pos q0] at h
   have q0b : ((l1.length : Int) != 128) = false := bne_eq_false_iff_eq.mpr q0
   have q0c : ((l1.length : Int) == 128) = true := beq_iff_eq.mpr q0
   clear q0
   obtain ⟨t, A20, h⟩ := Option.bind_eq_some_iff.1 h
   have A2_ := Aside0.mk A20
   have HT := Aside0.mk h
   clear A20 h
   go_enter Tryz.func46, Tryz.ntmps46
   go_wp2_with (first | ((with_reducible refine gate_dst (N := 3) rfl ?_); refine box_event ?hg (N := 3) ?hd (cs := #[.slice A1 l1.length c1]) (t := 24) ?hr ?_; (case hd => rfl); (case hg => rfl); (case hr => first | (go_simp; done) | (go_simp; rfl)); intro gb hg w1 hbox hb; have BK := Aside0.mk hbox; replace HB := hs_ HB hb; clear hb hbox hg; obtain ⟨hcz_0, hfz_0⟩ := cz1_ BK.out) | (go_at_call 74; (with_reducible refine (impl_DependsOk.calls k A0 c0 l0 _ _ ?side1 HC0.out A1_.out).mono ?_); (case side1 => exact cb_ HR0.out HB.out); rintro e w2 ⟨rfl, hb⟩; replace BK := Aside0.mk (bk_ BK.out hb); replace HB := hs_ HB hb; (try clear hb); obtain ⟨hcz_0, hfz_0⟩ := cz1_ BK.out))
   go_loopg [14] k (fun kq v14 w' => ∃ (x : Int), v14 = .int .i64 x ∧ Aside0 (impl_IsOrder.l0 kq l1 x = some t) ∧ Aside0 (kq ≤ k) ∧ Aside0 (w'.heap[gb]? = some (.cells #[.slice A1 l1.length c1] 24 (0, 0))) ∧ Aside0 (Below w.heap.size w w'))
   case atStart => exact ⟨(0), ef_, A2_, ⟨Nat.le_refl _⟩, ⟨bq_ BK.out⟩, ⟨bb_ HB.out⟩⟩
   clear A2_ HB BK
   try clear hcz_0
   try clear hfz_0
   obtain ⟨x, rfl, HA, HK1, BK, HB⟩ := hrel
   obtain ⟨hcy_0, hfy_0⟩ := cz1_ BK.out
   obtain _ | k1 := gk
   ·exact absurd HA.out (by simp [impl_IsOrder.l0])
   have H := HA.out
   clear HA
   simp only [impl_IsOrder.l0] at H
   by_cases q1 : x < 128
   rotate_left
   ·rw [if_neg q1] at H
    have q1b : decide (x < 128) = false := decide_eq_false q1
    clear q1
    obtain rfl := Option.some.inj H
    have h := HT.out
    rw [if_pos rfl] at h
    obtain ⟨i, A40, h⟩ := Option.bind_eq_some_iff.1 h
    have A4 := Aside0.mk A40
    obtain rfl := Option.some.inj h
    clear A40 h HT
    go_wp2_with (first | (go_at_call 76; (with_reducible refine (impl_IsOrder.cont k gb A0 c0 l0 A1 c1 l1 i _ (bq_ BK.out) ?side1 ?side2 A4.out).mono ?_); (case side1 => exact cb_ HR0.out HB.out); (case side2 => exact cb_ HR1.out HB.out); rintro e w3 ⟨rfl, hb⟩; replace HB := hs_ HB hb; clear hb))
    go_ret
    exact ⟨by first | rfl | (simp; done) | (simp [*]; done), bb_ HB.out⟩
   rw [if_pos q1] at H
   have q1b : decide (x < 128) = true := decide_eq_true q1
   clear q1
   obtain ⟨u, A30, H⟩ := Option.bind_eq_some_iff.1 H
   have A3 := Aside0.mk A30
   clear A30
   cases u with
   | true =>
    rw [if_pos rfl] at H
    have H' := Aside0.mk H
    clear H
    go_wp2_with (first | (go_at_call 75; (with_reducible refine (slices_Contains_int_int.calls k1 A1 c1 l1 x _ _ ?side1 HC1.out A3.out).mono ?_); (case side1 => exact cb_ HR1.out HB.out); rintro e w3 ⟨rfl, hd⟩; replace BK := Aside0.mk (bd0_ BK.out hd); replace HB := Aside0.mk (below_drawn0 HB.out hd); clear hd))
    go_roundg k1
    case measure => omega
    case rel => exact ⟨(wrap64 (x + 1)), ef_, H', ⟨by have := HK1.out; omega⟩, ⟨bq_ BK.out⟩, ⟨bb_ HB.out⟩⟩
   | false =>
    have H1 : some false = some t := H
    obtain rfl := Option.some.inj H1
    clear H H1
    have h1 : some false = some r := HT.out
    obtain rfl := Option.some.inj h1
    clear h1 HT
    go_wp2_with (first | (go_at_call 75; (with_reducible refine (slices_Contains_int_int.calls k1 A1 c1 l1 x _ _ ?side1 HC1.out A3.out).mono ?_); (case side1 => exact cb_ HR1.out HB.out); rintro e w3 ⟨rfl, hd⟩; replace BK := Aside0.mk (bd0_ BK.out hd); replace HB := Aside0.mk (below_drawn0 HB.out hd); clear hd))
    go_ret
    exact ⟨by first | rfl | (simp; done) | (simp [*]; done), bb_ HB.out⟩
  ·rw [if_neg q0] at h
   have h1 : some false = some r := h
   obtain rfl := Option.some.inj h1
   have q0b : ((l1.length : Int) != 128) = true := bne_iff_ne.mpr q0
   have q0c : ((l1.length : Int) == 128) = false := beq_eq_false_iff_ne.mpr q0
   clear q0 h h1
   exact impl_IsOrder.e0

/-! ### impl_Depend_110: function 110 -/
def impl_Depend_110.l0 : Nat → List (S98) → Int → Int → Int → Int → Option (Int)
 | 0, _, _, _, _, _ => none
 | k + 1, x0, x7, x8, x454000, x454001 => if x8 < x7 then (if 0 ≤ x8 then (if x8 < (x0.length : Int) then (if (x454000 == ((rd_T98 x0 x8).f0) && (x454001 == ((rd_T98 x0 x8).f1))) = true then (some x8) else (impl_Depend_110.l0 k x0 x7 (wrap64 (x8 + 1)) x454000 x454001)) else (none)) else (none)) else (some (-1))
def impl_Depend_110.f (k : Nat) (l0 : List (S98)) (a1_0 : Int) (a1_1 : Int) : Option (Int) := impl_Depend_110.l0 k l0 (l0.length : Int) 0 a1_0 a1_1
theorem impl_Depend_110.mono_l : ∀ k, (∀ y0 y1 y2 y3 y4, LeO (impl_Depend_110.l0 k y0 y1 y2 y3 y4) (impl_Depend_110.l0 (k + 1) y0 y1 y2 y3 y4))
 | 0 => fun _ _ _ _ _ r h => by simp [impl_Depend_110.l0] at h
 | k + 1 => by
  have ih0 := impl_Depend_110.mono_l k
  ·intro y0 y1 y2 y3 y4
   unfold impl_Depend_110.l0
   repeat' (with_reducible first | exact ih0 .. | exact LeO.refl .. | exact LeO.none .. | refine LeO.ite ?_ ?_ | refine LeO.bind ?_ (fun _ => ?_))
theorem impl_Depend_110.mono : ∀ a0 a1 a2 k, LeO (impl_Depend_110.f k a0 a1 a2) (impl_Depend_110.f (k + 1) a0 a1 a2) := by
 intro a0 a1 a2 k
 have ih0 := impl_Depend_110.mono_l k
 unfold impl_Depend_110.f
 repeat' (with_reducible first | exact ih0 .. | exact LeO.refl .. | exact LeO.none .. | refine LeO.ite ?_ ?_ | refine LeO.bind ?_ (fun _ => ?_))
theorem impl_Depend_110.calls (k : Nat) (A0 : Option Addr) (c0 : Nat) (l0 : List (S98)) (a1_0 : Int) (a1_1 : Int) (r : Int) (w : World) (hr0 : Kd.C k98 w A0 l0.length l0) (hc0 : l0.length ≤ c0) (h : impl_Depend_110.f k l0 a1_0 a1_1 = some r) :
  Calls Tryz.prog 110 #[.slice A0 l0.length c0, .agg #[.int .i64 a1_0, .int .i64 a1_1]] w fun e w' => e = .returned (.int .i64 r) ∧ Below w.heap.size w w' := by
 have hu98 := Tryz.underlying98
 have HR0 := Aside0.mk hr0
 have HC0 := Aside0.mk hc0
 clear hr0 hc0
 have HB := Aside0.mk (Below.refl w.heap.size w)
 have H : (impl_Depend_110.l0 k l0 (l0.length : Int) 0 a1_0 a1_1) = some r := h
 clear h
 have H' := Aside0.mk H
 clear H
 go_enter Tryz.func110, Tryz.ntmps110
 go_wp2_with (first | ((with_reducible refine gate_dst (N := 3) rfl ?_); refine box_event ?hg (N := 3) ?hd (cs := #[.int .i64 a1_0, .int .i64 a1_1]) (t := 98) ?hr ?_; (case hd => rfl); (case hg => rfl); (case hr => first | (go_simp; done) | (go_simp; rfl)); intro gb453 hg w3 hbox hb; have BK453 := Aside0.mk (hbox); have GW453 := gw_ hg HB; have GE453 := gw_ hg HB; replace HB := hs_ HB hb; clear hb hbox hg))
 repeat (go_quiet (first | ((with_reducible refine gate_dst (N := 3) rfl ?_); refine box_event ?hg (N := 3) ?hd (cs := #[.int .i64 a1_0, .int .i64 a1_1]) (t := 98) ?hr ?_; (case hd => rfl); (case hg => rfl); (case hr => first | (go_simp; done) | (go_simp; rfl)); intro gb453 hg w3 hbox hb; have BK453 := Aside0.mk (hbox); have GW453 := gw_ hg HB; have GE453 := gw_ hg HB; replace HB := hs_ HB hb; clear hb hbox hg)); try go_wp2_with (first | ((with_reducible refine gate_dst (N := 3) rfl ?_); refine box_event ?hg (N := 3) ?hd (cs := #[.int .i64 a1_0, .int .i64 a1_1]) (t := 98) ?hr ?_; (case hd => rfl); (case hg => rfl); (case hr => first | (go_simp; done) | (go_simp; rfl)); intro gb453 hg w3 hbox hb; have BK453 := Aside0.mk (hbox); have GW453 := gw_ hg HB; have GE453 := gw_ hg HB; replace HB := hs_ HB hb; clear hb hbox hg)))
 go_loopg [8] k (fun kq v8 w' => ∃ (x8_1 : Int), v8 = .int .i64 x8_1 ∧ Aside0 (impl_Depend_110.l0 kq l0 (l0.length : Int) x8_1 a1_0 a1_1 = some r) ∧ Aside0 (kq ≤ k) ∧ Aside0 (w'.heap[gb453]? = some (.cells #[.int .i64 a1_0, .int .i64 a1_1] 98 (0, 0))) ∧ Aside0 (Below w.heap.size w w'))
 case atStart => exact ⟨(0), ef_, H', ⟨Nat.le_refl _⟩, ⟨bq_ BK453.out⟩, ⟨bb_ HB.out⟩⟩
 clear H'
 obtain ⟨x8_1, rfl, HA, HK1, BK453, HB⟩ := hrel
 obtain _ | k1 := gk
 ·exact absurd HA.out (by simp [impl_Depend_110.l0])
 have H := HA.out
 clear HA
 simp only [impl_Depend_110.l0] at H
 by_cases c4 : x8_1 < (l0.length : Int)
 rotate_left
 ·rw [if_neg c4] at H
  have c4b0 : decide (x8_1 < (l0.length : Int)) = false := decide_eq_false c4
  clear c4
  obtain rfl := Option.some.inj H
  go_wp2
  repeat (go_quiet (fail); try go_wp2)
  go_ret
  exact ⟨fin_, bb_ HB.out⟩
 rw [if_pos c4] at H
 have c4b0 : decide (x8_1 < (l0.length : Int)) = true := decide_eq_true c4
 clear c4
 by_cases c5 : 0 ≤ x8_1
 rotate_left
 ·rw [if_neg c5] at H
  exact absurd H (by simp)
 rw [if_pos c5] at H
 have c5b0 : decide (0 ≤ x8_1) = true := decide_eq_true c5
 clear c5
 by_cases c6 : x8_1 < (l0.length : Int)
 rotate_left
 ·rw [if_neg c6] at H
  exact absurd H (by simp)
 rw [if_pos c6] at H
 have c6b0 : decide (x8_1 < (l0.length : Int)) = true := decide_eq_true c6
 clear c6
 by_cases c7 : (a1_0 == ((rd_T98 l0 x8_1).f0) && (a1_1 == ((rd_T98 l0 x8_1).f1))) = true
 ·rw [if_pos c7] at H
  have c7b0 : (a1_0 == ((rd_T98 l0 x8_1).f0) && (a1_1 == ((rd_T98 l0 x8_1).f1))) = true := c7
  (try (have c7b1 : decide (a1_0 = ((rd_T98 l0 x8_1).f0) && (a1_1 == ((rd_T98 l0 x8_1).f1))) = true := by simpa using c7))
  (try (have c7b2 : (a1_0 == ((rd_T98 l0 x8_1).f0) && (a1_1 == ((rd_T98 l0 x8_1).f1))) = true := by simpa using c7))
  clear c7
  obtain rfl := Option.some.inj H
  obtain ⟨hcz8_0, hcz8_1, hfz8_0, hfz8_1⟩ := cz2_ BK453.out
  have p454 : 0 ≤ (x8_1 : Int) := of_decide_eq_true dg_
  have q454 : x8_1 < (l0.length : Int) := of_decide_eq_true dg_
  obtain ⟨ad454, e454, hx454_0, hx454_1⟩ := at_T98 HR0.out x8_1 p454 q454
  cases e454
  replace hx454_0 := hc_ HB hx454_0
  replace hx454_1 := hc_ HB hx454_1
  replace p454 := eq_true p454
  replace q454 := eq_true q454
  go_wp2
  repeat (go_quiet (fail); try go_wp2)
  go_ret
  exact ⟨fin_, bb_ HB.out⟩
 rw [if_neg c7] at H
 have c7b0 : (a1_0 == ((rd_T98 l0 x8_1).f0) && (a1_1 == ((rd_T98 l0 x8_1).f1))) = false := by simpa using c7
 (try (have c7b1 : decide (a1_0 = ((rd_T98 l0 x8_1).f0) && (a1_1 == ((rd_T98 l0 x8_1).f1))) = false := by simpa using c7))
 (try (have c7b2 : (a1_0 == ((rd_T98 l0 x8_1).f0) && (a1_1 == ((rd_T98 l0 x8_1).f1))) = false := by simpa using c7))
 (try (have c7b3 : ¬ (a1_0 = ((rd_T98 l0 x8_1).f0) && (a1_1 == ((rd_T98 l0 x8_1).f1))) := by simpa using c7))
 clear c7
 have H' := Aside0.mk H
 clear H
 obtain ⟨hcz9_0, hcz9_1, hfz9_0, hfz9_1⟩ := cz2_ BK453.out
 have p454 : 0 ≤ (x8_1 : Int) := of_decide_eq_true dg_
 have q454 : x8_1 < (l0.length : Int) := of_decide_eq_true dg_
 obtain ⟨ad454, e454, hx454_0, hx454_1⟩ := at_T98 HR0.out x8_1 p454 q454
 cases e454
 replace hx454_0 := hc_ HB hx454_0
 replace hx454_1 := hc_ HB hx454_1
 replace p454 := eq_true p454
 replace q454 := eq_true q454
 go_wp2
 repeat (go_quiet (fail); try go_wp2)
 go_roundg k1
 case measure => have := HK1.out; omega
 case rel => exact ⟨(wrap64 (x8_1 + 1)), ef_, H', ⟨by have := HK1.out; omega⟩, ⟨bq_ BK453.out⟩, ⟨bb_ HB.out⟩⟩

/-! ### impl_Depend_78: function 78 -/
def impl_Depend_78.f (k : Nat) (l0 : List (S98)) (a1_0 : Int) (a1_1 : Int) : Option (Bool) := (impl_Depend_110.f k l0 a1_0 a1_1).bind fun t456 => (some (decide (t456 ≥ 0)))
theorem impl_Depend_78.mono : ∀ a0 a1 a2 k, LeO (impl_Depend_78.f k a0 a1 a2) (impl_Depend_78.f (k + 1) a0 a1 a2) := by
 intro a0 a1 a2 k
 unfold impl_Depend_78.f
 repeat' (with_reducible first | exact impl_Depend_110.mono .. | exact LeO.refl .. | exact LeO.none .. | refine LeO.ite ?_ ?_ | refine LeO.bind ?_ (fun _ => ?_))
theorem impl_Depend_78.calls (k : Nat) (A0 : Option Addr) (c0 : Nat) (l0 : List (S98)) (a1_0 : Int) (a1_1 : Int) (r : Bool) (w : World) (hr0 : Kd.C k98 w A0 l0.length l0) (hc0 : l0.length ≤ c0) (h : impl_Depend_78.f k l0 a1_0 a1_1 = some r) :
  Calls Tryz.prog 78 #[.slice A0 l0.length c0, .agg #[.int .i64 a1_0, .int .i64 a1_1]] w fun e w' => e = .returned (.bool r) ∧ Below w.heap.size w w' := by
 have hu98 := Tryz.underlying98
 have HR0 := Aside0.mk hr0
 have HC0 := Aside0.mk hc0
 clear hr0 hc0
 have HB := Aside0.mk (Below.refl w.heap.size w)
 have H : ((impl_Depend_110.f k l0 a1_0 a1_1).bind fun t456 => (some (decide (t456 ≥ 0)))) = some r := h
 clear h
 obtain ⟨t456, A3, H⟩ := bi_ H
 obtain rfl := Option.some.inj H
 go_enter Tryz.func78, Tryz.ntmps78
 go_wp2_with (first | ((with_reducible refine gate_dst (N := 3) rfl ?_); refine box_event ?hg (N := 3) ?hd (cs := #[.int .i64 a1_0, .int .i64 a1_1]) (t := 98) ?hr ?_; (case hd => rfl); (case hg => rfl); (case hr => first | (go_simp; done) | (go_simp; rfl)); intro gb455 hg w4 hbox hb; have BK455 := Aside0.mk (hbox); have GW455 := gw_ hg HB; have GE455 := gw_ hg HB; replace HB := hs_ HB hb; clear hb hbox hg; obtain ⟨hcz5_0, hcz5_1, hfz5_0, hfz5_1⟩ := cz2_ BK455.out) | ((with_reducible refine gate_callee (f := 110) rfl ?_); refine gm_ (some 7) Tryz.func110 #[.slice A0 l0.length c0, .agg #[.int .i64 a1_0, .int .i64 a1_1]] rfl ?_; (with_reducible refine (impl_Depend_110.calls k _ _ l0 a1_0 a1_1 t456 _ ?side1 HC0.out A3.out).mono ?_); (case side1 => exact cb_ HR0.out HB.out); rintro e w6 ⟨rfl, hb⟩; refine ⟨_, rfl, ?_⟩; replace BK455 := kb_ BK455 hb; replace HB := hs_ HB hb; (try clear hb)))
 go_ret
 exact ⟨fin_, bb_ HB.out⟩

end Go.Proofs.YtimdefbpoddoaaaGreat.PFnVerdicts
-- thin
