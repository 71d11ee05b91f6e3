/- The law's functions as plain functions, and their calls. No condition. -/
import Derived.Test.YtimdefbpoddoaaaGreatPFnExactCheckClassesx0
import Derived.Test.YtimdefbpoddoaaaGreatPFnExactCheckClassesx14
import Derived.Test.YtimdefbpoddoaaaGreatPFnExactCheckClassesx16
import Derived.Test.YtimdefbpoddoaaaGreatPFnExactCheckClassesx17
import Derived.Test.YtimdefbpoddoaaaGreatPFnExactCheckClassesx21
namespace Go.Proofs.YtimdefbpoddoaaaGreat.PFnExactCheckClasses
open Go.RowKit Go.Proofs.YtimdefbpoddoaaaGreatW.PrintWords Go.Proofs.YtimdefbpoddoaaaGreatW.PrintLast Go.Proofs.YtimdefbpoddoaaaGreatW.PrintMore
attribute [local go_sem] max2_int min2_int max_two min_two max_three min_three max_four min_four
set_option linter.unusedVariables false
set_option maxHeartbeats 8000000
set_option maxRecDepth 100000
set_option linter.unusedSimpArgs false

/-! ### impl_DependsOf: function 45 -/
/-- The dependencies along one walk, put behind what there is. -/
def impl_DependsOf.l3 : Nat → List Int → Int → List S98 → Option (List S98)
 | 0, _, _, _ => none
 | k + 1, ws, i, o => if i < (ws.length : Int) then (if 0 ≤ wrap64 (i - 1) then (if wrap64 (i - 1) < (ws.length : Int) then (if 0 ≤ i then (if o.length < 8796093022208 then (impl_DependsOf.l3 k ws (wrap64 (i + 1)) (o ++ [(⟨rd ws (wrap64 (i - 1)), rd ws i⟩ : S98)])) else none) else none) else none) else none) else (some o)
def impl_DependsOf.v (k : Nat) (a0 a1 : Int) (l2 l3 : List Int) (x y : Int) (o : List S98) : Option (List S98) := (impl_WalkTable.f k a0 a1 l2 l3 x y).bind fun ws => impl_DependsOf.l3 k ws 1 o
mutual
def impl_DependsOf.l1 : Nat → Int → Int → List Int → List Int → Int → Int → List S98 → Option (List S98)
 | 0, _, _, _, _, _, _, _ => none
 | k + 1, a0, a1, l2, l3, n, x, o => if x < n then (impl_DependsOf.l2 k a0 a1 l2 l3 n x 0 o) else (some o)
def impl_DependsOf.l2 : Nat → Int → Int → List Int → List Int → Int → Int → Int → List S98 → Option (List S98)
 | 0, _, _, _, _, _, _, _, _ => none
 | k + 1, a0, a1, l2, l3, n, x, y, o => if y < n then (if x = y then (impl_DependsOf.l2 k a0 a1 l2 l3 n x (wrap64 (y + 1)) o) else ((impl_DependsOf.v k a0 a1 l2 l3 x y o).bind fun o' => impl_DependsOf.l2 k a0 a1 l2 l3 n x (wrap64 (y + 1)) o')) else (impl_DependsOf.l1 k a0 a1 l2 l3 n (wrap64 (x + 1)) o)
end
def impl_DependsOf.ps (k : Nat) (a0 a1 : Int) (l2 l3 : List Int) (o : List S98) : Option (List S98) := (impl_NodeCount.f a0 a1).bind fun n => impl_DependsOf.l1 k a0 a1 l2 l3 n 0 o
def impl_DependsOf.f (k : Nat) (a0 a1 : Int) (l2 l3 : List Int) : Option (List S98) := (impl_TableOk.f k a0 a1 l2 l3).bind fun ok => (if ok = true then ((impl_DependsOf.ps k a0 a1 l2 l3 []).bind fun o => impl_arranged.f o) else (some []))
theorem impl_DependsOf.mono_l3 : ∀ k ws i o, LeO (impl_DependsOf.l3 k ws i o) (impl_DependsOf.l3 (k + 1) ws i o)
 | 0, _, _, _ => fun r h => by simp [impl_DependsOf.l3] at h
 | k + 1, ws, i, o => by
  have ih := impl_DependsOf.mono_l3 k
  unfold impl_DependsOf.l3
  exact LeO.ite (LeO.ite (LeO.ite (LeO.ite (LeO.ite (ih _ _ _) (LeO.refl _)) (LeO.refl _)) (LeO.refl _)) (LeO.refl _)) (LeO.refl _)
theorem impl_DependsOf.v_mono (k : Nat) (a0 a1 : Int) (l2 l3 : List Int) (x y : Int) (o : List S98) : LeO (impl_DependsOf.v k a0 a1 l2 l3 x y o) (impl_DependsOf.v (k + 1) a0 a1 l2 l3 x y o) := by
 unfold impl_DependsOf.v
 exact LeO.bind (impl_WalkTable.mono _ _ _ _ _ _ _) (fun _ => impl_DependsOf.mono_l3 _ _ _ _)
theorem impl_DependsOf.mono_l : ∀ k, (∀ a0 a1 l2 l3 n x o, LeO (impl_DependsOf.l1 k a0 a1 l2 l3 n x o) (impl_DependsOf.l1 (k + 1) a0 a1 l2 l3 n x o)) ∧ (∀ a0 a1 l2 l3 n x y o, LeO (impl_DependsOf.l2 k a0 a1 l2 l3 n x y o) (impl_DependsOf.l2 (k + 1) a0 a1 l2 l3 n x y o))
 | 0 => ⟨fun _ _ _ _ _ _ _ r h => by simp [impl_DependsOf.l1] at h, fun _ _ _ _ _ _ _ _ r h => by simp [impl_DependsOf.l2] at h⟩
 | k + 1 => by
  obtain ⟨ih1, ih2⟩ := impl_DependsOf.mono_l k
  refine ⟨fun a0 a1 l2 l3 n x o => ?_, fun a0 a1 l2 l3 n x y o => ?_⟩
  ·unfold impl_DependsOf.l1
   exact LeO.ite (ih2 _ _ _ _ _ _ _ _) (LeO.refl _)
  ·unfold impl_DependsOf.l2
   exact LeO.ite (LeO.ite (ih2 _ _ _ _ _ _ _ _) (LeO.bind (impl_DependsOf.v_mono _ _ _ _ _ _ _ _) (fun _ => ih2 _ _ _ _ _ _ _ _))) (ih1 _ _ _ _ _ _ _)
theorem impl_DependsOf.ps_mono (k : Nat) (a0 a1 : Int) (l2 l3 : List Int) (o : List S98) : LeO (impl_DependsOf.ps k a0 a1 l2 l3 o) (impl_DependsOf.ps (k + 1) a0 a1 l2 l3 o) := by
 unfold impl_DependsOf.ps
 exact LeO.bind (LeO.refl _) (fun _ => (impl_DependsOf.mono_l k).1 _ _ _ _ _ _ _)
theorem impl_DependsOf.mono (a0 a1 : Int) (l2 l3 : List Int) : ∀ k, LeO (impl_DependsOf.f k a0 a1 l2 l3) (impl_DependsOf.f (k + 1) a0 a1 l2 l3) := by
 intro k
 unfold impl_DependsOf.f
 exact LeO.bind (impl_TableOk.mono _ _ _ _ _) (fun _ => LeO.ite (LeO.bind (impl_DependsOf.ps_mono _ _ _ _ _ _) (fun _ => LeO.refl _)) (LeO.refl _))
/-- What a call beneath may write: the box g, and rows of dependencies. -/
def impl_DependsOf.St (g : Nat) (w W : World) : Prop := w.heap.size ≤ W.heap.size ∧ ∀ k, k < w.heap.size → k ≠ g → (∀ cs, w.heap[k]? ≠ some (.cells cs 98 (0, 0))) → W.heap[k]? = w.heap[k]?
theorem impl_DependsOf.St.trans {g : Nat} {w V W : World} (h1 : impl_DependsOf.St g w V) (h2 : impl_DependsOf.St g V W) : impl_DependsOf.St g w W := ⟨Nat.le_trans h1.1 h2.1, fun k hk hg hc => by
 have e := h1.2 k hk hg hc
 rw [h2.2 k (Nat.lt_of_lt_of_le hk h1.1) hg (by rw [e]; exact hc), e]⟩
theorem impl_DependsOf.St.of_below {g : Nat} {w W : World} (h : Below w.heap.size w W) : impl_DependsOf.St g w W := ⟨h.size, fun k hk _ _ => h.block k hk⟩
theorem impl_DependsOf.St.blk {g gb : Nat} {w W : World} {t : TypeId} {cs : Array Value} (h : impl_DependsOf.St g w W) (hb : w.heap[gb]? = some (.cells cs t (0, 0))) (hg : gb ≠ g) (ht : t ≠ 98) : W.heap[gb]? = some (.cells cs t (0, 0)) := (h.2 gb (blk_lt hb) hg (fun cs' e => by
 rw [hb] at e
 injection e with e
 injection e with _ e _
 exact ht e)).trans hb
theorem impl_DependsOf.St.grown {g base : Nat} {ok : Nat → Prop} {W w1 : World} {v : Value} {o : List S98} (hg : W.grownBy w1 v.ownBlock) (hR : Kd.R k98 98 W base ok v o) : impl_DependsOf.St g W w1 := ⟨hg.size, fun k hk _ hc => hg.block k hk (fun e => by
 obtain ⟨cells, h⟩ := Kd.R_typed hR k e.symm
 exact hc cells h)⟩
theorem impl_DependsOf.St.set (g : Nat) (w : World) (u : Value) : impl_DependsOf.St g w (w.setCell ⟨g, 0, none⟩ u) := ⟨((Below.refl 0 w).setCell (p := ⟨g, 0, none⟩) (Nat.zero_le _) u).size, fun k _ hg _ => Below.heap_setCell w ⟨g, 0, none⟩ u k hg⟩
theorem impl_DependsOf.St.ri {g base : Nat} {ok : Nat → Prop} {w W : World} {v u : Value} {xs : List Int} (h : impl_DependsOf.St g w W) (hgo : w.heap[g]? = some (.cells #[u] 62 (0, 0))) (hR : Kd.R (Kd.int .i64) 3 w base ok v xs) : Kd.R (Kd.int .i64) 3 W base ok v xs :=
 Kd.R_mono (Kd.R_move (Kd.R_bound hR) (fun k hk => by
  obtain ⟨_, _, hlt, q, hq, cells, hc⟩ := hk
  have hq : q ∈ [3] := hq
  rw [List.mem_singleton] at hq
  subst hq
  refine h.2 k hlt (fun e => ?_) (fun cs e => ?_)
  ·rw [e, hgo] at hc
   injection hc with hc
   injection hc with _ hc _
   exact absurd hc (by decide)
  ·rw [hc] at e
   injection e with e
   injection e with _ e _
   exact absurd e (by decide))) (fun _ hk => hk.1)
theorem impl_DependsOf.inf : (Tryz.prog.info? 98).map (fun i => (i.zero, i.size, i.bytes)) = some (some (.agg #[(.int .i64 0), (.int .i64 0)]), 2, 16) := by kernel_rfl
/-- The list so far, in its box. -/
def impl_DependsOf.Ok (w0 : World) (g : Nat) (w : World) (o : List S98) : Prop := Below w0.heap.size w0 w ∧ w0.heap.size ≤ g ∧ ∃ v, w.heap[g]? = some (.cells #[v] 62 (0, 0)) ∧ Kd.R k98 98 w w0.heap.size (fun _ => True) v o
theorem impl_DependsOf.Ok.below {w0 w W : World} {g : Nat} {o : List S98} (h : impl_DependsOf.Ok w0 g w o) (hb : Below w.heap.size w W) : impl_DependsOf.Ok w0 g W o := by
 obtain ⟨h1, h2, v, h3, h4⟩ := h
 exact ⟨below_step h1 hb, h2, v, blk_below h3 hb, Kd.R_below h4 hb⟩
set_option maxHeartbeats 2000000 in
/-- The function literal: one dependency more. -/
theorem impl_DependsOf.vis (g : Nat) (x y : Int) (o : List S98) (w0 w : World) (hok : impl_DependsOf.Ok w0 g w o) (hl : o.length < 8796093022208) :
  Calls Tryz.prog 72 #[.int .i64 x, .int .i64 y, .pointer (some ⟨g, 0, none⟩)] w fun e w' => e = .returned (.tuple #[]) ∧ impl_DependsOf.Ok w0 g w' (o ++ [(⟨x, y⟩ : S98)]) ∧ impl_DependsOf.St g w w' := by
 obtain ⟨hB, hg, v, hb, hR⟩ := hok
 obtain ⟨hcz, hfz⟩ := cz1_ hb
 have HBK := Aside0.mk hb
 have HR := Aside0.mk hR
 have HB := Aside0.mk hB
 have HG := Aside0.mk hg
 have HL := Aside0.mk hl
 have HS := Aside0.mk (Below.refl w.heap.size w)
 have HNE := Aside0.mk (show some g ≠ v.ownBlock from fun e => by
  obtain ⟨cells, hc⟩ := Kd.R_typed hR g e.symm
  rw [hb] at hc
  injection hc with hc
  injection hc with _ hc _
  exact absurd hc (by decide))
 clear hb hR hB hg hl
 go_enter Tryz.func72, Tryz.ntmps72
 go_wp2_with (first | ((with_reducible refine gate_builtin (b := .append) (xs := #[.tmp 5, .tmp 9]) rfl ?_); at_builtin; refine Kd.R_append k98 (w0 := w0) w0.heap.size rfl (.tmp 5) (.tmp 9) 62 98 (.agg #[(.int .i64 0), (.int .i64 0)]) 16 rfl Tryz.underlying62 impl_DependsOf.inf rfl (by decide) (by omega) v o (⟨x, y⟩ : S98) [.int .i64 x, .int .i64 y] (fun _ => True) (fun _ => False) rfl rfl ?aP (fun _ hk => hk.elim) ?aF ?aO ?aB ?aS ?aL ?_; (case aP => exact k98_mkM _ _ _ (⟨x, y⟩ : S98)); (case aF => exact fun _ _ => trivial); (case aO => exact (ra_ HR.out)); (case aB => exact bb_ HB.out); (case aS => exact bz_ HB.out); (case aL => have := HL.out; omega); intro v1 w1 ho hb1 hg1 hat; (generalize hq : o ++ [(⟨x, y⟩ : S98)] = q at ho); have HQ := Aside0.mk hq; clear hq; obtain ⟨Ao, co, rfl⟩ := Kd.R_slice ho; have HO := Aside0.mk ho; have HB1 := Aside0.mk hb1; have HS1 := Aside0.mk (impl_DependsOf.St.trans (g := g) (impl_DependsOf.St.of_below (bb_ HS.out)) (impl_DependsOf.St.grown hg1 (ra_ HR.out))); have HBK1 := Aside0.mk (blk_grown (bq_ HBK.out) hg1 HNE.out); clear ho hb1 hg1 hat hcz hfz; obtain ⟨hcz, hfz⟩ := cz1_ HBK1.out))
 go_end0
 rw [HQ.out]
 exact ⟨by first | rfl | (simp; done), ⟨HB1.out.setCell HG.out _, HG.out, _, blk_put HBK1.out 0 _ rfl, Kd.R_set HO.out HBK1.out (by decide) 0 _⟩, impl_DependsOf.St.trans HS1.out (impl_DependsOf.St.set g _ _)⟩
set_option maxHeartbeats 4000000 in
/-- The function literal of 'adjacent': the walk between two nodes, hop by hop. -/
theorem impl_DependsOf.adj1 (k : Nat) (a0 a1 : Int) (A2 : Option Addr) (c2 : Nat) (l2 : List Int) (A3 : Option Addr) (c3 : Nat) (l3 : List Int) (x y : Int) (o r : List S98) (gm gt gv g : Nat) (w0 w : World)
  (hr2 : Kd.C (Kd.int .i64) w0 A2 l2.length l2) (hc2 : l2.length ≤ c2) (hr3 : Kd.C (Kd.int .i64) w0 A3 l3.length l3) (hc3 : l3.length ≤ c3)
  (bm : w.heap[gm]? = some (.cells #[.int .i64 a0, .int .i64 a1, .slice A2 l2.length c2] 38 (0, 0))) (bt : w.heap[gt]? = some (.cells #[.slice A3 l3.length c3] 40 (0, 0)))
  (bv : w.heap[gv]? = some (.cells #[.func (.func 72) #[] #[.pointer (some ⟨g, 0, none⟩)]] 99 (0, 0)))
  (hok : impl_DependsOf.Ok w0 g w o) (h : impl_DependsOf.v k a0 a1 l2 l3 x y o = some r) :
  Calls Tryz.prog 104 #[.int .i64 x, .int .i64 y, .pointer (some ⟨gm, 0, none⟩), .pointer (some ⟨gt, 0, none⟩), .pointer (some ⟨gv, 0, none⟩)] w fun e w' => e = .returned (.bool true) ∧ impl_DependsOf.Ok w0 g w' r ∧ impl_DependsOf.St g w w' := by
 obtain ⟨ws, hw, hv⟩ := Option.bind_eq_some_iff.1 h
 obtain ⟨hm0, hm1, hm2, fm0, fm1, fm2⟩ := cz3_ bm
 obtain ⟨ht0, ft0⟩ := cz1_ bt
 have HR2 := Aside0.mk (Kd.C_below hr2 hok.1)
 have HR3 := Aside0.mk (Kd.C_below hr3 hok.1)
 have HC2 := Aside0.mk hc2
 have HC3 := Aside0.mk hc3
 have HW := Aside0.mk hw
 have HV := Aside0.mk hv
 have HGV := Aside0.mk (show gv ≠ g from by
  obtain ⟨_, _, v, hb, _⟩ := hok
  exact blk_ne bv hb (by decide))
 have HBV := Aside0.mk bv
 have HO := Aside0.mk hok
 have HS := Aside0.mk (Below.refl w.heap.size w)
 clear hr2 hr3 hc2 hc3 hw hv h bm bt bv hok
 go_enter Tryz.func104, Tryz.ntmps104
 go_wp2_with (first | (go_at_call 57; (with_reducible refine (impl_WalkTable.calls k a0 a1 A2 c2 l2 A3 c3 l3 x y ws _ ?side1 HC2.out ?side2 HC3.out HW.out).mono ?_); (case side1 => exact cb_ HR2.out HS.out); (case side2 => exact cb_ HR3.out HS.out); rintro e w1 ⟨v, rfl, hR, hb⟩; obtain ⟨Aw, cw, rfl⟩ := Kd.R_slice hR; have HS1 := Aside0.mk (bs_ HS.out hb); have HWK := Aside0.mk (Kd.R_lower hR (bz_ HO.out.1)); clear hR hb hm0 hm1 hm2 fm0 fm1 fm2 ht0 ft0))
 go_loopg [9] k (fun kq v9 w' => ∃ (i : Int) (q : List S98), v9 = .int .i64 i ∧ Aside0 (impl_DependsOf.l3 kq ws i q = some r) ∧ Aside0 (kq ≤ k) ∧ Aside0 (impl_DependsOf.Ok w0 g w' q) ∧ Aside0 (impl_DependsOf.St g w w') ∧ Aside0 (Kd.R (Kd.int .i64) 3 w' w0.heap.size (fun _ => True) (.slice Aw ws.length cw) ws))
 case atStart => exact ⟨1, o, ef_, HV, ⟨Nat.le_refl _⟩, ⟨impl_DependsOf.Ok.below HO.out (bb_ HS1.out)⟩, ⟨impl_DependsOf.St.of_below (bb_ HS1.out)⟩, ⟨ra_ HWK.out⟩⟩
 clear HV
 obtain ⟨i, q, rfl, HA, HK1, HO1, HST, HWK1⟩ := hrel
 obtain _ | k1 := gk
 ·exact absurd HA.out (by simp [impl_DependsOf.l3])
 have H := HA.out
 clear HA
 simp only [impl_DependsOf.l3] at H
 by_cases c1 : i < (ws.length : Int)
 rotate_left
 ·rw [if_neg c1] at H
  have c1b : decide (i < (ws.length : Int)) = false := decide_eq_false c1
  clear c1
  obtain rfl := Option.some.inj H
  go_wp2
  go_ret
  exact ⟨by first | rfl | (simp; done), impl_DependsOf.Ok.below HO1.out (bb_ (Below.refl _ _)), impl_DependsOf.St.trans HST.out (impl_DependsOf.St.of_below (bb_ (Below.refl _ _)))⟩
 rw [if_pos c1] at H
 have c1b : decide (i < (ws.length : Int)) = true := decide_eq_true c1
 obtain ⟨j, hj⟩ : ∃ j : Int, wrap64 (i - 1) = j := ⟨_, rfl⟩
 rw [hj] at H
 have hjw : (IntKind.i64.wrap (i - 1)) = j := (i64_w _).trans hj
 by_cases c2 : 0 ≤ j
 rotate_left
 ·rw [if_neg c2] at H
  exact absurd H (by simp)
 rw [if_pos c2] at H
 by_cases c3 : j < (ws.length : Int)
 rotate_left
 ·rw [if_neg c3] at H
  exact absurd H (by simp)
 rw [if_pos c3] at H
 by_cases c4 : 0 ≤ i
 rotate_left
 ·rw [if_neg c4] at H
  exact absurd H (by simp)
 rw [if_pos c4] at H
 by_cases c5 : q.length < 8796093022208
 rotate_left
 ·rw [if_neg c5] at H
  exact absurd H (by simp)
 rw [if_pos c5] at H
 have H' := Aside0.mk H
 have C5 := Aside0.mk c5
 have hbv := impl_DependsOf.St.blk HST.out HBV.out HGV.out (by decide)
 obtain ⟨hv0, fv0⟩ := cz1_ hbv
 obtain ⟨ad0, e0, hx0⟩ := Kd.at_int (Kd.R_reads' HWK1.out).2.2 j c2 c3
 obtain ⟨ad1, e1, hx1⟩ := Kd.at_int (Kd.R_reads' HWK1.out).2.2 i c4 c1
 cases e0
 cases e1
 have c2b : decide (0 ≤ j) = true := decide_eq_true c2
 have c3b : decide (j < (ws.length : Int)) = true := decide_eq_true c3
 have c4b : decide (0 ≤ i) = true := decide_eq_true c4
 replace c1 := eq_true c1
 replace c2 := eq_true c2
 replace c3 := eq_true c3
 replace c4 := eq_true c4
 have HBV1 := Aside0.mk hbv
 have HG1 := Aside0.mk HO1.out.2.2
 have HC := Aside0.mk (And.intro (And.intro c1 c2) (And.intro c3 c4))
 clear H c5 hbv
 go_wp2_with fail
 go_region_held3 (fun w' => w'.cell? ⟨gv, 0, none⟩ = some (.func (.func 72) #[] #[.pointer (some ⟨g, 0, none⟩)]) ∧ w'.cell? (ad0.add j.toNat) = some (.int .i64 (rd ws j)) ∧ w'.cell? (ad0.add i.toNat) = some (.int .i64 (rd ws i)))
  (first | exact ⟨hv0, hx0, hx1⟩ | exact ⟨m0, m1, m2⟩)
  (first
   | (go_at_call 72; refine (impl_DependsOf.vis g (rd ws j) (rd ws i) q w0 _ (impl_DependsOf.Ok.below HO1.out (bb_ (Below.refl _ _))) C5.out).mono ?_; rintro e w2 ⟨rfl, hok2, hst2⟩; have m0 := (cz1_ (impl_DependsOf.St.blk hst2 (bq_ HBV1.out) HGV.out (by decide))).1; obtain ⟨v1, hg1, _⟩ := HG1.out; have HWK2 := Aside0.mk (impl_DependsOf.St.ri hst2 (bq_ hg1) (ra_ HWK1.out)); obtain ⟨_, e_, m1⟩ := Kd.at_int (Kd.R_reads' HWK2.out).2.2 j (of_eq_true HC.out.1.2) (of_eq_true HC.out.2.1); cases e_; obtain ⟨_, e_, m2⟩ := Kd.at_int (Kd.R_reads' HWK2.out).2.2 i (of_eq_true HC.out.2.2) (of_eq_true HC.out.1.1); cases e_; have HO2 := Aside0.mk hok2; have HS2 := Aside0.mk (impl_DependsOf.St.trans (impl_DependsOf.St.trans HST.out (impl_DependsOf.St.of_below (bb_ (Below.refl _ _)))) hst2); clear hok2 hst2 hg1))
 go_wp2
 go_roundg k1
 case measure => have := HK1.out; omega
 case rel => exact ⟨wrap64 (i + 1), _, (by first | rfl | (simp; done)), H', ⟨by have := HK1.out; omega⟩, ⟨impl_DependsOf.Ok.below HO2.out (bb_ (Below.refl _ _))⟩, ⟨impl_DependsOf.St.trans HS2.out (impl_DependsOf.St.of_below (bb_ (Below.refl _ _)))⟩, ⟨ra_ HWK2.out⟩⟩
set_option maxHeartbeats 2000000 in
/-- 'pairs' at the function literal of 'adjacent'. -/
theorem impl_DependsOf.prs (k : Nat) (a0 a1 : Int) (A2 : Option Addr) (c2 : Nat) (l2 : List Int) (A3 : Option Addr) (c3 : Nat) (l3 : List Int) (o r : List S98) (gm gt gv g : Nat) (w0 w : World)
  (hr2 : Kd.C (Kd.int .i64) w0 A2 l2.length l2) (hc2 : l2.length ≤ c2) (hr3 : Kd.C (Kd.int .i64) w0 A3 l3.length l3) (hc3 : l3.length ≤ c3)
  (bm : w.heap[gm]? = some (.cells #[.int .i64 a0, .int .i64 a1, .slice A2 l2.length c2] 38 (0, 0))) (bt : w.heap[gt]? = some (.cells #[.slice A3 l3.length c3] 40 (0, 0)))
  (bv : w.heap[gv]? = some (.cells #[.func (.func 72) #[] #[.pointer (some ⟨g, 0, none⟩)]] 99 (0, 0)))
  (hok : impl_DependsOf.Ok w0 g w o) (h : impl_DependsOf.ps k a0 a1 l2 l3 o = some r) :
  Calls Tryz.prog 55 #[.agg #[.int .i64 a0, .int .i64 a1], .func (.func 104) #[] #[.pointer (some ⟨gm, 0, none⟩), .pointer (some ⟨gt, 0, none⟩), .pointer (some ⟨gv, 0, none⟩)]] w fun e w' => e = .returned (.bool true) ∧ impl_DependsOf.Ok w0 g w' r ∧ impl_DependsOf.St g w w' := by
 obtain ⟨n, hn, h1⟩ := Option.bind_eq_some_iff.1 h
 have HBX := Aside0.mk (show gm ≠ g ∧ gt ≠ g ∧ gv ≠ g from by
  obtain ⟨_, _, v, hb, _⟩ := hok
  exact ⟨blk_ne bm hb (by decide), blk_ne bt hb (by decide), blk_ne bv hb (by decide)⟩)
 have HR2 := Aside0.mk hr2
 have HC2 := Aside0.mk hc2
 have HR3 := Aside0.mk hr3
 have HC3 := Aside0.mk hc3
 have BM := Aside0.mk bm
 have BT := Aside0.mk bt
 have BV := Aside0.mk bv
 have HN := Aside0.mk hn
 have H' := Aside0.mk h1
 have HO := Aside0.mk hok
 clear hr2 hc2 hr3 hc3 bm bt bv hn h1 h hok
 have HB := Aside0.mk (Below.refl w.heap.size w)
 go_enter Tryz.func55, Tryz.ntmps55
 go_wp2_with (first | (go_at_call 53; (with_reducible refine (impl_NodeCount.calls a0 a1 n _ HN.out).mono ?_); rintro e w' ⟨rfl, hb⟩; have HB1 := Aside0.mk (bs_ HB.out hb); clear HB hb; have HB := HB1; clear HB1))
 go_loopg [11] k (fun kq v11 w' => ∃ (x : Int) (q : List S98), v11 = .int .i64 x ∧ Aside0 (impl_DependsOf.l1 kq a0 a1 l2 l3 n x q = some r) ∧ Aside0 (kq ≤ k) ∧ Aside0 (impl_DependsOf.Ok w0 g w' q) ∧ Aside0 (impl_DependsOf.St g w w'))
 case atStart => exact ⟨0, o, (by first | rfl | (simp; done)), H', ⟨Nat.le_refl _⟩, ⟨impl_DependsOf.Ok.below HO.out (bb_ HB.out)⟩, ⟨impl_DependsOf.St.of_below (bb_ HB.out)⟩⟩
 clear H' HB HO
 obtain ⟨x, q, rfl, HA, HK1, HO, HS⟩ := hrel
 obtain _ | k1 := gk
 ·exact absurd HA.out (by simp [impl_DependsOf.l1])
 have H := HA.out
 clear HA
 simp only [impl_DependsOf.l1] at H
 by_cases c1 : x < n
 rotate_left
 ·rw [if_neg c1] at H
  have c1b : decide (x < n) = false := decide_eq_false c1
  clear c1
  obtain rfl := Option.some.inj H
  go_wp2
  go_ret
  exact ⟨by first | rfl | (simp; done), impl_DependsOf.Ok.below HO.out (bb_ (Below.refl _ _)), impl_DependsOf.St.trans HS.out (impl_DependsOf.St.of_below (bb_ (Below.refl _ _)))⟩
 rw [if_pos c1] at H
 have c1b : decide (x < n) = true := decide_eq_true c1
 clear c1
 have H' := Aside0.mk H
 clear H
 go_wp2
 go_loopg [15] k1 (fun kq v15 w' => ∃ (y : Int) (q : List S98), v15 = .int .i64 y ∧ Aside0 (impl_DependsOf.l2 kq a0 a1 l2 l3 n x y q = some r) ∧ Aside0 (kq ≤ k1) ∧ Aside0 (impl_DependsOf.Ok w0 g w' q) ∧ Aside0 (impl_DependsOf.St g w w'))
 case atStart => exact ⟨0, q, (by first | rfl | (simp; done)), H', ⟨Nat.le_refl _⟩, ⟨impl_DependsOf.Ok.below HO.out (bb_ (Below.refl _ _))⟩, ⟨impl_DependsOf.St.trans HS.out (impl_DependsOf.St.of_below (bb_ (Below.refl _ _)))⟩⟩
 clear H' HO HS c1b
 obtain ⟨y, q2, rfl, HA, HK2, HO, HS⟩ := hrel
 obtain _ | k2 := gk
 ·exact absurd HA.out (by simp [impl_DependsOf.l2])
 have H := HA.out
 clear HA
 simp only [impl_DependsOf.l2] at H
 by_cases c2 : y < n
 rotate_left
 ·rw [if_neg c2] at H
  have c2b : decide (y < n) = false := decide_eq_false c2
  clear c2
  have H' := Aside0.mk H
  clear H
  go_wp2
  go_roundg k2
  case measure => have := HK1.out; have := HK2.out; omega
  case rel => exact ⟨wrap64 (x + 1), q2, (by first | rfl | (simp; done)), H', ⟨by have := HK1.out; have := HK2.out; omega⟩, ⟨impl_DependsOf.Ok.below HO.out (bb_ (Below.refl _ _))⟩, ⟨impl_DependsOf.St.trans HS.out (impl_DependsOf.St.of_below (bb_ (Below.refl _ _)))⟩⟩
 rw [if_pos c2] at H
 have c2b : decide (y < n) = true := decide_eq_true c2
 clear c2
 by_cases c3 : x = y
 ·rw [if_pos c3] at H
  have c3b : (x == y) = true := beq_iff_eq.mpr c3
  have c3c : (x != y) = false := bne_eq_false_iff_eq.mpr c3
  clear c3
  have H' := Aside0.mk H
  clear H
  go_wp2
  go_roundg k2
  case measure => have := HK2.out; omega
  case rel => exact ⟨wrap64 (y + 1), q2, (by first | rfl | (simp; done)), H', ⟨by have := HK2.out; omega⟩, ⟨impl_DependsOf.Ok.below HO.out (bb_ (Below.refl _ _))⟩, ⟨impl_DependsOf.St.trans HS.out (impl_DependsOf.St.of_below (bb_ (Below.refl _ _)))⟩⟩
 rw [if_neg c3] at H
 have c3b : (x == y) = false := beq_eq_false_iff_ne.mpr c3
 have c3c : (x != y) = true := bne_iff_ne.mpr c3
 clear c3
 obtain ⟨q3, hb0, H2⟩ := Option.bind_eq_some_iff.1 H
 clear H
 have HV := Aside0.mk hb0
 clear hb0
 have H' := Aside0.mk (show impl_DependsOf.l2 k2 a0 a1 l2 l3 n x (wrap64 (y + 1)) q3 = some r from H2)
 clear H2
 go_wp2_with fail
 refine (impl_DependsOf.adj1 k2 a0 a1 A2 c2 l2 A3 c3 l3 x y q2 q3 gm gt gv g w0 _ HR2.out HC2.out HR3.out HC3.out (bq_ (impl_DependsOf.St.blk HS.out BM.out HBX.out.1 (by decide))) (bq_ (impl_DependsOf.St.blk HS.out BT.out HBX.out.2.1 (by decide))) (bq_ (impl_DependsOf.St.blk HS.out BV.out HBX.out.2.2 (by decide))) (impl_DependsOf.Ok.below HO.out (bb_ (Below.refl _ _))) HV.out).mono ?_
 rintro e w' ⟨rfl, hok2, hst2⟩
 have HO2 := Aside0.mk hok2
 have HS2 := Aside0.mk (impl_DependsOf.St.trans (impl_DependsOf.St.trans HS.out (impl_DependsOf.St.of_below (bb_ (Below.refl _ _)))) hst2)
 clear hok2 hst2
 go_wp2
 go_roundg k2
 case measure => have := HK2.out; omega
 case rel => exact ⟨wrap64 (y + 1), q3, (by first | rfl | (simp; done)), H', ⟨by have := HK2.out; omega⟩, ⟨impl_DependsOf.Ok.below HO2.out (bb_ (Below.refl _ _))⟩, ⟨impl_DependsOf.St.trans HS2.out (impl_DependsOf.St.of_below (bb_ (Below.refl _ _)))⟩⟩
set_option maxHeartbeats 2000000 in
theorem impl_DependsOf.adj (k : Nat) (a0 a1 : Int) (A2 : Option Addr) (c2 : Nat) (l2 : List Int) (A3 : Option Addr) (c3 : Nat) (l3 : List Int) (o r : List S98) (g : Nat) (w0 w : World)
  (hr2 : Kd.C (Kd.int .i64) w0 A2 l2.length l2) (hc2 : l2.length ≤ c2) (hr3 : Kd.C (Kd.int .i64) w0 A3 l3.length l3) (hc3 : l3.length ≤ c3) (hok : impl_DependsOf.Ok w0 g w o) (h : impl_DependsOf.ps k a0 a1 l2 l3 o = some r) :
  Calls Tryz.prog 71 #[.agg #[.int .i64 a0, .int .i64 a1, .slice A2 l2.length c2], .agg #[.slice A3 l3.length c3], .func (.func 72) #[] #[.pointer (some ⟨g, 0, none⟩)]] w fun e w' => e = .returned (.tuple #[]) ∧ impl_DependsOf.Ok w0 g w' r ∧ impl_DependsOf.St g w w' := by
 have hmf : ∀ (fn : Fn) (first cap : Array Value) (w : World), (Instr.makeFunc fn first cap).run Tryz.prog w = .ok (.func fn first cap) w := fun _ _ _ _ => rfl
 have HR2 := Aside0.mk hr2
 have HC2 := Aside0.mk hc2
 have HR3 := Aside0.mk hr3
 have HC3 := Aside0.mk hc3
 have HO := Aside0.mk hok
 have HP := Aside0.mk h
 clear hr2 hc2 hr3 hc3 hok h
 go_enter Tryz.func71, Tryz.ntmps71
 go_wp2_with (first
  | ((with_reducible refine gate_dst (N := 3) rfl ?_); refine box_event ?hg (N := 3) ?hd (cs := #[.int .i64 a0, .int .i64 a1, .slice A2 l2.length c2]) (t := 38) ?hr ?_; (case hd => rfl); (case hg => rfl); (case hr => first | (go_simp; done) | (go_simp; rfl)); intro gm hgm w1 hbx1 hb1; clear hgm; have HS1 := Aside0.mk hb1; have BX1 := Aside0.mk hbx1; obtain ⟨hm0, hm1, hm2, fm0, fm1, fm2⟩ := cz3_ hbx1; clear hb1 hbx1)
  | ((with_reducible refine gate_dst (N := 4) rfl ?_); refine box_event ?hg (N := 4) ?hd (cs := #[.slice A3 l3.length c3]) (t := 40) ?hr ?_; (case hd => rfl); (case hg => rfl); (case hr => first | (go_simp; done) | (go_simp; rfl)); intro gt hgt w2 hbx2 hb2; clear hgt hm0 hm1 hm2 fm0 fm1 fm2; have HS2 := Aside0.mk (below_step HS1.out hb2); replace BX1 := Aside0.mk (bk_ BX1.out hb2); have BX2 := Aside0.mk hbx2; clear hb2 hbx2)
  | ((with_reducible refine gate_dst (N := 5) rfl ?_); refine box_event ?hg (N := 5) ?hd (cs := #[.func (.func 72) #[] #[.pointer (some ⟨g, 0, none⟩)]]) (t := 99) ?hr ?_; (case hd => rfl); (case hg => rfl); (case hr => first | (go_simp; done) | (go_simp; rfl)); intro gv hgv w3 hbx3 hb3; clear hgv; have HS3 := Aside0.mk (below_step HS2.out hb3); replace BX1 := Aside0.mk (bk_ BX1.out hb3); replace BX2 := Aside0.mk (bk_ BX2.out hb3); have BX3 := Aside0.mk hbx3; obtain ⟨hm0, hm1, hm2, fm0, fm1, fm2⟩ := cz3_ BX1.out; clear hb3 hbx3)
  | (go_at_call 55; (with_reducible refine (impl_DependsOf.prs k a0 a1 A2 c2 l2 A3 c3 l3 o r gm gt gv g w0 _ HR2.out HC2.out HR3.out HC3.out (bq_ BX1.out) (bq_ BX2.out) (bq_ BX3.out) ?side1 HP.out).mono ?_); (case side1 => exact impl_DependsOf.Ok.below HO.out (bb_ HS3.out)); rintro e w4 ⟨rfl, hok2, hst2⟩; have HO2 := Aside0.mk hok2; have HST := Aside0.mk (impl_DependsOf.St.trans (impl_DependsOf.St.of_below (bb_ HS3.out)) hst2); clear hok2 hst2))
 go_end0
 exact ⟨by first | rfl | (simp; done), impl_DependsOf.Ok.below HO2.out (bb_ (Below.refl _ _)), impl_DependsOf.St.trans HST.out (impl_DependsOf.St.of_below (bb_ (Below.refl _ _)))⟩
set_option maxHeartbeats 4000000 in
theorem impl_DependsOf.calls (k : Nat) (a0_0 : Int) (a0_1 : Int) (A0_2 : Option Addr) (c0_2 : Nat) (l0_2 : List Int) (A1_0 : Option Addr) (c1_0 : Nat) (l1_0 : List Int) (r : List S98) (w : World) (hr0_2 : Kd.C (Kd.int .i64) w A0_2 l0_2.length l0_2) (hc0_2 : l0_2.length ≤ c0_2) (hr1_0 : Kd.C (Kd.int .i64) w A1_0 l1_0.length l1_0) (hc1_0 : l1_0.length ≤ c1_0) (h : impl_DependsOf.f k a0_0 a0_1 l0_2 l1_0 = some r) :
  Calls Tryz.prog 45 #[.agg #[.int .i64 a0_0, .int .i64 a0_1, .slice A0_2 l0_2.length c0_2], .agg #[.slice A1_0 l1_0.length c1_0]] w fun e w' => ∃ v0_ : Value, e = .returned (v0_) ∧ Kd.R k98 98 w' w.heap.size (fun _ => True) v0_ r ∧ Below w.heap.size w w' := by
 have hmf : ∀ (fn : Fn) (first cap : Array Value) (w : World), (Instr.makeFunc fn first cap).run Tryz.prog w = .ok (.func fn first cap) w := fun _ _ _ _ => rfl
 obtain ⟨ok, ho, h2⟩ := Option.bind_eq_some_iff.1 h
 have HR2 := Aside0.mk hr0_2
 have HC2 := Aside0.mk hc0_2
 have HR3 := Aside0.mk hr1_0
 have HC3 := Aside0.mk hc1_0
 have HTO := Aside0.mk ho
 have H2 := Aside0.mk h2
 have HB := Aside0.mk (Below.refl w.heap.size w)
 clear hr0_2 hc0_2 hr1_0 hc1_0 ho h h2
 cases ok with
 | false =>
  have h3 : some [] = some r := H2.out
  obtain rfl := Option.some.inj h3
  clear h3 H2
  go_enter Tryz.func45, Tryz.ntmps45
  go_wp2_with (first
   | ((with_reducible refine gate_dst (N := 2) rfl ?_); refine box_event ?hg (N := 2) ?hd (cs := #[.int .i64 a0_0, .int .i64 a0_1, .slice A0_2 l0_2.length c0_2]) (t := 38) ?hr ?_; (case hd => rfl); (case hg => rfl); (case hr => first | (go_simp; done) | (go_simp; rfl)); intro gm hgm w1 hbx1 hb1; clear hgm; replace HB := Aside0.mk (bs_ HB.out hb1); have BX1 := Aside0.mk hbx1; clear hb1 hbx1)
   | ((with_reducible refine gate_dst (N := 3) rfl ?_); refine box_event ?hg (N := 3) ?hd (cs := #[.slice A1_0 l1_0.length c1_0]) (t := 40) ?hr ?_; (case hd => rfl); (case hg => rfl); (case hr => first | (go_simp; done) | (go_simp; rfl)); intro gt hgt w2 hbx2 hb2; clear hgt; replace HB := Aside0.mk (bs_ HB.out hb2); replace BX1 := Aside0.mk (bk_ BX1.out hb2); have BX2 := Aside0.mk hbx2; clear hb2 hbx2)
   | ((with_reducible refine gate_dst (N := 6) rfl ?_); refine Kd.R_lit k98 _ 98 ?hg (N := 6) ?hd (xs := ([] : List S98)) (inner := []) (ok := fun _ => True) (okp := fun _ => True) ?hr ?hp (fun _ hk => hk) trivial (Below.refl _ _) (Nat.le_refl _) (by simp) ?_; (case hd => rfl); (case hg => rfl); (case hr => first | (go_simp; done) | (go_simp; rfl)); (case hp => exact (Reps.none _ _)); intro v6 w6 ho hb hg_ hnew_; clear hg_ hnew_; have HR6 := Aside0.mk (Kd.R_lower ho (bz_ HB.out)); replace BX1 := Aside0.mk (bk_ BX1.out hb); replace BX2 := Aside0.mk (bk_ BX2.out hb); replace HB := hs_ HB hb; clear ho hb; obtain ⟨Ao, co, rfl⟩ := Kd.R_slice HR6.out)
   | ((with_reducible refine gate_dst (N := 5) rfl ?_); refine box_event ?hg (N := 5) ?hd (cs := #[.slice none 0 0]) (t := 62) ?hr ?_; (case hd => rfl); (case hg => rfl); (case hr => first | (go_simp; done) | (go_simp; rfl)); intro g hgz w5 hbx5 hb5; have HGZ := Aside0.mk (show w.heap.size ≤ g from by rw [hgz]; exact bz_ HB.out); clear hgz; replace HR6 := Aside0.mk (Kd.R_below (ra_ HR6.out) hb5); replace BX1 := Aside0.mk (bk_ BX1.out hb5); replace BX2 := Aside0.mk (bk_ BX2.out hb5); replace HB := Aside0.mk (bs_ HB.out hb5); have BX5 := Aside0.mk hbx5; obtain ⟨hz0, fz0⟩ := cz1_ hbx5; have ngm : gm ≠ g := blk_ne BX1.out hbx5 (by decide); have ngt : gt ≠ g := blk_ne BX2.out hbx5 (by decide); obtain ⟨hm0, hm1, hm2, fm0, fm1, fm2⟩ := cz3_ (blk_far (p := ⟨g, 0, none⟩) BX1.out ngm (.slice Ao 0 co)); obtain ⟨ht0, ft0⟩ := cz1_ (blk_far (p := ⟨g, 0, none⟩) BX2.out ngt (.slice Ao 0 co)); have HT := Aside0.mk (And.intro (blk_far (p := ⟨g, 0, none⟩) BX1.out ngm (.slice Ao 0 co)) (blk_far (p := ⟨g, 0, none⟩) BX2.out ngt (.slice Ao 0 co))); have HOK := Aside0.mk (show impl_DependsOf.Ok w g (w5.setCell ⟨g, 0, none⟩ (.slice Ao 0 co)) [] from ⟨HB.out.setCell HGZ.out _, HGZ.out, .slice Ao 0 co, blk_put hbx5 0 _ rfl, Kd.R_set HR6.out hbx5 (by decide) 0 _⟩); clear hb5 hbx5 ngm ngt)
   | (go_at_call 24; (with_reducible refine (impl_TableOk.calls k a0_0 a0_1 A0_2 c0_2 l0_2 A1_0 c1_0 l1_0 _ _ ?side1 HC2.out ?side2 HC3.out HTO.out).mono ?_); (case side1 => exact Kd.C_below HR2.out (impl_DependsOf.Ok.below HOK.out (bb_ (Below.refl _ _))).1); (case side2 => exact Kd.C_below HR3.out (impl_DependsOf.Ok.below HOK.out (bb_ (Below.refl _ _))).1); rintro e w7 ⟨rfl, hb⟩; clear hm0 hm1 hm2 fm0 fm1 fm2 ht0 ft0 hz0 fz0; have HOK7 := Aside0.mk (impl_DependsOf.Ok.below (impl_DependsOf.Ok.below HOK.out (bb_ (Below.refl _ _))) hb); have BX1b := Aside0.mk (bk_ HT.out.1 hb); have BX2b := Aside0.mk (bk_ HT.out.2 hb); obtain ⟨hm0, hm1, hm2, fm0, fm1, fm2⟩ := cz3_ BX1b.out; obtain ⟨ht0, ft0⟩ := cz1_ BX2b.out; obtain ⟨v7, hg7, hR7⟩ := HOK7.out.2.2; obtain ⟨A7, c7, rfl⟩ := Kd.R_slice hR7; have HR7 := Aside0.mk hR7; have BX7 := Aside0.mk hg7; obtain ⟨hz0, fz0⟩ := cz1_ hg7; clear hb hg7 hR7))
  go_ret
  exact ⟨_, by first | rfl | (simp; done), (by first | exact ra_ HR7.out | skip), (impl_DependsOf.Ok.below HOK7.out (bb_ (Below.refl _ _))).1⟩
 | true =>
  obtain ⟨q, hq, har⟩ := Option.bind_eq_some_iff.1 (show (impl_DependsOf.ps k a0_0 a0_1 l0_2 l1_0 []).bind (fun o => impl_arranged.f o) = some r from H2.out)
  have HPS := Aside0.mk hq
  have HAR := Aside0.mk har
  clear hq har H2
  go_enter Tryz.func45, Tryz.ntmps45
  go_wp2_with (first
   | ((with_reducible refine gate_dst (N := 2) rfl ?_); refine box_event ?hg (N := 2) ?hd (cs := #[.int .i64 a0_0, .int .i64 a0_1, .slice A0_2 l0_2.length c0_2]) (t := 38) ?hr ?_; (case hd => rfl); (case hg => rfl); (case hr => first | (go_simp; done) | (go_simp; rfl)); intro gm hgm w1 hbx1 hb1; clear hgm; replace HB := Aside0.mk (bs_ HB.out hb1); have BX1 := Aside0.mk hbx1; clear hb1 hbx1)
   | ((with_reducible refine gate_dst (N := 3) rfl ?_); refine box_event ?hg (N := 3) ?hd (cs := #[.slice A1_0 l1_0.length c1_0]) (t := 40) ?hr ?_; (case hd => rfl); (case hg => rfl); (case hr => first | (go_simp; done) | (go_simp; rfl)); intro gt hgt w2 hbx2 hb2; clear hgt; replace HB := Aside0.mk (bs_ HB.out hb2); replace BX1 := Aside0.mk (bk_ BX1.out hb2); have BX2 := Aside0.mk hbx2; clear hb2 hbx2)
   | ((with_reducible refine gate_dst (N := 6) rfl ?_); refine Kd.R_lit k98 _ 98 ?hg (N := 6) ?hd (xs := ([] : List S98)) (inner := []) (ok := fun _ => True) (okp := fun _ => True) ?hr ?hp (fun _ hk => hk) trivial (Below.refl _ _) (Nat.le_refl _) (by simp) ?_; (case hd => rfl); (case hg => rfl); (case hr => first | (go_simp; done) | (go_simp; rfl)); (case hp => exact (Reps.none _ _)); intro v6 w6 ho hb hg_ hnew_; clear hg_ hnew_; have HR6 := Aside0.mk (Kd.R_lower ho (bz_ HB.out)); replace BX1 := Aside0.mk (bk_ BX1.out hb); replace BX2 := Aside0.mk (bk_ BX2.out hb); replace HB := hs_ HB hb; clear ho hb; obtain ⟨Ao, co, rfl⟩ := Kd.R_slice HR6.out)
   | ((with_reducible refine gate_dst (N := 5) rfl ?_); refine box_event ?hg (N := 5) ?hd (cs := #[.slice none 0 0]) (t := 62) ?hr ?_; (case hd => rfl); (case hg => rfl); (case hr => first | (go_simp; done) | (go_simp; rfl)); intro g hgz w5 hbx5 hb5; have HGZ := Aside0.mk (show w.heap.size ≤ g from by rw [hgz]; exact bz_ HB.out); clear hgz; replace HR6 := Aside0.mk (Kd.R_below (ra_ HR6.out) hb5); replace BX1 := Aside0.mk (bk_ BX1.out hb5); replace BX2 := Aside0.mk (bk_ BX2.out hb5); replace HB := Aside0.mk (bs_ HB.out hb5); have BX5 := Aside0.mk hbx5; obtain ⟨hz0, fz0⟩ := cz1_ hbx5; have ngm : gm ≠ g := blk_ne BX1.out hbx5 (by decide); have ngt : gt ≠ g := blk_ne BX2.out hbx5 (by decide); obtain ⟨hm0, hm1, hm2, fm0, fm1, fm2⟩ := cz3_ (blk_far (p := ⟨g, 0, none⟩) BX1.out ngm (.slice Ao 0 co)); obtain ⟨ht0, ft0⟩ := cz1_ (blk_far (p := ⟨g, 0, none⟩) BX2.out ngt (.slice Ao 0 co)); have HT := Aside0.mk (And.intro (blk_far (p := ⟨g, 0, none⟩) BX1.out ngm (.slice Ao 0 co)) (blk_far (p := ⟨g, 0, none⟩) BX2.out ngt (.slice Ao 0 co))); have HOK := Aside0.mk (show impl_DependsOf.Ok w g (w5.setCell ⟨g, 0, none⟩ (.slice Ao 0 co)) [] from ⟨HB.out.setCell HGZ.out _, HGZ.out, .slice Ao 0 co, blk_put hbx5 0 _ rfl, Kd.R_set HR6.out hbx5 (by decide) 0 _⟩); clear hb5 hbx5 ngm ngt)
   | (go_at_call 24; (with_reducible refine (impl_TableOk.calls k a0_0 a0_1 A0_2 c0_2 l0_2 A1_0 c1_0 l1_0 _ _ ?side1 HC2.out ?side2 HC3.out HTO.out).mono ?_); (case side1 => exact Kd.C_below HR2.out (impl_DependsOf.Ok.below HOK.out (bb_ (Below.refl _ _))).1); (case side2 => exact Kd.C_below HR3.out (impl_DependsOf.Ok.below HOK.out (bb_ (Below.refl _ _))).1); rintro e w7 ⟨rfl, hb⟩; clear hm0 hm1 hm2 fm0 fm1 fm2 ht0 ft0 hz0 fz0; have HOK7 := Aside0.mk (impl_DependsOf.Ok.below (impl_DependsOf.Ok.below HOK.out (bb_ (Below.refl _ _))) hb); have BX1b := Aside0.mk (bk_ HT.out.1 hb); have BX2b := Aside0.mk (bk_ HT.out.2 hb); obtain ⟨hm0, hm1, hm2, fm0, fm1, fm2⟩ := cz3_ BX1b.out; obtain ⟨ht0, ft0⟩ := cz1_ BX2b.out; obtain ⟨v7, hg7, hR7⟩ := HOK7.out.2.2; obtain ⟨A7, c7, rfl⟩ := Kd.R_slice hR7; have HR7 := Aside0.mk hR7; have BX7 := Aside0.mk hg7; obtain ⟨hz0, fz0⟩ := cz1_ hg7; clear hb hg7 hR7)
   | (go_at_call 71; (with_reducible refine (impl_DependsOf.adj k a0_0 a0_1 A0_2 c0_2 l0_2 A1_0 c1_0 l1_0 [] q g w _ HR2.out HC2.out HR3.out HC3.out ?side1 HPS.out).mono ?_); (case side1 => exact impl_DependsOf.Ok.below HOK7.out (bb_ (Below.refl _ _))); rintro e w8 ⟨rfl, hok8, _⟩; clear hz0 fz0 hm0 hm1 hm2 fm0 fm1 fm2 ht0 ft0; obtain ⟨v8, hg8, hR8⟩ := hok8.2.2; obtain ⟨A8, c8, rfl⟩ := Kd.R_slice hR8; have HR8 := Aside0.mk hR8; have HB8 := Aside0.mk hok8.1; obtain ⟨hz0, fz0⟩ := cz1_ hg8; clear hg8 hR8 hok8)
   | (go_at_call 73; (with_reducible refine (impl_arranged.calls (fun k_ => some k_ = (.slice A8 q.length c8 : Value).ownBlock) (.slice A8 q.length c8) q r w _ ?side1 ?side2 HAR.out).mono ?_); (case side1 => exact bb_ HB8.out); (case side2 => exact Kd.R_tight rfl (ra_ HR8.out)); rintro e w9 ⟨v9, rfl, ho9, hb9, hkp⟩; have HO9 := Aside0.mk (Kd.R_mono (ok' := fun k_ => True) ho9 (fun k_ hk_ => trivial)); have HB9 := Aside0.mk hb9; clear hb9 hkp ho9; obtain ⟨A9, c9, rfl⟩ := Kd.R_slice HO9.out))
  go_ret
  exact ⟨_, by first | rfl | (simp; done), ra_ HO9.out, bb_ HB9.out⟩

/-! ### impl_MergeDepends: function 66 -/
def impl_MergeDepends.f (k : Nat) (l0 l1 : List S98) : Option (List S98) := (impl_DependsOk.f k l0).bind fun b => (if b = true then ((impl_DependsOk.f k l1).bind fun c => (if c = true then (if l0.length + l1.length < 4398046511104 then impl_arranged.f (l0 ++ l1) else none) else (some []))) else (some []))
theorem impl_MergeDepends.mono (l0 l1 : List S98) : ∀ k, LeO (impl_MergeDepends.f k l0 l1) (impl_MergeDepends.f (k + 1) l0 l1) := by
 intro k
 unfold impl_MergeDepends.f
 exact LeO.bind (impl_DependsOk.mono _ _) (fun _ => LeO.ite (LeO.bind (impl_DependsOk.mono _ _) (fun _ => LeO.ite (LeO.ite (LeO.refl _) (LeO.refl _)) (LeO.refl _))) (LeO.refl _))
theorem impl_MergeDepends.inf : (Tryz.prog.info? 98).map (fun i => (i.zero, i.size, i.bytes)) = some (some (.agg #[(.int .i64 0), (.int .i64 0)]), 2, 16) := by kernel_rfl
set_option maxHeartbeats 2000000 in
theorem impl_MergeDepends.grow (n : Nat) (z : Int) (hzn : z = (n : Int)) (w : World) (hn : n < 4398046511104) :
  Calls Tryz.prog 121 #[.slice none 0 0, .int .i64 z] w fun e w' => ∃ v, e = .returned v ∧ Kd.R k98 98 w' w.heap.size (fun _ => True) v [] ∧ Below w.heap.size w w' := by
 subst hzn
 have h0 : decide ((n : Int) < 0) = false := decide_eq_false (by omega)
 have hw : IntKind.i64.wrap ((n : Int) - 0) = (n : Int) := by rw [IntKind.wrap_i64]; omega
 by_cases hz : n = 0
 ·subst hz
  go_enter Tryz.func121, Tryz.ntmps121
  go_wp2
  go_ret
  exact ⟨.slice none 0 0, rfl, ⟨fun _ _ => trivial, [], ⟨rfl, Or.inl ⟨rfl, rfl⟩⟩, Reps.none _ _⟩, Below.refl _ _⟩
 have h1 : decide (0 < (n : Int)) = true := decide_eq_true (by omega)
 have h2 : decide ((n : Int) > 0) = true := decide_eq_true (by omega)
 go_enter Tryz.func121, Tryz.ntmps121
 have hu3 : Tryz.prog.underlying 3 = some (.int .i64) := by kernel_rfl
 obtain ⟨i0, hi, hzz⟩ := Option.map_eq_some_iff.1 impl_MergeDepends.inf
 simp only [Prod.mk.injEq] at hzz
 obtain ⟨z1, z2, z3⟩ := hzz
 go_wp2_with (first | ((with_reducible refine gate_builtin (b := .append) (xs := #[.tmp 20, .tmp 21]) rfl ?_); at_builtin; refine Go.Lib.wpList_append_run _ rfl _ _ _ _ rfl _ _ rfl rfl _ _ (Go.Lib.run_append_nil_zeros _ _ _ _ 98 i0 _ .i64 .i64 Tryz.underlying62 hu3 hi z1 n (by omega) (by rw [z2]; omega) (by omega) (by rw [z3]; omega)) ?_))
 go_ret
 have hge := grownCap_ge w n 0 98
 refine ⟨_, rfl, Kd.R_drew ⟨fun _ _ => trivial, [], ⟨rfl, Or.inr ⟨w.heap.size, grownCap w n 0 98, _, rfl, Nat.le_refl _, blk_new _ _, Nat.zero_le _, grownCap_le_maxLen _ _ _ _ (by have : maxLen = 9223372036854775807 := rfl; omega), ?_, by simp⟩⟩, Reps.none _ _⟩, bb_ (Below.refl _ _)⟩
 show _ = grownCap w n 0 98 * 2
 simp [Builtin.zeroCells]
 omega
set_option maxHeartbeats 4000000 in
/-- slices.Concat of two lists. -/
theorem impl_MergeDepends.cat (A0 : Option Addr) (c0 : Nat) (l0 : List S98) (A1 : Option Addr) (c1 : Nat) (l1 : List S98) (gx : Nat) (w : World) (hr0 : Kd.C k98 w A0 l0.length l0) (hr1 : Kd.C k98 w A1 l1.length l1)
  (bx : w.heap[gx]? = some (.cells #[.slice A0 l0.length c0, .slice A1 l1.length c1] 62 (0, 0))) (hl : l0.length + l1.length < 4398046511104) :
  Calls Tryz.prog 97 #[.slice (some ⟨gx, 0, none⟩) 2 2] w fun e w' => ∃ v, e = .returned v ∧ Kd.R k98 98 w' w.heap.size (fun _ => True) v (l0 ++ l1) ∧ Below w.heap.size w w' := by
 obtain ⟨x0, x1, fx0, fx1⟩ := cz2_ bx
 have HR0 := Aside0.mk hr0
 have HR1 := Aside0.mk hr1
 have BX := Aside0.mk bx
 have HL := Aside0.mk hl
 have HB := Aside0.mk (Below.refl w.heap.size w)
 have p0 : wrap64 (l0.length : Int) = (l0.length : Int) := by rw [← i64_w, IntKind.wrap_i64]; omega
 have p1 : wrap64 ((l0.length : Int) + (l1.length : Int)) = (l0.length : Int) + (l1.length : Int) := by rw [← i64_w, IntKind.wrap_i64]; omega
 have d0 : decide ((l0.length : Int) < 0) = false := decide_eq_false (by omega)
 have d1 : decide ((l0.length : Int) + (l1.length : Int) < 0) = false := decide_eq_false (by omega)
 clear hr0 hr1 bx hl
 go_enter Tryz.func97, Tryz.ntmps97
 go_wp2
 go_loopg [3, 11] 2 (fun gk v3 v11 wr => ∃ q : Nat, wr = w.drewN q ∧ ((v11 = .int .i64 0 ∧ v3 = .int .i64 0 ∧ 2 ≤ gk) ∨ (v11 = .int .i64 1 ∧ v3 = .int .i64 (l0.length : Int) ∧ 1 ≤ gk) ∨ (v11 = .int .i64 2 ∧ v3 = .int .i64 ((l0.length : Int) + (l1.length : Int)))))
 case atStart => exact ⟨0, rfl, Or.inl ⟨rfl, rfl, Nat.le_refl _⟩⟩
 obtain ⟨q, rfl, ⟨rfl, rfl, hk⟩ | ⟨rfl, rfl, hk⟩ | ⟨rfl, rfl⟩⟩ := hrel
 ·go_wp2
  go_roundg 1
  case measure => omega
  case rel => exact ⟨_, rfl, Or.inr (Or.inl ⟨rfl, by rw [p0], Nat.le_refl _⟩)⟩
 ·go_wp2
  go_roundg 0
  case measure => omega
  case rel => exact ⟨_, rfl, Or.inr (Or.inr ⟨rfl, by rw [p1]⟩)⟩
 ·clear p0 p1 d0 d1
  go_wp2_with (first | (go_at_call 121; refine (impl_MergeDepends.grow (l0.length + l1.length) _ (Int.natCast_add _ _).symm _ HL.out).mono ?_; rintro e w1 ⟨v1, rfl, hR, hb⟩; have HO := Aside0.mk (Kd.R_lower hR (bz_ HB.out)); have HB1 := Aside0.mk (bs_ HB.out hb); have BX1 := Aside0.mk (bk_ BX.out hb); clear hR hb x0 x1 fx0 fx1; obtain ⟨Av, cv, rfl⟩ := Kd.R_slice HO.out))
  go_loopg [6, 27] 2 (fun gk v6 v27 wr => ∃ (qs : List S98), Aside0 (Kd.R k98 98 wr w.heap.size (fun _ => True) v6 qs) ∧ Aside0 (Below w.heap.size w wr) ∧ ((v27 = .int .i64 0 ∧ qs = [] ∧ 2 ≤ gk) ∨ (v27 = .int .i64 1 ∧ qs = l0 ∧ 1 ≤ gk) ∨ (v27 = .int .i64 2 ∧ qs = l0 ++ l1)))
  case atStart => exact ⟨[], ⟨ra_ HO.out⟩, ⟨bb_ HB1.out⟩, Or.inl ⟨rfl, rfl, Nat.le_refl _⟩⟩
  clear HO HB1 BX1 HB
  obtain ⟨qs, HO, HB, ⟨rfl, rfl, hk⟩ | ⟨rfl, rfl, hk⟩ | ⟨rfl, rfl⟩⟩ := hrel
  ·obtain ⟨x0, x1, fx0, fx1⟩ := cz2_ (blk_below BX.out HB.out)
   go_wp2_with (first | ((with_reducible refine gate_builtin (b := .append) (xs := #[.tmp 31, .tmp 32]) rfl ?_); at_builtin; refine Kd.R_append_rows k98 (w0 := w) w.heap.size rfl (.tmp 31) (.tmp 32) 62 98 (.agg #[(.int .i64 0), (.int .i64 0)]) 16 rfl Tryz.underlying62 impl_MergeDepends.inf rfl (by decide) (by omega) _ [] l0 _ _ _ (fun _ => True) (fun _ => False) rfl rfl ?aO ?aR (fun _ _ h => h) (fun _ h => h.elim) ?aF ?aB ?aS ?aL ?_; (case aO => exact ra_ HO.out); (case aR => exact cb_ HR0.out HB.out); (case aF => exact fun _ _ => trivial); (case aB => exact bb_ HB.out); (case aS => exact bz_ HB.out); (case aL => have := HL.out; simp only [List.length_nil]; omega); intro v2 w2 ho hb hg hat; have HO2 := Aside0.mk ho; have HB2 := Aside0.mk hb; clear ho hb hg hat))
   go_roundg 1
   case measure => omega
   case rel => exact ⟨l0, ⟨ra_ HO2.out⟩, ⟨bb_ HB2.out⟩, Or.inr (Or.inl ⟨rfl, rfl, Nat.le_refl _⟩)⟩
  ·obtain ⟨x0, x1, fx0, fx1⟩ := cz2_ (blk_below BX.out HB.out)
   go_wp2_with (first | ((with_reducible refine gate_builtin (b := .append) (xs := #[.tmp 31, .tmp 32]) rfl ?_); at_builtin; refine Kd.R_append_rows k98 (w0 := w) w.heap.size rfl (.tmp 31) (.tmp 32) 62 98 (.agg #[(.int .i64 0), (.int .i64 0)]) 16 rfl Tryz.underlying62 impl_MergeDepends.inf rfl (by decide) (by omega) _ qs l1 _ _ _ (fun _ => True) (fun _ => False) rfl rfl ?aO ?aR (fun _ _ h => h) (fun _ h => h.elim) ?aF ?aB ?aS ?aL ?_; (case aO => exact ra_ HO.out); (case aR => exact cb_ HR1.out HB.out); (case aF => exact fun _ _ => trivial); (case aB => exact bb_ HB.out); (case aS => exact bz_ HB.out); (case aL => have := HL.out; omega); intro v2 w2 ho hb hg hat; have HO2 := Aside0.mk ho; have HB2 := Aside0.mk hb; clear ho hb hg hat))
   go_roundg 0
   case measure => omega
   case rel => exact ⟨qs ++ l1, ⟨ra_ HO2.out⟩, ⟨bb_ HB2.out⟩, Or.inr (Or.inr ⟨rfl, rfl⟩)⟩
  ·go_wp2
   go_ret
   exact ⟨_, rfl, ra_ HO.out, bb_ HB.out⟩
theorem impl_MergeDepends.e0 {P : Prop} (h : P := by
 go_enter Tryz.func66, Tryz.ntmps66
 go_wp2_with (first | (go_at_call 74; (with_reducible refine (impl_DependsOk.calls k A0 c0 l0 _ _ ?side1 HC0.out A1_.out).mono ?_); (case side1 => exact cb_ HR0.out HB.out); rintro e w_0 ⟨rfl, hb⟩; replace HB := hs_ HB hb; (try clear hb); clear A1_) | (go_at_call 74; (with_reducible refine (impl_DependsOk.calls k A1 c1 l1 _ _ ?side2 HC1.out A2_.out).mono ?_); (case side2 => exact cb_ HR1.out HB.out); rintro e w_0 ⟨rfl, hb⟩; replace HB := hs_ HB hb; (try clear hb)))
 go_ret
 exact ⟨.slice none 0 0, rfl, ⟨fun _ _ => trivial, [], ⟨rfl, Or.inl ⟨rfl, rfl⟩⟩, Reps.none _ _⟩, bb_ HB.out⟩) : P := h
set_option maxHeartbeats 4000000 in
theorem impl_MergeDepends.calls (k : Nat) (A0 : Option Addr) (c0 : Nat) (l0 : List S98) (A1 : Option Addr) (c1 : Nat) (l1 : List S98) (r : List S98) (w : World) (hr0 : Kd.C k98 w A0 l0.length l0) (hc0 : l0.length ≤ c0) (hr1 : Kd.C k98 w A1 l1.length l1) (hc1 : l1.length ≤ c1) (h : impl_MergeDepends.f k l0 l1 = some r) :
  Calls Tryz.prog 66 #[.slice A0 l0.length c0, .slice A1 l1.length c1] w fun e w' => ∃ v0_ : Value, e = .returned (v0_) ∧ Kd.R k98 98 w' w.heap.size (fun _ => True) v0_ r ∧ Below w.heap.size w w' := by
 have HR0 := Aside0.mk hr0
 have HC0 := Aside0.mk hc0
 have HR1 := Aside0.mk hr1
 have HC1 := Aside0.mk hc1
 have HB := Aside0.mk (Below.refl w.heap.size w)
 clear hr0 hc0 hr1 hc1
 unfold impl_MergeDepends.f at h
 obtain ⟨b1, A10, h⟩ := Option.bind_eq_some_iff.1 h
 have A1_ := Aside0.mk A10
 clear A10
 cases b1 with
 | false =>
  have h1 : some [] = some r := h
  obtain rfl := Option.some.inj h1
  clear h h1
  exact impl_MergeDepends.e0
 | true =>
  rw [if_pos rfl] at h
  obtain ⟨b2, A20, h⟩ := Option.bind_eq_some_iff.1 h
  have A2_ := Aside0.mk A20
  clear A20
  cases b2 with
  | false =>
   have h1 : some [] = some r := h
   obtain rfl := Option.some.inj h1
   clear h h1
   exact impl_MergeDepends.e0
  | true =>
   rw [if_pos rfl] at h
   by_cases hl : l0.length + l1.length < 4398046511104
   ·rw [if_pos hl] at h
    obtain ⟨q, hq⟩ : ∃ q : List S98, l0 ++ l1 = q := ⟨_, rfl⟩
    rw [hq] at h
    have HQ := Aside0.mk hq
    have HL := Aside0.mk hl
    have HAR := Aside0.mk h
    clear hl h hq
    go_enter Tryz.func66, Tryz.ntmps66
    go_wp2_with (first | (go_at_call 74; (with_reducible refine (impl_DependsOk.calls k A0 c0 l0 _ _ ?side1 HC0.out A1_.out).mono ?_); (case side1 => exact cb_ HR0.out HB.out); rintro e w1 ⟨rfl, hb⟩; replace HB := hs_ HB hb; (try clear hb); clear A1_) | (go_at_call 74; (with_reducible refine (impl_DependsOk.calls k A1 c1 l1 _ _ ?side2 HC1.out A2_.out).mono ?_); (case side2 => exact cb_ HR1.out HB.out); rintro e w2 ⟨rfl, hb⟩; replace HB := hs_ HB hb; (try clear hb)) | (go_at_call 97; refine (impl_MergeDepends.cat A0 c0 l0 A1 c1 l1 _ _ ?side3 ?side4 (blk_new _ _) HL.out).mono ?_; (case side3 => exact cb_ HR0.out HB.out); (case side4 => exact cb_ HR1.out HB.out); rintro e w3 ⟨v3, rfl, hR, hb⟩; rw [HQ.out] at hR; have HO3 := Aside0.mk (Kd.R_lower hR (bz_ HB.out)); have HB3 := Aside0.mk (bs_ HB.out hb); clear hR hb; obtain ⟨A3, c3, rfl⟩ := Kd.R_slice HO3.out) | (go_at_call 73; (with_reducible refine (impl_arranged.calls (fun k_ => some k_ = (.slice A3 q.length c3 : Value).ownBlock) (.slice A3 q.length c3) q r w _ ?side1 ?side2 HAR.out).mono ?_); (case side1 => exact bb_ HB3.out); (case side2 => exact Kd.R_tight rfl (ra_ HO3.out)); rintro e w9 ⟨v9, rfl, ho9, hb9, hkp⟩; have HO9 := Aside0.mk (Kd.R_mono (ok' := fun k_ => True) ho9 (fun k_ hk_ => trivial)); have HB9 := Aside0.mk hb9; clear hb9 hkp ho9; obtain ⟨A9, c9, rfl⟩ := Kd.R_slice HO9.out))
    go_ret
    exact ⟨_, by first | rfl | (simp; done), ra_ HO9.out, bb_ HB9.out⟩
   ·rw [if_neg hl] at h
    cases h

/-! ### impl_ShiftDepends: function 67 -/
mutual
def impl_ShiftDepends.j0 : Nat → List (S98) → Int → Bool → Option ((List (S98)))
 | 0, _, _, _ => none
 | k + 1, x0, x1, x15 => if x15 = true then (some ([] : List (S98))) else (impl_ShiftDepends.l0 k x1 (([] : List (S98))) x0 (x0.length : Int) 0)
def impl_ShiftDepends.l0 : Nat → Int → List (S98) → List (S98) → Int → Int → Option ((List (S98)))
 | 0, _, _, _, _, _ => none
 | k + 1, x1, x5, x17, x18, x19 => if x19 < x18 then (if 0 ≤ x19 then (if x19 < (x17.length : Int) then (if x5.length < 8796093022208 then (impl_ShiftDepends.l0 k x1 (x5 ++ [(⟨wrap64 (((rd_T98 x17 x19).f0) + x1), wrap64 (((rd_T98 x17 x19).f1) + x1)⟩ : S98)]) x17 x18 (wrap64 (x19 + 1))) else (none)) else (none)) else (none)) else ((impl_DependsOk.f k x5).bind fun t573 => (if t573 = true then (some x5) else (some ([] : List (S98)))))
end
def impl_ShiftDepends.f (k : Nat) (l0 : List (S98)) (a1 : Int) : Option ((List (S98))) := (impl_DependsOk.f k l0).bind fun t563 => (if t563 = true then ((impl_inside.f a1 (-1000) 1000).bind fun t564 => (impl_ShiftDepends.j0 k l0 a1 (!t564))) else (impl_ShiftDepends.j0 k l0 a1 true))
theorem impl_ShiftDepends.mono_l : ∀ k, (∀ y0 y1 y2, LeO (impl_ShiftDepends.j0 k y0 y1 y2) (impl_ShiftDepends.j0 (k + 1) y0 y1 y2)) ∧ (∀ y0 y1 y2 y3 y4, LeO (impl_ShiftDepends.l0 k y0 y1 y2 y3 y4) (impl_ShiftDepends.l0 (k + 1) y0 y1 y2 y3 y4))
 | 0 => ⟨fun _ _ _ r h => by simp [impl_ShiftDepends.j0] at h, fun _ _ _ _ _ r h => by simp [impl_ShiftDepends.l0] at h⟩
 | k + 1 => by
  obtain ⟨ih0, ih1⟩ := impl_ShiftDepends.mono_l k
  refine ⟨?_, ?_⟩
  ·intro y0 y1 y2
   unfold impl_ShiftDepends.j0
   repeat' (with_reducible first | exact ih0 .. | exact ih1 .. | exact impl_DependsOk.mono .. | exact LeO.refl .. | exact LeO.none .. | refine LeO.ite ?_ ?_ | refine LeO.bind ?_ (fun _ => ?_))
  ·intro y0 y1 y2 y3 y4
   unfold impl_ShiftDepends.l0
   repeat' (with_reducible first | exact ih0 .. | exact ih1 .. | exact impl_DependsOk.mono .. | exact LeO.refl .. | exact LeO.none .. | refine LeO.ite ?_ ?_ | refine LeO.bind ?_ (fun _ => ?_))
theorem impl_ShiftDepends.mono : ∀ a0 a1 k, LeO (impl_ShiftDepends.f k a0 a1) (impl_ShiftDepends.f (k + 1) a0 a1) := by
 intro a0 a1 k
 obtain ⟨ih0, ih1⟩ := impl_ShiftDepends.mono_l k
 unfold impl_ShiftDepends.f
 repeat' (with_reducible first | exact ih0 .. | exact ih1 .. | exact impl_DependsOk.mono .. | exact LeO.refl .. | exact LeO.none .. | refine LeO.ite ?_ ?_ | refine LeO.bind ?_ (fun _ => ?_))
theorem impl_ShiftDepends.e0 {P : Prop} (h : P := by
 go_wp2_with (first | ((with_reducible refine gate_callee (f := 74) rfl ?_); refine gm_ (some 37) Tryz.func74 #[.slice Ao23 x5_2.length co23] rfl ?_; (with_reducible refine (impl_DependsOk.calls k2 _ _ x5_2 _ _ ?side1 ?side2 A19.out).mono ?_); (case side1 => exact rr_ HO_5); (case side2 => exact (Kd.R_reads' HO_5.out).2.1); rintro e w_0 ⟨rfl, hb⟩; refine ⟨_, rfl, ?_⟩; replace HO_5 := rb_ HO_5 hb; replace HB := hs_ HB hb; (try clear hb)))
 go_ret
 exact ⟨_, fin_, by first | exact Kd.R_nil _ _ _ _ _ | exact Kd.N_nil _ _ _ _ _ | exact Kd.V_nil _ _ _ _ _ | exact Kd.Q_nil _ _ _ _ _ | exact Kd.S_nil _ _ _ _ _, bb_ HB.out⟩) : P := h
theorem impl_ShiftDepends.calls (k : Nat) (A0 : Option Addr) (c0 : Nat) (l0 : List (S98)) (a1 : Int) (r : List (S98)) (w : World) (hr0 : Kd.C k98 w A0 l0.length l0) (hc0 : l0.length ≤ c0) (h : impl_ShiftDepends.f k l0 a1 = some r) :
  Calls Tryz.prog 67 #[.slice A0 l0.length c0, .int .i64 a1] w fun e w' => ∃ v0_ : Value, e = .returned (v0_) ∧ Kd.R k98 98 w' w.heap.size (fun _ => True) v0_ r ∧ Below w.heap.size w w' := by
 have hu98 := Tryz.underlying98
 have HR0 := Aside0.mk hr0
 have HC0 := Aside0.mk hc0
 clear hr0 hc0
 have HB := Aside0.mk (Below.refl w.heap.size w)
 have H : ((impl_DependsOk.f k l0).bind fun t563 => (if t563 = true then ((impl_inside.f a1 (-1000) 1000).bind fun t564 => (impl_ShiftDepends.j0 k l0 a1 (!t564))) else (impl_ShiftDepends.j0 k l0 a1 true))) = some r := h
 clear h
 have HC3 := Aside0.mk H
 clear H
 go_enter Tryz.func67, Tryz.ntmps67
 go_upto_region 1 with (fail)
 go_cut [15] (fun v15 wc => ∃ (kq : Nat) (x15_2 : Bool), v15 = .bool x15_2 ∧ Aside0 (impl_ShiftDepends.j0 kq l0 a1 x15_2 = some r) ∧ Aside0 (kq ≤ k) ∧ Aside0 (Below w.heap.size w wc))
 case first =>
  have H := HC3.out
  clear HC3
  obtain ⟨t563, A4, H⟩ := bi_ H
  by_cases c5 : t563 = true
  rotate_left
  ·replace c5 := Bool.eq_false_iff.mpr c5
   subst c5
   rw [if_neg (show ¬ (false = true) by decide)] at H
   have H' := Aside0.mk H
   clear H
   go_wp2_with (first | ((with_reducible refine gate_callee (f := 74) rfl ?_); refine gm_ (some 9) Tryz.func74 #[.slice A0 l0.length c0] rfl ?_; (with_reducible refine (impl_DependsOk.calls k _ _ l0 false _ ?side1 HC0.out A4.out).mono ?_); (case side1 => exact cb_ HR0.out HB.out); rintro e w8 ⟨rfl, hb⟩; refine ⟨_, rfl, ?_⟩; replace HB := hs_ HB hb; (try clear hb)))
   go_meet
   case rel => exact ⟨_, (true), ef_, H', ⟨kq_⟩, ⟨bb_ HB.out⟩⟩
  subst c5
  rw [if_pos rfl] at H
  obtain ⟨t564, A6, H⟩ := bi_ H
  have H' := Aside0.mk H
  clear H
  go_wp2_with (first | ((with_reducible refine gate_callee (f := 74) rfl ?_); refine gm_ (some 9) Tryz.func74 #[.slice A0 l0.length c0] rfl ?_; (with_reducible refine (impl_DependsOk.calls k _ _ l0 true _ ?side1 HC0.out A4.out).mono ?_); (case side1 => exact cb_ HR0.out HB.out); rintro e w7 ⟨rfl, hb⟩; refine ⟨_, rfl, ?_⟩; replace HB := hs_ HB hb; (try clear hb)) | (go_at_call 52; (with_reducible refine (impl_inside.calls a1 (-1000) 1000 t564 _ A6.out).mono ?_); rintro e w' ⟨rfl, ⟨nd, rfl⟩⟩))
  go_meet
  case rel => exact ⟨_, (!t564), ef_, H', ⟨kq_⟩, ⟨bb_ HB.out⟩⟩
 case rest =>
  clear HC3
  obtain ⟨kq, x15_2, rfl, HA, HJ2, HB⟩ := hcut
  cases kq with
  | zero => exact absurd HA.out (by simp [impl_ShiftDepends.j0])
  | succ kj2 =>
   have H := HA.out
   clear HA
   simp only [impl_ShiftDepends.j0] at H
   by_cases c9 : x15_2 = true
   ·subst c9
    rw [if_pos rfl] at H
    obtain rfl := Option.some.inj H
    exact impl_ShiftDepends.e0
   ·replace c9 := Bool.eq_false_iff.mpr c9
    subst c9
    rw [if_neg (show ¬ (false = true) by decide)] at H
    obtain ⟨y565, hy565⟩ : ∃ y_ : List (S98), y_ = (([] : List (S98))) := ⟨_, rfl⟩
    replace H : (impl_ShiftDepends.l0 kj2 a1 y565 l0 (l0.length : Int) 0) = some r := by first | (rw [hy565]; with_reducible exact H) | (have H2_ := (Option.bind_some _ _).symm.trans H; rw [hy565]; with_reducible exact H2_) | (have H2_ := (Option.bind_some _ _).symm.trans H; with_reducible exact H2_) | with_reducible exact H | (rw [hy565]; exact H) | exact H
    have Ny565 := Aside0.mk hy565
    clear hy565
    have H' := Aside0.mk H
    clear H
    go_wp2_with (first | ((with_reducible refine gate_dst (N := 16) rfl ?_); refine Kd.R_lit k98 _ 98 ?hg (N := 16) ?hd (xs := ([] : List (S98))) (inner := []) (ok := fun _ => True) (okp := fun _ => True) ?hr ?hp (fun _ hk => hk) trivial (Below.refl _ _) (Nat.le_refl _) (by simp) ?_; (case hd => rfl); (case hg => rfl); (case hr => first | (go_simp; done) | (go_simp; rfl)); (case hp => exact (Reps.none _ _)); intro v566 w10 ho11 hb hg_ hnew_; clear hg_ hnew_; (first | rw [← Ny565.out] at ho11 | (simp only [Int.reduceToNat] at ho11; rw [← Ny565.out] at ho11)); have HO567 := Aside0.mk (Kd.R_lower ho11 (bz_ HB.out)); replace HB := hs_ HB hb; clear hb ho11))
    go_loopg [5, 19] kj2 (fun kq v5 v19 w' => ∃ (x5_2 : List (S98)) (x19_2 : Int), v19 = .int .i64 x19_2 ∧ Aside0 (impl_ShiftDepends.l0 kq a1 x5_2 l0 (l0.length : Int) x19_2 = some r) ∧ Aside0 (kq ≤ kj2) ∧ Aside0 (Kd.R k98 98 w' w.heap.size (fun _ => True) v5 x5_2) ∧ Aside0 (Below w.heap.size w w'))
    case atStart => exact ⟨(y565), (0), ef_, H', ⟨Nat.le_refl _⟩, ⟨ra_ HO567.out⟩, ⟨bb_ HB.out⟩⟩
    clear H'
    try clear c9
    obtain ⟨x5_2, x19_2, rfl, HA, HK2, HO_5, HB⟩ := hrel
    obtain _ | k2 := gk
    ·exact absurd HA.out (by simp [impl_ShiftDepends.l0])
    have H := HA.out
    clear HA
    simp only [impl_ShiftDepends.l0] at H
    by_cases c12 : x19_2 < (l0.length : Int)
    rotate_left
    ·rw [if_neg c12] at H
     have c12b0 : decide (x19_2 < (l0.length : Int)) = false := decide_eq_false c12
     clear c12
     obtain ⟨t573, A19, H⟩ := bi_ H
     by_cases c20 : t573 = true
     rotate_left
     ·replace c20 := Bool.eq_false_iff.mpr c20
      subst c20
      rw [if_neg (show ¬ (false = true) by decide)] at H
      obtain rfl := Option.some.inj H
      obtain ⟨Ao23, co23, eo23⟩ := Kd.R_slice HO_5.out
      subst eo23
      exact impl_ShiftDepends.e0
     subst c20
     rw [if_pos rfl] at H
     obtain rfl := Option.some.inj H
     obtain ⟨Ao21, co21, eo21⟩ := Kd.R_slice HO_5.out
     subst eo21
     go_wp2_with (first | ((with_reducible refine gate_callee (f := 74) rfl ?_); refine gm_ (some 37) Tryz.func74 #[.slice Ao21 x5_2.length co21] rfl ?_; (with_reducible refine (impl_DependsOk.calls k2 _ _ x5_2 true _ ?side1 ?side2 A19.out).mono ?_); (case side1 => exact rr_ HO_5); (case side2 => exact (Kd.R_reads' HO_5.out).2.1); rintro e w22 ⟨rfl, hb⟩; refine ⟨_, rfl, ?_⟩; replace HO_5 := rb_ HO_5 hb; replace HB := hs_ HB hb; (try clear hb)))
     go_ret
     exact ⟨_, fin_, ra_ HO_5.out, bb_ HB.out⟩
    rw [if_pos c12] at H
    have c12b0 : decide (x19_2 < (l0.length : Int)) = true := decide_eq_true c12
    clear c12
    by_cases c13 : 0 ≤ x19_2
    rotate_left
    ·rw [if_neg c13] at H
     exact absurd H (by simp)
    rw [if_pos c13] at H
    have c13b0 : decide (0 ≤ x19_2) = true := decide_eq_true c13
    clear c13
    by_cases c14 : x19_2 < (l0.length : Int)
    rotate_left
    ·rw [if_neg c14] at H
     exact absurd H (by simp)
    rw [if_pos c14] at H
    have c14b0 : decide (x19_2 < (l0.length : Int)) = true := decide_eq_true c14
    clear c14
    by_cases c15 : x5_2.length < 8796093022208
    rotate_left
    ·rw [if_neg c15] at H
     exact absurd H (by simp)
    rw [if_pos c15] at H
    have LMc15 := Aside0.mk c15
    clear c15
    obtain ⟨y570, hy570⟩ : ∃ y_ : List (S98), y_ = (x5_2 ++ [(⟨wrap64 (((rd_T98 l0 x19_2).f0) + a1), wrap64 (((rd_T98 l0 x19_2).f1) + a1)⟩ : S98)]) := ⟨_, rfl⟩
    replace H : (impl_ShiftDepends.l0 k2 a1 y570 l0 (l0.length : Int) (wrap64 (x19_2 + 1))) = some r := by first | (rw [hy570]; with_reducible exact H) | (have H2_ := (Option.bind_some _ _).symm.trans H; rw [hy570]; with_reducible exact H2_) | (have H2_ := (Option.bind_some _ _).symm.trans H; with_reducible exact H2_) | with_reducible exact H | (rw [hy570]; exact H) | exact H
    have Ny570 := Aside0.mk hy570
    clear hy570
    have H' := Aside0.mk H
    clear H
    have p568 : 0 ≤ (x19_2 : Int) := of_decide_eq_true dg_
    have q568 : x19_2 < (l0.length : Int) := of_decide_eq_true dg_
    obtain ⟨ad568, e568, hx568_0, hx568_1⟩ := at_T98 HR0.out x19_2 p568 q568
    cases e568
    replace hx568_0 := hc_ HB hx568_0
    replace hx568_1 := hc_ HB hx568_1
    replace p568 := eq_true p568
    replace q568 := eq_true q568
    go_wp2_with (first | ((with_reducible refine gate_dst (N := 7) rfl ?_); refine box_event ?hg (N := 7) ?hd (cs := #[.int .i64 0, .int .i64 0]) (t := 98) ?hr ?_; (case hd => rfl); (case hg => rfl); (case hr => first | (go_simp; done) | (go_simp; rfl)); intro gb569 hg w16 hbox hb; replace HO_5 := Aside0.mk (Kd.R_below (Kd.R_elderB (ra_ HO_5.out) gb569 (Nat.le_of_eq hg.symm)) hb); have BK569 := Aside0.mk (hbox); have GW569 := gw_ hg HB; replace HB := hs_ HB hb; clear hb hbox hg; obtain ⟨hcz17_0, hcz17_1, hfz17_0, hfz17_1⟩ := cz2_ BK569.out) | ((with_reducible refine gate_builtin (b := .append) (xs := #[.tmp 23, .tmp 33]) rfl ?_); at_builtin; refine Kd.R_append k98 (w0 := w) w.heap.size rfl (.tmp 23) (.tmp 33) 62 98 (.agg #[(.int .i64 0), (.int .i64 0)]) 16 rfl Tryz.underlying62 info98 rfl (by decide) (by omega) u5 x5_2 (⟨wrap64 (((rd_T98 l0 x19_2).f0) + a1), wrap64 (((rd_T98 l0 x19_2).f1) + a1)⟩ : S98) [.int .i64 (wrap64 (((rd_T98 l0 x19_2).f0) + a1)), .int .i64 (wrap64 (((rd_T98 l0 x19_2).f1) + a1))] (fun k_ => k_ ≠ gb569) (fun _ => False) rfl (by first | (go_simp; done) | (go_simp; rfl)) ?aP (fun _ hk => hk.elim) ?aF ?aO ?aB ?aS ?aL ?_; (case aP => exact k98_mkM _ _ _ (⟨wrap64 (((rd_T98 l0 x19_2).f0) + a1), wrap64 (((rd_T98 l0 x19_2).f1) + a1)⟩ : S98)); (case aB => exact (by repeat (first | (with_reducible first | exact HB.out | apply below_alloc | apply pw_below_drewN | apply below_drew1 | refine below_set ?_ GW569.out) | exact HB.out))); (case aF => exact (fun k_ hk => Kd.freshB (g := gb569) (o := .cells #[.int .i64 ((rd_T98 l0 x19_2).f0), .int .i64 ((rd_T98 l0 x19_2).f1)] 98 (0, 0)) (by (with_reducible repeat (first | refine blk_drewN ?_ _ | refine blk_drew ?_ | refine blk_alloc ?_ _)); refine blk_put (cs := #[.int .i64 ((rd_T98 l0 x19_2).f0), .int .i64 0]) ?_ 1 _ rfl; (with_reducible repeat (first | refine blk_drewN ?_ _ | refine blk_drew ?_ | refine blk_alloc ?_ _)); refine blk_put (cs := #[.int .i64 0, .int .i64 0]) ?_ 0 _ rfl; (with_reducible repeat (first | refine blk_drewN ?_ _ | refine blk_drew ?_ | refine blk_alloc ?_ _)); exact BK569.out) k_ hk)); (case aO => exact (rm_ (Kd.R_mono HO_5.out (fun k_ hk => (⟨hk, hk.2⟩ : _ ∧ k_ ≠ gb569))) (fun _ hk => hk.1.2))); (case aS => exact (bz_ HB.out)); (case aL => have := LMc15.out; omega); intro v571 w18 ho hb hg hat; rw [← Ny570.out] at ho; have n0_ := Aside0.mk (blk_grown (g := gb569) (o := .cells #[.int .i64 ((rd_T98 l0 x19_2).f0), .int .i64 ((rd_T98 l0 x19_2).f1)] 98 (0, 0)) (by (with_reducible repeat (first | refine blk_drewN ?_ _ | refine blk_drew ?_ | refine blk_alloc ?_ _)); refine blk_put (cs := #[.int .i64 ((rd_T98 l0 x19_2).f0), .int .i64 0]) ?_ 1 _ rfl; (with_reducible repeat (first | refine blk_drewN ?_ _ | refine blk_drew ?_ | refine blk_alloc ?_ _)); refine blk_put (cs := #[.int .i64 0, .int .i64 0]) ?_ 0 _ rfl; (with_reducible repeat (first | refine blk_drewN ?_ _ | refine blk_drew ?_ | refine blk_alloc ?_ _)); exact BK569.out) hg (Kd.R_away HO_5.out (fun _ hk => hk.2))); have n1_ := Aside0.mk (hb); have n2_ := Aside0.mk (ho); clear BK569; clear HB; clear HO_5; have BK569 := n0_; have HB := n1_; have HO572 := n2_; clear n0_ n1_ n2_; clear ho hb hg hat))
    go_roundg k2
    case measure => have := HJ2.out; have := HK2.out; omega
    case rel => exact ⟨(y570), (wrap64 (x19_2 + 1)), ef_, H', ⟨by have := HJ2.out; have := HK2.out; omega⟩, ⟨by (with_reducible repeat (first | apply Kd.R_alloc | apply Kd.R_drewN | apply Kd.R_drew)); exact Kd.R_mono HO572.out (fun _ hk => trivial)⟩, ⟨bb_ HB.out⟩⟩

end Go.Proofs.YtimdefbpoddoaaaGreat.PFnExactCheckClasses
-- thin
