/- The law's functions as plain functions, and their calls. No condition. -/
import Derived.Test.YtimdefbpoddoaaaGreatPFnExactCheckClassesx0
import Derived.Test.YtimdefbpoddoaaaGreatPFnExactCheckClassesx2
import Derived.Test.YtimdefbpoddoaaaGreatPFnExactCheckClassesx13
import Derived.Test.YtimdefbpoddoaaaGreatPFnExactCheckClassesx14
import Derived.Test.YtimdefbpoddoaaaGreatPFnExactCheckClassesx23
namespace Go.Proofs.YtimdefbpoddoaaaGreat.PFnExactCheckClasses
open Go.RowKit Go.Proofs.YtimdefbpoddoaaaGreatW.PrintWords Go.Proofs.YtimdefbpoddoaaaGreatW.PrintLast Go.Proofs.YtimdefbpoddoaaaGreatW.PrintMore
attribute [local go_sem] max2_int min2_int max_two min_two max_three min_three max_four min_four
set_option linter.unusedVariables false
set_option maxHeartbeats 8000000
set_option maxRecDepth 100000
set_option linter.unusedSimpArgs false

/-! ### laws_markIntS: function 40 -/
def laws_markIntS.l0 : Nat → List Int → Int → Int → Option (Int × List Int)
 | 0, _, _, _ => none
 | k + 1, x0, x1, x5 => if x5 < (x0.length : Int) then (if 0 ≤ x5 then (laws_markIntS.l0 k (x0.set (x5 : Int).toNat x1) (wrap64 (x1 + 1)) (wrap64 (x5 + 1))) else (none)) else (some (x1, x0))
def laws_markIntS.f (k : Nat) (l0 : List Int) (a1 : Int) : Option (Int × List Int) := laws_markIntS.l0 k l0 a1 0
theorem laws_markIntS.mono_l : ∀ k, (∀ y0 y1 y2, LeO (laws_markIntS.l0 k y0 y1 y2) (laws_markIntS.l0 (k + 1) y0 y1 y2))
 | 0 => fun _ _ _ r h => by simp [laws_markIntS.l0] at h
 | k + 1 => by
  have ih0 := laws_markIntS.mono_l k
  ·intro y0 y1 y2
   unfold laws_markIntS.l0
   repeat' (with_reducible first | exact ih0 .. | exact LeO.refl .. | exact LeO.none .. | refine LeO.ite ?_ ?_ | refine LeO.bind ?_ (fun _ => ?_))
theorem laws_markIntS.mono : ∀ a0 a1 k, LeO (laws_markIntS.f k a0 a1) (laws_markIntS.f (k + 1) a0 a1) := by
 intro a0 a1 k
 have ih0 := laws_markIntS.mono_l k
 unfold laws_markIntS.f
 repeat' (with_reducible first | exact ih0 .. | exact LeO.refl .. | exact LeO.none .. | refine LeO.ite ?_ ?_ | refine LeO.bind ?_ (fun _ => ?_))
theorem laws_markIntS.calls (k : Nat) (P0_ : Nat → Prop) (u9000_ : Value) (l0 : List Int) (a1 : Int) (r1 : Int) (r2 : List Int) (w0 w : World) (hB : Below w0.heap.size w0 w) (ho0 : Kd.R (Kd.int .i64) 3 w w0.heap.size P0_ u9000_ l0) (h : laws_markIntS.f k l0 a1 = some (r1, r2)) :
  Calls Tryz.prog 40 #[u9000_, .int .i64 a1] w fun e w' => e = .returned (.int .i64 r1) ∧ Kd.R (Kd.int .i64) 3 w' w0.heap.size (fun k_ => (P0_ k_ ∨ w.heap.size ≤ k_)) u9000_ r2 ∧ Below w0.heap.size w0 w' ∧ Kept w w' (fun k_ => P0_ k_) := by
 have HO0 := Aside0.mk (show Kd.R (Kd.int .i64) 3 w w0.heap.size (fun k_ => (P0_ k_ ∨ w.heap.size ≤ k_)) u9000_ l0 from Kd.R_mono ho0 (fun k_ hk => (.inl hk)))
 have HK := Aside0.mk (Kept.refl w (fun k_ => P0_ k_))
 have HW0 := Aside0.mk hB.size
 have HB := Aside0.mk hB
 clear hB
 have H : (laws_markIntS.l0 k l0 a1 0) = some (r1, r2) := h
 clear h
 have H' := Aside0.mk H
 clear H
 go_enter Tryz.func40, Tryz.ntmps40
 go_wp2
 go_loopg [1, 5] k (fun kq v1 v5 w' => ∃ (x0_1 : List Int) (x1_1 : Int) (x5_1 : Int), v1 = .int .i64 x1_1 ∧ v5 = .int .i64 x5_1 ∧ Aside0 (laws_markIntS.l0 kq x0_1 x1_1 x5_1 = some (r1, r2)) ∧ Aside0 (kq ≤ k) ∧ Aside0 (Kd.R (Kd.int .i64) 3 w' w0.heap.size (fun k_ => (P0_ k_ ∨ w.heap.size ≤ k_)) u9000_ x0_1) ∧ Aside0 (Kept w w' (fun k_ => P0_ k_)) ∧ Aside0 (Below w0.heap.size w0 w'))
 case atStart => exact ⟨(l0), (a1), (0), ef_, ef_, H', ⟨Nat.le_refl _⟩, ⟨ra_ HO0.out⟩, ⟨by repeat (first | (with_reducible first | exact HK.out | apply Kept.alloc | apply Kept.drewN | apply Kept.drew) | exact HK.out)⟩, ⟨bb_ HB.out⟩⟩
 clear H'
 obtain ⟨x0_1, x1_1, x5_1, rfl, rfl, HA, HK1, HO_0, HK, HB⟩ := hrel
 obtain _ | k1 := gk
 ·exact absurd HA.out (by simp [laws_markIntS.l0])
 have H := HA.out
 clear HA
 simp only [laws_markIntS.l0] at H
 by_cases c3 : x5_1 < (x0_1.length : Int)
 rotate_left
 ·rw [if_neg c3] at H
  have c3b0 : decide (x5_1 < (x0_1.length : Int)) = false := decide_eq_false c3
  clear c3
  simp only [Option.some.injEq, Prod.mk.injEq] at H
  obtain ⟨rfl, rfl⟩ := H
  obtain ⟨Ao9, co9, eo9⟩ := Kd.R_slice HO_0.out
  subst eo9
  go_wp2
  go_ret
  exact ⟨fin_, ra_ HO_0.out, bb_ HB.out, by repeat (first | (with_reducible first | exact HK.out | apply Kept.alloc | apply Kept.drewN | apply Kept.drew) | exact HK.out)⟩
 rw [if_pos c3] at H
 have c3b0 : decide (x5_1 < (x0_1.length : Int)) = true := decide_eq_true c3
 clear c3
 by_cases c4 : 0 ≤ x5_1
 rotate_left
 ·rw [if_neg c4] at H
  exact absurd H (by simp)
 rw [if_pos c4] at H
 have c4b0 : decide (0 ≤ x5_1) = true := decide_eq_true c4
 clear c4
 obtain ⟨y622, hy622⟩ : ∃ y_ : List Int, y_ = (x0_1.set (x5_1 : Int).toNat x1_1) := ⟨_, rfl⟩
 replace H : (laws_markIntS.l0 k1 y622 (wrap64 (x1_1 + 1)) (wrap64 (x5_1 + 1))) = some (r1, r2) := by first | (rw [hy622]; with_reducible exact H) | (have H2_ := (Option.bind_some _ _).symm.trans H; rw [hy622]; with_reducible exact H2_) | (have H2_ := (Option.bind_some _ _).symm.trans H; with_reducible exact H2_) | with_reducible exact H | (rw [hy622]; exact H) | exact H
 have Ny622 := Aside0.mk hy622
 clear hy622
 have H' := Aside0.mk H
 clear H
 obtain ⟨Ao6, co6, eo6⟩ := Kd.R_slice HO_0.out
 subst eo6
 have p5 : 0 ≤ (x5_1 : Int) := of_decide_eq_true dg_
 have q5 : (x5_1 : Int) < ((x0_1.length : Int) : Int) := of_decide_eq_true dg_
 obtain ⟨go5, co5, eo5, gb5, gl5, cl5, HG5⟩ := Kd.R_form HO_0.out (by omega)
 (first | cases eo5 | (injection eo5 with ea_ en_ ec_; (first | subst ea_ | (injection ea_ with ea_; subst ea_)); subst ec_; clear en_))
 have GB5 := Aside0.mk gb5
 have GG5 := Aside0.mk HG5
 clear gb5 gl5 HG5
 have HMgo5 := Aside0.mk (show (P0_ go5 ∨ w.heap.size ≤ go5) from (HO_0.out.1 _ rfl))
 obtain ⟨hx5_0, hf5_0⟩ := Kd.R_celln 0 HO_0.out (x5_1 : Int) p5 q5
 replace p5 := eq_true p5
 replace q5 := eq_true q5
 have HP7 := Kd.R_putg HO_0.out (x5_1 : Int) x1_1
 go_wp2_with (first | ((with_reducible refine gate_store (t := 3) (p := 15) rfl ?_); refine store_event (t := 3) (p := 15) (v := ?vo_w8) (w1 := (wr.setCell ⟨go5, (x5_1 : Int).toNat, none⟩ (.int .i64 x1_1))) ?hg ?ho ?hn ?hr ?_; (case ho => rfl); (case hg => rfl); (case hn => rfl); (case hr => first | (go_simp; done) | (go_simp; rfl)); intro w8 hw; have hg : wr.grownBy w8 (some go5) := (by rw [hw]; exact HP7.2); have hp_ : Kd.R (Kd.int .i64) 3 w8 w0.heap.size (fun k_ => (P0_ k_ ∨ w.heap.size ≤ k_)) (.slice (some ⟨go5, 0, none⟩) x0_1.length co6) y622 := (by rw [hw, Ny622.out]; exact HP7.1); clear HP7; replace HB := Aside0.mk ((by rw [hw]; exact below_set (HB.out) GB5.out : Below w0.heap.size w0 w8)); replace HK := Aside0.mk (Kept.of_grown (S := (fun k_ => P0_ k_)) hg (by repeat (first | (with_reducible first | exact HK.out | apply Kept.alloc | apply Kept.drewN | apply Kept.drew) | exact HK.out)) (fun k_ e_ => (HO_0.out.1 k_ e_))); replace HO_0 := Aside0.mk (hp_); clear hg hw hp_))
 go_roundg k1
 case measure => have := HK1.out; omega
 case rel => exact ⟨(y622), (wrap64 (x1_1 + 1)), (wrap64 (x5_1 + 1)), ef_, ef_, H', ⟨by have := HK1.out; omega⟩, ⟨ra_ HO_0.out⟩, ⟨by repeat (first | (with_reducible first | exact HK.out | apply Kept.alloc | apply Kept.drewN | apply Kept.drew) | exact HK.out)⟩, ⟨bb_ HB.out⟩⟩

/-! ### laws_markMesh: function 14 -/
def laws_markMesh.f (k : Nat) (a0_0 : Int) (a0_1 : Int) (l0_2 : List Int) (a1 : Int) : Option (Int × List Int) := (laws_markIntS.f k l0_2 a1).bind fun bt624 => (some (bt624.1, bt624.2))
theorem laws_markMesh.mono : ∀ a0 a1 a2 a3 k, LeO (laws_markMesh.f k a0 a1 a2 a3) (laws_markMesh.f (k + 1) a0 a1 a2 a3) := by
 intro a0 a1 a2 a3 k
 unfold laws_markMesh.f
 repeat' (with_reducible first | exact laws_markIntS.mono .. | exact LeO.refl .. | exact LeO.none .. | refine LeO.ite ?_ ?_ | refine LeO.bind ?_ (fun _ => ?_))
theorem laws_markMesh.calls (k : Nat) (a0_0 : Int) (a0_1 : Int) (P0_2_ : Nat → Prop) (u9000_ : Value) (l0_2 : List Int) (a1 : Int) (r1 : Int) (r2 : List Int) (w0 w : World) (hB : Below w0.heap.size w0 w) (ho0_2 : Kd.R (Kd.int .i64) 3 w w0.heap.size P0_2_ u9000_ l0_2) (h : laws_markMesh.f k a0_0 a0_1 l0_2 a1 = some (r1, r2)) :
  Calls Tryz.prog 14 #[.agg #[.int .i64 a0_0, .int .i64 a0_1, u9000_], .int .i64 a1] w fun e w' => e = .returned (.int .i64 r1) ∧ Kd.R (Kd.int .i64) 3 w' w0.heap.size (fun k_ => (P0_2_ k_ ∨ w.heap.size ≤ k_)) u9000_ r2 ∧ Below w0.heap.size w0 w' ∧ Kept w w' (fun k_ => P0_2_ k_) := by
 have hu38 := Tryz.underlying38
 have HO0_2 := Aside0.mk (show Kd.R (Kd.int .i64) 3 w w0.heap.size (fun k_ => (P0_2_ k_ ∨ w.heap.size ≤ k_)) u9000_ l0_2 from Kd.R_mono ho0_2 (fun k_ hk => (.inl hk)))
 have HK := Aside0.mk (Kept.refl w (fun k_ => P0_2_ k_))
 have HW0 := Aside0.mk hB.size
 have HB := Aside0.mk hB
 clear hB
 have H : ((laws_markIntS.f k l0_2 a1).bind fun bt624 => (some (bt624.1, bt624.2))) = some (r1, r2) := h
 clear h
 obtain ⟨⟨t624, t625⟩, A3, H⟩ := bi_ H
 try dsimp only at H
 simp only [Option.some.injEq, Prod.mk.injEq] at H
 obtain ⟨rfl, rfl⟩ := H
 obtain ⟨Ao4, co4, eo4⟩ := Kd.R_slice HO0_2.out
 subst eo4
 go_enter Tryz.func14, Tryz.ntmps14
 go_wp2_with (first | ((with_reducible refine gate_dst (N := 2) rfl ?_); refine box_event ?hg (N := 2) ?hd (cs := #[.int .i64 a0_0, .int .i64 a0_1, .slice Ao4 l0_2.length co4]) (t := 38) ?hr ?_; (case hd => rfl); (case hg => rfl); (case hr => first | (go_simp; done) | (go_simp; rfl)); intro gb623 hg w5 hbox hb; replace HO0_2 := rb_ HO0_2 hb; have BK623 := Aside0.mk (hbox); have GW623 := Aside0.mk ((by rw [hg]; exact (by first | exact HK.out.1 | exact (show Kept w _ (fun k_ => P0_2_ k_) from by repeat (first | (with_reducible first | exact HK.out | apply Kept.alloc | apply Kept.drewN | apply Kept.drew) | exact HK.out)).1) : w.heap.size ≤ gb623)); replace HK := Aside0.mk (Kept.below (S := (fun k_ => P0_2_ k_)) (by repeat (first | (with_reducible first | exact HK.out | apply Kept.alloc | apply Kept.drewN | apply Kept.drew) | exact HK.out)) hb); have GE623 := Aside0.mk ((by rw [hg]; exact (bz_ HB.out) : w0.heap.size ≤ gb623)); replace HB := hs_ HB hb; clear hb hbox hg; obtain ⟨hcz6_0, hcz6_1, hcz6_2, hfz6_0, hfz6_1, hfz6_2⟩ := cz3_ BK623.out) | ((with_reducible refine gate_callee (f := 40) rfl ?_); refine gm_ (some 8) Tryz.func40 #[.slice Ao4 l0_2.length co4, .int .i64 a1] rfl ?_; (with_reducible refine (laws_markIntS.calls k (fun k_ => some k_ = (.slice Ao4 l0_2.length co4 : Value).ownBlock) (.slice Ao4 l0_2.length co4) l0_2 a1 t624 t625 w0 _ ?side1 ?side2 A3.out).mono ?_); (case side1 => repeat (first | (with_reducible first | exact HB.out | apply below_alloc | apply pw_below_drewN | apply below_drew1 | refine below_set ?_ GE623.out) | exact HB.out)); (case side2 => exact Kd.R_tight rfl HO0_2.out); rintro e w7 ⟨rfl, hy0, hb, hkp⟩; refine ⟨_, rfl, ?_⟩; replace BK623 := Aside0.mk (blk_kept (by (with_reducible repeat (first | refine blk_drewN ?_ _ | refine blk_drew ?_ | refine blk_alloc ?_ _)); exact BK623.out) hkp (fun hs_ => (fun e_ => (Kd.R_ne HO0_2.out BK623.out (by decide)) e_) hs_)); replace HK := Aside0.mk (Kept.then_ (S := (fun k_ => P0_2_ k_)) (by repeat (first | (with_reducible first | exact HK.out | apply Kept.alloc | apply Kept.drewN | apply Kept.drew | refine Kept.setCell ?_ (.inr GW623.out) _) | exact HK.out)) hkp (fun k_ hs_ => (fun e_ => (HO0_2.out.1 k_ e_.symm)) hs_)); replace HO0_2 := Aside0.mk (Kd.R_reok rfl hy0 (fun k_ e_ => HO0_2.out.1 k_ e_)); replace HB := Aside0.mk (hb); (try clear hb); (try clear hkp); (try clear hy0)))
 go_ret
 exact ⟨fin_, ra_ HO0_2.out, bb_ HB.out, by repeat (first | (with_reducible first | exact HK.out | apply Kept.alloc | apply Kept.drewN | apply Kept.drew | refine Kept.setCell ?_ (.inr GW623.out) _) | exact HK.out)⟩

/-! ### laws_markTable: function 41 -/
def laws_markTable.f (k : Nat) (l0_0 : List Int) (a1 : Int) : Option (Int × List Int) := (laws_markIntS.f k l0_0 a1).bind fun bt627 => (some (bt627.1, bt627.2))
theorem laws_markTable.mono : ∀ a0 a1 k, LeO (laws_markTable.f k a0 a1) (laws_markTable.f (k + 1) a0 a1) := by
 intro a0 a1 k
 unfold laws_markTable.f
 repeat' (with_reducible first | exact laws_markIntS.mono .. | exact LeO.refl .. | exact LeO.none .. | refine LeO.ite ?_ ?_ | refine LeO.bind ?_ (fun _ => ?_))
theorem laws_markTable.calls (k : Nat) (P0_0_ : Nat → Prop) (u9000_ : Value) (l0_0 : List Int) (a1 : Int) (r1 : Int) (r2 : List Int) (w0 w : World) (hB : Below w0.heap.size w0 w) (ho0_0 : Kd.R (Kd.int .i64) 3 w w0.heap.size P0_0_ u9000_ l0_0) (h : laws_markTable.f k l0_0 a1 = some (r1, r2)) :
  Calls Tryz.prog 41 #[.agg #[u9000_], .int .i64 a1] w fun e w' => e = .returned (.int .i64 r1) ∧ Kd.R (Kd.int .i64) 3 w' w0.heap.size (fun k_ => (P0_0_ k_ ∨ w.heap.size ≤ k_)) u9000_ r2 ∧ Below w0.heap.size w0 w' ∧ Kept w w' (fun k_ => P0_0_ k_) := by
 have hu40 := Tryz.underlying40
 have HO0_0 := Aside0.mk (show Kd.R (Kd.int .i64) 3 w w0.heap.size (fun k_ => (P0_0_ k_ ∨ w.heap.size ≤ k_)) u9000_ l0_0 from Kd.R_mono ho0_0 (fun k_ hk => (.inl hk)))
 have HK := Aside0.mk (Kept.refl w (fun k_ => P0_0_ k_))
 have HW0 := Aside0.mk hB.size
 have HB := Aside0.mk hB
 clear hB
 have H : ((laws_markIntS.f k l0_0 a1).bind fun bt627 => (some (bt627.1, bt627.2))) = some (r1, r2) := h
 clear h
 obtain ⟨⟨t627, t628⟩, A3, H⟩ := bi_ H
 try dsimp only at H
 simp only [Option.some.injEq, Prod.mk.injEq] at H
 obtain ⟨rfl, rfl⟩ := H
 obtain ⟨Ao4, co4, eo4⟩ := Kd.R_slice HO0_0.out
 subst eo4
 go_enter Tryz.func41, Tryz.ntmps41
 go_wp2_with (first | ((with_reducible refine gate_dst (N := 2) rfl ?_); refine box_event ?hg (N := 2) ?hd (cs := #[.slice Ao4 l0_0.length co4]) (t := 40) ?hr ?_; (case hd => rfl); (case hg => rfl); (case hr => first | (go_simp; done) | (go_simp; rfl)); intro gb626 hg w5 hbox hb; replace HO0_0 := rb_ HO0_0 hb; have BK626 := Aside0.mk (hbox); have GW626 := Aside0.mk ((by rw [hg]; exact (by first | exact HK.out.1 | exact (show Kept w _ (fun k_ => P0_0_ k_) from by repeat (first | (with_reducible first | exact HK.out | apply Kept.alloc | apply Kept.drewN | apply Kept.drew) | exact HK.out)).1) : w.heap.size ≤ gb626)); replace HK := Aside0.mk (Kept.below (S := (fun k_ => P0_0_ k_)) (by repeat (first | (with_reducible first | exact HK.out | apply Kept.alloc | apply Kept.drewN | apply Kept.drew) | exact HK.out)) hb); have GE626 := Aside0.mk ((by rw [hg]; exact (bz_ HB.out) : w0.heap.size ≤ gb626)); replace HB := hs_ HB hb; clear hb hbox hg; obtain ⟨hcz6_0, hfz6_0⟩ := cz1_ BK626.out) | ((with_reducible refine gate_callee (f := 40) rfl ?_); refine gm_ (some 8) Tryz.func40 #[.slice Ao4 l0_0.length co4, .int .i64 a1] rfl ?_; (with_reducible refine (laws_markIntS.calls k (fun k_ => some k_ = (.slice Ao4 l0_0.length co4 : Value).ownBlock) (.slice Ao4 l0_0.length co4) l0_0 a1 t627 t628 w0 _ ?side1 ?side2 A3.out).mono ?_); (case side1 => repeat (first | (with_reducible first | exact HB.out | apply below_alloc | apply pw_below_drewN | apply below_drew1 | refine below_set ?_ GE626.out) | exact HB.out)); (case side2 => exact Kd.R_tight rfl HO0_0.out); rintro e w7 ⟨rfl, hy0, hb, hkp⟩; refine ⟨_, rfl, ?_⟩; replace BK626 := Aside0.mk (blk_kept (by (with_reducible repeat (first | refine blk_drewN ?_ _ | refine blk_drew ?_ | refine blk_alloc ?_ _)); exact BK626.out) hkp (fun hs_ => (fun e_ => (Kd.R_ne HO0_0.out BK626.out (by decide)) e_) hs_)); replace HK := Aside0.mk (Kept.then_ (S := (fun k_ => P0_0_ k_)) (by repeat (first | (with_reducible first | exact HK.out | apply Kept.alloc | apply Kept.drewN | apply Kept.drew | refine Kept.setCell ?_ (.inr GW626.out) _) | exact HK.out)) hkp (fun k_ hs_ => (fun e_ => (HO0_0.out.1 k_ e_.symm)) hs_)); replace HO0_0 := Aside0.mk (Kd.R_reok rfl hy0 (fun k_ e_ => HO0_0.out.1 k_ e_)); replace HB := Aside0.mk (hb); (try clear hb); (try clear hkp); (try clear hy0)))
 go_ret
 exact ⟨fin_, ra_ HO0_0.out, bb_ HB.out, by repeat (first | (with_reducible first | exact HK.out | apply Kept.alloc | apply Kept.drewN | apply Kept.drew | refine Kept.setCell ?_ (.inr GW626.out) _) | exact HK.out)⟩

/-! ### laws_markClasses: function 15 -/
def laws_markClasses.f (k : Nat) (l0_0 : List Int) (l0_1 : List Int) (a1 : Int) : Option (Int × List Int × List Int) := (laws_markTable.f k l0_0 a1).bind fun bt630 => ((laws_markTable.f k l0_1 bt630.1).bind fun bt632 => (some (bt632.1, bt630.2, bt632.2)))
theorem laws_markClasses.mono : ∀ a0 a1 a2 k, LeO (laws_markClasses.f k a0 a1 a2) (laws_markClasses.f (k + 1) a0 a1 a2) := by
 intro a0 a1 a2 k
 unfold laws_markClasses.f
 repeat' (with_reducible first | exact laws_markTable.mono .. | exact LeO.refl .. | exact LeO.none .. | refine LeO.ite ?_ ?_ | refine LeO.bind ?_ (fun _ => ?_))
theorem laws_markClasses.calls (k : Nat) (P0_0_ : Nat → Prop) (u9000_ : Value) (l0_0 : List Int) (P0_1_ : Nat → Prop) (u9001_ : Value) (l0_1 : List Int) (a1 : Int) (r1 : Int) (r2 : List Int) (r3 : List Int) (w0 w : World) (hB : Below w0.heap.size w0 w) (ho0_0 : Kd.R (Kd.int .i64) 3 w w0.heap.size P0_0_ u9000_ l0_0) (hp0_0_0_1 : ∀ k_, P0_0_ k_ → ¬ P0_1_ k_) (ho0_1 : Kd.R (Kd.int .i64) 3 w w0.heap.size P0_1_ u9001_ l0_1) (hp0_1_0_0 : ∀ k_, P0_1_ k_ → ¬ P0_0_ k_) (h : laws_markClasses.f k l0_0 l0_1 a1 = some (r1, r2, r3)) :
  Calls Tryz.prog 15 #[.agg #[u9000_, u9001_], .int .i64 a1] w fun e w' => e = .returned (.int .i64 r1) ∧ Kd.R (Kd.int .i64) 3 w' w0.heap.size (fun k_ => ((P0_0_ k_ ∨ P0_1_ k_) ∨ w.heap.size ≤ k_)) u9000_ r2 ∧ Kd.R (Kd.int .i64) 3 w' w0.heap.size (fun k_ => ((P0_0_ k_ ∨ P0_1_ k_) ∨ w.heap.size ≤ k_)) u9001_ r3 ∧ Below w0.heap.size w0 w' ∧ Kept w w' (fun k_ => P0_0_ k_ ∨ P0_1_ k_) := by
 have hu42 := Tryz.underlying42
 have hu40 := Tryz.underlying40
 have HO0_0 := Aside0.mk (show Kd.R (Kd.int .i64) 3 w w0.heap.size (fun k_ => ((P0_0_ k_ ∨ P0_1_ k_) ∨ w.heap.size ≤ k_) ∧ some k_ ≠ (u9001_ : Value).ownBlock) u9000_ l0_0 from Kd.R_mono ho0_0 (fun k_ hk => ⟨(.inl (.inl hk)), fun e_ => hp0_0_0_1 k_ hk (ho0_1.1 k_ e_.symm)⟩))
 have HO0_1 := Aside0.mk (show Kd.R (Kd.int .i64) 3 w w0.heap.size (fun k_ => ((P0_0_ k_ ∨ P0_1_ k_) ∨ w.heap.size ≤ k_) ∧ some k_ ≠ (u9000_ : Value).ownBlock) u9001_ l0_1 from Kd.R_mono ho0_1 (fun k_ hk => ⟨(.inl (.inr hk)), fun e_ => hp0_1_0_0 k_ hk (ho0_0.1 k_ e_.symm)⟩))
 have HK := Aside0.mk (Kept.refl w (fun k_ => P0_0_ k_ ∨ P0_1_ k_))
 have HW0 := Aside0.mk hB.size
 have HB := Aside0.mk hB
 clear hB
 have H : ((laws_markTable.f k l0_0 a1).bind fun bt630 => ((laws_markTable.f k l0_1 bt630.1).bind fun bt632 => (some (bt632.1, bt630.2, bt632.2)))) = some (r1, r2, r3) := h
 clear h
 obtain ⟨⟨t630, t631⟩, A3, H⟩ := bi_ H
 try dsimp only at H
 obtain ⟨⟨t632, t633⟩, A4, H⟩ := bi_ H
 try dsimp only at H
 simp only [Option.some.injEq, Prod.mk.injEq] at H
 obtain ⟨rfl, rfl, rfl⟩ := H
 obtain ⟨Ao5, co5, eo5⟩ := Kd.R_slice HO0_0.out
 subst eo5
 obtain ⟨Ao6, co6, eo6⟩ := Kd.R_slice HO0_1.out
 subst eo6
 go_enter Tryz.func15, Tryz.ntmps15
 go_wp2_with (first | ((with_reducible refine gate_dst (N := 2) rfl ?_); refine box_event ?hg (N := 2) ?hd (cs := #[.slice Ao5 l0_0.length co5, .slice Ao6 l0_1.length co6]) (t := 42) ?hr ?_; (case hd => rfl); (case hg => rfl); (case hr => first | (go_simp; done) | (go_simp; rfl)); intro gb629 hg w7 hbox hb; replace HO0_0 := rb_ HO0_0 hb; replace HO0_1 := rb_ HO0_1 hb; have BK629 := Aside0.mk (hbox); have GW629 := Aside0.mk ((by rw [hg]; exact (by first | exact HK.out.1 | exact (show Kept w _ (fun k_ => P0_0_ k_ ∨ P0_1_ k_) from by repeat (first | (with_reducible first | exact HK.out | apply Kept.alloc | apply Kept.drewN | apply Kept.drew) | exact HK.out)).1) : w.heap.size ≤ gb629)); replace HK := Aside0.mk (Kept.below (S := (fun k_ => P0_0_ k_ ∨ P0_1_ k_)) (by repeat (first | (with_reducible first | exact HK.out | apply Kept.alloc | apply Kept.drewN | apply Kept.drew) | exact HK.out)) hb); have GE629 := Aside0.mk ((by rw [hg]; exact (bz_ HB.out) : w0.heap.size ≤ gb629)); replace HB := hs_ HB hb; clear hb hbox hg; obtain ⟨hcz8_0, hcz8_1, hfz8_0, hfz8_1⟩ := cz2_ BK629.out) | ((with_reducible refine gate_callee (f := 41) rfl ?_); refine gm_ (some 8) Tryz.func41 #[.agg #[.slice Ao5 l0_0.length co5], .int .i64 a1] rfl ?_; (with_reducible refine (laws_markTable.calls k (fun k_ => some k_ = (.slice Ao5 l0_0.length co5 : Value).ownBlock) (.slice Ao5 l0_0.length co5) l0_0 a1 t630 t631 w0 _ ?side1 ?side2 A3.out).mono ?_); (case side1 => repeat (first | (with_reducible first | exact HB.out | apply below_alloc | apply pw_below_drewN | apply below_drew1 | refine below_set ?_ GE629.out) | exact HB.out)); (case side2 => exact Kd.R_tight rfl HO0_0.out); rintro e w9 ⟨rfl, hy0, hb, hkp⟩; refine ⟨_, rfl, ?_⟩; replace HO0_1 := Aside0.mk (Kd.R_mono (ok' := fun k_ => ((P0_0_ k_ ∨ P0_1_ k_) ∨ w.heap.size ≤ k_) ∧ some k_ ≠ (.slice Ao5 l0_0.length co5 : Value).ownBlock) (Kd.R_keptB (HO0_1.out) hkp (fun k_ hk_ hs_ => (hk_.2) hs_)) (fun k_ hk_ => ⟨hk_.1.1, hk_.1.2⟩)); replace BK629 := Aside0.mk (blk_kept (by (with_reducible repeat (first | refine blk_drewN ?_ _ | refine blk_drew ?_ | refine blk_alloc ?_ _)); exact BK629.out) hkp (fun hs_ => (fun e_ => (Kd.R_ne HO0_0.out BK629.out (by decide)) e_) hs_)); replace HK := Aside0.mk (Kept.then_ (S := (fun k_ => P0_0_ k_ ∨ P0_1_ k_)) (by repeat (first | (with_reducible first | exact HK.out | apply Kept.alloc | apply Kept.drewN | apply Kept.drew | refine Kept.setCell ?_ (.inr GW629.out) _) | exact HK.out)) hkp (fun k_ hs_ => (fun e_ => (HO0_0.out.1 k_ e_.symm).1) hs_)); replace HO0_0 := Aside0.mk (Kd.R_reok rfl hy0 (fun k_ e_ => HO0_0.out.1 k_ e_)); replace HB := Aside0.mk (hb); (try clear hb); (try clear hkp); (try clear hy0); obtain ⟨hcz10_0, hcz10_1, hfz10_0, hfz10_1⟩ := cz2_ BK629.out) | ((with_reducible refine gate_callee (f := 41) rfl ?_); refine gm_ (some 12) Tryz.func41 #[.agg #[.slice Ao6 l0_1.length co6], .int .i64 t630] rfl ?_; (with_reducible refine (laws_markTable.calls k (fun k_ => some k_ = (.slice Ao6 l0_1.length co6 : Value).ownBlock) (.slice Ao6 l0_1.length co6) l0_1 t630 t632 t633 w0 _ ?side1 ?side2 A4.out).mono ?_); (case side1 => repeat (first | (with_reducible first | exact HB.out | apply below_alloc | apply pw_below_drewN | apply below_drew1 | refine below_set ?_ GE629.out) | exact HB.out)); (case side2 => exact Kd.R_tight rfl HO0_1.out); rintro e w11 ⟨rfl, hy0, hb, hkp⟩; refine ⟨_, rfl, ?_⟩; replace HO0_0 := Aside0.mk (Kd.R_mono (ok' := fun k_ => ((P0_0_ k_ ∨ P0_1_ k_) ∨ w.heap.size ≤ k_) ∧ some k_ ≠ (.slice Ao6 l0_1.length co6 : Value).ownBlock) (Kd.R_keptB (HO0_0.out) hkp (fun k_ hk_ hs_ => (hk_.2) hs_)) (fun k_ hk_ => ⟨hk_.1.1, hk_.1.2⟩)); replace BK629 := Aside0.mk (blk_kept (by (with_reducible repeat (first | refine blk_drewN ?_ _ | refine blk_drew ?_ | refine blk_alloc ?_ _)); exact BK629.out) hkp (fun hs_ => (fun e_ => (Kd.R_ne HO0_1.out BK629.out (by decide)) e_) hs_)); replace HK := Aside0.mk (Kept.then_ (S := (fun k_ => P0_0_ k_ ∨ P0_1_ k_)) (by repeat (first | (with_reducible first | exact HK.out | apply Kept.alloc | apply Kept.drewN | apply Kept.drew | refine Kept.setCell ?_ (.inr GW629.out) _) | exact HK.out)) hkp (fun k_ hs_ => (fun e_ => (HO0_1.out.1 k_ e_.symm).1) hs_)); replace HO0_1 := Aside0.mk (Kd.R_reok rfl hy0 (fun k_ e_ => HO0_1.out.1 k_ e_)); replace HB := Aside0.mk (hb); (try clear hb); (try clear hkp); (try clear hy0)))
 go_ret
 exact ⟨fin_, by (with_reducible repeat (first | apply Kd.R_alloc | apply Kd.R_drewN | apply Kd.R_drew)); exact Kd.R_mono HO0_0.out (fun _ hk => hk.1), by (with_reducible repeat (first | apply Kd.R_alloc | apply Kd.R_drewN | apply Kd.R_drew)); exact Kd.R_mono HO0_1.out (fun _ hk => hk.1), bb_ HB.out, by repeat (first | (with_reducible first | exact HK.out | apply Kept.alloc | apply Kept.drewN | apply Kept.drew | refine Kept.setCell ?_ (.inr GW629.out) _) | exact HK.out)⟩

/-! ### laws_markVerdict: function 16 -/
def laws_markVerdict.f (k : Nat) (a0_0 : Int) (l0_1 : List Int) (l0_2 : List Int) (a1 : Int) : Option (Int × List Int × List Int) := (laws_markIntS.f k l0_1 a1).bind fun bt635 => ((laws_markIntS.f k l0_2 bt635.1).bind fun bt637 => (some (bt637.1, bt635.2, bt637.2)))
theorem laws_markVerdict.mono : ∀ a0 a1 a2 a3 k, LeO (laws_markVerdict.f k a0 a1 a2 a3) (laws_markVerdict.f (k + 1) a0 a1 a2 a3) := by
 intro a0 a1 a2 a3 k
 unfold laws_markVerdict.f
 repeat' (with_reducible first | exact laws_markIntS.mono .. | exact LeO.refl .. | exact LeO.none .. | refine LeO.ite ?_ ?_ | refine LeO.bind ?_ (fun _ => ?_))
theorem laws_markVerdict.calls (k : Nat) (a0_0 : Int) (P0_1_ : Nat → Prop) (u9000_ : Value) (l0_1 : List Int) (P0_2_ : Nat → Prop) (u9001_ : Value) (l0_2 : List Int) (a1 : Int) (r1 : Int) (r2 : List Int) (r3 : List Int) (w0 w : World) (hB : Below w0.heap.size w0 w) (ho0_1 : Kd.R (Kd.int .i64) 3 w w0.heap.size P0_1_ u9000_ l0_1) (hp0_1_0_2 : ∀ k_, P0_1_ k_ → ¬ P0_2_ k_) (ho0_2 : Kd.R (Kd.int .i64) 3 w w0.heap.size P0_2_ u9001_ l0_2) (hp0_2_0_1 : ∀ k_, P0_2_ k_ → ¬ P0_1_ k_) (h : laws_markVerdict.f k a0_0 l0_1 l0_2 a1 = some (r1, r2, r3)) :
  Calls Tryz.prog 16 #[.agg #[.int .i64 a0_0, u9000_, u9001_], .int .i64 a1] w fun e w' => e = .returned (.int .i64 r1) ∧ Kd.R (Kd.int .i64) 3 w' w0.heap.size (fun k_ => ((P0_1_ k_ ∨ P0_2_ k_) ∨ w.heap.size ≤ k_)) u9000_ r2 ∧ Kd.R (Kd.int .i64) 3 w' w0.heap.size (fun k_ => ((P0_1_ k_ ∨ P0_2_ k_) ∨ w.heap.size ≤ k_)) u9001_ r3 ∧ Below w0.heap.size w0 w' ∧ Kept w w' (fun k_ => P0_1_ k_ ∨ P0_2_ k_) := by
 have hu34 := Tryz.underlying34
 have HO0_1 := Aside0.mk (show Kd.R (Kd.int .i64) 3 w w0.heap.size (fun k_ => ((P0_1_ k_ ∨ P0_2_ k_) ∨ w.heap.size ≤ k_) ∧ some k_ ≠ (u9001_ : Value).ownBlock) u9000_ l0_1 from Kd.R_mono ho0_1 (fun k_ hk => ⟨(.inl (.inl hk)), fun e_ => hp0_1_0_2 k_ hk (ho0_2.1 k_ e_.symm)⟩))
 have HO0_2 := Aside0.mk (show Kd.R (Kd.int .i64) 3 w w0.heap.size (fun k_ => ((P0_1_ k_ ∨ P0_2_ k_) ∨ w.heap.size ≤ k_) ∧ some k_ ≠ (u9000_ : Value).ownBlock) u9001_ l0_2 from Kd.R_mono ho0_2 (fun k_ hk => ⟨(.inl (.inr hk)), fun e_ => hp0_2_0_1 k_ hk (ho0_1.1 k_ e_.symm)⟩))
 have HK := Aside0.mk (Kept.refl w (fun k_ => P0_1_ k_ ∨ P0_2_ k_))
 have HW0 := Aside0.mk hB.size
 have HB := Aside0.mk hB
 clear hB
 have H : ((laws_markIntS.f k l0_1 a1).bind fun bt635 => ((laws_markIntS.f k l0_2 bt635.1).bind fun bt637 => (some (bt637.1, bt635.2, bt637.2)))) = some (r1, r2, r3) := h
 clear h
 obtain ⟨⟨t635, t636⟩, A3, H⟩ := bi_ H
 try dsimp only at H
 obtain ⟨⟨t637, t638⟩, A4, H⟩ := bi_ H
 try dsimp only at H
 simp only [Option.some.injEq, Prod.mk.injEq] at H
 obtain ⟨rfl, rfl, rfl⟩ := H
 obtain ⟨Ao5, co5, eo5⟩ := Kd.R_slice HO0_1.out
 subst eo5
 obtain ⟨Ao6, co6, eo6⟩ := Kd.R_slice HO0_2.out
 subst eo6
 go_enter Tryz.func16, Tryz.ntmps16
 go_wp2_with (first | ((with_reducible refine gate_dst (N := 2) rfl ?_); refine box_event ?hg (N := 2) ?hd (cs := #[.int .i64 a0_0, .slice Ao5 l0_1.length co5, .slice Ao6 l0_2.length co6]) (t := 34) ?hr ?_; (case hd => rfl); (case hg => rfl); (case hr => first | (go_simp; done) | (go_simp; rfl)); intro gb634 hg w7 hbox hb; replace HO0_1 := rb_ HO0_1 hb; replace HO0_2 := rb_ HO0_2 hb; have BK634 := Aside0.mk (hbox); have GW634 := Aside0.mk ((by rw [hg]; exact (by first | exact HK.out.1 | exact (show Kept w _ (fun k_ => P0_1_ k_ ∨ P0_2_ k_) from by repeat (first | (with_reducible first | exact HK.out | apply Kept.alloc | apply Kept.drewN | apply Kept.drew) | exact HK.out)).1) : w.heap.size ≤ gb634)); replace HK := Aside0.mk (Kept.below (S := (fun k_ => P0_1_ k_ ∨ P0_2_ k_)) (by repeat (first | (with_reducible first | exact HK.out | apply Kept.alloc | apply Kept.drewN | apply Kept.drew) | exact HK.out)) hb); have GE634 := Aside0.mk ((by rw [hg]; exact (bz_ HB.out) : w0.heap.size ≤ gb634)); replace HB := hs_ HB hb; clear hb hbox hg; obtain ⟨hcz8_0, hcz8_1, hcz8_2, hfz8_0, hfz8_1, hfz8_2⟩ := cz3_ BK634.out) | ((with_reducible refine gate_callee (f := 40) rfl ?_); refine gm_ (some 8) Tryz.func40 #[.slice Ao5 l0_1.length co5, .int .i64 a1] rfl ?_; (with_reducible refine (laws_markIntS.calls k (fun k_ => some k_ = (.slice Ao5 l0_1.length co5 : Value).ownBlock) (.slice Ao5 l0_1.length co5) l0_1 a1 t635 t636 w0 _ ?side1 ?side2 A3.out).mono ?_); (case side1 => repeat (first | (with_reducible first | exact HB.out | apply below_alloc | apply pw_below_drewN | apply below_drew1 | refine below_set ?_ GE634.out) | exact HB.out)); (case side2 => exact Kd.R_tight rfl HO0_1.out); rintro e w9 ⟨rfl, hy0, hb, hkp⟩; refine ⟨_, rfl, ?_⟩; replace HO0_2 := Aside0.mk (Kd.R_mono (ok' := fun k_ => ((P0_1_ k_ ∨ P0_2_ k_) ∨ w.heap.size ≤ k_) ∧ some k_ ≠ (.slice Ao5 l0_1.length co5 : Value).ownBlock) (Kd.R_keptB (HO0_2.out) hkp (fun k_ hk_ hs_ => (hk_.2) hs_)) (fun k_ hk_ => ⟨hk_.1.1, hk_.1.2⟩)); replace BK634 := Aside0.mk (blk_kept (by (with_reducible repeat (first | refine blk_drewN ?_ _ | refine blk_drew ?_ | refine blk_alloc ?_ _)); exact BK634.out) hkp (fun hs_ => (fun e_ => (Kd.R_ne HO0_1.out BK634.out (by decide)) e_) hs_)); replace HK := Aside0.mk (Kept.then_ (S := (fun k_ => P0_1_ k_ ∨ P0_2_ k_)) (by repeat (first | (with_reducible first | exact HK.out | apply Kept.alloc | apply Kept.drewN | apply Kept.drew | refine Kept.setCell ?_ (.inr GW634.out) _) | exact HK.out)) hkp (fun k_ hs_ => (fun e_ => (HO0_1.out.1 k_ e_.symm).1) hs_)); replace HO0_1 := Aside0.mk (Kd.R_reok rfl hy0 (fun k_ e_ => HO0_1.out.1 k_ e_)); replace HB := Aside0.mk (hb); (try clear hb); (try clear hkp); (try clear hy0); obtain ⟨hcz10_0, hcz10_1, hcz10_2, hfz10_0, hfz10_1, hfz10_2⟩ := cz3_ BK634.out) | ((with_reducible refine gate_callee (f := 40) rfl ?_); refine gm_ (some 12) Tryz.func40 #[.slice Ao6 l0_2.length co6, .int .i64 t635] rfl ?_; (with_reducible refine (laws_markIntS.calls k (fun k_ => some k_ = (.slice Ao6 l0_2.length co6 : Value).ownBlock) (.slice Ao6 l0_2.length co6) l0_2 t635 t637 t638 w0 _ ?side1 ?side2 A4.out).mono ?_); (case side1 => repeat (first | (with_reducible first | exact HB.out | apply below_alloc | apply pw_below_drewN | apply below_drew1 | refine below_set ?_ GE634.out) | exact HB.out)); (case side2 => exact Kd.R_tight rfl HO0_2.out); rintro e w11 ⟨rfl, hy0, hb, hkp⟩; refine ⟨_, rfl, ?_⟩; replace HO0_1 := Aside0.mk (Kd.R_mono (ok' := fun k_ => ((P0_1_ k_ ∨ P0_2_ k_) ∨ w.heap.size ≤ k_) ∧ some k_ ≠ (.slice Ao6 l0_2.length co6 : Value).ownBlock) (Kd.R_keptB (HO0_1.out) hkp (fun k_ hk_ hs_ => (hk_.2) hs_)) (fun k_ hk_ => ⟨hk_.1.1, hk_.1.2⟩)); replace BK634 := Aside0.mk (blk_kept (by (with_reducible repeat (first | refine blk_drewN ?_ _ | refine blk_drew ?_ | refine blk_alloc ?_ _)); exact BK634.out) hkp (fun hs_ => (fun e_ => (Kd.R_ne HO0_2.out BK634.out (by decide)) e_) hs_)); replace HK := Aside0.mk (Kept.then_ (S := (fun k_ => P0_1_ k_ ∨ P0_2_ k_)) (by repeat (first | (with_reducible first | exact HK.out | apply Kept.alloc | apply Kept.drewN | apply Kept.drew | refine Kept.setCell ?_ (.inr GW634.out) _) | exact HK.out)) hkp (fun k_ hs_ => (fun e_ => (HO0_2.out.1 k_ e_.symm).1) hs_)); replace HO0_2 := Aside0.mk (Kd.R_reok rfl hy0 (fun k_ e_ => HO0_2.out.1 k_ e_)); replace HB := Aside0.mk (hb); (try clear hb); (try clear hkp); (try clear hy0)))
 go_ret
 exact ⟨fin_, by (with_reducible repeat (first | apply Kd.R_alloc | apply Kd.R_drewN | apply Kd.R_drew)); exact Kd.R_mono HO0_1.out (fun _ hk => hk.1), by (with_reducible repeat (first | apply Kd.R_alloc | apply Kd.R_drewN | apply Kd.R_drew)); exact Kd.R_mono HO0_2.out (fun _ hk => hk.1), bb_ HB.out, by repeat (first | (with_reducible first | exact HK.out | apply Kept.alloc | apply Kept.drewN | apply Kept.drew | refine Kept.setCell ?_ (.inr GW634.out) _) | exact HK.out)⟩

/-! ### laws_heldIntS: function 42 -/
def laws_heldIntS.l0 : Nat → List Int → Int → Int → Option (Int)
 | 0, _, _, _ => none
 | k + 1, x0, x1, x5 => if x5 < (x0.length : Int) then (if 0 ≤ x5 then (if (rd x0 x5) = x1 then (laws_heldIntS.l0 k x0 (wrap64 (x1 + 1)) (wrap64 (x5 + 1))) else (none)) else (none)) else (some x1)
def laws_heldIntS.f (k : Nat) (l0 : List Int) (a1 : Int) : Option (Int) := laws_heldIntS.l0 k l0 a1 0
theorem laws_heldIntS.mono_l : ∀ k, (∀ y0 y1 y2, LeO (laws_heldIntS.l0 k y0 y1 y2) (laws_heldIntS.l0 (k + 1) y0 y1 y2))
 | 0 => fun _ _ _ r h => by simp [laws_heldIntS.l0] at h
 | k + 1 => by
  have ih0 := laws_heldIntS.mono_l k
  ·intro y0 y1 y2
   unfold laws_heldIntS.l0
   repeat' (with_reducible first | exact ih0 .. | exact LeO.refl .. | exact LeO.none .. | refine LeO.ite ?_ ?_ | refine LeO.bind ?_ (fun _ => ?_))
theorem laws_heldIntS.mono : ∀ a0 a1 k, LeO (laws_heldIntS.f k a0 a1) (laws_heldIntS.f (k + 1) a0 a1) := by
 intro a0 a1 k
 have ih0 := laws_heldIntS.mono_l k
 unfold laws_heldIntS.f
 repeat' (with_reducible first | exact ih0 .. | exact LeO.refl .. | exact LeO.none .. | refine LeO.ite ?_ ?_ | refine LeO.bind ?_ (fun _ => ?_))
theorem laws_heldIntS.calls (k : Nat) (A0 : Option Addr) (c0 : Nat) (l0 : List Int) (a1 : Int) (r : Int) (w : World) (hr0 : Kd.C (Kd.int .i64) w A0 l0.length l0) (hc0 : l0.length ≤ c0) (h : laws_heldIntS.f k l0 a1 = some r) :
  Calls Tryz.prog 42 #[.slice A0 l0.length c0, .int .i64 a1] w fun e w' => e = .returned (.int .i64 r) ∧ Drawn0 w w' := by
 have HR0 := Aside0.mk hr0
 have HC0 := Aside0.mk hc0
 clear hr0 hc0
 have H : (laws_heldIntS.l0 k l0 a1 0) = some r := h
 clear h
 have H' := Aside0.mk H
 clear H
 go_enter Tryz.func42, Tryz.ntmps42
 go_wp2
 go_loopg [1, 5] k (fun kq v1 v5 w' => ∃ (x1_1 : Int) (x5_1 : Int), v1 = .int .i64 x1_1 ∧ v5 = .int .i64 x5_1 ∧ Aside0 (laws_heldIntS.l0 kq l0 x1_1 x5_1 = some r) ∧ Aside0 (kq ≤ k) ∧ Drawn0 w w')
 case atStart => exact ⟨(a1), (0), ef_, ef_, H', ⟨Nat.le_refl _⟩, by repeat (first | exact Drawn0.refl _ | apply Drawn0.step)⟩
 clear H'
 obtain ⟨x1_1, x5_1, rfl, rfl, HA, HK1, ⟨m1, rfl⟩⟩ := hrel
 obtain _ | k1 := gk
 ·exact absurd HA.out (by simp [laws_heldIntS.l0])
 have H := HA.out
 clear HA
 simp only [laws_heldIntS.l0] at H
 by_cases c3 : x5_1 < (l0.length : Int)
 rotate_left
 ·rw [if_neg c3] at H
  have c3b0 : decide (x5_1 < (l0.length : Int)) = false := decide_eq_false c3
  clear c3
  obtain rfl := Option.some.inj H
  go_wp2
  go_ret
  exact ⟨by first | rfl | (simp; done) | (simp [*]; done), by repeat (first | exact Drawn0.refl _ | apply Drawn0.step)⟩
 rw [if_pos c3] at H
 have c3b0 : decide (x5_1 < (l0.length : Int)) = true := decide_eq_true c3
 clear c3
 by_cases c4 : 0 ≤ x5_1
 rotate_left
 ·rw [if_neg c4] at H
  exact absurd H (by simp)
 rw [if_pos c4] at H
 have c4b0 : decide (0 ≤ x5_1) = true := decide_eq_true c4
 clear c4
 by_cases c5 : (rd l0 x5_1) = x1_1
 rotate_left
 ·rw [if_neg c5] at H
  exact absurd H (by simp)
 rw [if_pos c5] at H
 have c5b0 : ((rd l0 x5_1) == x1_1) = true := beq_iff_eq.mpr c5
 have c5b1 : ((rd l0 x5_1) != x1_1) = false := bne_eq_false_iff_eq.mpr c5
 clear c5
 have H' := Aside0.mk H
 clear H
 have p639 : 0 ≤ (x5_1 : Int) := of_decide_eq_true dg_
 have q639 : x5_1 < (l0.length : Int) := of_decide_eq_true dg_
 obtain ⟨ad639, e639, hx639_0⟩ := Kd.at_int HR0.out x5_1 p639 q639
 cases e639
 replace p639 := eq_true p639
 replace q639 := eq_true q639
 go_wp2
 go_roundg k1
 case measure => have := HK1.out; omega
 case rel => exact ⟨(wrap64 (x1_1 + 1)), (wrap64 (x5_1 + 1)), ef_, ef_, H', ⟨by have := HK1.out; omega⟩, by repeat (first | exact Drawn0.refl _ | apply Drawn0.step)⟩

/-! ### laws_heldVerdict: function 17 -/
def laws_heldVerdict.f (k : Nat) (a0_0 : Int) (l0_1 : List Int) (l0_2 : List Int) (a1 : Int) : Option (Int) := (laws_heldIntS.f k l0_1 a1).bind fun t641 => (if t641 < 0 then (none) else ((laws_heldIntS.f k l0_2 t641).bind fun t642 => (if t642 < 0 then (none) else (some t642))))
theorem laws_heldVerdict.mono : ∀ a0 a1 a2 a3 k, LeO (laws_heldVerdict.f k a0 a1 a2 a3) (laws_heldVerdict.f (k + 1) a0 a1 a2 a3) := by
 intro a0 a1 a2 a3 k
 unfold laws_heldVerdict.f
 repeat' (with_reducible first | exact laws_heldIntS.mono .. | exact LeO.refl .. | exact LeO.none .. | refine LeO.ite ?_ ?_ | refine LeO.bind ?_ (fun _ => ?_))
theorem laws_heldVerdict.calls (k : Nat) (a0_0 : Int) (A0_1 : Option Addr) (c0_1 : Nat) (l0_1 : List Int) (A0_2 : Option Addr) (c0_2 : Nat) (l0_2 : List Int) (a1 : Int) (r : Int) (w : World) (hr0_1 : Kd.C (Kd.int .i64) w A0_1 l0_1.length l0_1) (hc0_1 : l0_1.length ≤ c0_1) (hr0_2 : Kd.C (Kd.int .i64) w A0_2 l0_2.length l0_2) (hc0_2 : l0_2.length ≤ c0_2) (h : laws_heldVerdict.f k a0_0 l0_1 l0_2 a1 = some r) :
  Calls Tryz.prog 17 #[.agg #[.int .i64 a0_0, .slice A0_1 l0_1.length c0_1, .slice A0_2 l0_2.length c0_2], .int .i64 a1] w fun e w' => e = .returned (.int .i64 r) ∧ Below w.heap.size w w' := by
 have hu34 := Tryz.underlying34
 have HR0_1 := Aside0.mk hr0_1
 have HC0_1 := Aside0.mk hc0_1
 clear hr0_1 hc0_1
 have HR0_2 := Aside0.mk hr0_2
 have HC0_2 := Aside0.mk hc0_2
 clear hr0_2 hc0_2
 have HB := Aside0.mk (Below.refl w.heap.size w)
 have H : ((laws_heldIntS.f k l0_1 a1).bind fun t641 => (if t641 < 0 then (none) else ((laws_heldIntS.f k l0_2 t641).bind fun t642 => (if t642 < 0 then (none) else (some t642))))) = some r := h
 clear h
 obtain ⟨t641, A3, H⟩ := bi_ H
 by_cases c4 : t641 < 0
 ·rw [if_pos c4] at H
  exact absurd H (by simp)
 ·rw [if_neg c4] at H
  have c4b0 : decide (t641 < 0) = false := decide_eq_false c4
  clear c4
  obtain ⟨t642, A5, H⟩ := bi_ H
  by_cases c6 : t642 < 0
  ·rw [if_pos c6] at H
   exact absurd H (by simp)
  ·rw [if_neg c6] at H
   have c6b0 : decide (t642 < 0) = false := decide_eq_false c6
   clear c6
   obtain rfl := Option.some.inj H
   go_enter Tryz.func17, Tryz.ntmps17
   go_wp2_with (first | ((with_reducible refine gate_dst (N := 2) rfl ?_); refine box_event ?hg (N := 2) ?hd (cs := #[.int .i64 a0_0, .slice A0_1 l0_1.length c0_1, .slice A0_2 l0_2.length c0_2]) (t := 34) ?hr ?_; (case hd => rfl); (case hg => rfl); (case hr => first | (go_simp; done) | (go_simp; rfl)); intro gb640 hg w7 hbox hb; have BK640 := Aside0.mk (hbox); have GW640 := gw_ hg HB; replace HB := hs_ HB hb; clear hb hbox hg; obtain ⟨hcz8_0, hcz8_1, hcz8_2, hfz8_0, hfz8_1, hfz8_2⟩ := cz3_ BK640.out) | ((with_reducible refine gate_callee (f := 42) rfl ?_); refine gm_ (some 8) Tryz.func42 #[.slice A0_1 l0_1.length c0_1, .int .i64 a1] rfl ?_; (with_reducible refine (laws_heldIntS.calls k _ _ l0_1 a1 t641 _ ?side1 HC0_1.out A3.out).mono ?_); (case side1 => exact cb_ HR0_1.out HB.out); rintro e w' ⟨rfl, ⟨nd, rfl⟩⟩; refine ⟨_, rfl, ?_⟩) | ((with_reducible refine gate_callee (f := 42) rfl ?_); refine gm_ (some 14) Tryz.func42 #[.slice A0_2 l0_2.length c0_2, .int .i64 t641] rfl ?_; (with_reducible refine (laws_heldIntS.calls k _ _ l0_2 t641 t642 _ ?side1 HC0_2.out A5.out).mono ?_); (case side1 => exact cb_ HR0_2.out HB.out); rintro e w' ⟨rfl, ⟨nd, rfl⟩⟩; refine ⟨_, rfl, ?_⟩))
   go_ret
   exact ⟨fin_, bb_ HB.out⟩

/-! ### laws_FnExactCheckClasses: function 3 -/
def laws_FnExactCheckClasses.f (k : Nat) (a0_0 a0_1 : Int) (l0_2 : List Int) (l1_0 : List Int) (l1_1 : List Int) : Option Bool := (laws_szMesh.f a0_0 a0_1 l0_2 1048576).bind fun s => if s < 0 then some true else (laws_szClasses.f l1_0 l1_1 s).bind fun s2 => if s2 < 0 then some true else (laws_toMesh.f k a0_0 a0_1 l0_2).bind fun m => (laws_toClasses.f k l1_0 l1_1).bind fun t => (spec_CheckClasses.f k m.1 m.2.1 m.2.2 t.1 t.2).bind fun v => (impl_CheckClasses.f k m.1 m.2.1 m.2.2 t.1 t.2).bind fun g => (laws_eqVerdict.f k g.1 g.2.1 g.2.2 v.1 v.2.1 v.2.2).bind fun e1 => if e1 = true then ((laws_eqMesh.f k m.1 m.2.1 m.2.2 m.1 m.2.1 m.2.2).bind fun e2 => if e2 = true then ((laws_eqClasses.f k t.1 t.2 t.1 t.2).bind fun e3 => if e3 = true then ((laws_markMesh.f k m.1 m.2.1 m.2.2 1).bind fun b => (laws_markClasses.f k t.1 t.2 b.1).bind fun c => if c.1 < 0 then none else (laws_markVerdict.f k g.1 g.2.1 g.2.2 1).bind fun q => (laws_heldVerdict.f k g.1 q.2.1 q.2.2 1).bind fun z => if z < 0 then none else if z = q.1 then some true else none) else none) else none) else none
theorem heldV_ (k : Nat) (a0 : Int) (A : Option Addr) (c n : Nat) (l : List Int) (A' : Option Addr) (c' n' : Nat) (l' : List Int) (a r : Int) {base : Nat} {ok ok' : Nat → Prop} (w : World) (hr : Kd.R (Kd.int .i64) 3 w base ok (.slice A n c) l) (hr' : Kd.R (Kd.int .i64) 3 w base ok' (.slice A' n' c') l') (h : laws_heldVerdict.f k a0 l l' a = some r) : Calls Tryz.prog 17 #[.agg #[.int .i64 a0, .slice A n c, .slice A' n' c'], .int .i64 a] w fun e w' => e = .returned (.int .i64 r) ∧ Below w.heap.size w w' := by
 obtain ⟨rfl, hc, hd⟩ := Kd.R_reads' hr
 obtain ⟨rfl, hc', hd'⟩ := Kd.R_reads' hr'
 exact laws_heldVerdict.calls k a0 _ _ l _ _ l' a r w hd hc hd' hc' h
theorem blk_ne_ {w : World} {a b : Nat} {c1 c2 : Array Value} {t1 t2 : TypeId} {f1 f2 : Nat × Nat} (h1 : w.heap[a]? = some (.cells c1 t1 f1)) (h2 : w.heap[b]? = some (.cells c2 t2 f2)) (ht : t1 ≠ t2) : a ≠ b := by
 rintro rfl
 rw [h1] at h2
 injection h2 with h2
 injection h2 with _ h2 _
 exact ht h2
theorem kf_ {w : World} {g gA i j : Nat} {u v : Value} (h : w.cell? ⟨g, i, none⟩ = some v) (hn : gA ≠ g) : (w.setCell ⟨gA, j, none⟩ u).cell? ⟨g, i, none⟩ = some v := (World.cell?_setCell_far _ _ _ _ hn).trans h
theorem kt_ {w : World} {g gA i : Nat} {u0 u1 u2 v : Value} (h : w.cell? ⟨g, i, none⟩ = some v) (hn : gA ≠ g) : (((w.setCell ⟨gA, 0, none⟩ u0).setCell ⟨gA, 1, none⟩ u1).setCell ⟨gA, 2, none⟩ u2).cell? ⟨g, i, none⟩ = some v := kf_ (kf_ (kf_ h hn) hn) hn
theorem ka_ {w : World} {a : Addr} {v : Value} {o : Obj} (h : w.cell? a = some v) : (w.alloc o).cell? a = some v := (World.cell?_alloc_lt _ _ _ (World.block_lt_of_cell? w a h)).trans h
theorem mkBA_ {w V0 X w1 : World} {o : Obj} (h : Below w.heap.size w V0) (hb : Below (X.alloc o).heap.size (X.alloc o) w1) (hx : V0.heap.size ≤ X.heap.size) : Aside0 (w1.heap[X.heap.size]? = some o) ∧ Aside0 (w.heap.size ≤ X.heap.size) ∧ ∀ g o', V0.heap[g]? = some o' → g ≠ X.heap.size :=
 ⟨⟨blk_below (blk_new X o) hb⟩, ⟨Nat.le_trans h.size hx⟩, fun g o' hg => Nat.ne_of_lt (Nat.lt_of_lt_of_le (blk_lt hg) hx)⟩
theorem laws_FnExactCheckClasses.e0 {P : Prop} (h : P := by
 go_enter Tryz.func3, Tryz.ntmps3
 go_wp2_with (first | ((with_reducible refine gate_dst (N := 2) rfl ?_); refine box_event ?hg (N := 2) ?hd (cs := #[.int .i64 a0_0, .int .i64 a0_1, .slice A0_2 l0_2.length c0_2]) (t := 26) ?hr ?_; (case hd => rfl); (case hg => rfl); (case hr => first | (go_simp; done) | (go_simp; rfl)); intro gM hg w_0 hbox hb; replace HB := hs_ HB hb; have BM := Aside0.mk hbox; clear hb hbox hg; obtain ⟨cM_0, cM_1, cM_2, fM_0, fM_1, fM_2⟩ := cz3_ BM.out) | ((with_reducible refine gate_dst (N := 3) rfl ?_); refine box_event ?hg (N := 3) ?hd (cs := #[.slice A1_0 l1_0.length c1_0, .slice A1_1 l1_1.length c1_1]) (t := 30) ?hr ?_; (case hd => rfl); (case hg => rfl); (case hr => first | (go_simp; done) | (go_simp; rfl)); intro gT hg w_0 hbox hb; (try clear cM_0 cM_1 cM_2 fM_0 fM_1 fM_2); replace BM := kb_ BM hb; replace HB := hs_ HB hb; have BT := Aside0.mk hbox; clear hb hbox hg; obtain ⟨cM_0, cM_1, cM_2, fM_0, fM_1, fM_2⟩ := cz3_ BM.out; obtain ⟨cT_0, cT_1, fT_0, fT_1⟩ := cz2_ BT.out) | (go_at_call 5; (with_reducible refine (laws_szMesh.calls a0_0 a0_1 _ _ l0_2 1048576 s _ ?s1 HC0_2.out E1.out).mono ?_); (case s1 => exact cb_ HR0_2.out HB.out); rintro e w_0 ⟨rfl, hb⟩; (try clear cM_0 cM_1 cM_2 fM_0 fM_1 fM_2); (try clear cT_0 cT_1 fT_0 fT_1); replace BM := kb_ BM hb; replace BT := kb_ BT hb; replace HB := hs_ HB hb; clear hb E1; obtain ⟨cM_0, cM_1, cM_2, fM_0, fM_1, fM_2⟩ := cz3_ BM.out; obtain ⟨cT_0, cT_1, fT_0, fT_1⟩ := cz2_ BT.out) | (go_at_call 6; (with_reducible refine (laws_szClasses.calls _ _ l1_0 _ _ l1_1 s s2 _ ?s0 HC1_0.out ?s1 HC1_1.out E2.out).mono ?_); (case s0 => exact cb_ HR1_0.out HB.out); (case s1 => exact cb_ HR1_1.out HB.out); rintro e w_0 ⟨rfl, hb⟩; (try clear cM_0 cM_1 cM_2 fM_0 fM_1 fM_2); (try clear cT_0 cT_1 fT_0 fT_1); replace BM := kb_ BM hb; replace BT := kb_ BT hb; replace HB := hs_ HB hb; clear hb E2; obtain ⟨cM_0, cM_1, cM_2, fM_0, fM_1, fM_2⟩ := cz3_ BM.out; obtain ⟨cT_0, cT_1, fT_0, fT_1⟩ := cz2_ BT.out))
 go_ret
 exact ⟨rfl, bb_ HB.out⟩) : P := h
theorem laws_FnExactCheckClasses.calls (k : Nat) (a0_0 : Int) (a0_1 : Int) (A0_2 : Option Addr) (c0_2 : Nat) (l0_2 : List Int) (A1_0 : Option Addr) (c1_0 : Nat) (l1_0 : List Int) (A1_1 : Option Addr) (c1_1 : Nat) (l1_1 : List Int) (r : Bool) (w : World) (hr0_2 : Kd.C (Kd.int .i64) w A0_2 l0_2.length l0_2) (hc0_2 : l0_2.length ≤ c0_2) (hr1_0 : Kd.C (Kd.int .i64) w A1_0 l1_0.length l1_0) (hc1_0 : l1_0.length ≤ c1_0) (hr1_1 : Kd.C (Kd.int .i64) w A1_1 l1_1.length l1_1) (hc1_1 : l1_1.length ≤ c1_1) (h : laws_FnExactCheckClasses.f k a0_0 a0_1 l0_2 l1_0 l1_1 = some r) :
  Calls Tryz.prog 3 #[.agg #[.int .i64 a0_0, .int .i64 a0_1, .slice A0_2 l0_2.length c0_2], .agg #[.slice A1_0 l1_0.length c1_0, .slice A1_1 l1_1.length c1_1]] w fun e w' => e = .returned (.bool r) ∧ Below w.heap.size w w' := by
 have HR0_2 := Aside0.mk hr0_2
 have HC0_2 := Aside0.mk hc0_2
 have HR1_0 := Aside0.mk hr1_0
 have HC1_0 := Aside0.mk hc1_0
 have HR1_1 := Aside0.mk hr1_1
 have HC1_1 := Aside0.mk hc1_1
 clear hr0_2 hc0_2 hr1_0 hc1_0 hr1_1 hc1_1
 have HB := Aside0.mk (Below.refl w.heap.size w)
 have hu0_ := Tryz.underlying42
 have hu1_ := Tryz.underlying38
 have hu2_ := Tryz.underlying34
 have hu3_ := Tryz.underlying30
 have hu4_ := Tryz.underlying26
 unfold laws_FnExactCheckClasses.f at h
 obtain ⟨s, e1, h⟩ := Option.bind_eq_some_iff.1 h
 have E1 := Aside0.mk e1
 clear e1
 by_cases cs : s < 0
 ·rw [if_pos cs] at h
  obtain rfl := Option.some.inj h
  have cd : decide (s < 0) = true := decide_eq_true cs
  clear cs h
  exact laws_FnExactCheckClasses.e0
 rw [if_neg cs] at h
 have cd : decide (s < 0) = false := decide_eq_false cs
 clear cs
 obtain ⟨s2, e2, h⟩ := Option.bind_eq_some_iff.1 h
 have E2 := Aside0.mk e2
 clear e2
 by_cases cs : s2 < 0
 ·rw [if_pos cs] at h
  obtain rfl := Option.some.inj h
  have cd2 : decide (s2 < 0) = true := decide_eq_true cs
  clear cs h
  exact laws_FnExactCheckClasses.e0
 rw [if_neg cs] at h
 have cd2 : decide (s2 < 0) = false := decide_eq_false cs
 clear cs
 obtain ⟨⟨m0, m1, m2⟩, e3, h⟩ := Option.bind_eq_some_iff.1 h
 obtain ⟨⟨t0, t1⟩, e4, h⟩ := Option.bind_eq_some_iff.1 h
 obtain ⟨⟨v0, v1, v2⟩, e5, h⟩ := Option.bind_eq_some_iff.1 h
 obtain ⟨⟨g0, g1, g2⟩, e6, h⟩ := Option.bind_eq_some_iff.1 h
 obtain ⟨b7, e7, h⟩ := Option.bind_eq_some_iff.1 h
 dsimp only at e5 e6 e7 h
 cases b7 with
 | false => rw [if_neg (by decide)] at h; cases h
 | true =>
 rw [if_pos rfl] at h
 obtain ⟨b8, e8, h⟩ := Option.bind_eq_some_iff.1 h
 cases b8 with
 | false => rw [if_neg (by decide)] at h; cases h
 | true =>
 rw [if_pos rfl] at h
 obtain ⟨b9, e9, h⟩ := Option.bind_eq_some_iff.1 h
 cases b9 with
 | false => rw [if_neg (by decide)] at h; cases h
 | true =>
 rw [if_pos rfl] at h
 obtain ⟨⟨n1, y0⟩, ea, h⟩ := Option.bind_eq_some_iff.1 h
 obtain ⟨⟨n2, y1, y2⟩, eb, h⟩ := Option.bind_eq_some_iff.1 h
 dsimp only at eb h
 by_cases cn : n2 < 0
 ·rw [if_pos cn] at h; cases h
 rw [if_neg cn] at h
 obtain ⟨⟨q, h1, h2⟩, ec, h⟩ := Option.bind_eq_some_iff.1 h
 obtain ⟨z, ed, h⟩ := Option.bind_eq_some_iff.1 h
 dsimp only at ed h
 by_cases cz : z < 0
 ·rw [if_pos cz] at h; cases h
 rw [if_neg cz] at h
 by_cases cq : z = q
 rotate_left
 ·rw [if_neg cq] at h; cases h
 rw [if_pos cq] at h
 obtain rfl := Option.some.inj h
 subst cq
 have cnd : decide (n2 < 0) = false := decide_eq_false cn
 have czd : decide (z < 0) = false := decide_eq_false cz
 have czn : (z != z) = false := by simp
 have X3a := Aside0.mk e3
 have X3b := Aside0.mk e3
 have X3c := Aside0.mk e3
 have X3d := Aside0.mk e3
 have X4a := Aside0.mk e4
 have X4b := Aside0.mk e4
 have X4c := Aside0.mk e4
 have X4d := Aside0.mk e4
 have X5a := Aside0.mk e5
 have X6a := Aside0.mk e6
 have X6b := Aside0.mk e6
 have X7a := Aside0.mk e7
 have X7b := Aside0.mk e7
 have X7c := Aside0.mk e7
 have X8a := Aside0.mk e8
 have X9a := Aside0.mk e9
 have Xaa := Aside0.mk ea
 have Xba := Aside0.mk eb
 have Xca := Aside0.mk ec
 have Xda := Aside0.mk ed
 have Xdb := Aside0.mk ed
 clear e3 e4 e5 e6 e7 e8 e9 ea eb ec ed h cn cz
 go_enter Tryz.func3, Tryz.ntmps3
 go_wp2_with (first | ((with_reducible refine gate_dst (N := 2) rfl ?_); refine box_event ?hg (N := 2) ?hd (cs := #[.int .i64 a0_0, .int .i64 a0_1, .slice A0_2 l0_2.length c0_2]) (t := 26) ?hr ?_; (case hd => rfl); (case hg => rfl); (case hr => first | (go_simp; done) | (go_simp; rfl)); intro gM hg w1 hbox hb; replace HB := hs_ HB hb; have BM := Aside0.mk hbox; clear hb hbox hg; obtain ⟨cM_0, cM_1, cM_2, fM_0, fM_1, fM_2⟩ := cz3_ BM.out) | ((with_reducible refine gate_dst (N := 3) rfl ?_); refine box_event ?hg (N := 3) ?hd (cs := #[.slice A1_0 l1_0.length c1_0, .slice A1_1 l1_1.length c1_1]) (t := 30) ?hr ?_; (case hd => rfl); (case hg => rfl); (case hr => first | (go_simp; done) | (go_simp; rfl)); intro gT hg w1 hbox hb; (try clear cM_0 cM_1 cM_2 fM_0 fM_1 fM_2); replace BM := kb_ BM hb; replace HB := hs_ HB hb; have BT := Aside0.mk hbox; clear hb hbox hg; obtain ⟨cM_0, cM_1, cM_2, fM_0, fM_1, fM_2⟩ := cz3_ BM.out; obtain ⟨cT_0, cT_1, fT_0, fT_1⟩ := cz2_ BT.out) | (go_at_call 5; (with_reducible refine (laws_szMesh.calls a0_0 a0_1 _ _ l0_2 1048576 s _ ?s1 HC0_2.out E1.out).mono ?_); (case s1 => exact cb_ HR0_2.out HB.out); rintro e w2 ⟨rfl, hb⟩; (try clear cM_0 cM_1 cM_2 fM_0 fM_1 fM_2); (try clear cT_0 cT_1 fT_0 fT_1); replace BM := kb_ BM hb; replace BT := kb_ BT hb; replace HB := hs_ HB hb; clear hb E1; obtain ⟨cM_0, cM_1, cM_2, fM_0, fM_1, fM_2⟩ := cz3_ BM.out; obtain ⟨cT_0, cT_1, fT_0, fT_1⟩ := cz2_ BT.out) | (go_at_call 6; (with_reducible refine (laws_szClasses.calls _ _ l1_0 _ _ l1_1 s s2 _ ?s0 HC1_0.out ?s1 HC1_1.out E2.out).mono ?_); (case s0 => exact cb_ HR1_0.out HB.out); (case s1 => exact cb_ HR1_1.out HB.out); rintro e w2 ⟨rfl, hb⟩; (try clear cM_0 cM_1 cM_2 fM_0 fM_1 fM_2); (try clear cT_0 cT_1 fT_0 fT_1); replace BM := kb_ BM hb; replace BT := kb_ BT hb; replace HB := hs_ HB hb; clear hb E2; obtain ⟨cM_0, cM_1, cM_2, fM_0, fM_1, fM_2⟩ := cz3_ BM.out; obtain ⟨cT_0, cT_1, fT_0, fT_1⟩ := cz2_ BT.out))
 go_cut [6] (fun v6 wc => ∃ (gN : Nat) (vA1 vA2 : Option Addr) (vc1 vc2 : Nat), v6 = .pointer (some ⟨gN, 0, none⟩) ∧ Aside0 (wc.heap[gN]? = some (.cells #[.int .i64 v0, .slice vA1 v1.length vc1, .slice vA2 v2.length vc2] 34 (0, 0))) ∧ Aside0 (Kd.R (Kd.int .i64) 3 wc w.heap.size (fun _ => True) (.slice vA1 v1.length vc1) v1) ∧ Aside0 (Kd.R (Kd.int .i64) 3 wc w.heap.size (fun _ => True) (.slice vA2 v2.length vc2) v2) ∧ Aside0 (wc.heap[gM]? = some (.cells #[.int .i64 a0_0, .int .i64 a0_1, .slice A0_2 l0_2.length c0_2] 26 (0, 0))) ∧ Aside0 (wc.heap[gT]? = some (.cells #[.slice A1_0 l1_0.length c1_0, .slice A1_1 l1_1.length c1_1] 30 (0, 0))) ∧ Aside0 (Below w.heap.size w wc))
 case first =>
  go_region_held3 (fun w' => w'.cell? ⟨gM, 0, none⟩ = some (.int .i64 a0_0) ∧ w'.cell? ⟨gM, 1, none⟩ = some (.int .i64 a0_1) ∧ w'.cell? ⟨gM, 2, none⟩ = some (.slice A0_2 l0_2.length c0_2) ∧ w'.cell? ⟨gT, 0, none⟩ = some (.slice A1_0 l1_0.length c1_0) ∧ w'.cell? ⟨gT, 1, none⟩ = some (.slice A1_1 l1_1.length c1_1))
   (first | with_reducible exact ⟨cM_0, cM_1, cM_2, cT_0, cT_1⟩ | with_reducible exact ⟨kt_ cM_0 nM, kt_ cM_1 nM, kt_ cM_2 nM, kt_ cT_0 nT, kt_ cT_1 nT⟩ | with_reducible exact ⟨ka_ cM_0, ka_ cM_1, ka_ cM_2, ka_ cT_0, ka_ cT_1⟩ | with_reducible exact ⟨kt_ (ka_ cM_0) (World.new_ne _ _ cM_0), kt_ (ka_ cM_1) (World.new_ne _ _ cM_1), kt_ (ka_ cM_2) (World.new_ne _ _ cM_2), kt_ (ka_ cT_0) (World.new_ne _ _ cT_0), kt_ (ka_ cT_1) (World.new_ne _ _ cT_1)⟩ | exact ⟨cM_0, cM_1, cM_2, cT_0, cT_1⟩ | exact ⟨ka_ cM_0, ka_ cM_1, ka_ cM_2, ka_ cT_0, ka_ cT_1⟩ | exact ⟨kt_ cM_0 nM, kt_ cM_1 nM, kt_ cM_2 nM, kt_ cT_0 nT, kt_ cT_1 nT⟩ | exact ⟨kt_ (ka_ cM_0) (World.new_ne _ _ cM_0), kt_ (ka_ cM_1) (World.new_ne _ _ cM_1), kt_ (ka_ cM_2) (World.new_ne _ _ cM_2), kt_ (ka_ cT_0) (World.new_ne _ _ cT_0), kt_ (ka_ cT_1) (World.new_ne _ _ cT_1)⟩)
   (first | (go_at_call 8; (with_reducible refine (laws_toMesh.calls k a0_0 a0_1 _ _ l0_2 m0 m1 m2 _ ?s1 HC0_2.out X3a.out).mono ?_); (case s1 => exact cb_ HR0_2.out HB.out); rintro e w81 ⟨u0, rfl, ho, hb⟩; have HB0 := HB; (first | ((with_reducible have BA0 := Aside0.mk (blk_below (blk_new _ _) hb)); clear BA0; have MB_ := mkBA_ HB0.out hb (Nat.le_refl _); obtain ⟨BA, GE, NE_⟩ := MB_; have N_M := Aside0.mk (NE_ _ _ BM.out); have N_T := Aside0.mk (NE_ _ _ BT.out); clear NE_; have nM := Ne.symm N_M.out; have nT := Ne.symm N_T.out; obtain ⟨a_0, a_1, a_2, fa_0, fa_1, fa_2⟩ := cz3_ BA.out; have a_3 := a_0; have a_4 := a_1; have a_5 := a_2; have fa_3 := fa_0; have fa_4 := fa_1; have fa_5 := fa_2; (try simp only [show ∀ w : World, w.drew.heap = w.heap from fun _ => rfl] at a_3 a_4 a_5 fa_3 fa_4 fa_5)) | (have MB_ := mkBA_ (X := w2.drew) (o := .cells #[.int .i64 0, .slice none 0 0, .slice none 0 0] 34 (0, 0)) HB0.out hb (Nat.le_refl _); obtain ⟨BA, GE, NE_⟩ := MB_; have GE2 : Aside0 (w.heap.size ≤ w2.heap.size) := ⟨GE.out⟩; have N_M := Aside0.mk (NE_ _ _ BM.out); have N_T := Aside0.mk (NE_ _ _ BT.out); clear NE_; have nM := Ne.symm N_M.out; have nT := Ne.symm N_T.out; obtain ⟨a_0, a_1, a_2, fa_0, fa_1, fa_2⟩ := cz3_ BA.out; have a_3 := a_0; have a_4 := a_1; have a_5 := a_2; have fa_3 := fa_0; have fa_4 := fa_1; have fa_5 := fa_2; (try simp only [show ∀ w : World, w.drew.heap = w.heap from fun _ => rfl] at a_3 a_4 a_5 fa_3 fa_4 fa_5)) | (replace BA := Aside0.mk (bk_ BA.out hb); clear a_0 a_1 a_2 fa_0 fa_1 fa_2 nM nT a_3 a_4 a_5 fa_3 fa_4 fa_5; have nM := Ne.symm N_M.out; have nT := Ne.symm N_T.out; obtain ⟨a_0, a_1, a_2, fa_0, fa_1, fa_2⟩ := cz3_ BA.out; have a_3 := a_0; have a_4 := a_1; have a_5 := a_2; have fa_3 := fa_0; have fa_4 := fa_1; have fa_5 := fa_2; (try simp only [show ∀ w : World, w.drew.heap = w.heap from fun _ => rfl] at a_3 a_4 a_5 fa_3 fa_4 fa_5)) | skip); (try clear cM_0 cM_1 cM_2 fM_0 fM_1 fM_2); (try clear cT_0 cT_1 fT_0 fT_1); replace BM := kb_ BM hb; replace BT := kb_ BT hb; replace HB := hs_ HB hb; have HP0 := Aside0.mk (Kd.R_lower ho (bz_ HB0.out)); obtain ⟨pA0, pc0, rfl⟩ := Kd.R_slice HP0.out; clear ho hb HB0 X3a; obtain ⟨cM_0, cM_1, cM_2, fM_0, fM_1, fM_2⟩ := cz3_ BM.out; obtain ⟨cT_0, cT_1, fT_0, fT_1⟩ := cz2_ BT.out) | (go_at_call 9; (with_reducible refine (laws_toClasses.calls k _ _ l1_0 _ _ l1_1 t0 t1 _ ?s0 HC1_0.out ?s1 HC1_1.out X4a.out).mono ?_); (case s0 => exact cb_ HR1_0.out HB.out); (case s1 => exact cb_ HR1_1.out HB.out); rintro e w82 ⟨u0, u1, rfl, ho0, ho1, hb⟩; have HB0 := HB; (first | ((with_reducible have BA0 := Aside0.mk (blk_below (blk_new _ _) hb)); clear BA0; have MB_ := mkBA_ HB0.out hb (Nat.le_refl _); obtain ⟨BA, GE, NE_⟩ := MB_; have N_M := Aside0.mk (NE_ _ _ BM.out); have N_T := Aside0.mk (NE_ _ _ BT.out); clear NE_; have nM := Ne.symm N_M.out; have nT := Ne.symm N_T.out; obtain ⟨a_0, a_1, a_2, fa_0, fa_1, fa_2⟩ := cz3_ BA.out; have a_3 := a_0; have a_4 := a_1; have a_5 := a_2; have fa_3 := fa_0; have fa_4 := fa_1; have fa_5 := fa_2; (try simp only [show ∀ w : World, w.drew.heap = w.heap from fun _ => rfl] at a_3 a_4 a_5 fa_3 fa_4 fa_5)) | (replace BA := Aside0.mk (bk_ BA.out hb); clear a_0 a_1 a_2 fa_0 fa_1 fa_2 nM nT a_3 a_4 a_5 fa_3 fa_4 fa_5; have nM := Ne.symm N_M.out; have nT := Ne.symm N_T.out; obtain ⟨a_0, a_1, a_2, fa_0, fa_1, fa_2⟩ := cz3_ BA.out; have a_3 := a_0; have a_4 := a_1; have a_5 := a_2; have fa_3 := fa_0; have fa_4 := fa_1; have fa_5 := fa_2; (try simp only [show ∀ w : World, w.drew.heap = w.heap from fun _ => rfl] at a_3 a_4 a_5 fa_3 fa_4 fa_5)) | skip); replace HP0 := rb_ HP0 hb; (try clear cM_0 cM_1 cM_2 fM_0 fM_1 fM_2); (try clear cT_0 cT_1 fT_0 fT_1); replace BM := kb_ BM hb; replace BT := kb_ BT hb; replace HB := hs_ HB hb; have HP1 := Aside0.mk (Kd.R_lower ho0 (bz_ HB0.out)); have HP2 := Aside0.mk (Kd.R_lower ho1 (bz_ HB0.out)); obtain ⟨pA1, pc1, rfl⟩ := Kd.R_slice HP1.out; obtain ⟨pA2, pc2, rfl⟩ := Kd.R_slice HP2.out; clear ho0 ho1 hb HB0 X4a; obtain ⟨cM_0, cM_1, cM_2, fM_0, fM_1, fM_2⟩ := cz3_ BM.out; obtain ⟨cT_0, cT_1, fT_0, fT_1⟩ := cz2_ BT.out) | (go_at_call 7; (with_reducible refine (spec_CheckClasses.calls k m0 m1 _ _ m2 _ _ t0 _ _ t1 v0 v1 v2 _ ?sm (Kd.R_reads' HP0.out).2.1 ?st0 (Kd.R_reads' HP1.out).2.1 ?st1 (Kd.R_reads' HP2.out).2.1 X5a.out).mono ?_); (case sm => exact rr_ HP0); (case st0 => exact rr_ HP1); (case st1 => exact rr_ HP2); rintro e w8 ⟨u0, u1, rfl, ho0, ho1, hb⟩; have HB0 := HB; (first | ((with_reducible have BA0 := Aside0.mk (blk_below (blk_new _ _) hb)); clear BA0; have MB_ := mkBA_ HB0.out hb (Nat.le_refl _); obtain ⟨BA, GE, NE_⟩ := MB_; have N_M := Aside0.mk (NE_ _ _ BM.out); have N_T := Aside0.mk (NE_ _ _ BT.out); clear NE_; have nM := Ne.symm N_M.out; have nT := Ne.symm N_T.out; obtain ⟨a_0, a_1, a_2, fa_0, fa_1, fa_2⟩ := cz3_ BA.out; have a_3 := a_0; have a_4 := a_1; have a_5 := a_2; have fa_3 := fa_0; have fa_4 := fa_1; have fa_5 := fa_2; (try simp only [show ∀ w : World, w.drew.heap = w.heap from fun _ => rfl] at a_3 a_4 a_5 fa_3 fa_4 fa_5)) | (replace BA := Aside0.mk (bk_ BA.out hb); clear a_0 a_1 a_2 fa_0 fa_1 fa_2 nM nT a_3 a_4 a_5 fa_3 fa_4 fa_5; have nM := Ne.symm N_M.out; have nT := Ne.symm N_T.out; obtain ⟨a_0, a_1, a_2, fa_0, fa_1, fa_2⟩ := cz3_ BA.out; have a_3 := a_0; have a_4 := a_1; have a_5 := a_2; have fa_3 := fa_0; have fa_4 := fa_1; have fa_5 := fa_2; (try simp only [show ∀ w : World, w.drew.heap = w.heap from fun _ => rfl] at a_3 a_4 a_5 fa_3 fa_4 fa_5)) | skip); (try clear cM_0 cM_1 cM_2 fM_0 fM_1 fM_2); (try clear cT_0 cT_1 fT_0 fT_1); replace BM := kb_ BM hb; replace BT := kb_ BT hb; replace HB := hs_ HB hb; have HV1 := Aside0.mk (Kd.R_mono (ok' := fun _ => True) (Kd.R_lower ho0 (bz_ HB0.out)) (fun _ _ => trivial)); have HV2 := Aside0.mk (Kd.R_mono (ok' := fun _ => True) (Kd.R_lower ho1 (bz_ HB0.out)) (fun _ _ => trivial)); obtain ⟨vA1, vc1, rfl⟩ := Kd.R_slice HV1.out; obtain ⟨vA2, vc2, rfl⟩ := Kd.R_slice HV2.out; clear ho0 ho1 hb HB0 HP0 HP1 HP2 X5a; (first | (replace BA := BA) | (obtain ⟨a_0, a_1, a_2, fa_0, fa_1, fa_2⟩ := cz3_ (blk_new w8 (.cells #[.int .i64 0, .slice none 0 0, .slice none 0 0] 34 (0, 0))))); obtain ⟨cM_0, cM_1, cM_2, fM_0, fM_1, fM_2⟩ := cz3_ BM.out; obtain ⟨cT_0, cT_1, fT_0, fT_1⟩ := cz2_ BT.out))
  all_goals (go_wp2; go_meet; case rel => first | (replace BA := BA; exact ⟨_, vA1, vA2, vc1, vc2, rfl, ⟨by refine blk_put (cs := #[.int .i64 v0, .slice vA1 v1.length vc1, .slice none 0 0]) ?_ 2 _ rfl; refine blk_put (cs := #[.int .i64 v0, .slice none 0 0, .slice none 0 0]) ?_ 1 _ rfl; refine blk_put (cs := #[.int .i64 0, .slice none 0 0, .slice none 0 0]) ?_ 0 _ rfl; exact BA.out⟩, ⟨rm_ (Kd.R_types HV1.out BA.out (by decide)) (fun _ _ => trivial)⟩, ⟨rm_ (Kd.R_types HV2.out BA.out (by decide)) (fun _ _ => trivial)⟩, ⟨bf_ BM.out⟩, ⟨bf_ BT.out⟩, ⟨bb_ HB.out⟩⟩) | exact ⟨_, vA1, vA2, vc1, vc2, rfl, ⟨blk_new w8 _⟩, ⟨Kd.R_mono (Kd.R_alloc HV1.out _) (fun _ _ => trivial)⟩, ⟨Kd.R_mono (Kd.R_alloc HV2.out _) (fun _ _ => trivial)⟩, ⟨blk_alloc BM.out _⟩, ⟨blk_alloc BT.out _⟩, ⟨below_alloc HB.out _⟩⟩)
 case rest =>
 clear BM BT HB cM_0 fM_0 cM_1 fM_1 cM_2 fM_2 cT_0 fT_0 cT_1 fT_1
 obtain ⟨gV, vA1, vA2, vc1, vc2, rfl, BV, HV1, HV2, BM, BT, HB⟩ := hcut
 obtain ⟨cM_0, cM_1, cM_2, fM_0, fM_1, fM_2⟩ := cz3_ BM.out
 obtain ⟨cT_0, cT_1, fT_0, fT_1⟩ := cz2_ BT.out
 obtain ⟨cV_0, cV_1, cV_2, fV_0, fV_1, fV_2⟩ := cz3_ BV.out
 go_wp2_with (first | (go_at_call 8; (with_reducible refine (laws_toMesh.calls k a0_0 a0_1 _ _ l0_2 m0 m1 m2 _ ?s1 HC0_2.out X3b.out).mono ?_); (case s1 => exact cb_ HR0_2.out HB.out); rintro e wx ⟨u0, rfl, ho, hb⟩; have HX0 := Aside0.mk (Kd.R_lower ho (bz_ HB.out)); replace HV1 := Aside0.mk (Kd.R_elder' (ra_ HV1.out) (Kd.R_base ho) hb); replace HV2 := Aside0.mk (Kd.R_elder' (ra_ HV2.out) (Kd.R_base ho) hb); (try clear cM_0 cM_1 cM_2 fM_0 fM_1 fM_2); (try clear cT_0 cT_1 fT_0 fT_1); (try clear cV_0 cV_1 cV_2 fV_0 fV_1 fV_2); replace BM := kb_ BM hb; replace BT := kb_ BT hb; replace BV := kb_ BV hb; replace HB := hs_ HB hb; obtain ⟨xA0, xc0, rfl⟩ := Kd.R_slice HX0.out; clear ho hb X3b; obtain ⟨cM_0, cM_1, cM_2, fM_0, fM_1, fM_2⟩ := cz3_ BM.out; obtain ⟨cT_0, cT_1, fT_0, fT_1⟩ := cz2_ BT.out; obtain ⟨cV_0, cV_1, cV_2, fV_0, fV_1, fV_2⟩ := cz3_ BV.out; have qM_0 := fun o_ => ka_ (o := o_) cM_0; have qM_1 := fun o_ => ka_ (o := o_) cM_1; have qM_2 := fun o_ => ka_ (o := o_) cM_2; have qT_0 := fun o_ => ka_ (o := o_) cT_0; have qT_1 := fun o_ => ka_ (o := o_) cT_1; have qV_0 := fun o_ => ka_ (o := o_) cV_0; have qV_1 := fun o_ => ka_ (o := o_) cV_1; have qV_2 := fun o_ => ka_ (o := o_) cV_2) | (go_at_call 9; (with_reducible refine (laws_toClasses.calls k _ _ l1_0 _ _ l1_1 t0 t1 _ ?s0 HC1_0.out ?s1 HC1_1.out X4b.out).mono ?_); (case s0 => exact cb_ HR1_0.out HB.out); (case s1 => exact cb_ HR1_1.out HB.out); rintro e wy ⟨u0, u1, rfl, ho0, ho1, hb⟩; have HX1 := Aside0.mk (Kd.R_lower (Kd.R_new' ho0 (rl_ HX0.out)) (bz_ HB.out)); have HX2 := Aside0.mk (Kd.R_lower (Kd.R_new' ho1 (rl_ HX0.out)) (bz_ HB.out)); replace HV1 := Aside0.mk (Kd.R_told (Kd.R_told (Kd.R_old (ra_ HV1.out) hb) (Kd.R_base ho0)) (Kd.R_base ho1)); replace HV2 := Aside0.mk (Kd.R_told (Kd.R_told (Kd.R_old (ra_ HV2.out) hb) (Kd.R_base ho0)) (Kd.R_base ho1)); replace HX0 := Aside0.mk (Kd.R_below (ra_ HX0.out) hb); have BX0 := Aside0.mk (blk_below (blk_new wx _) hb); (try clear qM_0 qM_1 qM_2); (try clear qT_0 qT_1); (try clear qV_0 qV_1 qV_2); (try clear cM_0 cM_1 cM_2 fM_0 fM_1 fM_2); (try clear cT_0 cT_1 fT_0 fT_1); (try clear cV_0 cV_1 cV_2 fV_0 fV_1 fV_2); replace BM := kb_ BM hb; replace BT := kb_ BT hb; replace BV := kb_ BV hb; replace HB := hs_ HB hb; obtain ⟨xA1, xc1, rfl⟩ := Kd.R_slice HX1.out; obtain ⟨xA2, xc2, rfl⟩ := Kd.R_slice HX2.out; clear ho0 ho1 hb X4b; obtain ⟨cM_0, cM_1, cM_2, fM_0, fM_1, fM_2⟩ := cz3_ BM.out; obtain ⟨cT_0, cT_1, fT_0, fT_1⟩ := cz2_ BT.out; obtain ⟨cV_0, cV_1, cV_2, fV_0, fV_1, fV_2⟩ := cz3_ BV.out; obtain ⟨cX0_0, cX0_1, cX0_2, fX0_0, fX0_1, fX0_2⟩ := cz3_ BX0.out; have qM_0 := fun o_ => ka_ (o := o_) cM_0; have qM_1 := fun o_ => ka_ (o := o_) cM_1; have qM_2 := fun o_ => ka_ (o := o_) cM_2; have qT_0 := fun o_ => ka_ (o := o_) cT_0; have qT_1 := fun o_ => ka_ (o := o_) cT_1; have qV_0 := fun o_ => ka_ (o := o_) cV_0; have qV_1 := fun o_ => ka_ (o := o_) cV_1; have qV_2 := fun o_ => ka_ (o := o_) cV_2; have qX0_0 := fun o_ => ka_ (o := o_) cX0_0; have qX0_1 := fun o_ => ka_ (o := o_) cX0_1; have qX0_2 := fun o_ => ka_ (o := o_) cX0_2) | (go_at_call 10; (with_reducible refine (impl_CheckClasses.calls k m0 m1 _ _ m2 _ _ t0 _ _ t1 g0 g1 g2 _ ?sm (Kd.R_reads' HX0.out).2.1 ?st0 (Kd.R_reads' HX1.out).2.1 ?st1 (Kd.R_reads' HX2.out).2.1 X6a.out).mono ?_); (case sm => exact rr_ HX0); (case st0 => exact rr_ HX1); (case st1 => exact rr_ HX2); rintro e wz ⟨u0, u1, rfl, ho0, ho1, hb⟩; have HG1 := Aside0.mk (Kd.R_lower (Kd.R_new' (Kd.R_new' (Kd.R_new' ho0 (rl_ HX0.out)) (rl_ HX1.out)) (rl_ HX2.out)) (bz_ HB.out)); have HG2 := Aside0.mk (Kd.R_lower (Kd.R_new' (Kd.R_new' (Kd.R_new' ho1 (rl_ HX0.out)) (rl_ HX1.out)) (rl_ HX2.out)) (bz_ HB.out)); replace HV1 := Aside0.mk (Kd.R_told (Kd.R_told (Kd.R_old (ra_ HV1.out) hb) (Kd.R_base ho0)) (Kd.R_base ho1)); replace HV2 := Aside0.mk (Kd.R_told (Kd.R_told (Kd.R_old (ra_ HV2.out) hb) (Kd.R_base ho0)) (Kd.R_base ho1)); replace HX0 := Aside0.mk (Kd.R_below (ra_ HX0.out) hb); replace HX1 := Aside0.mk (Kd.R_below (ra_ HX1.out) hb); replace HX2 := Aside0.mk (Kd.R_below (ra_ HX2.out) hb); have BX1 := Aside0.mk (blk_below (blk_new wy _) hb); (try clear qM_0 qM_1 qM_2); (try clear qT_0 qT_1); (try clear qV_0 qV_1 qV_2); (try clear qX0_0 qX0_1 qX0_2); (try clear cM_0 cM_1 cM_2 fM_0 fM_1 fM_2); (try clear cT_0 cT_1 fT_0 fT_1); (try clear cV_0 cV_1 cV_2 fV_0 fV_1 fV_2); (try clear cX0_0 cX0_1 cX0_2 fX0_0 fX0_1 fX0_2); replace BM := kb_ BM hb; replace BT := kb_ BT hb; replace BV := kb_ BV hb; replace BX0 := kb_ BX0 hb; replace HB := hs_ HB hb; obtain ⟨gA1, gc1, rfl⟩ := Kd.R_slice HG1.out; obtain ⟨gA2, gc2, rfl⟩ := Kd.R_slice HG2.out; clear ho0 ho1 hb X6a; obtain ⟨cM_0, cM_1, cM_2, fM_0, fM_1, fM_2⟩ := cz3_ BM.out; obtain ⟨cT_0, cT_1, fT_0, fT_1⟩ := cz2_ BT.out; obtain ⟨cV_0, cV_1, cV_2, fV_0, fV_1, fV_2⟩ := cz3_ BV.out; obtain ⟨cX0_0, cX0_1, cX0_2, fX0_0, fX0_1, fX0_2⟩ := cz3_ BX0.out; obtain ⟨cX1_0, cX1_1, fX1_0, fX1_1⟩ := cz2_ BX1.out; have qM_0 := fun o_ => ka_ (o := o_) cM_0; have qM_1 := fun o_ => ka_ (o := o_) cM_1; have qM_2 := fun o_ => ka_ (o := o_) cM_2; have qT_0 := fun o_ => ka_ (o := o_) cT_0; have qT_1 := fun o_ => ka_ (o := o_) cT_1; have qV_0 := fun o_ => ka_ (o := o_) cV_0; have qV_1 := fun o_ => ka_ (o := o_) cV_1; have qV_2 := fun o_ => ka_ (o := o_) cV_2; have qX0_0 := fun o_ => ka_ (o := o_) cX0_0; have qX0_1 := fun o_ => ka_ (o := o_) cX0_1; have qX0_2 := fun o_ => ka_ (o := o_) cX0_2; have qX1_0 := fun o_ => ka_ (o := o_) cX1_0; have qX1_1 := fun o_ => ka_ (o := o_) cX1_1) | (go_at_call 11; (with_reducible refine (laws_eqVerdict.calls k g0 _ _ g1 _ _ g2 v0 _ _ v1 _ _ v2 true _ ?s1 (Kd.R_reads' HG1.out).2.1 ?s2 (Kd.R_reads' HG2.out).2.1 ?s3 (Kd.R_reads' HV1.out).2.1 ?s4 (Kd.R_reads' HV2.out).2.1 X7a.out).mono ?_); (case s1 => exact rr_ HG1); (case s2 => exact rr_ HG2); (case s3 => exact rr_ HV1); (case s4 => exact rr_ HV2); rintro e wq ⟨rfl, hb⟩; (try clear qM_0 qM_1 qM_2); (try clear qT_0 qT_1); (try clear qV_0 qV_1 qV_2); (try clear qX0_0 qX0_1 qX0_2); (try clear qX1_0 qX1_1); have BG := Aside0.mk (blk_below (blk_new wz _) hb); replace HV1 := rb_ HV1 hb; replace HV2 := rb_ HV2 hb; replace HG1 := rb_ HG1 hb; replace HG2 := rb_ HG2 hb; replace HX0 := rb_ HX0 hb; replace HX1 := rb_ HX1 hb; replace HX2 := rb_ HX2 hb; (try clear cM_0 cM_1 cM_2 fM_0 fM_1 fM_2); (try clear cT_0 cT_1 fT_0 fT_1); (try clear cV_0 cV_1 cV_2 fV_0 fV_1 fV_2); (try clear cX0_0 cX0_1 cX0_2 fX0_0 fX0_1 fX0_2); (try clear cX1_0 cX1_1 fX1_0 fX1_1); replace BM := kb_ BM hb; replace BT := kb_ BT hb; replace BV := kb_ BV hb; replace BX0 := kb_ BX0 hb; replace BX1 := kb_ BX1 hb; replace HB := hs_ HB hb; clear hb X7a; obtain ⟨cM_0, cM_1, cM_2, fM_0, fM_1, fM_2⟩ := cz3_ BM.out; obtain ⟨cT_0, cT_1, fT_0, fT_1⟩ := cz2_ BT.out; obtain ⟨cV_0, cV_1, cV_2, fV_0, fV_1, fV_2⟩ := cz3_ BV.out; obtain ⟨cX0_0, cX0_1, cX0_2, fX0_0, fX0_1, fX0_2⟩ := cz3_ BX0.out; obtain ⟨cX1_0, cX1_1, fX1_0, fX1_1⟩ := cz2_ BX1.out; obtain ⟨cG_0, cG_1, cG_2, fG_0, fG_1, fG_2⟩ := cz3_ BG.out))
 go_region_held3 (fun w' => w'.cell? ⟨wx.heap.size, 0, none⟩ = some (.int .i64 m0) ∧ w'.cell? ⟨wx.heap.size, 1, none⟩ = some (.int .i64 m1) ∧ w'.cell? ⟨wx.heap.size, 2, none⟩ = some (.slice xA0 m2.length xc0) ∧ w'.cell? ⟨gM, 0, none⟩ = some (.int .i64 a0_0) ∧ w'.cell? ⟨gM, 1, none⟩ = some (.int .i64 a0_1) ∧ w'.cell? ⟨gM, 2, none⟩ = some (.slice A0_2 l0_2.length c0_2))
  (exact ⟨cX0_0, cX0_1, cX0_2, cM_0, cM_1, cM_2⟩)
  (first | (go_at_call 8; (with_reducible refine (laws_toMesh.calls k a0_0 a0_1 _ _ l0_2 m0 m1 m2 _ ?s1 HC0_2.out X3c.out).mono ?_); (case s1 => exact cb_ HR0_2.out HB.out); rintro e wr ⟨u0, rfl, ho, hb⟩; have HP0 := Aside0.mk ho; obtain ⟨pA0, pc0, rfl⟩ := Kd.R_slice HP0.out; replace HV1 := rb_ HV1 hb; replace HV2 := rb_ HV2 hb; replace HG1 := rb_ HG1 hb; replace HG2 := rb_ HG2 hb; replace HX0 := rb_ HX0 hb; replace HX1 := rb_ HX1 hb; replace HX2 := rb_ HX2 hb; (try clear cM_0 cM_1 cM_2 fM_0 fM_1 fM_2); (try clear cT_0 cT_1 fT_0 fT_1); (try clear cV_0 cV_1 cV_2 fV_0 fV_1 fV_2); (try clear cX0_0 cX0_1 cX0_2 fX0_0 fX0_1 fX0_2); (try clear cX1_0 cX1_1 fX1_0 fX1_1); (try clear cG_0 cG_1 cG_2 fG_0 fG_1 fG_2); replace BM := kb_ BM hb; replace BT := kb_ BT hb; replace BV := kb_ BV hb; replace BX0 := kb_ BX0 hb; replace BX1 := kb_ BX1 hb; replace BG := kb_ BG hb; replace HB := hs_ HB hb; clear ho hb X3c; obtain ⟨cM_0, cM_1, cM_2, fM_0, fM_1, fM_2⟩ := cz3_ BM.out; obtain ⟨cT_0, cT_1, fT_0, fT_1⟩ := cz2_ BT.out; obtain ⟨cV_0, cV_1, cV_2, fV_0, fV_1, fV_2⟩ := cz3_ BV.out; obtain ⟨cX0_0, cX0_1, cX0_2, fX0_0, fX0_1, fX0_2⟩ := cz3_ BX0.out; obtain ⟨cX1_0, cX1_1, fX1_0, fX1_1⟩ := cz2_ BX1.out; obtain ⟨cG_0, cG_1, cG_2, fG_0, fG_1, fG_2⟩ := cz3_ BG.out) | (go_at_call 12; (with_reducible refine (laws_eqMesh.calls k m0 m1 _ _ m2 m0 m1 _ _ m2 true _ ?s1 (Kd.R_reads' HX0.out).2.1 ?s2 (Kd.R_reads' HP0.out).2.1 X8a.out).mono ?_); (case s1 => exact rr_ HX0); (case s2 => exact rr_ HP0); rintro e ws ⟨rfl, hb⟩; replace HV1 := rb_ HV1 hb; replace HV2 := rb_ HV2 hb; replace HG1 := rb_ HG1 hb; replace HG2 := rb_ HG2 hb; replace HX0 := rb_ HX0 hb; replace HX1 := rb_ HX1 hb; replace HX2 := rb_ HX2 hb; (try clear cM_0 cM_1 cM_2 fM_0 fM_1 fM_2); (try clear cT_0 cT_1 fT_0 fT_1); (try clear cV_0 cV_1 cV_2 fV_0 fV_1 fV_2); (try clear cX0_0 cX0_1 cX0_2 fX0_0 fX0_1 fX0_2); (try clear cX1_0 cX1_1 fX1_0 fX1_1); (try clear cG_0 cG_1 cG_2 fG_0 fG_1 fG_2); replace BM := kb_ BM hb; replace BT := kb_ BT hb; replace BV := kb_ BV hb; replace BX0 := kb_ BX0 hb; replace BX1 := kb_ BX1 hb; replace BG := kb_ BG hb; replace HB := hs_ HB hb; clear hb HP0 X8a; obtain ⟨cM_0, cM_1, cM_2, fM_0, fM_1, fM_2⟩ := cz3_ BM.out; obtain ⟨cT_0, cT_1, fT_0, fT_1⟩ := cz2_ BT.out; obtain ⟨cV_0, cV_1, cV_2, fV_0, fV_1, fV_2⟩ := cz3_ BV.out; obtain ⟨cX0_0, cX0_1, cX0_2, fX0_0, fX0_1, fX0_2⟩ := cz3_ BX0.out; obtain ⟨cX1_0, cX1_1, fX1_0, fX1_1⟩ := cz2_ BX1.out; obtain ⟨cG_0, cG_1, cG_2, fG_0, fG_1, fG_2⟩ := cz3_ BG.out))
 go_wp2_with (first | fail)
 go_region_held3 (fun w' => w'.cell? ⟨wy.heap.size, 0, none⟩ = some (.slice xA1 t0.length xc1) ∧ w'.cell? ⟨wy.heap.size, 1, none⟩ = some (.slice xA2 t1.length xc2) ∧ w'.cell? ⟨gT, 0, none⟩ = some (.slice A1_0 l1_0.length c1_0) ∧ w'.cell? ⟨gT, 1, none⟩ = some (.slice A1_1 l1_1.length c1_1))
  (exact ⟨cX1_0, cX1_1, cT_0, cT_1⟩)
  (first | (go_at_call 9; (with_reducible refine (laws_toClasses.calls k _ _ l1_0 _ _ l1_1 t0 t1 _ ?s0 HC1_0.out ?s1 HC1_1.out X4c.out).mono ?_); (case s0 => exact cb_ HR1_0.out HB.out); (case s1 => exact cb_ HR1_1.out HB.out); rintro e wr ⟨u0, u1, rfl, ho0, ho1, hb⟩; have HP1 := Aside0.mk ho0; have HP2 := Aside0.mk ho1; obtain ⟨pA1, pc1, rfl⟩ := Kd.R_slice HP1.out; obtain ⟨pA2, pc2, rfl⟩ := Kd.R_slice HP2.out; replace HV1 := rb_ HV1 hb; replace HV2 := rb_ HV2 hb; replace HG1 := rb_ HG1 hb; replace HG2 := rb_ HG2 hb; replace HX0 := rb_ HX0 hb; replace HX1 := rb_ HX1 hb; replace HX2 := rb_ HX2 hb; (try clear cM_0 cM_1 cM_2 fM_0 fM_1 fM_2); (try clear cT_0 cT_1 fT_0 fT_1); (try clear cV_0 cV_1 cV_2 fV_0 fV_1 fV_2); (try clear cX0_0 cX0_1 cX0_2 fX0_0 fX0_1 fX0_2); (try clear cX1_0 cX1_1 fX1_0 fX1_1); (try clear cG_0 cG_1 cG_2 fG_0 fG_1 fG_2); replace BM := kb_ BM hb; replace BT := kb_ BT hb; replace BV := kb_ BV hb; replace BX0 := kb_ BX0 hb; replace BX1 := kb_ BX1 hb; replace BG := kb_ BG hb; replace HB := hs_ HB hb; clear ho0 ho1 hb X4c; obtain ⟨cM_0, cM_1, cM_2, fM_0, fM_1, fM_2⟩ := cz3_ BM.out; obtain ⟨cT_0, cT_1, fT_0, fT_1⟩ := cz2_ BT.out; obtain ⟨cV_0, cV_1, cV_2, fV_0, fV_1, fV_2⟩ := cz3_ BV.out; obtain ⟨cX0_0, cX0_1, cX0_2, fX0_0, fX0_1, fX0_2⟩ := cz3_ BX0.out; obtain ⟨cX1_0, cX1_1, fX1_0, fX1_1⟩ := cz2_ BX1.out; obtain ⟨cG_0, cG_1, cG_2, fG_0, fG_1, fG_2⟩ := cz3_ BG.out) | (go_at_call 13; (with_reducible refine (laws_eqClasses.calls k _ _ t0 _ _ t1 _ _ t0 _ _ t1 true _ ?s0 (Kd.R_reads' HX1.out).2.1 ?s1 (Kd.R_reads' HX2.out).2.1 ?s2 (Kd.R_reads' HP1.out).2.1 ?s3 (Kd.R_reads' HP2.out).2.1 X9a.out).mono ?_); (case s0 => exact rr_ HX1); (case s1 => exact rr_ HX2); (case s2 => exact rr_ HP1); (case s3 => exact rr_ HP2); rintro e ws ⟨rfl, hb⟩; replace HV1 := rb_ HV1 hb; replace HV2 := rb_ HV2 hb; replace HG1 := rb_ HG1 hb; replace HG2 := rb_ HG2 hb; replace HX0 := rb_ HX0 hb; replace HX1 := rb_ HX1 hb; replace HX2 := rb_ HX2 hb; (try clear cM_0 cM_1 cM_2 fM_0 fM_1 fM_2); (try clear cT_0 cT_1 fT_0 fT_1); (try clear cV_0 cV_1 cV_2 fV_0 fV_1 fV_2); (try clear cX0_0 cX0_1 cX0_2 fX0_0 fX0_1 fX0_2); (try clear cX1_0 cX1_1 fX1_0 fX1_1); (try clear cG_0 cG_1 cG_2 fG_0 fG_1 fG_2); replace BM := kb_ BM hb; replace BT := kb_ BT hb; replace BV := kb_ BV hb; replace BX0 := kb_ BX0 hb; replace BX1 := kb_ BX1 hb; replace BG := kb_ BG hb; replace HB := hs_ HB hb; clear hb HP1 HP2 X9a; obtain ⟨cM_0, cM_1, cM_2, fM_0, fM_1, fM_2⟩ := cz3_ BM.out; obtain ⟨cT_0, cT_1, fT_0, fT_1⟩ := cz2_ BT.out; obtain ⟨cV_0, cV_1, cV_2, fV_0, fV_1, fV_2⟩ := cz3_ BV.out; obtain ⟨cX0_0, cX0_1, cX0_2, fX0_0, fX0_1, fX0_2⟩ := cz3_ BX0.out; obtain ⟨cX1_0, cX1_1, fX1_0, fX1_1⟩ := cz2_ BX1.out; obtain ⟨cG_0, cG_1, cG_2, fG_0, fG_1, fG_2⟩ := cz3_ BG.out))
 go_wp2_with (first | (go_at_call 14; (with_reducible refine (laws_markMesh.calls k m0 m1 (fun k_ => some k_ = (.slice xA0 m2.length xc0 : Value).ownBlock) _ m2 1 n1 y0 w _ ?s1 ?s2 Xaa.out).mono ?_); (case s1 => exact bb_ HB.out); (case s2 => exact Kd.R_tight rfl (ra_ HX0.out)); rintro e wm ⟨rfl, hq, hb, hk⟩; have KM := Aside0.mk (blk_kept (bq_ BM.out) hk (fun h_ => Kd.R_ne HX0.out BM.out (by decide) h_)); have KT := Aside0.mk (blk_kept (bq_ BT.out) hk (fun h_ => Kd.R_ne HX0.out BT.out (by decide) h_)); have KV := Aside0.mk (blk_kept (bq_ BV.out) hk (fun h_ => Kd.R_ne HX0.out BV.out (by decide) h_)); have KX0 := Aside0.mk (blk_kept (bq_ BX0.out) hk (fun h_ => Kd.R_ne HX0.out BX0.out (by decide) h_)); have KX1 := Aside0.mk (blk_kept (bq_ BX1.out) hk (fun h_ => Kd.R_ne HX0.out BX1.out (by decide) h_)); have KG := Aside0.mk (blk_kept (bq_ BG.out) hk (fun h_ => Kd.R_ne HX0.out BG.out (by decide) h_)); replace HV1 := Aside0.mk (Kd.R_kept (ra_ HV1.out) hk (fun k_ a_ b_ => a_.1.1.1.1.1.1.2 b_)); replace HV2 := Aside0.mk (Kd.R_kept (ra_ HV2.out) hk (fun k_ a_ b_ => a_.1.1.1.1.1.1.2 b_)); clear hq HX0 Xaa; replace HG1 := Aside0.mk (Kd.R_kept (ra_ HG1.out) hk (fun k_ a_ b_ => a_.1.1.2 b_)); replace HG2 := Aside0.mk (Kd.R_kept (ra_ HG2.out) hk (fun k_ a_ b_ => a_.1.1.2 b_)); replace HX1 := Aside0.mk (Kd.R_kept (ra_ HX1.out) hk (fun k_ a_ b_ => a_.2 b_)); replace HX2 := Aside0.mk (Kd.R_kept (ra_ HX2.out) hk (fun k_ a_ b_ => a_.2 b_)); (try clear cM_0 cM_1 cM_2 fM_0 fM_1 fM_2); replace BM := KM; clear KM; (try clear cT_0 cT_1 fT_0 fT_1); replace BT := KT; clear KT; (try clear cV_0 cV_1 cV_2 fV_0 fV_1 fV_2); replace BV := KV; clear KV; (try clear cX0_0 cX0_1 cX0_2 fX0_0 fX0_1 fX0_2); replace BX0 := KX0; clear KX0; (try clear cX1_0 cX1_1 fX1_0 fX1_1); replace BX1 := KX1; clear KX1; (try clear cG_0 cG_1 cG_2 fG_0 fG_1 fG_2); replace BG := KG; clear KG; replace HB := Aside0.mk hb; clear hb hk; obtain ⟨cM_0, cM_1, cM_2, fM_0, fM_1, fM_2⟩ := cz3_ BM.out; obtain ⟨cT_0, cT_1, fT_0, fT_1⟩ := cz2_ BT.out; obtain ⟨cV_0, cV_1, cV_2, fV_0, fV_1, fV_2⟩ := cz3_ BV.out; obtain ⟨cX0_0, cX0_1, cX0_2, fX0_0, fX0_1, fX0_2⟩ := cz3_ BX0.out; obtain ⟨cX1_0, cX1_1, fX1_0, fX1_1⟩ := cz2_ BX1.out; obtain ⟨cG_0, cG_1, cG_2, fG_0, fG_1, fG_2⟩ := cz3_ BG.out) | (go_at_call 15; (with_reducible refine (laws_markClasses.calls k (fun k_ => some k_ = (.slice xA1 t0.length xc1 : Value).ownBlock) _ t0 (fun k_ => some k_ = (.slice xA2 t1.length xc2 : Value).ownBlock) _ t1 n1 n2 y1 y2 w _ ?s1 ?s2 ?s3 ?s4 ?s5 Xba.out).mono ?_); (case s1 => exact bb_ HB.out); (case s2 => exact Kd.R_tight rfl (ra_ HX1.out)); (case s3 => exact fun k_ a_ b_ => (HX1.out.1 k_ a_.symm).1 b_); (case s4 => exact Kd.R_tight rfl (ra_ HX2.out)); (case s5 => exact fun k_ a_ b_ => (HX2.out.1 k_ a_.symm).1 b_); rintro e wm ⟨rfl, hq, hq2, hb, hk⟩; have KM := Aside0.mk (blk_kept (bq_ BM.out) hk (fun h_ => h_.elim (fun h_ => Kd.R_ne HX1.out BM.out (by decide) h_) (fun h_ => Kd.R_ne HX2.out BM.out (by decide) h_))); have KT := Aside0.mk (blk_kept (bq_ BT.out) hk (fun h_ => h_.elim (fun h_ => Kd.R_ne HX1.out BT.out (by decide) h_) (fun h_ => Kd.R_ne HX2.out BT.out (by decide) h_))); have KV := Aside0.mk (blk_kept (bq_ BV.out) hk (fun h_ => h_.elim (fun h_ => Kd.R_ne HX1.out BV.out (by decide) h_) (fun h_ => Kd.R_ne HX2.out BV.out (by decide) h_))); have KX0 := Aside0.mk (blk_kept (bq_ BX0.out) hk (fun h_ => h_.elim (fun h_ => Kd.R_ne HX1.out BX0.out (by decide) h_) (fun h_ => Kd.R_ne HX2.out BX0.out (by decide) h_))); have KX1 := Aside0.mk (blk_kept (bq_ BX1.out) hk (fun h_ => h_.elim (fun h_ => Kd.R_ne HX1.out BX1.out (by decide) h_) (fun h_ => Kd.R_ne HX2.out BX1.out (by decide) h_))); have KG := Aside0.mk (blk_kept (bq_ BG.out) hk (fun h_ => h_.elim (fun h_ => Kd.R_ne HX1.out BG.out (by decide) h_) (fun h_ => Kd.R_ne HX2.out BG.out (by decide) h_))); replace HV1 := Aside0.mk (Kd.R_kept (ra_ HV1.out) hk (fun k_ a_ b_ => b_.elim (fun b_ => a_.1.1.1.1.1.2 b_) (fun b_ => a_.1.1.1.1.2 b_))); replace HV2 := Aside0.mk (Kd.R_kept (ra_ HV2.out) hk (fun k_ a_ b_ => b_.elim (fun b_ => a_.1.1.1.1.1.2 b_) (fun b_ => a_.1.1.1.1.2 b_))); replace HG1 := Aside0.mk (Kd.R_kept (ra_ HG1.out) hk (fun k_ a_ b_ => b_.elim (fun b_ => a_.1.2 b_) (fun b_ => a_.2 b_))); replace HG2 := Aside0.mk (Kd.R_kept (ra_ HG2.out) hk (fun k_ a_ b_ => b_.elim (fun b_ => a_.1.2 b_) (fun b_ => a_.2 b_))); clear hq hq2 HX1 HX2 Xba; (try clear cM_0 cM_1 cM_2 fM_0 fM_1 fM_2); replace BM := KM; clear KM; (try clear cT_0 cT_1 fT_0 fT_1); replace BT := KT; clear KT; (try clear cV_0 cV_1 cV_2 fV_0 fV_1 fV_2); replace BV := KV; clear KV; (try clear cX0_0 cX0_1 cX0_2 fX0_0 fX0_1 fX0_2); replace BX0 := KX0; clear KX0; (try clear cX1_0 cX1_1 fX1_0 fX1_1); replace BX1 := KX1; clear KX1; (try clear cG_0 cG_1 cG_2 fG_0 fG_1 fG_2); replace BG := KG; clear KG; replace HB := Aside0.mk hb; clear hb hk; obtain ⟨cM_0, cM_1, cM_2, fM_0, fM_1, fM_2⟩ := cz3_ BM.out; obtain ⟨cT_0, cT_1, fT_0, fT_1⟩ := cz2_ BT.out; obtain ⟨cV_0, cV_1, cV_2, fV_0, fV_1, fV_2⟩ := cz3_ BV.out; obtain ⟨cX0_0, cX0_1, cX0_2, fX0_0, fX0_1, fX0_2⟩ := cz3_ BX0.out; obtain ⟨cX1_0, cX1_1, fX1_0, fX1_1⟩ := cz2_ BX1.out; obtain ⟨cG_0, cG_1, cG_2, fG_0, fG_1, fG_2⟩ := cz3_ BG.out) | (go_at_call 11; (with_reducible refine (laws_eqVerdict.calls k g0 _ _ g1 _ _ g2 v0 _ _ v1 _ _ v2 true _ ?s1 (Kd.R_reads' HG1.out).2.1 ?s2 (Kd.R_reads' HG2.out).2.1 ?s3 (Kd.R_reads' HV1.out).2.1 ?s4 (Kd.R_reads' HV2.out).2.1 X7b.out).mono ?_); (case s1 => exact rr_ HG1); (case s2 => exact rr_ HG2); (case s3 => exact rr_ HV1); (case s4 => exact rr_ HV2); rintro e wq ⟨rfl, hb⟩; replace HV1 := rb_ HV1 hb; replace HV2 := rb_ HV2 hb; replace HG1 := rb_ HG1 hb; replace HG2 := rb_ HG2 hb; (try clear cM_0 cM_1 cM_2 fM_0 fM_1 fM_2); (try clear cT_0 cT_1 fT_0 fT_1); (try clear cV_0 cV_1 cV_2 fV_0 fV_1 fV_2); (try clear cX0_0 cX0_1 cX0_2 fX0_0 fX0_1 fX0_2); (try clear cX1_0 cX1_1 fX1_0 fX1_1); (try clear cG_0 cG_1 cG_2 fG_0 fG_1 fG_2); replace BM := kb_ BM hb; replace BT := kb_ BT hb; replace BV := kb_ BV hb; replace BX0 := kb_ BX0 hb; replace BX1 := kb_ BX1 hb; replace BG := kb_ BG hb; replace HB := hs_ HB hb; clear hb X7b; obtain ⟨cM_0, cM_1, cM_2, fM_0, fM_1, fM_2⟩ := cz3_ BM.out; obtain ⟨cT_0, cT_1, fT_0, fT_1⟩ := cz2_ BT.out; obtain ⟨cV_0, cV_1, cV_2, fV_0, fV_1, fV_2⟩ := cz3_ BV.out; obtain ⟨cX0_0, cX0_1, cX0_2, fX0_0, fX0_1, fX0_2⟩ := cz3_ BX0.out; obtain ⟨cX1_0, cX1_1, fX1_0, fX1_1⟩ := cz2_ BX1.out; obtain ⟨cG_0, cG_1, cG_2, fG_0, fG_1, fG_2⟩ := cz3_ BG.out) | (go_at_call 16; (with_reducible refine (laws_markVerdict.calls k g0 (fun k_ => some k_ = (.slice gA1 g1.length gc1 : Value).ownBlock) _ g1 (fun k_ => some k_ = (.slice gA2 g2.length gc2 : Value).ownBlock) _ g2 1 z h1 h2 w _ ?s1 ?s2 ?s3 ?s4 ?s5 Xca.out).mono ?_); (case s1 => exact bb_ HB.out); (case s2 => exact Kd.R_tight rfl (ra_ HG1.out)); (case s3 => exact fun k_ a_ b_ => (HG1.out.1 k_ a_.symm).1.1.1 b_); (case s4 => exact Kd.R_tight rfl (ra_ HG2.out)); (case s5 => exact fun k_ a_ b_ => (HG2.out.1 k_ a_.symm).1.1.1 b_); rintro e wm ⟨rfl, hq, hq2, hb, hk⟩; have KM := Aside0.mk (blk_kept (bq_ BM.out) hk (fun h_ => h_.elim (fun h_ => Kd.R_ne HG1.out BM.out (by decide) h_) (fun h_ => Kd.R_ne HG2.out BM.out (by decide) h_))); have KT := Aside0.mk (blk_kept (bq_ BT.out) hk (fun h_ => h_.elim (fun h_ => Kd.R_ne HG1.out BT.out (by decide) h_) (fun h_ => Kd.R_ne HG2.out BT.out (by decide) h_))); have KV := Aside0.mk (blk_kept (bq_ BV.out) hk (fun h_ => h_.elim (fun h_ => Kd.R_ne HG1.out BV.out (by decide) h_) (fun h_ => Kd.R_ne HG2.out BV.out (by decide) h_))); have KX0 := Aside0.mk (blk_kept (bq_ BX0.out) hk (fun h_ => h_.elim (fun h_ => Kd.R_ne HG1.out BX0.out (by decide) h_) (fun h_ => Kd.R_ne HG2.out BX0.out (by decide) h_))); have KX1 := Aside0.mk (blk_kept (bq_ BX1.out) hk (fun h_ => h_.elim (fun h_ => Kd.R_ne HG1.out BX1.out (by decide) h_) (fun h_ => Kd.R_ne HG2.out BX1.out (by decide) h_))); have KG := Aside0.mk (blk_kept (bq_ BG.out) hk (fun h_ => h_.elim (fun h_ => Kd.R_ne HG1.out BG.out (by decide) h_) (fun h_ => Kd.R_ne HG2.out BG.out (by decide) h_))); replace HV1 := Aside0.mk (Kd.R_kept (ra_ HV1.out) hk (fun k_ a_ b_ => b_.elim (fun b_ => a_.1.1.2 b_) (fun b_ => a_.1.2 b_))); replace HV2 := Aside0.mk (Kd.R_kept (ra_ HV2.out) hk (fun k_ a_ b_ => b_.elim (fun b_ => a_.1.1.2 b_) (fun b_ => a_.1.2 b_))); replace HG1 := Aside0.mk (Kd.R_mono (ok' := fun _ => True) hq (fun _ _ => trivial)); replace HG2 := Aside0.mk (Kd.R_mono (ok' := fun _ => True) hq2 (fun _ _ => trivial)); clear hq hq2 Xca; replace HV1 := Aside0.mk (Kd.R_mono (ok' := fun _ => True) HV1.out (fun _ _ => trivial)); replace HV2 := Aside0.mk (Kd.R_mono (ok' := fun _ => True) HV2.out (fun _ _ => trivial)); (try clear cM_0 cM_1 cM_2 fM_0 fM_1 fM_2); replace BM := KM; clear KM; (try clear cT_0 cT_1 fT_0 fT_1); replace BT := KT; clear KT; (try clear cV_0 cV_1 cV_2 fV_0 fV_1 fV_2); replace BV := KV; clear KV; (try clear cX0_0 cX0_1 cX0_2 fX0_0 fX0_1 fX0_2); replace BX0 := KX0; clear KX0; (try clear cX1_0 cX1_1 fX1_0 fX1_1); replace BX1 := KX1; clear KX1; (try clear cG_0 cG_1 cG_2 fG_0 fG_1 fG_2); replace BG := KG; clear KG; replace HB := Aside0.mk hb; clear hb hk; obtain ⟨cM_0, cM_1, cM_2, fM_0, fM_1, fM_2⟩ := cz3_ BM.out; obtain ⟨cT_0, cT_1, fT_0, fT_1⟩ := cz2_ BT.out; obtain ⟨cV_0, cV_1, cV_2, fV_0, fV_1, fV_2⟩ := cz3_ BV.out; obtain ⟨cX0_0, cX0_1, cX0_2, fX0_0, fX0_1, fX0_2⟩ := cz3_ BX0.out; obtain ⟨cX1_0, cX1_1, fX1_0, fX1_1⟩ := cz2_ BX1.out; obtain ⟨cG_0, cG_1, cG_2, fG_0, fG_1, fG_2⟩ := cz3_ BG.out) | (go_at_call 17; (with_reducible refine (heldV_ k g0 gA1 gc1 g1.length h1 gA2 gc2 g2.length h2 1 z _ (ra_ HG1.out) (ra_ HG2.out) Xda.out).mono ?_); rintro e wh ⟨rfl, hb⟩; replace HV1 := rb_ HV1 hb; replace HV2 := rb_ HV2 hb; replace HG1 := rb_ HG1 hb; replace HG2 := rb_ HG2 hb; (try clear cM_0 cM_1 cM_2 fM_0 fM_1 fM_2); (try clear cT_0 cT_1 fT_0 fT_1); (try clear cV_0 cV_1 cV_2 fV_0 fV_1 fV_2); (try clear cX0_0 cX0_1 cX0_2 fX0_0 fX0_1 fX0_2); (try clear cX1_0 cX1_1 fX1_0 fX1_1); (try clear cG_0 cG_1 cG_2 fG_0 fG_1 fG_2); replace BM := kb_ BM hb; replace BT := kb_ BT hb; replace BV := kb_ BV hb; replace BX0 := kb_ BX0 hb; replace BX1 := kb_ BX1 hb; replace BG := kb_ BG hb; replace HB := hs_ HB hb; clear hb Xda; obtain ⟨cM_0, cM_1, cM_2, fM_0, fM_1, fM_2⟩ := cz3_ BM.out; obtain ⟨cT_0, cT_1, fT_0, fT_1⟩ := cz2_ BT.out; obtain ⟨cV_0, cV_1, cV_2, fV_0, fV_1, fV_2⟩ := cz3_ BV.out; obtain ⟨cX0_0, cX0_1, cX0_2, fX0_0, fX0_1, fX0_2⟩ := cz3_ BX0.out; obtain ⟨cX1_0, cX1_1, fX1_0, fX1_1⟩ := cz2_ BX1.out; obtain ⟨cG_0, cG_1, cG_2, fG_0, fG_1, fG_2⟩ := cz3_ BG.out))
 go_cut [13] (fun v13 wc => ∃ (gN : Nat) (yA1 yA2 : Option Addr) (yc1 yc2 : Nat), v13 = .pointer (some ⟨gN, 0, none⟩) ∧ Aside0 (wc.heap[gN]? = some (.cells #[.int .i64 g0, .slice yA1 g1.length yc1, .slice yA2 g2.length yc2] 34 (0, 0))) ∧ Aside0 (Kd.R (Kd.int .i64) 3 wc w.heap.size (fun _ => True) (.slice yA1 g1.length yc1) g1) ∧ Aside0 (Kd.R (Kd.int .i64) 3 wc w.heap.size (fun _ => True) (.slice yA2 g2.length yc2) g2) ∧ Aside0 (Kd.R (Kd.int .i64) 3 wc w.heap.size (fun _ => True) (.slice vA1 v1.length vc1) v1) ∧ Aside0 (Kd.R (Kd.int .i64) 3 wc w.heap.size (fun _ => True) (.slice vA2 v2.length vc2) v2) ∧ Aside0 (Kd.R (Kd.int .i64) 3 wc w.heap.size (fun _ => True) (.slice gA1 g1.length gc1) h1) ∧ Aside0 (Kd.R (Kd.int .i64) 3 wc w.heap.size (fun _ => True) (.slice gA2 g2.length gc2) h2) ∧ Aside0 (wc.heap[gV]? = some (.cells #[.int .i64 v0, .slice vA1 v1.length vc1, .slice vA2 v2.length vc2] 34 (0, 0))) ∧ Aside0 (wc.heap[wz.heap.size]? = some (.cells #[.int .i64 g0, .slice gA1 g1.length gc1, .slice gA2 g2.length gc2] 34 (0, 0))) ∧ Aside0 (Below w.heap.size w wc))
 case first =>
  go_region_held3 (fun w' => w'.cell? ⟨gM, 0, none⟩ = some (.int .i64 a0_0) ∧ w'.cell? ⟨gM, 1, none⟩ = some (.int .i64 a0_1) ∧ w'.cell? ⟨gM, 2, none⟩ = some (.slice A0_2 l0_2.length c0_2) ∧ w'.cell? ⟨gT, 0, none⟩ = some (.slice A1_0 l1_0.length c1_0) ∧ w'.cell? ⟨gT, 1, none⟩ = some (.slice A1_1 l1_1.length c1_1))
   (first | with_reducible exact ⟨cM_0, cM_1, cM_2, cT_0, cT_1⟩ | with_reducible exact ⟨kt_ cM_0 nM, kt_ cM_1 nM, kt_ cM_2 nM, kt_ cT_0 nT, kt_ cT_1 nT⟩ | with_reducible exact ⟨ka_ cM_0, ka_ cM_1, ka_ cM_2, ka_ cT_0, ka_ cT_1⟩ | with_reducible exact ⟨kt_ (ka_ cM_0) (World.new_ne _ _ cM_0), kt_ (ka_ cM_1) (World.new_ne _ _ cM_1), kt_ (ka_ cM_2) (World.new_ne _ _ cM_2), kt_ (ka_ cT_0) (World.new_ne _ _ cT_0), kt_ (ka_ cT_1) (World.new_ne _ _ cT_1)⟩ | exact ⟨cM_0, cM_1, cM_2, cT_0, cT_1⟩ | exact ⟨ka_ cM_0, ka_ cM_1, ka_ cM_2, ka_ cT_0, ka_ cT_1⟩ | exact ⟨kt_ cM_0 nM, kt_ cM_1 nM, kt_ cM_2 nM, kt_ cT_0 nT, kt_ cT_1 nT⟩ | exact ⟨kt_ (ka_ cM_0) (World.new_ne _ _ cM_0), kt_ (ka_ cM_1) (World.new_ne _ _ cM_1), kt_ (ka_ cM_2) (World.new_ne _ _ cM_2), kt_ (ka_ cT_0) (World.new_ne _ _ cT_0), kt_ (ka_ cT_1) (World.new_ne _ _ cT_1)⟩)
   (first | (go_at_call 8; (with_reducible refine (laws_toMesh.calls k a0_0 a0_1 _ _ l0_2 m0 m1 m2 _ ?s1 HC0_2.out X3d.out).mono ?_); (case s1 => exact cb_ HR0_2.out HB.out); rintro e wk1 ⟨u0, rfl, ho, hb⟩; have HB0 := HB; (first | ((with_reducible have BA0 := Aside0.mk (blk_below (blk_new _ _) hb)); clear BA0; have MB_ := mkBA_ HB0.out hb (Nat.le_refl _); obtain ⟨BA, GE, NE_⟩ := MB_; have N_M := Aside0.mk (NE_ _ _ BM.out); have N_T := Aside0.mk (NE_ _ _ BT.out); have N_V := Aside0.mk (NE_ _ _ BV.out); have N_G := Aside0.mk (NE_ _ _ BG.out); clear NE_; have nM := Ne.symm N_M.out; have nT := Ne.symm N_T.out; obtain ⟨a_0, a_1, a_2, fa_0, fa_1, fa_2⟩ := cz3_ BA.out; have a_3 := a_0; have a_4 := a_1; have a_5 := a_2; have fa_3 := fa_0; have fa_4 := fa_1; have fa_5 := fa_2; (try simp only [show ∀ w : World, w.drew.heap = w.heap from fun _ => rfl] at a_3 a_4 a_5 fa_3 fa_4 fa_5)) | (have MB_ := mkBA_ (X := wh.drew) (o := .cells #[.int .i64 0, .slice none 0 0, .slice none 0 0] 34 (0, 0)) HB0.out hb (Nat.le_refl _); obtain ⟨BA, GE, NE_⟩ := MB_; have GE2 : Aside0 (w.heap.size ≤ wh.heap.size) := ⟨GE.out⟩; have N_M := Aside0.mk (NE_ _ _ BM.out); have N_T := Aside0.mk (NE_ _ _ BT.out); have N_V := Aside0.mk (NE_ _ _ BV.out); have N_G := Aside0.mk (NE_ _ _ BG.out); clear NE_; have nM := Ne.symm N_M.out; have nT := Ne.symm N_T.out; obtain ⟨a_0, a_1, a_2, fa_0, fa_1, fa_2⟩ := cz3_ BA.out; have a_3 := a_0; have a_4 := a_1; have a_5 := a_2; have fa_3 := fa_0; have fa_4 := fa_1; have fa_5 := fa_2; (try simp only [show ∀ w : World, w.drew.heap = w.heap from fun _ => rfl] at a_3 a_4 a_5 fa_3 fa_4 fa_5)) | (replace BA := Aside0.mk (bk_ BA.out hb); clear a_0 a_1 a_2 fa_0 fa_1 fa_2 nM nT a_3 a_4 a_5 fa_3 fa_4 fa_5; have nM := Ne.symm N_M.out; have nT := Ne.symm N_T.out; obtain ⟨a_0, a_1, a_2, fa_0, fa_1, fa_2⟩ := cz3_ BA.out; have a_3 := a_0; have a_4 := a_1; have a_5 := a_2; have fa_3 := fa_0; have fa_4 := fa_1; have fa_5 := fa_2; (try simp only [show ∀ w : World, w.drew.heap = w.heap from fun _ => rfl] at a_3 a_4 a_5 fa_3 fa_4 fa_5)) | skip); replace HV1 := rb_ HV1 hb; replace HV2 := rb_ HV2 hb; replace HG1 := rb_ HG1 hb; replace HG2 := rb_ HG2 hb; (try clear cM_0 cM_1 cM_2 fM_0 fM_1 fM_2); (try clear cT_0 cT_1 fT_0 fT_1); (try clear cV_0 cV_1 cV_2 fV_0 fV_1 fV_2); (try clear cG_0 cG_1 cG_2 fG_0 fG_1 fG_2); replace BM := kb_ BM hb; replace BT := kb_ BT hb; replace BV := kb_ BV hb; replace BG := kb_ BG hb; replace HB := hs_ HB hb; have HP0 := Aside0.mk (Kd.R_lower ho (bz_ HB0.out)); obtain ⟨pA0, pc0, rfl⟩ := Kd.R_slice HP0.out; clear ho hb HB0 X3d; obtain ⟨cM_0, cM_1, cM_2, fM_0, fM_1, fM_2⟩ := cz3_ BM.out; obtain ⟨cT_0, cT_1, fT_0, fT_1⟩ := cz2_ BT.out; obtain ⟨cV_0, cV_1, cV_2, fV_0, fV_1, fV_2⟩ := cz3_ BV.out; obtain ⟨cG_0, cG_1, cG_2, fG_0, fG_1, fG_2⟩ := cz3_ BG.out) | (go_at_call 9; (with_reducible refine (laws_toClasses.calls k _ _ l1_0 _ _ l1_1 t0 t1 _ ?s0 HC1_0.out ?s1 HC1_1.out X4d.out).mono ?_); (case s0 => exact cb_ HR1_0.out HB.out); (case s1 => exact cb_ HR1_1.out HB.out); rintro e wk2 ⟨u0, u1, rfl, ho0, ho1, hb⟩; have HB0 := HB; (first | ((with_reducible have BA0 := Aside0.mk (blk_below (blk_new _ _) hb)); clear BA0; have MB_ := mkBA_ HB0.out hb (Nat.le_refl _); obtain ⟨BA, GE, NE_⟩ := MB_; have N_M := Aside0.mk (NE_ _ _ BM.out); have N_T := Aside0.mk (NE_ _ _ BT.out); have N_V := Aside0.mk (NE_ _ _ BV.out); have N_G := Aside0.mk (NE_ _ _ BG.out); clear NE_; have nM := Ne.symm N_M.out; have nT := Ne.symm N_T.out; obtain ⟨a_0, a_1, a_2, fa_0, fa_1, fa_2⟩ := cz3_ BA.out; have a_3 := a_0; have a_4 := a_1; have a_5 := a_2; have fa_3 := fa_0; have fa_4 := fa_1; have fa_5 := fa_2; (try simp only [show ∀ w : World, w.drew.heap = w.heap from fun _ => rfl] at a_3 a_4 a_5 fa_3 fa_4 fa_5)) | (replace BA := Aside0.mk (bk_ BA.out hb); clear a_0 a_1 a_2 fa_0 fa_1 fa_2 nM nT a_3 a_4 a_5 fa_3 fa_4 fa_5; have nM := Ne.symm N_M.out; have nT := Ne.symm N_T.out; obtain ⟨a_0, a_1, a_2, fa_0, fa_1, fa_2⟩ := cz3_ BA.out; have a_3 := a_0; have a_4 := a_1; have a_5 := a_2; have fa_3 := fa_0; have fa_4 := fa_1; have fa_5 := fa_2; (try simp only [show ∀ w : World, w.drew.heap = w.heap from fun _ => rfl] at a_3 a_4 a_5 fa_3 fa_4 fa_5)) | skip); replace HV1 := rb_ HV1 hb; replace HV2 := rb_ HV2 hb; replace HG1 := rb_ HG1 hb; replace HG2 := rb_ HG2 hb; replace HP0 := rb_ HP0 hb; (try clear cM_0 cM_1 cM_2 fM_0 fM_1 fM_2); (try clear cT_0 cT_1 fT_0 fT_1); (try clear cV_0 cV_1 cV_2 fV_0 fV_1 fV_2); (try clear cG_0 cG_1 cG_2 fG_0 fG_1 fG_2); replace BM := kb_ BM hb; replace BT := kb_ BT hb; replace BV := kb_ BV hb; replace BG := kb_ BG hb; replace HB := hs_ HB hb; have HP1 := Aside0.mk (Kd.R_lower ho0 (bz_ HB0.out)); have HP2 := Aside0.mk (Kd.R_lower ho1 (bz_ HB0.out)); obtain ⟨pA1, pc1, rfl⟩ := Kd.R_slice HP1.out; obtain ⟨pA2, pc2, rfl⟩ := Kd.R_slice HP2.out; clear ho0 ho1 hb HB0 X4d; obtain ⟨cM_0, cM_1, cM_2, fM_0, fM_1, fM_2⟩ := cz3_ BM.out; obtain ⟨cT_0, cT_1, fT_0, fT_1⟩ := cz2_ BT.out; obtain ⟨cV_0, cV_1, cV_2, fV_0, fV_1, fV_2⟩ := cz3_ BV.out; obtain ⟨cG_0, cG_1, cG_2, fG_0, fG_1, fG_2⟩ := cz3_ BG.out) | (go_at_call 10; (with_reducible refine (impl_CheckClasses.calls k m0 m1 _ _ m2 _ _ t0 _ _ t1 g0 g1 g2 _ ?sm (Kd.R_reads' HP0.out).2.1 ?st0 (Kd.R_reads' HP1.out).2.1 ?st1 (Kd.R_reads' HP2.out).2.1 X6b.out).mono ?_); (case sm => exact rr_ HP0); (case st0 => exact rr_ HP1); (case st1 => exact rr_ HP2); rintro e wk ⟨u0, u1, rfl, ho0, ho1, hb⟩; have HB0 := HB; (first | ((with_reducible have BA0 := Aside0.mk (blk_below (blk_new _ _) hb)); clear BA0; have MB_ := mkBA_ HB0.out hb (Nat.le_refl _); obtain ⟨BA, GE, NE_⟩ := MB_; have N_M := Aside0.mk (NE_ _ _ BM.out); have N_T := Aside0.mk (NE_ _ _ BT.out); have N_V := Aside0.mk (NE_ _ _ BV.out); have N_G := Aside0.mk (NE_ _ _ BG.out); clear NE_; have nM := Ne.symm N_M.out; have nT := Ne.symm N_T.out; obtain ⟨a_0, a_1, a_2, fa_0, fa_1, fa_2⟩ := cz3_ BA.out; have a_3 := a_0; have a_4 := a_1; have a_5 := a_2; have fa_3 := fa_0; have fa_4 := fa_1; have fa_5 := fa_2; (try simp only [show ∀ w : World, w.drew.heap = w.heap from fun _ => rfl] at a_3 a_4 a_5 fa_3 fa_4 fa_5)) | (replace BA := Aside0.mk (bk_ BA.out hb); clear a_0 a_1 a_2 fa_0 fa_1 fa_2 nM nT a_3 a_4 a_5 fa_3 fa_4 fa_5; have nM := Ne.symm N_M.out; have nT := Ne.symm N_T.out; obtain ⟨a_0, a_1, a_2, fa_0, fa_1, fa_2⟩ := cz3_ BA.out; have a_3 := a_0; have a_4 := a_1; have a_5 := a_2; have fa_3 := fa_0; have fa_4 := fa_1; have fa_5 := fa_2; (try simp only [show ∀ w : World, w.drew.heap = w.heap from fun _ => rfl] at a_3 a_4 a_5 fa_3 fa_4 fa_5)) | skip); replace HV1 := rb_ HV1 hb; replace HV2 := rb_ HV2 hb; replace HG1 := rb_ HG1 hb; replace HG2 := rb_ HG2 hb; (try clear cM_0 cM_1 cM_2 fM_0 fM_1 fM_2); (try clear cT_0 cT_1 fT_0 fT_1); (try clear cV_0 cV_1 cV_2 fV_0 fV_1 fV_2); (try clear cG_0 cG_1 cG_2 fG_0 fG_1 fG_2); replace BM := kb_ BM hb; replace BT := kb_ BT hb; replace BV := kb_ BV hb; replace BG := kb_ BG hb; replace HB := hs_ HB hb; have HY1 := Aside0.mk (Kd.R_mono (ok' := fun _ => True) (Kd.R_lower ho0 (bz_ HB0.out)) (fun _ _ => trivial)); have HY2 := Aside0.mk (Kd.R_mono (ok' := fun _ => True) (Kd.R_lower ho1 (bz_ HB0.out)) (fun _ _ => trivial)); obtain ⟨yA1, yc1, rfl⟩ := Kd.R_slice HY1.out; obtain ⟨yA2, yc2, rfl⟩ := Kd.R_slice HY2.out; clear ho0 ho1 hb HB0 HP0 HP1 HP2 X6b; (first | (replace BA := BA) | (obtain ⟨a_0, a_1, a_2, fa_0, fa_1, fa_2⟩ := cz3_ (blk_new wk (.cells #[.int .i64 0, .slice none 0 0, .slice none 0 0] 34 (0, 0))))); obtain ⟨cM_0, cM_1, cM_2, fM_0, fM_1, fM_2⟩ := cz3_ BM.out; obtain ⟨cT_0, cT_1, fT_0, fT_1⟩ := cz2_ BT.out; obtain ⟨cV_0, cV_1, cV_2, fV_0, fV_1, fV_2⟩ := cz3_ BV.out; obtain ⟨cG_0, cG_1, cG_2, fG_0, fG_1, fG_2⟩ := cz3_ BG.out))
  all_goals (go_wp2; go_meet; case rel => first | (replace BA := BA; exact ⟨_, yA1, yA2, yc1, yc2, rfl, ⟨by refine blk_put (cs := #[.int .i64 g0, .slice yA1 g1.length yc1, .slice none 0 0]) ?_ 2 _ rfl; refine blk_put (cs := #[.int .i64 g0, .slice none 0 0, .slice none 0 0]) ?_ 1 _ rfl; refine blk_put (cs := #[.int .i64 0, .slice none 0 0, .slice none 0 0]) ?_ 0 _ rfl; exact BA.out⟩, ⟨rm_ (Kd.R_types HY1.out BA.out (by decide)) (fun _ _ => trivial)⟩, ⟨rm_ (Kd.R_types HY2.out BA.out (by decide)) (fun _ _ => trivial)⟩, ⟨rm_ (Kd.R_types HV1.out BA.out (by decide)) (fun _ _ => trivial)⟩, ⟨rm_ (Kd.R_types HV2.out BA.out (by decide)) (fun _ _ => trivial)⟩, ⟨rm_ (Kd.R_types HG1.out BA.out (by decide)) (fun _ _ => trivial)⟩, ⟨rm_ (Kd.R_types HG2.out BA.out (by decide)) (fun _ _ => trivial)⟩, ⟨bf_ BV.out⟩, ⟨bf_ BG.out⟩, ⟨bb_ HB.out⟩⟩) | exact ⟨_, yA1, yA2, yc1, yc2, rfl, ⟨blk_new wk _⟩, ⟨Kd.R_mono (Kd.R_alloc HY1.out _) (fun _ _ => trivial)⟩, ⟨Kd.R_mono (Kd.R_alloc HY2.out _) (fun _ _ => trivial)⟩, ⟨Kd.R_mono (Kd.R_alloc HV1.out _) (fun _ _ => trivial)⟩, ⟨Kd.R_mono (Kd.R_alloc HV2.out _) (fun _ _ => trivial)⟩, ⟨Kd.R_mono (Kd.R_alloc HG1.out _) (fun _ _ => trivial)⟩, ⟨Kd.R_mono (Kd.R_alloc HG2.out _) (fun _ _ => trivial)⟩, ⟨blk_alloc BV.out _⟩, ⟨blk_alloc BG.out _⟩, ⟨below_alloc HB.out _⟩⟩)
 case rest =>
 clear BM BT BV BG BX0 BX1 HB HV1 HV2 HG1 HG2 cM_0 fM_0 cM_1 fM_1 cM_2 fM_2 cT_0 fT_0 cT_1 fT_1 cV_0 fV_0 cV_1 fV_1 cV_2 fV_2 cX0_0 fX0_0 cX0_1 fX0_1 cX0_2 fX0_2 cX1_0 fX1_0 cX1_1 fX1_1 cG_0 fG_0 cG_1 fG_1 cG_2 fG_2
 obtain ⟨gY, yA1, yA2, yc1, yc2, rfl, BY, HY1, HY2, HV1, HV2, HG1, HG2, BV, BG, HB⟩ := hcut
 obtain ⟨cV_0, cV_1, cV_2, fV_0, fV_1, fV_2⟩ := cz3_ BV.out
 obtain ⟨cG_0, cG_1, cG_2, fG_0, fG_1, fG_2⟩ := cz3_ BG.out
 obtain ⟨cY_0, cY_1, cY_2, fY_0, fY_1, fY_2⟩ := cz3_ BY.out
 go_wp2_with (first | (go_at_call 11; (with_reducible refine (laws_eqVerdict.calls k g0 _ _ g1 _ _ g2 v0 _ _ v1 _ _ v2 true _ ?s1 (Kd.R_reads' HY1.out).2.1 ?s2 (Kd.R_reads' HY2.out).2.1 ?s3 (Kd.R_reads' HV1.out).2.1 ?s4 (Kd.R_reads' HV2.out).2.1 X7c.out).mono ?_); (case s1 => exact rr_ HY1); (case s2 => exact rr_ HY2); (case s3 => exact rr_ HV1); (case s4 => exact rr_ HV2); rintro e wq ⟨rfl, hb⟩; replace HV1 := rb_ HV1 hb; replace HV2 := rb_ HV2 hb; replace HG1 := rb_ HG1 hb; replace HG2 := rb_ HG2 hb; (try clear cV_0 cV_1 cV_2 fV_0 fV_1 fV_2); (try clear cG_0 cG_1 cG_2 fG_0 fG_1 fG_2); replace BV := kb_ BV hb; replace BG := kb_ BG hb; replace HB := hs_ HB hb; clear hb X7c; obtain ⟨cV_0, cV_1, cV_2, fV_0, fV_1, fV_2⟩ := cz3_ BV.out; obtain ⟨cG_0, cG_1, cG_2, fG_0, fG_1, fG_2⟩ := cz3_ BG.out) | (go_at_call 17; (with_reducible refine (heldV_ k g0 gA1 gc1 g1.length h1 gA2 gc2 g2.length h2 1 z _ (ra_ HG1.out) (ra_ HG2.out) Xdb.out).mono ?_); rintro e wh ⟨rfl, hb⟩; replace HB := hs_ HB hb; clear hb Xdb))
 go_ret
 exact ⟨rfl, bb_ HB.out⟩

end Go.Proofs.YtimdefbpoddoaaaGreat.PFnExactCheckClasses
-- thin
