/- The law's functions as plain functions, and their calls. No condition. -/
import Derived.Test.YtimdefbpoddoaaaGreatPFnVerdictsx0
import Derived.Test.YtimdefbpoddoaaaGreatPFnVerdictsx2
import Derived.Test.YtimdefbpoddoaaaGreatPFnVerdictsx3
import Derived.Test.YtimdefbpoddoaaaGreatPFnVerdictsx4
namespace Go.Proofs.YtimdefbpoddoaaaGreat.PFnVerdicts
open Go.RowKit Go.Proofs.YtimdefbpoddoaaaGreatW.PrintWords Go.Proofs.YtimdefbpoddoaaaGreatW.PrintLast Go.Proofs.YtimdefbpoddoaaaGreatW.PrintMore
attribute [local go_sem] max2_int min2_int max_two min_two max_three min_three max_four min_four
set_option linter.unusedVariables false
set_option maxHeartbeats 8000000
set_option maxRecDepth 100000
set_option linter.unusedSimpArgs false

/-! ### spec_l04Any: function 43 -/
def spec_l04Any.f (k : Nat) (s0_0 : List Int) (s0_1 : Int) (s0_2 : Int) : Option (Int × Int × List Int × List Int × Int × Int) := (spec_l04Case.f k s0_0 s0_1 s0_2).bind fun bt248 => ((spec_l01Below.f s0_0 bt248.2.2.2.2.1 bt248.2.2.2.2.2 12).bind fun bt260 => (if bt260.1 = 0 then ((spec_l03Any.f k s0_0 bt260.2.1 bt260.2.2).bind fun bt263 => (some (bt263.1, bt263.2.1, bt263.2.2.1, bt248.2.2.2.1, bt263.2.2.2.1, bt263.2.2.2.2))) else (if bt260.1 = 1 then (if 1 ≤ (bt248.2.2.2.1.length : Int) then (some (bt248.1, bt248.2.1, bt248.2.2.1, (bt248.2.2.2.1.drop (1 : Int).toNat), bt260.2.1, bt260.2.2)) else (none)) else (if bt260.1 = 2 then ((spec_l01Below.f s0_0 bt260.2.1 bt260.2.2 (bt248.2.2.2.1.length : Int)).bind fun bt273 => ((spec_l01Below.f s0_0 bt273.2.1 bt273.2.2 7).bind fun bt276 => (if 0 ≤ bt273.1 then (if bt273.1 < (bt248.2.2.2.1.length : Int) then (some (bt248.1, bt248.2.1, bt248.2.2.1, (bt248.2.2.2.1.set (bt273.1 : Int).toNat (wrap64 (bt276.1 - 1))), bt276.2.1, bt276.2.2)) else (none)) else (none)))) else (some (bt248.1, bt248.2.1, bt248.2.2.1, bt248.2.2.2.1, bt260.2.1, bt260.2.2))))))
theorem spec_l04Any.mono : ∀ a0 a1 a2 k, LeO (spec_l04Any.f k a0 a1 a2) (spec_l04Any.f (k + 1) a0 a1 a2) := by
 intro a0 a1 a2 k
 unfold spec_l04Any.f
 repeat' (with_reducible first | exact spec_l03Any.mono .. | exact spec_l04Case.mono .. | exact LeO.refl .. | exact LeO.none .. | refine LeO.ite ?_ ?_ | refine LeO.bind ?_ (fun _ => ?_))
theorem spec_l04Any.calls (k : Nat) (g : Nat) (s0_0 : List Int) (s0_1 : Int) (s0_2 : Int) (r1 : Int) (r2 : Int) (r3 : List Int) (r4 : List Int) (r5 : Int) (r6 : Int) (w0 w : World) (hI : IsS95 w0 w g s0_0 s0_1 s0_2) (hB : Below w0.heap.size w0 w) (h : spec_l04Any.f k s0_0 s0_1 s0_2 = some (r1, r2, r3, r4, r5, r6)) :
  Calls Tryz.prog 43 #[.pointer (some ⟨g, 0, none⟩)] w fun e w' => ∃ v2_ v3_ : Value, e = .returned (.tuple #[.agg #[.int .i64 r1, .int .i64 r2, v2_], .agg #[v3_]]) ∧ Kd.R (Kd.int .i64) 3 w' w.heap.size (fun k_ => some k_ ≠ (v3_ : Value).ownBlock) v2_ r3 ∧ Kd.Q (Kd.int .i64) 3 w' w.heap.size (fun k_ => some k_ ≠ (v2_ : Value).ownBlock) v3_ r4 ∧ IsS95 w0 w' g s0_0 r5 r6 ∧ Below w0.heap.size w0 w' ∧ KeepBut w w' g none := by
 have HG := Aside0.mk hI.lt
 have HC := Aside0.mk (Cu.mk hI hB (KeepBut.refl w g none))
 clear hI hB
 have hu36 := Tryz.underlying36
 have hu38 := Tryz.underlying38
 have hu40 := Tryz.underlying40
 unfold spec_l04Any.f at h
 obtain ⟨⟨m1, m2, m3, ps, i1, j1⟩, e1, G_⟩ := Option.bind_eq_some_iff.1 h
 clear h; have h := G_; clear G_
 obtain ⟨⟨t3, i2, j2⟩, e2, G_⟩ := Option.bind_eq_some_iff.1 h
 clear h; have h := G_; clear G_
 dsimp only at e2 h
 have E1 := Aside0.mk e1; have E2 := Aside0.mk e2; have H' := Aside0.mk h; clear e1 e2 h
 go_enter Tryz.func43, Tryz.ntmps43
 go_upto_region 2 with (first | ((with_reducible refine gate_dst (N := 2) rfl ?_); refine box_event ?hg (N := 2) ?hd (cs := #[.int .i64 0, .int .i64 0, .slice none 0 0]) (t := 38) ?hr ?_; (case hd => rfl); (case hg => rfl); (case hr => first | (go_simp; done) | (go_simp; rfl)); intro g2 hg w1 hbox hb; have B2_ := Aside0.mk hbox; have G2 := Aside0.mk (show w.heap.size ≤ g2 by rw [hg]; exact (cu_ HC.out).k.1); skip; have B2 := B2_; clear B2_; replace HC := Aside0.mk ((cu_ HC.out).below hb); clear hb hbox hg) | ((with_reducible refine gate_dst (N := 3) rfl ?_); refine box_event ?hg (N := 3) ?hd (cs := #[.slice none 0 0]) (t := 40) ?hr ?_; (case hd => rfl); (case hg => rfl); (case hr => first | (go_simp; done) | (go_simp; rfl)); intro g3 hg w1 hbox hb; have B3_ := Aside0.mk hbox; have G3 := Aside0.mk (show w.heap.size ≤ g3 by rw [hg]; exact (cu_ HC.out).k.1); have N23 := Aside0.mk (show g2 ≠ g3 by rw [hg]; exact Nat.ne_of_lt (bl_ B2.out)); replace B2 := Aside0.mk (bk_ B2.out hb); have B3 := B3_; clear B3_; replace HC := Aside0.mk ((cu_ HC.out).below hb); clear hb hbox hg) | (go_at_call 68; (with_reducible refine (spec_l04Case.calls k g s0_0 s0_1 s0_2  m1 m2 m3 ps i1 j1 w0 _ ?s1 ?s2  E1.out).mono ?_); (case s1 => exact (cu_ HC.out).s); (case s2 => exact (cu_ HC.out).bl); rintro e wa ⟨v_, v1_, rfl, ho, ho1, hs, hb, hk⟩; have HM := Aside0.mk (Kd.R_lower ho (cu_ HC.out).k.1); have HP := Aside0.mk (Kd.R_lower ho1 (cu_ HC.out).k.1); obtain ⟨Am, cm, e_⟩ := Kd.R_slice ho; subst e_; obtain ⟨Ap, cp, e_⟩ := Kd.R_slice ho1; subst e_; clear ho ho1; replace B2 := Aside0.mk (Cu.blk HG.out G2.out (bq_ B2.out) hk); replace B3 := Aside0.mk (Cu.blk HG.out G3.out (bq_ B3.out) hk); replace HC := Aside0.mk ((cu_ HC.out).step hs hb hk); clear hs hb hk) | ((with_reducible refine gate_dst (N := 4) rfl ?_); refine box_event ?hg (N := 4) ?hd (cs := #[.int .i64 0, .int .i64 0, .slice none 0 0]) (t := 38) ?hr ?_; (case hd => rfl); (case hg => rfl); (case hr => first | (go_simp; done) | (go_simp; rfl)); intro g4 hg w1 hbox hb; have B4_ := Aside0.mk hbox; have G4 := Aside0.mk (show w.heap.size ≤ g4 by rw [hg]; exact (cu_ HC.out).k.1); have N24 := Aside0.mk (show g2 ≠ g4 by rw [hg]; exact Nat.ne_of_lt (bl_ B2.out)); have N34 := Aside0.mk (show g3 ≠ g4 by rw [hg]; exact Nat.ne_of_lt (bl_ B3.out)); replace B2 := Aside0.mk (bk_ B2.out hb); replace B3 := Aside0.mk (bk_ B3.out hb); replace HM := Aside0.mk (Kd.R_below (ra_ HM.out) hb); replace HP := Aside0.mk (Kd.R_below (ra_ HP.out) hb); have B4 := B4_; clear B4_; replace HC := Aside0.mk ((cu_ HC.out).below hb); clear hb hbox hg) | ((with_reducible refine gate_dst (N := 5) rfl ?_); refine box_event ?hg (N := 5) ?hd (cs := #[.slice none 0 0]) (t := 40) ?hr ?_; (case hd => rfl); (case hg => rfl); (case hr => first | (go_simp; done) | (go_simp; rfl)); intro g5 hg w1 hbox hb; have B5_ := Aside0.mk hbox; have G5 := Aside0.mk (show w.heap.size ≤ g5 by rw [hg]; exact (cu_ HC.out).k.1); have N25 := Aside0.mk (show g2 ≠ g5 by rw [hg]; exact Nat.ne_of_lt (bl_ B2.out)); have N35 := Aside0.mk (show g3 ≠ g5 by rw [hg]; exact Nat.ne_of_lt (bl_ B3.out)); have N45 := Aside0.mk (show g4 ≠ g5 by rw [hg]; exact Nat.ne_of_lt (bl_ B4.out)); replace B2 := Aside0.mk (bk_ B2.out hb); replace B3 := Aside0.mk (bk_ B3.out hb); replace B4 := Aside0.mk (bk_ B4.out hb); replace HM := Aside0.mk (Kd.R_below (ra_ HM.out) hb); replace HP := Aside0.mk (Kd.R_below (ra_ HP.out) hb); have B5 := B5_; clear B5_; replace HC := Aside0.mk ((cu_ HC.out).below hb); clear hb hbox hg; have ne1_ := N45.out; have ne2_ := N45.out.symm; obtain ⟨y0, y1, y2, yf0, yf1, yf2⟩ := cz3_ B4.out; obtain ⟨x0, xf0⟩ := cz1_ B5.out))
 clear y0 y1 y2 yf0 yf1 yf2
 clear x0 xf0 ne1_ ne2_
 change Code.wp _ _ _ _ ((st3_ _ g4 (.int .i64 m1) (.int .i64 m2) (.slice Am m3.length cm)).setCell ⟨g5, 0, none⟩ (.slice Ap ps.length cp))
 replace HM := Aside0.mk (st3_row HM.out B4.out (by decide) : Kd.R _ _ (st3_ _ g4 (.int .i64 m1) (.int .i64 m2) (.slice Am m3.length cm)) _ _ _ _)
 replace HP := Aside0.mk (st3_row HP.out B4.out (by decide) : Kd.R _ _ (st3_ _ g4 (.int .i64 m1) (.int .i64 m2) (.slice Am m3.length cm)) _ _ _ _)
 replace B2 := Aside0.mk ((st3_far N24.out : (st3_ _ g4 (.int .i64 m1) (.int .i64 m2) (.slice Am m3.length cm)).heap[g2]? = _).trans B2.out)
 replace B3 := Aside0.mk ((st3_far N34.out : (st3_ _ g4 (.int .i64 m1) (.int .i64 m2) (.slice Am m3.length cm)).heap[g3]? = _).trans B3.out)
 replace B5 := Aside0.mk ((st3_far N45.out.symm : (st3_ _ g4 (.int .i64 m1) (.int .i64 m2) (.slice Am m3.length cm)).heap[g5]? = _).trans B5.out)
 replace HC := Aside0.mk (st3_cu HC.out G4.out HG.out : Cu w0 w (st3_ _ g4 (.int .i64 m1) (.int .i64 m2) (.slice Am m3.length cm)) g s0_0 _ _)
 replace B4 := Aside0.mk (st3_blk B4.out : (st3_ _ g4 (.int .i64 m1) (.int .i64 m2) (.slice Am m3.length cm)).heap[g4]? = _)
 generalize st3_ _ g4 (.int .i64 m1) (.int .i64 m2) (.slice Am m3.length cm) = wx at *
 replace HM := Aside0.mk (Kd.R_mono (Kd.R_far (p := ⟨g5, 0, none⟩) (Kd.R_types HM.out B5.out (by decide)) (fun _ hk => hk.2) (.slice Ap ps.length cp)) (fun _ hk => hk.1))
 replace HP := Aside0.mk (Kd.R_mono (Kd.R_far (p := ⟨g5, 0, none⟩) (Kd.R_types HP.out B5.out (by decide)) (fun _ hk => hk.2) (.slice Ap ps.length cp)) (fun _ hk => hk.1))
 replace B2 := Aside0.mk ((Below.heap_setCell _ _ _ _ N25.out : (wx.setCell ⟨g5, 0, none⟩ (.slice Ap ps.length cp)).heap[g2]? = _).trans B2.out)
 replace B3 := Aside0.mk ((Below.heap_setCell _ _ _ _ N35.out : (wx.setCell ⟨g5, 0, none⟩ (.slice Ap ps.length cp)).heap[g3]? = _).trans B3.out)
 replace B4 := Aside0.mk ((Below.heap_setCell _ _ _ _ N45.out : (wx.setCell ⟨g5, 0, none⟩ (.slice Ap ps.length cp)).heap[g4]? = _).trans B4.out)
 replace B5 := Aside0.mk (blk_put B5.out 0 (.slice Ap ps.length cp) rfl : (wx.setCell ⟨g5, 0, none⟩ (.slice Ap ps.length cp)).heap[g5]? = _)
 replace HC := Aside0.mk (Cu.far HC.out G5.out HG.out _ : Cu w0 w (wx.setCell ⟨g5, 0, none⟩ (.slice Ap ps.length cp)) g s0_0 _ _)
 generalize wx.setCell ⟨g5, 0, none⟩ (.slice Ap ps.length cp) = wb at *
 go_upto_region 3 with (first | (go_at_call 69; (with_reducible refine (spec_l01Below.calls  g s0_0 i1 j1 12 t3 i2 j2 w0 _ ?s1 ?s2  E2.out).mono ?_); (case s1 => exact (cu_ HC.out).s); (case s2 => exact (cu_ HC.out).bl); rintro e wc ⟨rfl, hs, hb, hk⟩; replace B2 := Aside0.mk (Cu.blk HG.out G2.out (bq_ B2.out) hk); replace B3 := Aside0.mk (Cu.blk HG.out G3.out (bq_ B3.out) hk); replace B4 := Aside0.mk (Cu.blk HG.out G4.out (bq_ B4.out) hk); replace B5 := Aside0.mk (Cu.blk HG.out G5.out (bq_ B5.out) hk); replace HM := Aside0.mk (Cu.row HG.out (ra_ HM.out) hk); replace HP := Aside0.mk (Cu.row HG.out (ra_ HP.out) hk); replace HC := Aside0.mk ((cu_ HC.out).step hs hb hk); clear hs hb hk))
 by_cases c0 : t3 = 0
 · have H := H'.out; rw [if_pos c0] at H; have c0b : (t3 == 0) = true := beq_iff_eq.mpr c0; clear H' c0
   obtain ⟨⟨a1, a2, a3, i3, j3⟩, e3, G_⟩ := Option.bind_eq_some_iff.1 H
   have E3 := Aside0.mk e3; clear e3 H
   simp only [Option.some.injEq, Prod.mk.injEq] at G_
   obtain ⟨rfl, rfl, rfl, rfl, rfl, rfl⟩ := G_
   clear HM
   go_upto_region 9 with (first | (go_at_call 70; (with_reducible refine (spec_l03Any.calls k g s0_0 i2 j2  a1 a2 a3 i3 j3 w0 _ ?s1 ?s2  E3.out).mono ?_); (case s1 => exact (cu_ HC.out).s); (case s2 => exact (cu_ HC.out).bl); rintro e wd ⟨v_, rfl, ho, hs, hb, hk⟩; have HM := Aside0.mk (Kd.R_lower (Kd.R_mono (ok' := fun k_ => wc.heap.size ≤ k_) (Kd.R_bound ho) (fun k_ h_ => h_.2.1)) (cu_ HC.out).k.1); obtain ⟨Aa, ca, e_⟩ := Kd.R_slice ho; subst e_; clear ho; replace HP := Aside0.mk (Kd.R_mono (ok' := fun k_ => k_ < wc.heap.size) (Kd.R_bound HP.out) (fun k_ h_ => h_.2.2.1)); replace B2 := Aside0.mk (Cu.blk HG.out G2.out (bq_ B2.out) hk); replace B3 := Aside0.mk (Cu.blk HG.out G3.out (bq_ B3.out) hk); replace B4 := Aside0.mk (Cu.blk HG.out G4.out (bq_ B4.out) hk); replace B5 := Aside0.mk (Cu.blk HG.out G5.out (bq_ B5.out) hk); replace HP := Aside0.mk (Cu.row HG.out (ra_ HP.out) hk); replace HC := Aside0.mk ((cu_ HC.out).step hs hb hk); clear hs hb hk; obtain ⟨y0, y1, y2, yf0, yf1, yf2⟩ := cz3_ B4.out))
   clear y0 y1 y2 yf0 yf1 yf2
   change Code.wp _ _ _ _ (st3_ _ g4 (.int .i64 a1) (.int .i64 a2) (.slice Aa a3.length ca))
   replace HM := Aside0.mk (st3_row HM.out B4.out (by decide) : Kd.R _ _ (st3_ _ g4 (.int .i64 a1) (.int .i64 a2) (.slice Aa a3.length ca)) _ _ _ _)
   replace HP := Aside0.mk (st3_row HP.out B4.out (by decide) : Kd.R _ _ (st3_ _ g4 (.int .i64 a1) (.int .i64 a2) (.slice Aa a3.length ca)) _ _ _ _)
   replace B2 := Aside0.mk ((st3_far N24.out : (st3_ _ g4 (.int .i64 a1) (.int .i64 a2) (.slice Aa a3.length ca)).heap[g2]? = _).trans B2.out)
   replace B3 := Aside0.mk ((st3_far N34.out : (st3_ _ g4 (.int .i64 a1) (.int .i64 a2) (.slice Aa a3.length ca)).heap[g3]? = _).trans B3.out)
   replace B5 := Aside0.mk ((st3_far N45.out.symm : (st3_ _ g4 (.int .i64 a1) (.int .i64 a2) (.slice Aa a3.length ca)).heap[g5]? = _).trans B5.out)
   replace HC := Aside0.mk (st3_cu HC.out G4.out HG.out : Cu w0 w (st3_ _ g4 (.int .i64 a1) (.int .i64 a2) (.slice Aa a3.length ca)) g s0_0 _ _)
   replace B4 := Aside0.mk (st3_blk B4.out : (st3_ _ g4 (.int .i64 a1) (.int .i64 a2) (.slice Aa a3.length ca)).heap[g4]? = _)
   generalize st3_ _ g4 (.int .i64 a1) (.int .i64 a2) (.slice Aa a3.length ca) = we at *
   have q1 : ∀ k_, wc.heap.size ≤ k_ → some k_ ≠ (.slice Ap ps.length cp : Value).ownBlock := fun k_ a_ b_ => absurd (HP.out.1 k_ b_.symm) (Nat.not_lt.2 a_)
   have q2 : ∀ k_, k_ < wc.heap.size → some k_ ≠ (.slice Aa a3.length ca : Value).ownBlock := fun k_ a_ b_ => absurd a_ (Nat.not_lt.2 (HM.out.1 k_ b_.symm))
   replace HM := Aside0.mk (Kd.R_mono HM.out q1)
   replace HP := Aside0.mk (Kd.R_mono HP.out q2)
   clear q1 q2
   refine start_ (n := 4) (S := fun w' => w'.cell? ⟨g4, 0, none⟩ = some (.int .i64 a1) ∧ w'.cell? ⟨g4, 1, none⟩ = some (.int .i64 a2) ∧ w'.cell? ⟨g4, 2, none⟩ = some (.slice Aa a3.length ca) ∧ w'.cell? ⟨g5, 0, none⟩ = some (.slice Ap ps.length cp)) (ds := []) #[false, false, false, false] (by kernel_rfl) rfl rfl ⟨(blk_cell B4.out 0).trans rfl, (blk_cell B4.out 1).trans rfl, (blk_cell B4.out 2).trans rfl, (blk_cell B5.out 0).trans rfl⟩ (fun hHeld => ?_)
   replace B2 := Aside0.mk (bq_ B2.out : we.drew.heap[g2]? = _)
   replace B3 := Aside0.mk (bq_ B3.out : we.drew.heap[g3]? = _)
   replace B4 := Aside0.mk (bq_ B4.out : we.drew.heap[g4]? = _)
   replace B5 := Aside0.mk (bq_ B5.out : we.drew.heap[g5]? = _)
   replace HM := Aside0.mk (Kd.R_drew HM.out)
   replace HP := Aside0.mk (Kd.R_drew HP.out)
   replace HC := Aside0.mk (Cu.drew HC.out)
   generalize we.drew = wp at *
   refine tk_ (v := .agg #[.int .i64 a1, .int .i64 a2, .slice Aa a3.length ca]) 0 36 (bt_ 4 1) hHeld ?_ (hy := by rintro w' ⟨s0, s1, s2, s3⟩; go_simp)
   refine tk_ (v := .agg #[.slice Ap ps.length cp]) 1 37 (bt_ 4 3) hHeld ?_ (hy := by rintro w' ⟨s0, s1, s2, s3⟩; go_simp)
   clear hHeld
   refine one_ (i := 2) (N := none) (bt_ 4 7) rfl rfl (by kernel_rfl) (by decide) (fun K hK => ?_)
   obtain ⟨z0, z1, z2, zf0, zf1, zf2⟩ := cz3_ B2.out
   refine skip_ (w1 := ?_) (by rfl) rfl ?_ ?_
   rotate_left
   · go_simp
     rfl
   clear z0 z1 z2 zf0 zf1 zf2
   change K _ (st3_ _ g2 (.int .i64 a1) (.int .i64 a2) (.slice Aa a3.length ca))
   replace HM := Aside0.mk (st3_row HM.out B2.out (by decide) : Kd.R _ _ (st3_ _ g2 (.int .i64 a1) (.int .i64 a2) (.slice Aa a3.length ca)) _ _ _ _)
   replace HP := Aside0.mk (st3_row HP.out B2.out (by decide) : Kd.R _ _ (st3_ _ g2 (.int .i64 a1) (.int .i64 a2) (.slice Aa a3.length ca)) _ _ _ _)
   replace B3 := Aside0.mk ((st3_far N23.out.symm : (st3_ _ g2 (.int .i64 a1) (.int .i64 a2) (.slice Aa a3.length ca)).heap[g3]? = _).trans B3.out)
   replace B4 := Aside0.mk ((st3_far N24.out.symm : (st3_ _ g2 (.int .i64 a1) (.int .i64 a2) (.slice Aa a3.length ca)).heap[g4]? = _).trans B4.out)
   replace B5 := Aside0.mk ((st3_far N25.out.symm : (st3_ _ g2 (.int .i64 a1) (.int .i64 a2) (.slice Aa a3.length ca)).heap[g5]? = _).trans B5.out)
   replace HC := Aside0.mk (st3_cu HC.out G2.out HG.out : Cu w0 w (st3_ _ g2 (.int .i64 a1) (.int .i64 a2) (.slice Aa a3.length ca)) g s0_0 _ _)
   replace B2 := Aside0.mk (st3_blk B2.out : (st3_ _ g2 (.int .i64 a1) (.int .i64 a2) (.slice Aa a3.length ca)).heap[g2]? = _)
   generalize st3_ _ g2 (.int .i64 a1) (.int .i64 a2) (.slice Aa a3.length ca) = wq at *
   refine hK.out _ _ ⟨(blk_cell B4.out 0).trans rfl, (blk_cell B4.out 1).trans rfl, (blk_cell B4.out 2).trans rfl, (blk_cell B5.out 0).trans rfl⟩ (fun hHeld => ?_)
   clear hK K
   refine one_ (i := 3) (N := none) (bt_ 4 15) rfl rfl (by kernel_rfl) (by decide) (fun K hK => ?_)
   obtain ⟨z0, zf0⟩ := cz1_ B3.out
   refine skip_ (w1 := ?_) (by rfl) rfl ?_ ?_
   rotate_left
   · go_simp
     rfl
   clear z0 zf0
   replace HM := Aside0.mk (Kd.R_mono (Kd.R_far (p := ⟨g3, 0, none⟩) (Kd.R_types HM.out B3.out (by decide)) (fun _ hk => hk.2) (.slice Ap ps.length cp)) (fun _ hk => hk.1))
   replace HP := Aside0.mk (Kd.R_mono (Kd.R_far (p := ⟨g3, 0, none⟩) (Kd.R_types HP.out B3.out (by decide)) (fun _ hk => hk.2) (.slice Ap ps.length cp)) (fun _ hk => hk.1))
   replace B2 := Aside0.mk ((Below.heap_setCell _ _ _ _ N23.out : (wq.setCell ⟨g3, 0, none⟩ (.slice Ap ps.length cp)).heap[g2]? = _).trans B2.out)
   replace B4 := Aside0.mk ((Below.heap_setCell _ _ _ _ N34.out.symm : (wq.setCell ⟨g3, 0, none⟩ (.slice Ap ps.length cp)).heap[g4]? = _).trans B4.out)
   replace B5 := Aside0.mk ((Below.heap_setCell _ _ _ _ N35.out.symm : (wq.setCell ⟨g3, 0, none⟩ (.slice Ap ps.length cp)).heap[g5]? = _).trans B5.out)
   replace B3 := Aside0.mk (blk_put B3.out 0 (.slice Ap ps.length cp) rfl : (wq.setCell ⟨g3, 0, none⟩ (.slice Ap ps.length cp)).heap[g3]? = _)
   replace HC := Aside0.mk (Cu.far HC.out G3.out HG.out _ : Cu w0 w (wq.setCell ⟨g3, 0, none⟩ (.slice Ap ps.length cp)) g s0_0 _ _)
   generalize wq.setCell ⟨g3, 0, none⟩ (.slice Ap ps.length cp) = wr at *
   refine hK.out _ _ ⟨(blk_cell B4.out 0).trans rfl, (blk_cell B4.out 1).trans rfl, (blk_cell B4.out 2).trans rfl, (blk_cell B5.out 0).trans rfl⟩ (fun hHeld => ?_)
   clear hK K hHeld
   refine done_ (by kernel_rfl) ?_
   try go_wp2
   refine bodyPost_ret (results_cc rfl _ _ g2 g3 38 40 _ _ (0, 0) (0, 0) _ _ rfl (bq_ B2.out) Tryz.underlying38 rfl (by kernel_rfl) rfl (bq_ B3.out) Tryz.underlying40 rfl (by kernel_rfl)) rfl ?_
   exact ⟨_, _, rfl, Kd.R_drewN HM.out 0, Kd.Q_of_R (Kd.R_drewN HP.out 0), (cu_ HC.out).s, (cu_ HC.out).bl, (cu_ HC.out).k⟩
 · have c0b : (t3 == 0) = false := beq_eq_false_iff_ne.mpr c0
   by_cases c1 : t3 = 1
   · have H := H'.out; rw [if_neg c0, if_pos c1] at H; have c1b : (t3 == 1) = true := beq_iff_eq.mpr c1; clear H' c0 c1
     by_cases c2 : 1 ≤ (ps.length : Int)
     rotate_left
     · rw [if_neg c2] at H; cases H
     rw [if_pos c2] at H
     obtain ⟨pd, hd⟩ : ∃ y_ : List Int, y_ = ps.drop (1 : Int).toNat := ⟨_, rfl⟩
     rw [← hd] at H
     simp only [Option.some.injEq, Prod.mk.injEq] at H
     obtain ⟨rfl, rfl, rfl, rfl, rfl, rfl⟩ := H
     obtain ⟨x0, xf0⟩ := cz1_ B5.out
     obtain ⟨i0_, hi_, _, hz_, _⟩ := info_parts info3
     have hcut := cut_from (P := Tryz.prog) 24 3 .i64 Tryz.underlying24 hi_ 1 hz_ Ap ps.length cp 1 (by omega) c2
     have hr := Kd.Q_drop (k := (1 : Int).toNat) (Kd.Q_of_R HP.out) (by omega)
     obtain ⟨A5, hA5⟩ : ∃ A1, A1 = (if cp = (1 : Int).toNat then Ap else (Ap : Option Addr).map (·.add ((1 : Int).toNat * 1))) := ⟨_, rfl⟩
     obtain ⟨c5, hc5⟩ : ∃ c1, c1 = cp - (1 : Int).toNat := ⟨_, rfl⟩
     have hy : pd.length = ps.length - (1 : Int).toNat := (by rw [hd, List.length_drop])
     rw [← hd] at hr
     rw [← hy, ← hA5, ← hc5] at hcut
     replace hr : Kd.Q (Kd.int .i64) 3 wc w.heap.size _ (.slice A5 pd.length c5) pd := (by rw [hA5, hc5, hy]; exact hr)
     have hE : (Value.slice A5 pd.length c5).ownBlock = (.slice Ap ps.length cp : Value).ownBlock := (by rw [hA5]; split <;> (cases (Ap : Option Addr) <;> rfl))
     clear hy hi_ hz_ HP hA5 hc5
     have HP := Aside0.mk hr
     clear hr
     replace HM := Aside0.mk (Kd.R_mono (ok' := fun k_ => some k_ ≠ (.slice A5 pd.length c5 : Value).ownBlock) HM.out (fun k_ hk => (by rw [hE]; exact hk)))
     clear hE hd
     replace c2 := eq_true c2
     go_upto_region 9 with fail
     clear x0 xf0 hcut
     replace HM := Aside0.mk (Kd.R_mono (Kd.R_far (p := ⟨g5, 0, none⟩) (Kd.R_types HM.out B5.out (by decide)) (fun _ hk => hk.2) (.slice A5 pd.length c5)) (fun _ hk => hk.1))
     replace HP := Aside0.mk (Kd.Q_mono (Kd.Q_far (p := ⟨g5, 0, none⟩) (Kd.Q_types HP.out B5.out (by decide)) (fun _ hk => hk.2) (.slice A5 pd.length c5)) (fun _ hk => hk.1))
     replace B2 := Aside0.mk ((Below.heap_setCell _ _ _ _ N25.out : (wc.setCell ⟨g5, 0, none⟩ (.slice A5 pd.length c5)).heap[g2]? = _).trans B2.out)
     replace B3 := Aside0.mk ((Below.heap_setCell _ _ _ _ N35.out : (wc.setCell ⟨g5, 0, none⟩ (.slice A5 pd.length c5)).heap[g3]? = _).trans B3.out)
     replace B4 := Aside0.mk ((Below.heap_setCell _ _ _ _ N45.out : (wc.setCell ⟨g5, 0, none⟩ (.slice A5 pd.length c5)).heap[g4]? = _).trans B4.out)
     replace B5 := Aside0.mk (blk_put B5.out 0 (.slice A5 pd.length c5) rfl : (wc.setCell ⟨g5, 0, none⟩ (.slice A5 pd.length c5)).heap[g5]? = _)
     replace HC := Aside0.mk (Cu.far HC.out G5.out HG.out _ : Cu w0 w (wc.setCell ⟨g5, 0, none⟩ (.slice A5 pd.length c5)) g s0_0 _ _)
     generalize wc.setCell ⟨g5, 0, none⟩ (.slice A5 pd.length c5) = we at *
     refine start_ (n := 4) (S := fun w' => w'.cell? ⟨g4, 0, none⟩ = some (.int .i64 m1) ∧ w'.cell? ⟨g4, 1, none⟩ = some (.int .i64 m2) ∧ w'.cell? ⟨g4, 2, none⟩ = some (.slice Am m3.length cm) ∧ w'.cell? ⟨g5, 0, none⟩ = some (.slice A5 pd.length c5)) (ds := []) #[false, false, false, false] (by kernel_rfl) rfl rfl ⟨(blk_cell B4.out 0).trans rfl, (blk_cell B4.out 1).trans rfl, (blk_cell B4.out 2).trans rfl, (blk_cell B5.out 0).trans rfl⟩ (fun hHeld => ?_)
     replace B2 := Aside0.mk (bq_ B2.out : we.drew.heap[g2]? = _)
     replace B3 := Aside0.mk (bq_ B3.out : we.drew.heap[g3]? = _)
     replace B4 := Aside0.mk (bq_ B4.out : we.drew.heap[g4]? = _)
     replace B5 := Aside0.mk (bq_ B5.out : we.drew.heap[g5]? = _)
     replace HM := Aside0.mk (Kd.R_drew HM.out)
     replace HP := Aside0.mk (Kd.Q_drew HP.out)
     replace HC := Aside0.mk (Cu.drew HC.out)
     generalize we.drew = wp at *
     refine tk_ (v := .agg #[.int .i64 m1, .int .i64 m2, .slice Am m3.length cm]) 0 36 (bt_ 4 1) hHeld ?_ (hy := by rintro w' ⟨s0, s1, s2, s3⟩; go_simp)
     refine tk_ (v := .agg #[.slice A5 pd.length c5]) 1 37 (bt_ 4 3) hHeld ?_ (hy := by rintro w' ⟨s0, s1, s2, s3⟩; go_simp)
     clear hHeld
     refine one_ (i := 2) (N := none) (bt_ 4 7) rfl rfl (by kernel_rfl) (by decide) (fun K hK => ?_)
     obtain ⟨z0, z1, z2, zf0, zf1, zf2⟩ := cz3_ B2.out
     refine skip_ (w1 := ?_) (by rfl) rfl ?_ ?_
     rotate_left
     · go_simp
       rfl
     clear z0 z1 z2 zf0 zf1 zf2
     change K _ (st3_ _ g2 (.int .i64 m1) (.int .i64 m2) (.slice Am m3.length cm))
     replace HM := Aside0.mk (st3_row HM.out B2.out (by decide) : Kd.R _ _ (st3_ _ g2 (.int .i64 m1) (.int .i64 m2) (.slice Am m3.length cm)) _ _ _ _)
     replace HP := Aside0.mk (st3_rowQ HP.out B2.out (by decide) : Kd.Q _ _ (st3_ _ g2 (.int .i64 m1) (.int .i64 m2) (.slice Am m3.length cm)) _ _ _ _)
     replace B3 := Aside0.mk ((st3_far N23.out.symm : (st3_ _ g2 (.int .i64 m1) (.int .i64 m2) (.slice Am m3.length cm)).heap[g3]? = _).trans B3.out)
     replace B4 := Aside0.mk ((st3_far N24.out.symm : (st3_ _ g2 (.int .i64 m1) (.int .i64 m2) (.slice Am m3.length cm)).heap[g4]? = _).trans B4.out)
     replace B5 := Aside0.mk ((st3_far N25.out.symm : (st3_ _ g2 (.int .i64 m1) (.int .i64 m2) (.slice Am m3.length cm)).heap[g5]? = _).trans B5.out)
     replace HC := Aside0.mk (st3_cu HC.out G2.out HG.out : Cu w0 w (st3_ _ g2 (.int .i64 m1) (.int .i64 m2) (.slice Am m3.length cm)) g s0_0 _ _)
     replace B2 := Aside0.mk (st3_blk B2.out : (st3_ _ g2 (.int .i64 m1) (.int .i64 m2) (.slice Am m3.length cm)).heap[g2]? = _)
     generalize st3_ _ g2 (.int .i64 m1) (.int .i64 m2) (.slice Am m3.length cm) = wq at *
     refine hK.out _ _ ⟨(blk_cell B4.out 0).trans rfl, (blk_cell B4.out 1).trans rfl, (blk_cell B4.out 2).trans rfl, (blk_cell B5.out 0).trans rfl⟩ (fun hHeld => ?_)
     clear hK K
     refine one_ (i := 3) (N := none) (bt_ 4 15) rfl rfl (by kernel_rfl) (by decide) (fun K hK => ?_)
     obtain ⟨z0, zf0⟩ := cz1_ B3.out
     refine skip_ (w1 := ?_) (by rfl) rfl ?_ ?_
     rotate_left
     · go_simp
       rfl
     clear z0 zf0
     replace HM := Aside0.mk (Kd.R_mono (Kd.R_far (p := ⟨g3, 0, none⟩) (Kd.R_types HM.out B3.out (by decide)) (fun _ hk => hk.2) (.slice A5 pd.length c5)) (fun _ hk => hk.1))
     replace HP := Aside0.mk (Kd.Q_mono (Kd.Q_far (p := ⟨g3, 0, none⟩) (Kd.Q_types HP.out B3.out (by decide)) (fun _ hk => hk.2) (.slice A5 pd.length c5)) (fun _ hk => hk.1))
     replace B2 := Aside0.mk ((Below.heap_setCell _ _ _ _ N23.out : (wq.setCell ⟨g3, 0, none⟩ (.slice A5 pd.length c5)).heap[g2]? = _).trans B2.out)
     replace B4 := Aside0.mk ((Below.heap_setCell _ _ _ _ N34.out.symm : (wq.setCell ⟨g3, 0, none⟩ (.slice A5 pd.length c5)).heap[g4]? = _).trans B4.out)
     replace B5 := Aside0.mk ((Below.heap_setCell _ _ _ _ N35.out.symm : (wq.setCell ⟨g3, 0, none⟩ (.slice A5 pd.length c5)).heap[g5]? = _).trans B5.out)
     replace B3 := Aside0.mk (blk_put B3.out 0 (.slice A5 pd.length c5) rfl : (wq.setCell ⟨g3, 0, none⟩ (.slice A5 pd.length c5)).heap[g3]? = _)
     replace HC := Aside0.mk (Cu.far HC.out G3.out HG.out _ : Cu w0 w (wq.setCell ⟨g3, 0, none⟩ (.slice A5 pd.length c5)) g s0_0 _ _)
     generalize wq.setCell ⟨g3, 0, none⟩ (.slice A5 pd.length c5) = wr at *
     refine hK.out _ _ ⟨(blk_cell B4.out 0).trans rfl, (blk_cell B4.out 1).trans rfl, (blk_cell B4.out 2).trans rfl, (blk_cell B5.out 0).trans rfl⟩ (fun hHeld => ?_)
     clear hK K hHeld
     refine done_ (by kernel_rfl) ?_
     try go_wp2
     refine bodyPost_ret (results_cc rfl _ _ g2 g3 38 40 _ _ (0, 0) (0, 0) _ _ rfl (bq_ B2.out) Tryz.underlying38 rfl (by kernel_rfl) rfl (bq_ B3.out) Tryz.underlying40 rfl (by kernel_rfl)) rfl ?_
     exact ⟨_, _, rfl, Kd.R_drewN HM.out 0, HP.out, (cu_ HC.out).s, (cu_ HC.out).bl, (cu_ HC.out).k⟩
   · have c1b : (t3 == 1) = false := beq_eq_false_iff_ne.mpr c1
     by_cases c2 : t3 = 2
     · have H := H'.out; rw [if_neg c0, if_neg c1, if_pos c2] at H; have c2b : (t3 == 2) = true := beq_iff_eq.mpr c2; clear H' c0 c1 c2
       obtain ⟨⟨n1, i3, j3⟩, e3, G_⟩ := Option.bind_eq_some_iff.1 H
       obtain ⟨⟨n2, i4, j4⟩, e4, F_⟩ := Option.bind_eq_some_iff.1 G_
       dsimp only at e4 F_
       have E3 := Aside0.mk e3; have E4 := Aside0.mk e4; clear e3 e4 H G_
       by_cases d1 : 0 ≤ n1
       rotate_left
       · rw [if_neg d1] at F_; cases F_
       rw [if_pos d1] at F_
       by_cases d2 : n1 < (ps.length : Int)
       rotate_left
       · rw [if_neg d2] at F_; cases F_
       rw [if_pos d2] at F_
       obtain ⟨pd, hd⟩ : ∃ y_ : List Int, y_ = ps.set (n1 : Int).toNat (wrap64 (n2 - 1)) := ⟨_, rfl⟩
       rw [← hd] at F_
       simp only [Option.some.injEq, Prod.mk.injEq] at F_
       obtain ⟨rfl, rfl, rfl, rfl, rfl, rfl⟩ := F_
       obtain ⟨go, co, eo, gb, -⟩ := Kd.R_form HP.out (by omega)
       injection eo with ea_ en_ ec_
       subst ea_; subst ec_; clear en_
       have GO := Aside0.mk gb; have D1 := Aside0.mk d1; have D2 := Aside0.mk d2; have PD := Aside0.mk hd; clear gb d1 d2 hd
       go_upto_region 8 with fail
       refine start_ (n := 12) (S := fun w' => w'.cell? ⟨g5, 0, none⟩ = some (.slice (some ⟨go, 0, none⟩) ps.length cp)) (ds := [11]) #[false, false, false, false, false, false, false, false, false, false, false, false] (by kernel_rfl) rfl rfl ((blk_cell B5.out 0).trans rfl) (fun hHeld => ?_)
       replace B2 := Aside0.mk (bq_ B2.out : wc.drew.heap[g2]? = _)
       replace B3 := Aside0.mk (bq_ B3.out : wc.drew.heap[g3]? = _)
       replace B4 := Aside0.mk (bq_ B4.out : wc.drew.heap[g4]? = _)
       replace B5 := Aside0.mk (bq_ B5.out : wc.drew.heap[g5]? = _)
       replace HM := Aside0.mk (Kd.R_drew HM.out)
       replace HP := Aside0.mk (Kd.R_drew HP.out)
       replace HC := Aside0.mk (Cu.drew HC.out)
       generalize wc.drew = wd at *
       refine pk_ 0 25 (bt_ 12 1) ?_
       refine pk_ 2 27 (bt_ 12 5) ?_
       refine pk_ 3 28 (bt_ 12 13) ?_
       refine pk_ 7 32 (bt_ 12 141) ?_
       refine tk_ (v := .slice (some ⟨go, 0, none⟩) ps.length cp) 1 26 (bt_ 12 143) hHeld ?_ (hy := by intro w' s0; go_simp)
       refine tk_ (v := .slice (some ⟨go, 0, none⟩) ps.length cp) 4 29 (bt_ 12 159) hHeld ?_ (hy := by intro w' s0; go_simp)
       refine pk_ 5 30 (bt_ 12 191) ?_
       refine one_ (i := 6) (N := some 31) (bt_ 12 255) rfl rfl (by kernel_rfl) (by decide) (fun K hK => ?_)
       refine goes_ Tryz.func69 (by kernel_rfl) rfl #[.pointer (some ⟨g, 0, none⟩), .int .i64 (ps.length : Int)] (by rfl) rfl rfl (by (try simp only [List.map_toArray, List.map_cons, List.map_nil]); first | done | rfl) ?_
       (with_reducible refine (spec_l01Below.calls  g s0_0 i2 j2 (ps.length : Int) n1 i3 j3 w0 _ ?s1 ?s2  E3.out).mono ?_); (case s1 => exact (cu_ HC.out).s); (case s2 => exact (cu_ HC.out).bl); rintro e we ⟨rfl, hs, hb, hk⟩; refine ⟨_, rfl, ?_⟩; replace B2 := Aside0.mk (Cu.blk HG.out G2.out (bq_ B2.out) hk); replace B3 := Aside0.mk (Cu.blk HG.out G3.out (bq_ B3.out) hk); replace B4 := Aside0.mk (Cu.blk HG.out G4.out (bq_ B4.out) hk); replace B5 := Aside0.mk (Cu.blk HG.out G5.out (bq_ B5.out) hk); replace HM := Aside0.mk (Cu.row HG.out (ra_ HM.out) hk); replace HP := Aside0.mk (Cu.row HG.out (ra_ HP.out) hk); replace HC := Aside0.mk ((cu_ HC.out).step hs hb hk); clear hs hb hk
       refine hK.out _ _ ((blk_cell B5.out 0).trans rfl) (fun hHeld => ?_)
       clear hK K
       refine norm_ (a' := ?_) ?_ ?_
       rotate_left
       · show Act.put _ (some 31) _ = _
         simp only [Act.put, List.setIfInBounds_toArray, List.set_cons_zero, List.set_cons_succ, i64_w, i32_w]
         rfl
       refine one_ (i := 8) (N := some 33) (bt_ 12 511) rfl rfl (by kernel_rfl) (by decide) (fun K hK => ?_)
       refine goes_ Tryz.func69 (by kernel_rfl) rfl #[.pointer (some ⟨g, 0, none⟩), .int .i64 7] (by rfl) rfl rfl (by (try simp only [List.map_toArray, List.map_cons, List.map_nil]); first | done | rfl) ?_
       (with_reducible refine (spec_l01Below.calls  g s0_0 i3 j3 7 n2 i4 j4 w0 _ ?s1 ?s2  E4.out).mono ?_); (case s1 => exact (cu_ HC.out).s); (case s2 => exact (cu_ HC.out).bl); rintro e wf ⟨rfl, hs, hb, hk⟩; refine ⟨_, rfl, ?_⟩; replace B2 := Aside0.mk (Cu.blk HG.out G2.out (bq_ B2.out) hk); replace B3 := Aside0.mk (Cu.blk HG.out G3.out (bq_ B3.out) hk); replace B4 := Aside0.mk (Cu.blk HG.out G4.out (bq_ B4.out) hk); replace B5 := Aside0.mk (Cu.blk HG.out G5.out (bq_ B5.out) hk); replace HM := Aside0.mk (Cu.row HG.out (ra_ HM.out) hk); replace HP := Aside0.mk (Cu.row HG.out (ra_ HP.out) hk); replace HC := Aside0.mk ((cu_ HC.out).step hs hb hk); clear hs hb hk
       refine hK.out _ _ ((blk_cell B5.out 0).trans rfl) (fun hHeld => ?_)
       clear hK K
       refine norm_ (a' := ?_) ?_ ?_
       rotate_left
       · show Act.put _ (some 33) _ = _
         simp only [Act.put, List.setIfInBounds_toArray, List.set_cons_zero, List.set_cons_succ, i64_w, i32_w]
         rfl
       have p6 := D1.out; have q6 := D2.out
       obtain ⟨x0, xf0⟩ := Kd.R_celln 0 HP.out n1 p6 q6
       replace p6 := eq_true p6; replace q6 := eq_true q6
       refine pk_ 9 34 (bt_ 12 1023) ?_
       refine pk_ 10 35 (bt_ 12 2047) ?_
       refine last_ (i := 11) (N := none) (bt_ 12 4095) rfl rfl (by kernel_rfl) (by decide) (fun K hK => ?_)
       refine skip_ (w1 := ?_) (by rfl) rfl ?_ ?_
       rotate_left
       · go_simp
         rfl
       refine hK.out _ _ ?_
       clear hK K x0 xf0 p6 q6
       refine done_ (by kernel_rfl) ?_
       replace B2 := Aside0.mk (blk_far B2.out (p := ⟨go, (n1 : Int).toNat, none⟩) (by have h_ := Kd.R_ne HP.out B2.out (by decide); intro e_; exact h_ (by rw [e_]; rfl)) (.int .i64 (wrap64 (n2 - 1))))
       replace B3 := Aside0.mk (blk_far B3.out (p := ⟨go, (n1 : Int).toNat, none⟩) (by have h_ := Kd.R_ne HP.out B3.out (by decide); intro e_; exact h_ (by rw [e_]; rfl)) (.int .i64 (wrap64 (n2 - 1))))
       replace B4 := Aside0.mk (blk_far B4.out (p := ⟨go, (n1 : Int).toNat, none⟩) (by have h_ := Kd.R_ne HP.out B4.out (by decide); intro e_; exact h_ (by rw [e_]; rfl)) (.int .i64 (wrap64 (n2 - 1))))
       replace B5 := Aside0.mk (blk_far B5.out (p := ⟨go, (n1 : Int).toNat, none⟩) (by have h_ := Kd.R_ne HP.out B5.out (by decide); intro e_; exact h_ (by rw [e_]; rfl)) (.int .i64 (wrap64 (n2 - 1))))
       replace HM := Aside0.mk (Kd.R_far (p := ⟨go, (n1 : Int).toNat, none⟩) HM.out (fun k_ hk e_ => hk (by rw [e_]; rfl)) (.int .i64 (wrap64 (n2 - 1))))
       have hp := Kd.R_putn HP.out n1 (wrap64 (n2 - 1))
       rw [← PD.out] at hp
       replace HP := Aside0.mk hp; clear hp
       replace HC := Aside0.mk (Cu.far HC.out GO.out HG.out _ : Cu w0 w (wf.setCell ⟨go, (n1 : Int).toNat, none⟩ (.int .i64 (wrap64 (n2 - 1)))) g s0_0 _ _)
       generalize wf.setCell ⟨go, (n1 : Int).toNat, none⟩ (.int .i64 (wrap64 (n2 - 1))) = wg at *
       have hl : pd.length = ps.length := by rw [PD.out, List.length_set]
       clear hl
       go_upto_region 9 with fail
       refine start_ (n := 4) (S := fun w' => w'.cell? ⟨g4, 0, none⟩ = some (.int .i64 m1) ∧ w'.cell? ⟨g4, 1, none⟩ = some (.int .i64 m2) ∧ w'.cell? ⟨g4, 2, none⟩ = some (.slice Am m3.length cm) ∧ w'.cell? ⟨g5, 0, none⟩ = some (.slice (some ⟨go, 0, none⟩) ps.length cp)) (ds := []) #[false, false, false, false] (by kernel_rfl) rfl rfl ⟨(blk_cell B4.out 0).trans rfl, (blk_cell B4.out 1).trans rfl, (blk_cell B4.out 2).trans rfl, (blk_cell B5.out 0).trans rfl⟩ (fun hHeld => ?_)
       replace B2 := Aside0.mk (bq_ B2.out : wg.drew.heap[g2]? = _)
       replace B3 := Aside0.mk (bq_ B3.out : wg.drew.heap[g3]? = _)
       replace B4 := Aside0.mk (bq_ B4.out : wg.drew.heap[g4]? = _)
       replace B5 := Aside0.mk (bq_ B5.out : wg.drew.heap[g5]? = _)
       replace HM := Aside0.mk (Kd.R_drew HM.out)
       replace HP := Aside0.mk (Kd.R_drew HP.out)
       replace HC := Aside0.mk (Cu.drew HC.out)
       generalize wg.drew = wp at *
       refine tk_ (v := .agg #[.int .i64 m1, .int .i64 m2, .slice Am m3.length cm]) 0 36 (bt_ 4 1) hHeld ?_ (hy := by rintro w' ⟨s0, s1, s2, s3⟩; go_simp)
       refine tk_ (v := .agg #[.slice (some ⟨go, 0, none⟩) ps.length cp]) 1 37 (bt_ 4 3) hHeld ?_ (hy := by rintro w' ⟨s0, s1, s2, s3⟩; go_simp)
       clear hHeld
       refine one_ (i := 2) (N := none) (bt_ 4 7) rfl rfl (by kernel_rfl) (by decide) (fun K hK => ?_)
       obtain ⟨z0, z1, z2, zf0, zf1, zf2⟩ := cz3_ B2.out
       refine skip_ (w1 := ?_) (by rfl) rfl ?_ ?_
       rotate_left
       · go_simp
         rfl
       clear z0 z1 z2 zf0 zf1 zf2
       change K _ (st3_ _ g2 (.int .i64 m1) (.int .i64 m2) (.slice Am m3.length cm))
       replace HM := Aside0.mk (st3_row HM.out B2.out (by decide) : Kd.R _ _ (st3_ _ g2 (.int .i64 m1) (.int .i64 m2) (.slice Am m3.length cm)) _ _ _ _)
       replace HP := Aside0.mk (st3_row HP.out B2.out (by decide) : Kd.R _ _ (st3_ _ g2 (.int .i64 m1) (.int .i64 m2) (.slice Am m3.length cm)) _ _ _ _)
       replace B3 := Aside0.mk ((st3_far N23.out.symm : (st3_ _ g2 (.int .i64 m1) (.int .i64 m2) (.slice Am m3.length cm)).heap[g3]? = _).trans B3.out)
       replace B4 := Aside0.mk ((st3_far N24.out.symm : (st3_ _ g2 (.int .i64 m1) (.int .i64 m2) (.slice Am m3.length cm)).heap[g4]? = _).trans B4.out)
       replace B5 := Aside0.mk ((st3_far N25.out.symm : (st3_ _ g2 (.int .i64 m1) (.int .i64 m2) (.slice Am m3.length cm)).heap[g5]? = _).trans B5.out)
       replace HC := Aside0.mk (st3_cu HC.out G2.out HG.out : Cu w0 w (st3_ _ g2 (.int .i64 m1) (.int .i64 m2) (.slice Am m3.length cm)) g s0_0 _ _)
       replace B2 := Aside0.mk (st3_blk B2.out : (st3_ _ g2 (.int .i64 m1) (.int .i64 m2) (.slice Am m3.length cm)).heap[g2]? = _)
       generalize st3_ _ g2 (.int .i64 m1) (.int .i64 m2) (.slice Am m3.length cm) = wq at *
       refine hK.out _ _ ⟨(blk_cell B4.out 0).trans rfl, (blk_cell B4.out 1).trans rfl, (blk_cell B4.out 2).trans rfl, (blk_cell B5.out 0).trans rfl⟩ (fun hHeld => ?_)
       clear hK K
       refine one_ (i := 3) (N := none) (bt_ 4 15) rfl rfl (by kernel_rfl) (by decide) (fun K hK => ?_)
       obtain ⟨z0, zf0⟩ := cz1_ B3.out
       refine skip_ (w1 := ?_) (by rfl) rfl ?_ ?_
       rotate_left
       · go_simp
         rfl
       clear z0 zf0
       replace HM := Aside0.mk (Kd.R_mono (Kd.R_far (p := ⟨g3, 0, none⟩) (Kd.R_types HM.out B3.out (by decide)) (fun _ hk => hk.2) (.slice (some ⟨go, 0, none⟩) ps.length cp)) (fun _ hk => hk.1))
       replace HP := Aside0.mk (Kd.R_mono (Kd.R_far (p := ⟨g3, 0, none⟩) (Kd.R_types HP.out B3.out (by decide)) (fun _ hk => hk.2) (.slice (some ⟨go, 0, none⟩) ps.length cp)) (fun _ hk => hk.1))
       replace B2 := Aside0.mk ((Below.heap_setCell _ _ _ _ N23.out : (wq.setCell ⟨g3, 0, none⟩ (.slice (some ⟨go, 0, none⟩) ps.length cp)).heap[g2]? = _).trans B2.out)
       replace B4 := Aside0.mk ((Below.heap_setCell _ _ _ _ N34.out.symm : (wq.setCell ⟨g3, 0, none⟩ (.slice (some ⟨go, 0, none⟩) ps.length cp)).heap[g4]? = _).trans B4.out)
       replace B5 := Aside0.mk ((Below.heap_setCell _ _ _ _ N35.out.symm : (wq.setCell ⟨g3, 0, none⟩ (.slice (some ⟨go, 0, none⟩) ps.length cp)).heap[g5]? = _).trans B5.out)
       replace B3 := Aside0.mk (blk_put B3.out 0 (.slice (some ⟨go, 0, none⟩) ps.length cp) rfl : (wq.setCell ⟨g3, 0, none⟩ (.slice (some ⟨go, 0, none⟩) ps.length cp)).heap[g3]? = _)
       replace HC := Aside0.mk (Cu.far HC.out G3.out HG.out _ : Cu w0 w (wq.setCell ⟨g3, 0, none⟩ (.slice (some ⟨go, 0, none⟩) ps.length cp)) g s0_0 _ _)
       generalize wq.setCell ⟨g3, 0, none⟩ (.slice (some ⟨go, 0, none⟩) ps.length cp) = wr at *
       refine hK.out _ _ ⟨(blk_cell B4.out 0).trans rfl, (blk_cell B4.out 1).trans rfl, (blk_cell B4.out 2).trans rfl, (blk_cell B5.out 0).trans rfl⟩ (fun hHeld => ?_)
       clear hK K hHeld
       refine done_ (by kernel_rfl) ?_
       try go_wp2
       refine bodyPost_ret (results_cc rfl _ _ g2 g3 38 40 _ _ (0, 0) (0, 0) _ _ rfl (bq_ B2.out) Tryz.underlying38 rfl (by kernel_rfl) rfl (bq_ B3.out) Tryz.underlying40 rfl (by kernel_rfl)) rfl ?_
       exact ⟨_, _, rfl, Kd.R_drewN HM.out 0, Kd.Q_of_R (Kd.R_drewN HP.out 0), (cu_ HC.out).s, (cu_ HC.out).bl, (cu_ HC.out).k⟩
     · have H := H'.out; rw [if_neg c0, if_neg c1, if_neg c2] at H; have c2b : (t3 == 2) = false := beq_eq_false_iff_ne.mpr c2; clear H' c0 c1 c2
       simp only [Option.some.injEq, Prod.mk.injEq] at H
       obtain ⟨rfl, rfl, rfl, rfl, rfl, rfl⟩ := H
       go_upto_region 9 with fail
       refine start_ (n := 4) (S := fun w' => w'.cell? ⟨g4, 0, none⟩ = some (.int .i64 m1) ∧ w'.cell? ⟨g4, 1, none⟩ = some (.int .i64 m2) ∧ w'.cell? ⟨g4, 2, none⟩ = some (.slice Am m3.length cm) ∧ w'.cell? ⟨g5, 0, none⟩ = some (.slice Ap ps.length cp)) (ds := []) #[false, false, false, false] (by kernel_rfl) rfl rfl ⟨(blk_cell B4.out 0).trans rfl, (blk_cell B4.out 1).trans rfl, (blk_cell B4.out 2).trans rfl, (blk_cell B5.out 0).trans rfl⟩ (fun hHeld => ?_)
       replace B2 := Aside0.mk (bq_ B2.out : wc.drew.heap[g2]? = _)
       replace B3 := Aside0.mk (bq_ B3.out : wc.drew.heap[g3]? = _)
       replace B4 := Aside0.mk (bq_ B4.out : wc.drew.heap[g4]? = _)
       replace B5 := Aside0.mk (bq_ B5.out : wc.drew.heap[g5]? = _)
       replace HM := Aside0.mk (Kd.R_drew HM.out)
       replace HP := Aside0.mk (Kd.R_drew HP.out)
       replace HC := Aside0.mk (Cu.drew HC.out)
       generalize wc.drew = wp at *
       refine tk_ (v := .agg #[.int .i64 m1, .int .i64 m2, .slice Am m3.length cm]) 0 36 (bt_ 4 1) hHeld ?_ (hy := by rintro w' ⟨s0, s1, s2, s3⟩; go_simp)
       refine tk_ (v := .agg #[.slice Ap ps.length cp]) 1 37 (bt_ 4 3) hHeld ?_ (hy := by rintro w' ⟨s0, s1, s2, s3⟩; go_simp)
       clear hHeld
       refine one_ (i := 2) (N := none) (bt_ 4 7) rfl rfl (by kernel_rfl) (by decide) (fun K hK => ?_)
       obtain ⟨z0, z1, z2, zf0, zf1, zf2⟩ := cz3_ B2.out
       refine skip_ (w1 := ?_) (by rfl) rfl ?_ ?_
       rotate_left
       · go_simp
         rfl
       clear z0 z1 z2 zf0 zf1 zf2
       change K _ (st3_ _ g2 (.int .i64 m1) (.int .i64 m2) (.slice Am m3.length cm))
       replace HM := Aside0.mk (st3_row HM.out B2.out (by decide) : Kd.R _ _ (st3_ _ g2 (.int .i64 m1) (.int .i64 m2) (.slice Am m3.length cm)) _ _ _ _)
       replace HP := Aside0.mk (st3_row HP.out B2.out (by decide) : Kd.R _ _ (st3_ _ g2 (.int .i64 m1) (.int .i64 m2) (.slice Am m3.length cm)) _ _ _ _)
       replace B3 := Aside0.mk ((st3_far N23.out.symm : (st3_ _ g2 (.int .i64 m1) (.int .i64 m2) (.slice Am m3.length cm)).heap[g3]? = _).trans B3.out)
       replace B4 := Aside0.mk ((st3_far N24.out.symm : (st3_ _ g2 (.int .i64 m1) (.int .i64 m2) (.slice Am m3.length cm)).heap[g4]? = _).trans B4.out)
       replace B5 := Aside0.mk ((st3_far N25.out.symm : (st3_ _ g2 (.int .i64 m1) (.int .i64 m2) (.slice Am m3.length cm)).heap[g5]? = _).trans B5.out)
       replace HC := Aside0.mk (st3_cu HC.out G2.out HG.out : Cu w0 w (st3_ _ g2 (.int .i64 m1) (.int .i64 m2) (.slice Am m3.length cm)) g s0_0 _ _)
       replace B2 := Aside0.mk (st3_blk B2.out : (st3_ _ g2 (.int .i64 m1) (.int .i64 m2) (.slice Am m3.length cm)).heap[g2]? = _)
       generalize st3_ _ g2 (.int .i64 m1) (.int .i64 m2) (.slice Am m3.length cm) = wq at *
       refine hK.out _ _ ⟨(blk_cell B4.out 0).trans rfl, (blk_cell B4.out 1).trans rfl, (blk_cell B4.out 2).trans rfl, (blk_cell B5.out 0).trans rfl⟩ (fun hHeld => ?_)
       clear hK K
       refine one_ (i := 3) (N := none) (bt_ 4 15) rfl rfl (by kernel_rfl) (by decide) (fun K hK => ?_)
       obtain ⟨z0, zf0⟩ := cz1_ B3.out
       refine skip_ (w1 := ?_) (by rfl) rfl ?_ ?_
       rotate_left
       · go_simp
         rfl
       clear z0 zf0
       replace HM := Aside0.mk (Kd.R_mono (Kd.R_far (p := ⟨g3, 0, none⟩) (Kd.R_types HM.out B3.out (by decide)) (fun _ hk => hk.2) (.slice Ap ps.length cp)) (fun _ hk => hk.1))
       replace HP := Aside0.mk (Kd.R_mono (Kd.R_far (p := ⟨g3, 0, none⟩) (Kd.R_types HP.out B3.out (by decide)) (fun _ hk => hk.2) (.slice Ap ps.length cp)) (fun _ hk => hk.1))
       replace B2 := Aside0.mk ((Below.heap_setCell _ _ _ _ N23.out : (wq.setCell ⟨g3, 0, none⟩ (.slice Ap ps.length cp)).heap[g2]? = _).trans B2.out)
       replace B4 := Aside0.mk ((Below.heap_setCell _ _ _ _ N34.out.symm : (wq.setCell ⟨g3, 0, none⟩ (.slice Ap ps.length cp)).heap[g4]? = _).trans B4.out)
       replace B5 := Aside0.mk ((Below.heap_setCell _ _ _ _ N35.out.symm : (wq.setCell ⟨g3, 0, none⟩ (.slice Ap ps.length cp)).heap[g5]? = _).trans B5.out)
       replace B3 := Aside0.mk (blk_put B3.out 0 (.slice Ap ps.length cp) rfl : (wq.setCell ⟨g3, 0, none⟩ (.slice Ap ps.length cp)).heap[g3]? = _)
       replace HC := Aside0.mk (Cu.far HC.out G3.out HG.out _ : Cu w0 w (wq.setCell ⟨g3, 0, none⟩ (.slice Ap ps.length cp)) g s0_0 _ _)
       generalize wq.setCell ⟨g3, 0, none⟩ (.slice Ap ps.length cp) = wr at *
       refine hK.out _ _ ⟨(blk_cell B4.out 0).trans rfl, (blk_cell B4.out 1).trans rfl, (blk_cell B4.out 2).trans rfl, (blk_cell B5.out 0).trans rfl⟩ (fun hHeld => ?_)
       clear hK K hHeld
       refine done_ (by kernel_rfl) ?_
       try go_wp2
       refine bodyPost_ret (results_cc rfl _ _ g2 g3 38 40 _ _ (0, 0) (0, 0) _ _ rfl (bq_ B2.out) Tryz.underlying38 rfl (by kernel_rfl) rfl (bq_ B3.out) Tryz.underlying40 rfl (by kernel_rfl)) rfl ?_
       exact ⟨_, _, rfl, Kd.R_drewN HM.out 0, Kd.Q_of_R (Kd.R_drewN HP.out 0), (cu_ HC.out).s, (cu_ HC.out).bl, (cu_ HC.out).k⟩

end Go.Proofs.YtimdefbpoddoaaaGreat.PFnVerdicts
-- thin
