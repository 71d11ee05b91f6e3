/- The law's functions as plain functions, and their calls. No condition. -/
import Derived.Test.YtimdefbpoddoaaaGreatPFnVerdictsx0
import Derived.Test.YtimdefbpoddoaaaGreatPFnVerdictsx2
import Derived.Test.YtimdefbpoddoaaaGreatPFnVerdictsx3
namespace Go.Proofs.YtimdefbpoddoaaaGreat.PFnVerdicts
open Go.RowKit Go.Proofs.YtimdefbpoddoaaaGreatW.PrintWords Go.Proofs.YtimdefbpoddoaaaGreatW.PrintLast Go.Proofs.YtimdefbpoddoaaaGreatW.PrintMore
attribute [local go_sem] max2_int min2_int max_two min_two max_three min_three max_four min_four
set_option linter.unusedVariables false
set_option maxHeartbeats 8000000
set_option maxRecDepth 100000
set_option linter.unusedSimpArgs false

/-! ### spec_l03Mesh: function 101 -/
def spec_l03Mesh.l0 : Nat → Int → List Int → Int → Int → Int → Int → List Int → Option (Int × Int × List Int × Int × Int)
 | 0, _, _, _, _, _, _, _ => none
 | k + 1, x4, x1000, x1001, x1002, x189000, x189001, x189002 => (spec_NodeCount.f x189000 x189001).bind fun t192 => (if x4 < (wrap64 (4 * t192)) then ((spec_l03Leads.f x189000 x189001 x4).bind fun t193 => (if t193 = true then ((spec_l01Once.f x1000 x1001 x1002 9).bind fun bt194 => (if bt194.1 = true then (if x189002.length < 17592186044416 then (spec_l03Mesh.l0 k (wrap64 (x4 + 1)) x1000 bt194.2.1 bt194.2.2 x189000 x189001 (x189002 ++ [x4])) else (none)) else (spec_l03Mesh.l0 k (wrap64 (x4 + 1)) x1000 bt194.2.1 bt194.2.2 x189000 x189001 x189002))) else (spec_l03Mesh.l0 k (wrap64 (x4 + 1)) x1000 x1001 x1002 x189000 x189001 x189002))) else (some (x189000, x189001, x189002, x1001, x1002)))
def spec_l03Mesh.f (k : Nat) (s0_0 : List Int) (s0_1 : Int) (s0_2 : Int) : Option (Int × Int × List Int × Int × Int) := (spec_l02Grid.f s0_0 s0_1 s0_2).bind fun bt184 => ((spec_l01Once.f s0_0 bt184.2.2.1 bt184.2.2.2 3).bind fun bt189 => (if bt189.1 = true then (spec_l03Mesh.l0 k 0 s0_0 bt189.2.1 bt189.2.2 bt184.1 bt184.2.1 ([] : List Int)) else (some (bt184.1, bt184.2.1, ([] : List Int), bt189.2.1, bt189.2.2))))
theorem spec_l03Mesh.mono_l : ∀ k, (∀ y0 y1 y2 y3 y4 y5 y6, LeO (spec_l03Mesh.l0 k y0 y1 y2 y3 y4 y5 y6) (spec_l03Mesh.l0 (k + 1) y0 y1 y2 y3 y4 y5 y6))
 | 0 => fun _ _ _ _ _ _ _ r h => by simp [spec_l03Mesh.l0] at h
 | k + 1 => by
  have ih0 := spec_l03Mesh.mono_l k
  ·intro y0 y1 y2 y3 y4 y5 y6
   unfold spec_l03Mesh.l0
   repeat' (with_reducible first | exact ih0 .. | exact LeO.refl .. | exact LeO.none .. | refine LeO.ite ?_ ?_ | refine LeO.bind ?_ (fun _ => ?_))
theorem spec_l03Mesh.mono : ∀ a0 a1 a2 k, LeO (spec_l03Mesh.f k a0 a1 a2) (spec_l03Mesh.f (k + 1) a0 a1 a2) := by
 intro a0 a1 a2 k
 have ih0 := spec_l03Mesh.mono_l k
 unfold spec_l03Mesh.f
 repeat' (with_reducible first | exact ih0 .. | exact LeO.refl .. | exact LeO.none .. | refine LeO.ite ?_ ?_ | refine LeO.bind ?_ (fun _ => ?_))
theorem spec_l03Mesh.calls (k : Nat) (g : Nat) (s0_0 : List Int) (s0_1 : Int) (s0_2 : Int) (r1 : Int) (r2 : Int) (r3 : List Int) (r4 : Int) (r5 : Int) (w0 w : World) (hI : IsS95 w0 w g s0_0 s0_1 s0_2) (hB : Below w0.heap.size w0 w) (h : spec_l03Mesh.f k s0_0 s0_1 s0_2 = some (r1, r2, r3, r4, r5)) :
  Calls Tryz.prog 101 #[.pointer (some ⟨g, 0, none⟩)] w fun e w' => ∃ v2_ : Value, e = .returned (.agg #[.int .i64 r1, .int .i64 r2, v2_]) ∧ Kd.R (Kd.int .i64) 3 w' w.heap.size (fun _ => True) v2_ r3 ∧ IsS95 w0 w' g s0_0 r4 r5 ∧ Below w0.heap.size w0 w' ∧ KeepBut w w' g none := by
 have HG := Aside0.mk hI.lt
 have HC := Aside0.mk (Cu.mk hI hB (KeepBut.refl w g none))
 clear hI hB
 have hu36 := Tryz.underlying36
 have hu38 := Tryz.underlying38
 have hu40 := Tryz.underlying40
 unfold spec_l03Mesh.f at h
 obtain ⟨⟨t1, t2, i1, j1⟩, e1, G_⟩ := Option.bind_eq_some_iff.1 h
 clear h; have h := G_; clear G_
 obtain ⟨⟨tb, i2, j2⟩, e2, G_⟩ := Option.bind_eq_some_iff.1 h
 clear h; have h := G_; clear G_
 dsimp only at e2 h
 have E1 := Aside0.mk e1; have E2 := Aside0.mk e2; have H' := Aside0.mk h; clear e1 e2 h
 go_enter Tryz.func101, Tryz.ntmps101
 go_upto_region 2 with (first | ((with_reducible refine gate_dst (N := 2) rfl ?_); refine box_event ?hg (N := 2) ?hd (cs := #[.int .i64 0, .int .i64 0, .slice none 0 0]) (t := 38) ?hr ?_; (case hd => rfl); (case hg => rfl); (case hr => first | (go_simp; done) | (go_simp; rfl)); intro g2 hg w1 hbox hb; have B2_ := Aside0.mk hbox; have G2 := Aside0.mk (show w.heap.size ≤ g2 by rw [hg]; exact (cu_ HC.out).k.1); skip; have B2 := B2_; clear B2_; replace HC := Aside0.mk ((cu_ HC.out).below hb); clear hb hbox hg) | (go_at_call 98; (with_reducible refine (spec_l02Grid.calls  g s0_0 s0_1 s0_2  t1 t2 i1 j1 w0 _ ?s1 ?s2  E1.out).mono ?_); (case s1 => exact (cu_ HC.out).s); (case s2 => exact (cu_ HC.out).bl); rintro e wa ⟨rfl, hs, hb, hk⟩; replace B2 := Aside0.mk (Cu.blk HG.out G2.out (bq_ B2.out) hk); replace HC := Aside0.mk ((cu_ HC.out).step hs hb hk); clear hs hb hk))
 obtain ⟨g3, wb, hx_, hw_, B3_, G3_, hb_, HC_⟩ := HC.out.new (Obj.cells #[.int .i64 t1, .int .i64 t2, .slice none 0 0] 38 (0, 0))
 have N23 := Aside0.mk (show g2 ≠ g3 by rw [← hx_]; exact Nat.ne_of_lt (blk_lt B2.out))
 replace B2 := Aside0.mk (bk_ B2.out hb_)
 rw [hx_, hw_]
 clear hb_ hx_ hw_
 have B3 := Aside0.mk B3_; have G3 := Aside0.mk G3_; replace HC := Aside0.mk HC_; clear B3_ G3_ HC_
 go_upto_if 10 with (first | (go_at_call 123; (with_reducible refine (spec_l01Once.calls  g s0_0 i1 j1 3 tb i2 j2 w0 _ ?s1 ?s2  E2.out).mono ?_); (case s1 => exact (cu_ HC.out).s); (case s2 => exact (cu_ HC.out).bl); rintro e wc ⟨rfl, hs, hb, hk⟩; replace B2 := Aside0.mk (Cu.blk HG.out G2.out (bq_ B2.out) hk); replace B3 := Aside0.mk (Cu.blk HG.out G3.out (bq_ B3.out) hk); replace HC := Aside0.mk ((cu_ HC.out).step hs hb hk); clear hs hb hk))
 cases tb
 · have H := H'.out; rw [if_neg (by decide)] at H; clear H'; simp only [Option.some.injEq, Prod.mk.injEq] at H
   obtain ⟨rfl, rfl, rfl, rfl, rfl⟩ := H
   obtain ⟨y0, y1, y2, yf0, yf1, yf2⟩ := cz3_ B3.out
   obtain ⟨z0, z1, z2, zf0, zf1, zf2⟩ := cz3_ B2.out
   go_wp2
   clear y0 y1 y2 yf0 yf1 yf2
   clear z0 z1 z2 zf0 zf1 zf2
   change bodyPost _ _ _ _ _ (st3_ _ g2 (.int .i64 t1) (.int .i64 t2) (.slice none 0 0))
   replace B3 := Aside0.mk ((st3_far N23.out.symm : (st3_ _ g2 (.int .i64 t1) (.int .i64 t2) (.slice none 0 0)).heap[g3]? = _).trans B3.out)
   replace HC := Aside0.mk (st3_cu HC.out G2.out HG.out : Cu w0 w (st3_ _ g2 (.int .i64 t1) (.int .i64 t2) (.slice none 0 0)) g s0_0 _ _)
   replace B2 := Aside0.mk (st3_blk B2.out : (st3_ _ g2 (.int .i64 t1) (.int .i64 t2) (.slice none 0 0)).heap[g2]? = _)
   generalize st3_ _ g2 (.int .i64 t1) (.int .i64 t2) (.slice none 0 0) = wz at *
   refine bodyPost_ret (results_cell_row rfl _ _ g2 38 _ (0, 0) _ rfl (bq_ B2.out) Tryz.underlying38 rfl (by kernel_rfl)) rfl ?_
   exact ⟨_, rfl, Kd.R_nil _ _ _ _ _, (cu_ HC.out).s, (cu_ HC.out).bl, (cu_ HC.out).k⟩
 · have H := H'.out; rw [if_pos rfl] at H; clear H'; have HL := Aside0.mk H; clear H
   go_wp2
   go_loopg [4] k (fun kq v4 w' => ∃ (x i j : Int) (br : List Int) (u : Value), v4 = .int .i64 x ∧ Aside0 (spec_l03Mesh.l0 kq x s0_0 i j t1 t2 br = some (r1, r2, r3, r4, r5)) ∧ Aside0 (kq ≤ k) ∧ Aside0 (Kd.R (Kd.int .i64) 3 w' w.heap.size (fun _ => True) u br) ∧ Aside0 (w'.heap[g2]? = some (.cells #[.int .i64 0, .int .i64 0, .slice none 0 0] 38 (0, 0))) ∧ Aside0 (w'.heap[g3]? = some (.cells #[.int .i64 t1, .int .i64 t2, u] 38 (0, 0))) ∧ Aside0 (Cu w0 w w' g s0_0 i j))
   case atStart => exact ⟨0, i2, j2, [], .slice none 0 0, rfl, HL, ⟨Nat.le_refl _⟩, ⟨Kd.R_nil _ _ _ _ _⟩, ⟨bq_ B2.out⟩, ⟨bq_ B3.out⟩, ⟨cu_ HC.out⟩⟩
   case round =>
     clear HL B2 B3 HC
     obtain ⟨x, i, j, br, u, rfl, HA, HK1, HM, B2, B3, HC⟩ := hrel
     obtain ⟨Am, cm, e_⟩ := Kd.R_slice HM.out; subst e_
     cases gk with
     | zero => exact absurd HA.out (by simp [spec_l03Mesh.l0])
     | succ k1 =>
      have h := HA.out; clear HA; simp only [spec_l03Mesh.l0] at h
      obtain ⟨nc, e3, G_⟩ := Option.bind_eq_some_iff.1 h; clear h; have h := G_; clear G_
      try dsimp only at h
      have E3 := Aside0.mk e3; clear e3
      obtain ⟨y0, y1, y2, yf0, yf1, yf2⟩ := cz3_ B3.out
      by_cases c1 : x < wrap64 (4 * nc)
      · rw [if_pos c1] at h; have c1d : decide (x < wrap64 (4 * nc)) = true := decide_eq_true c1; clear c1
        obtain ⟨lb, e4, G_⟩ := Option.bind_eq_some_iff.1 h; clear h; have h := G_; clear G_
        try dsimp only at h
        have E4 := Aside0.mk e4; clear e4
        cases lb
        · rw [if_neg (by decide)] at h; have H' := Aside0.mk h; clear h
          go_wp2_with (first | (go_at_call 80; (with_reducible refine (spec_NodeCount.calls t1 t2 nc _ E3.out).mono ?_); rintro e wd ⟨rfl, hb⟩; replace B2 := Aside0.mk (bk_ B2.out hb); replace B3 := Aside0.mk (bk_ B3.out hb); replace HM := Aside0.mk (Kd.R_below (ra_ HM.out) hb); replace HC := Aside0.mk ((cu_ HC.out).below hb); clear hb; (try clear y0 y1 y2 yf0 yf1 yf2); obtain ⟨y0, y1, y2, yf0, yf1, yf2⟩ := cz3_ B3.out) | (go_at_call 124; (with_reducible refine (spec_l03Leads.calls t1 t2 x _ _ E4.out).mono ?_); rintro e we ⟨rfl, hb⟩; replace B2 := Aside0.mk (bk_ B2.out hb); replace B3 := Aside0.mk (bk_ B3.out hb); replace HM := Aside0.mk (Kd.R_below (ra_ HM.out) hb); replace HC := Aside0.mk ((cu_ HC.out).below hb); clear hb; (try clear y0 y1 y2 yf0 yf1 yf2); obtain ⟨y0, y1, y2, yf0, yf1, yf2⟩ := cz3_ B3.out))
          go_roundg k1
          case measure => have := HK1.out; omega
          case rel => exact ⟨_, i, j, br, .slice Am br.length cm, rfl, H', ⟨by have := HK1.out; omega⟩, ⟨ra_ HM.out⟩, ⟨bq_ B2.out⟩, ⟨bq_ B3.out⟩, ⟨cu_ HC.out⟩⟩
        · rw [if_pos rfl] at h
          obtain ⟨⟨ob, i3, j3⟩, e5, G_⟩ := Option.bind_eq_some_iff.1 h; clear h; have h := G_; clear G_
          try dsimp only at h
          have E5 := Aside0.mk e5; clear e5
          cases ob
          · rw [if_neg (by decide)] at h; have H' := Aside0.mk h; clear h
            go_wp2_with (first | (go_at_call 80; (with_reducible refine (spec_NodeCount.calls t1 t2 nc _ E3.out).mono ?_); rintro e wd ⟨rfl, hb⟩; replace B2 := Aside0.mk (bk_ B2.out hb); replace B3 := Aside0.mk (bk_ B3.out hb); replace HM := Aside0.mk (Kd.R_below (ra_ HM.out) hb); replace HC := Aside0.mk ((cu_ HC.out).below hb); clear hb; (try clear y0 y1 y2 yf0 yf1 yf2); obtain ⟨y0, y1, y2, yf0, yf1, yf2⟩ := cz3_ B3.out) | (go_at_call 124; (with_reducible refine (spec_l03Leads.calls t1 t2 x _ _ E4.out).mono ?_); rintro e we ⟨rfl, hb⟩; replace B2 := Aside0.mk (bk_ B2.out hb); replace B3 := Aside0.mk (bk_ B3.out hb); replace HM := Aside0.mk (Kd.R_below (ra_ HM.out) hb); replace HC := Aside0.mk ((cu_ HC.out).below hb); clear hb; (try clear y0 y1 y2 yf0 yf1 yf2); obtain ⟨y0, y1, y2, yf0, yf1, yf2⟩ := cz3_ B3.out) | (go_at_call 123; (with_reducible refine (spec_l01Once.calls  g s0_0 i j 9 _ i3 j3 w0 _ ?s1 ?s2  E5.out).mono ?_); (case s1 => exact (cu_ HC.out).s); (case s2 => exact (cu_ HC.out).bl); rintro e wf ⟨rfl, hs, hb, hk⟩; replace B2 := Aside0.mk (Cu.blk HG.out G2.out (bq_ B2.out) hk); replace B3 := Aside0.mk (Cu.blk HG.out G3.out (bq_ B3.out) hk); replace HM := Aside0.mk (Cu.row HG.out (ra_ HM.out) hk); replace HC := Aside0.mk ((cu_ HC.out).step hs hb hk); clear hs hb hk; (try clear y0 y1 y2 yf0 yf1 yf2); obtain ⟨y0, y1, y2, yf0, yf1, yf2⟩ := cz3_ B3.out))
            go_roundg k1
            case measure => have := HK1.out; omega
            case rel => exact ⟨_, i3, j3, br, .slice Am br.length cm, rfl, H', ⟨by have := HK1.out; omega⟩, ⟨ra_ HM.out⟩, ⟨bq_ B2.out⟩, ⟨bq_ B3.out⟩, ⟨cu_ HC.out⟩⟩
          · rw [if_pos rfl] at h
            by_cases c2 : br.length < 17592186044416
            · rw [if_pos c2] at h; obtain ⟨b2, h2⟩ : ∃ y_, y_ = br ++ [x] := ⟨_, rfl⟩; rw [← h2] at h; have H' := Aside0.mk h; have Q2 := Aside0.mk h2; have C2 := Aside0.mk c2; clear h h2 c2
              go_wp2_with (first | (go_at_call 80; (with_reducible refine (spec_NodeCount.calls t1 t2 nc _ E3.out).mono ?_); rintro e wd ⟨rfl, hb⟩; replace B2 := Aside0.mk (bk_ B2.out hb); replace B3 := Aside0.mk (bk_ B3.out hb); replace HM := Aside0.mk (Kd.R_below (ra_ HM.out) hb); replace HC := Aside0.mk ((cu_ HC.out).below hb); clear hb; (try clear y0 y1 y2 yf0 yf1 yf2); obtain ⟨y0, y1, y2, yf0, yf1, yf2⟩ := cz3_ B3.out) | (go_at_call 124; (with_reducible refine (spec_l03Leads.calls t1 t2 x _ _ E4.out).mono ?_); rintro e we ⟨rfl, hb⟩; replace B2 := Aside0.mk (bk_ B2.out hb); replace B3 := Aside0.mk (bk_ B3.out hb); replace HM := Aside0.mk (Kd.R_below (ra_ HM.out) hb); replace HC := Aside0.mk ((cu_ HC.out).below hb); clear hb; (try clear y0 y1 y2 yf0 yf1 yf2); obtain ⟨y0, y1, y2, yf0, yf1, yf2⟩ := cz3_ B3.out) | (go_at_call 123; (with_reducible refine (spec_l01Once.calls  g s0_0 i j 9 _ i3 j3 w0 _ ?s1 ?s2  E5.out).mono ?_); (case s1 => exact (cu_ HC.out).s); (case s2 => exact (cu_ HC.out).bl); rintro e wf ⟨rfl, hs, hb, hk⟩; replace B2 := Aside0.mk (Cu.blk HG.out G2.out (bq_ B2.out) hk); replace B3 := Aside0.mk (Cu.blk HG.out G3.out (bq_ B3.out) hk); replace HM := Aside0.mk (Cu.row HG.out (ra_ HM.out) hk); replace HC := Aside0.mk ((cu_ HC.out).step hs hb hk); clear hs hb hk; (try clear y0 y1 y2 yf0 yf1 yf2); obtain ⟨y0, y1, y2, yf0, yf1, yf2⟩ := cz3_ B3.out) | ((with_reducible refine gate_builtin (b := .append) (xs := #[.tmp 29, .tmp 31]) rfl ?_); at_builtin; refine Kd.R_append (Kd.int .i64) w.heap.size rfl (.tmp 29) (.tmp 31) 24 3 (.int .i64 0) 8 rfl Tryz.underlying24 info3 rfl (by decide) (by omega) (.slice Am br.length cm) br x [.int .i64 x] (fun _ => True) (fun _ => False) rfl rfl ?aP (fun _ hk => hk.elim) ?aF ?aO (Below.refl _ _) ?aS ?aL ?_; (case aP => exact rfl); (case aF => exact (fun _ _ => trivial)); (case aO => exact (ra_ HM.out)); (case aS => exact (cu_ HC.out).k.1); (case aL => have := C2.out; omega); intro v_ wg ho hb hg hat; rw [← Q2.out] at ho; replace B2 := Aside0.mk (blk_grown (bq_ B2.out) hg (Kd.R_ne HM.out B2.out (by decide))); replace B3 := Aside0.mk (blk_grown (bq_ B3.out) hg (Kd.R_ne HM.out B3.out (by decide))); replace HC := Aside0.mk ((cu_ HC.out).grown HG.out (ra_ HM.out) hg hb); replace HM := Aside0.mk ho; obtain ⟨An, cn, e_⟩ := Kd.R_slice ho; subst e_; clear ho hb hg hat; (try clear y0 y1 y2 yf0 yf1 yf2); obtain ⟨y0, y1, y2, yf0, yf1, yf2⟩ := cz3_ B3.out))
              go_roundg k1
              case measure => have := HK1.out; omega
              case rel => exact ⟨_, i3, j3, b2, .slice An b2.length cn, rfl, H', ⟨by have := HK1.out; omega⟩, ⟨Kd.R_mono (Kd.R_far (p := ⟨g3, 2, none⟩) (Kd.R_types HM.out B3.out (by decide)) (fun _ hk => hk.2) (.slice An b2.length cn)) (fun _ hk => hk.1)⟩, ⟨(Below.heap_setCell _ _ _ _ N23.out).trans B2.out⟩, ⟨blk_put B3.out 2 (.slice An b2.length cn) rfl⟩, ⟨Cu.far HC.out G3.out HG.out _⟩⟩
            · rw [if_neg c2] at h; cases h
      · rw [if_neg c1] at h; have c1d : decide (x < wrap64 (4 * nc)) = false := decide_eq_false c1; clear c1
        simp only [Option.some.injEq, Prod.mk.injEq] at h
        obtain ⟨rfl, rfl, rfl, rfl, rfl⟩ := h
        go_upto_region 9 with (first | (go_at_call 80; (with_reducible refine (spec_NodeCount.calls t1 t2 nc _ E3.out).mono ?_); rintro e wd ⟨rfl, hb⟩; replace B2 := Aside0.mk (bk_ B2.out hb); replace B3 := Aside0.mk (bk_ B3.out hb); replace HM := Aside0.mk (Kd.R_below (ra_ HM.out) hb); replace HC := Aside0.mk ((cu_ HC.out).below hb); clear hb; (try clear y0 y1 y2 yf0 yf1 yf2); obtain ⟨y0, y1, y2, yf0, yf1, yf2⟩ := cz3_ B3.out))
        (try clear y0 y1 y2 yf0 yf1 yf2)
        obtain ⟨y0, y1, y2, yf0, yf1, yf2⟩ := cz3_ B3.out
        obtain ⟨z0, z1, z2, zf0, zf1, zf2⟩ := cz3_ B2.out
        go_wp2
        clear y0 y1 y2 yf0 yf1 yf2
        clear z0 z1 z2 zf0 zf1 zf2
        change bodyPost _ _ _ _ _ (st3_ _ g2 (.int .i64 t1) (.int .i64 t2) (.slice Am br.length cm))
        replace HM := Aside0.mk (st3_row HM.out B2.out (by decide) : Kd.R _ _ (st3_ _ g2 (.int .i64 t1) (.int .i64 t2) (.slice Am br.length cm)) _ _ _ _)
        replace B3 := Aside0.mk ((st3_far N23.out.symm : (st3_ _ g2 (.int .i64 t1) (.int .i64 t2) (.slice Am br.length cm)).heap[g3]? = _).trans B3.out)
        replace HC := Aside0.mk (st3_cu HC.out G2.out HG.out : Cu w0 w (st3_ _ g2 (.int .i64 t1) (.int .i64 t2) (.slice Am br.length cm)) g s0_0 _ _)
        replace B2 := Aside0.mk (st3_blk B2.out : (st3_ _ g2 (.int .i64 t1) (.int .i64 t2) (.slice Am br.length cm)).heap[g2]? = _)
        generalize st3_ _ g2 (.int .i64 t1) (.int .i64 t2) (.slice Am br.length cm) = wz at *
        refine bodyPost_ret (results_cell_row rfl _ _ g2 38 _ (0, 0) _ rfl (bq_ B2.out) Tryz.underlying38 rfl (by kernel_rfl)) rfl ?_
        exact ⟨_, rfl, Kd.R_mono (ra_ HM.out) (fun _ _ => trivial), (cu_ HC.out).s, (cu_ HC.out).bl, (cu_ HC.out).k⟩

/-! ### spec_l02Any: function 102 -/
def spec_l02Any.f (s0_0 : List Int) (s0_1 : Int) (s0_2 : Int) : Option (Int × Int × Int × Int) := (spec_l02Grid.f s0_0 s0_1 s0_2).bind fun bt201 => ((spec_l01Below.f s0_0 bt201.2.2.1 bt201.2.2.2 12).bind fun bt206 => (if bt206.1 = 0 then ((spec_l01PickInt.f s0_0 bt206.2.1 bt206.2.2 (([0, 4, 5, (-1)] : List Int))).bind fun bt212 => (some (bt212.1, bt201.2.1, bt212.2.1, bt212.2.2))) else (if bt206.1 = 1 then ((spec_l01PickInt.f s0_0 bt206.2.1 bt206.2.2 (([0, 4, 5, 9223372036854775807] : List Int))).bind fun bt218 => (some (bt201.1, bt218.1, bt218.2.1, bt218.2.2))) else (some (bt201.1, bt201.2.1, bt206.2.1, bt206.2.2)))))
theorem spec_l02Any.calls (g : Nat) (s0_0 : List Int) (s0_1 : Int) (s0_2 : Int) (r1 : Int) (r2 : Int) (r3 : Int) (r4 : Int) (w0 w : World) (hI : IsS95 w0 w g s0_0 s0_1 s0_2) (hB : Below w0.heap.size w0 w) (h : spec_l02Any.f s0_0 s0_1 s0_2 = some (r1, r2, r3, r4)) :
  Calls Tryz.prog 102 #[.pointer (some ⟨g, 0, none⟩)] w fun e w' => e = .returned (.agg #[.int .i64 r1, .int .i64 r2]) ∧ IsS95 w0 w' g s0_0 r3 r4 ∧ Below w0.heap.size w0 w' ∧ KeepBut w w' g none := by
 have HG := Aside0.mk hI.lt
 have HC := Aside0.mk (Cu.mk hI hB (KeepBut.refl w g none))
 clear hI hB
 have hu36 := Tryz.underlying36
 have hu38 := Tryz.underlying38
 have hu40 := Tryz.underlying40
 unfold spec_l02Any.f at h
 obtain ⟨⟨t1, t2, i1, j1⟩, e1, G_⟩ := Option.bind_eq_some_iff.1 h
 clear h; have h := G_; clear G_
 obtain ⟨⟨t3, i2, j2⟩, e2, G_⟩ := Option.bind_eq_some_iff.1 h
 clear h; have h := G_; clear G_
 dsimp only at e2 h
 have E1 := Aside0.mk e1; have E2 := Aside0.mk e2; have H' := Aside0.mk h; clear e1 e2 h
 go_enter Tryz.func102, Tryz.ntmps102
 go_upto_region 2 with (first | ((with_reducible refine gate_dst (N := 2) rfl ?_); refine box_event ?hg (N := 2) ?hd (cs := #[.int .i64 0, .int .i64 0]) (t := 36) ?hr ?_; (case hd => rfl); (case hg => rfl); (case hr => first | (go_simp; done) | (go_simp; rfl)); intro g2 hg w1 hbox hb; have B2_ := Aside0.mk hbox; have G2 := Aside0.mk (show w.heap.size ≤ g2 by rw [hg]; exact (cu_ HC.out).k.1); skip; have B2 := B2_; clear B2_; replace HC := Aside0.mk ((cu_ HC.out).below hb); clear hb hbox hg) | (go_at_call 98; (with_reducible refine (spec_l02Grid.calls  g s0_0 s0_1 s0_2  t1 t2 i1 j1 w0 _ ?s1 ?s2  E1.out).mono ?_); (case s1 => exact (cu_ HC.out).s); (case s2 => exact (cu_ HC.out).bl); rintro e wa ⟨rfl, hs, hb, hk⟩; replace B2 := Aside0.mk (Cu.blk HG.out G2.out (bq_ B2.out) hk); replace HC := Aside0.mk ((cu_ HC.out).step hs hb hk); clear hs hb hk))
 obtain ⟨g3, wb, hx_, hw_, B3_, G3_, hb_, HC_⟩ := HC.out.new (Obj.cells #[.int .i64 t1, .int .i64 t2] 36 (0, 0))
 have N23 := Aside0.mk (show g2 ≠ g3 by rw [← hx_]; exact Nat.ne_of_lt (blk_lt B2.out))
 replace B2 := Aside0.mk (bk_ B2.out hb_)
 rw [hx_, hw_]
 clear hb_ hx_ hw_
 have B3 := Aside0.mk B3_; have G3 := Aside0.mk G3_; replace HC := Aside0.mk HC_; clear B3_ G3_ HC_
 go_upto_region 3 with (first | (go_at_call 69; (with_reducible refine (spec_l01Below.calls  g s0_0 i1 j1 12 t3 i2 j2 w0 _ ?s1 ?s2  E2.out).mono ?_); (case s1 => exact (cu_ HC.out).s); (case s2 => exact (cu_ HC.out).bl); rintro e wc ⟨rfl, hs, hb, hk⟩; replace B2 := Aside0.mk (Cu.blk HG.out G2.out (bq_ B2.out) hk); replace B3 := Aside0.mk (Cu.blk HG.out G3.out (bq_ B3.out) hk); replace HC := Aside0.mk ((cu_ HC.out).step hs hb hk); clear hs hb hk))
 by_cases c0 : t3 = 0
 · have H := H'.out; rw [if_pos c0] at H; have c0b : (t3 == 0) = true := beq_iff_eq.mpr c0; clear H' c0
   obtain ⟨yl, hl⟩ : ∃ y_ : List Int, y_ = [0, 4, 5, -1] := ⟨_, rfl⟩
   rw [← hl] at H
   obtain ⟨⟨t4, i3, j3⟩, e3, G_⟩ := Option.bind_eq_some_iff.1 H
   have E3 := Aside0.mk e3; have YL := Aside0.mk hl; clear e3 hl H
   simp only [Option.some.injEq, Prod.mk.injEq] at G_
   obtain ⟨rfl, rfl, rfl, rfl⟩ := G_
   go_upto_region 7 with (first | ((with_reducible refine gate_dst (N := 11) rfl ?_); refine Kd.R_lit (Kd.int .i64) _ 3 ?hg (N := 11) ?hd (xs := ([0, 4, 5, -1] : List Int)) (inner := [.int .i64 0, .int .i64 4, .int .i64 5, .int .i64 (-1)]) (ok := fun _ => True) (okp := fun _ => True) ?hr ?hp (fun _ hk => hk) trivial (Below.refl _ _) (Nat.le_refl _) (by simp) ?_; (case hd => rfl); (case hg => rfl); (case hr => first | (go_simp; done) | (go_simp; rfl)); (case hp => exact (Reps.one (show Kd.M (Kd.int .i64) _ _ _ (0) [.int .i64 (0)] from rfl) (Reps.one (show Kd.M (Kd.int .i64) _ _ _ (4) [.int .i64 (4)] from rfl) (Reps.one (show Kd.M (Kd.int .i64) _ _ _ (5) [.int .i64 (5)] from rfl) (Reps.one (show Kd.M (Kd.int .i64) _ _ _ (-1) [.int .i64 (-1)] from rfl) (Reps.none _ _)))))); intro v_ wd ho hb hg_ hn_; clear hg_ hn_; rw [← YL.out] at ho; have HL := Aside0.mk (Kd.R_lower ho (cu_ HC.out).k.1); replace B2 := Aside0.mk (bk_ B2.out hb); replace B3 := Aside0.mk (bk_ B3.out hb); replace HC := Aside0.mk ((cu_ HC.out).below hb); clear hb ho; obtain ⟨Al, cl, e_⟩ := Kd.R_slice HL.out; subst e_) | (go_at_call 103; (with_reducible refine (spec_l01PickInt.calls  g s0_0 i2 j2 _ _ yl t4 i3 j3 w0 _ ?s1 ?s2 ?s3 (Kd.R_reads' HL.out).2.1 ?s5 E3.out).mono ?_); (case s1 => exact (cu_ HC.out).s); (case s2 => exact (cu_ HC.out).bl); (case s3 => exact (Kd.R_reads' (ra_ HL.out)).2.2); (case s5 => exact far_slice (IsS95.own_ne (cu_ HC.out).s (ra_ HL.out) (by decide))); rintro e we ⟨rfl, hs, hb, hk⟩; replace B2 := Aside0.mk (Cu.blk HG.out G2.out (bq_ B2.out) hk); replace B3 := Aside0.mk (Cu.blk HG.out G3.out (bq_ B3.out) hk); replace HC := Aside0.mk ((cu_ HC.out).step hs hb hk); clear hs hb hk; clear HL; obtain ⟨y0, y1, yf0, yf1⟩ := cz2_ B3.out))
   clear y0 y1 yf0 yf1
   have HN := Aside0.mk (blk_put B3.out 0 (.int .i64 t4) rfl : (we.setCell ⟨g3, 0, none⟩ (.int .i64 t4)).heap[g3]? = _)
   replace B3 := HN; clear HN
   replace B2 := Aside0.mk ((Below.heap_setCell _ _ _ _ N23.out : (we.setCell ⟨g3, 0, none⟩ (.int .i64 t4)).heap[g2]? = _).trans B2.out)
   replace HC := Aside0.mk (Cu.far HC.out G3.out HG.out _ : Cu w0 w (we.setCell ⟨g3, 0, none⟩ (.int .i64 t4)) g s0_0 _ _)
   generalize we.setCell ⟨g3, 0, none⟩ (.int .i64 t4) = wf at *
   obtain ⟨y0, y1, yf0, yf1⟩ := cz2_ B3.out
   obtain ⟨z0, z1, zf0, zf1⟩ := cz2_ B2.out
   go_wp2
   clear y0 y1 yf0 yf1
   clear z0 z1 zf0 zf1
   change bodyPost _ _ _ _ _ (st2_ _ g2 (.int .i64 t4) (.int .i64 t2))
   replace HC := Aside0.mk (st2_cu HC.out G2.out HG.out : Cu w0 w (st2_ _ g2 (.int .i64 t4) (.int .i64 t2)) g s0_0 _ _)
   replace B2 := Aside0.mk (st2_blk B2.out : (st2_ _ g2 (.int .i64 t4) (.int .i64 t2)).heap[g2]? = _)
   generalize st2_ _ g2 (.int .i64 t4) (.int .i64 t2) = wz at *
   refine bodyPost_ret (results_cell_row rfl _ _ g2 36 _ (0, 0) _ rfl (bq_ B2.out) Tryz.underlying36 rfl (by kernel_rfl)) rfl ?_
   exact ⟨rfl, (cu_ HC.out).s, (cu_ HC.out).bl, (cu_ HC.out).k⟩
 · have c0b : (t3 == 0) = false := beq_eq_false_iff_ne.mpr c0
   by_cases c1 : t3 = 1
   · have H := H'.out; rw [if_neg c0, if_pos c1] at H; have c1b : (t3 == 1) = true := beq_iff_eq.mpr c1; clear H' c0 c1
     obtain ⟨yl, hl⟩ : ∃ y_ : List Int, y_ = [0, 4, 5, 9223372036854775807] := ⟨_, rfl⟩
     rw [← hl] at H
     obtain ⟨⟨t4, i3, j3⟩, e3, G_⟩ := Option.bind_eq_some_iff.1 H
     have E3 := Aside0.mk e3; have YL := Aside0.mk hl; clear e3 hl H
     simp only [Option.some.injEq, Prod.mk.injEq] at G_
     obtain ⟨rfl, rfl, rfl, rfl⟩ := G_
     go_upto_region 7 with (first | ((with_reducible refine gate_dst (N := 17) rfl ?_); refine Kd.R_lit (Kd.int .i64) _ 3 ?hg (N := 17) ?hd (xs := ([0, 4, 5, 9223372036854775807] : List Int)) (inner := [.int .i64 0, .int .i64 4, .int .i64 5, .int .i64 9223372036854775807]) (ok := fun _ => True) (okp := fun _ => True) ?hr ?hp (fun _ hk => hk) trivial (Below.refl _ _) (Nat.le_refl _) (by simp) ?_; (case hd => rfl); (case hg => rfl); (case hr => first | (go_simp; done) | (go_simp; rfl)); (case hp => exact (Reps.one (show Kd.M (Kd.int .i64) _ _ _ (0) [.int .i64 (0)] from rfl) (Reps.one (show Kd.M (Kd.int .i64) _ _ _ (4) [.int .i64 (4)] from rfl) (Reps.one (show Kd.M (Kd.int .i64) _ _ _ (5) [.int .i64 (5)] from rfl) (Reps.one (show Kd.M (Kd.int .i64) _ _ _ (9223372036854775807) [.int .i64 (9223372036854775807)] from rfl) (Reps.none _ _)))))); intro v_ wd ho hb hg_ hn_; clear hg_ hn_; rw [← YL.out] at ho; have HL := Aside0.mk (Kd.R_lower ho (cu_ HC.out).k.1); replace B2 := Aside0.mk (bk_ B2.out hb); replace B3 := Aside0.mk (bk_ B3.out hb); replace HC := Aside0.mk ((cu_ HC.out).below hb); clear hb ho; obtain ⟨Al, cl, e_⟩ := Kd.R_slice HL.out; subst e_) | (go_at_call 103; (with_reducible refine (spec_l01PickInt.calls  g s0_0 i2 j2 _ _ yl t4 i3 j3 w0 _ ?s1 ?s2 ?s3 (Kd.R_reads' HL.out).2.1 ?s5 E3.out).mono ?_); (case s1 => exact (cu_ HC.out).s); (case s2 => exact (cu_ HC.out).bl); (case s3 => exact (Kd.R_reads' (ra_ HL.out)).2.2); (case s5 => exact far_slice (IsS95.own_ne (cu_ HC.out).s (ra_ HL.out) (by decide))); rintro e we ⟨rfl, hs, hb, hk⟩; replace B2 := Aside0.mk (Cu.blk HG.out G2.out (bq_ B2.out) hk); replace B3 := Aside0.mk (Cu.blk HG.out G3.out (bq_ B3.out) hk); replace HC := Aside0.mk ((cu_ HC.out).step hs hb hk); clear hs hb hk; clear HL; obtain ⟨y0, y1, yf0, yf1⟩ := cz2_ B3.out))
     clear y0 y1 yf0 yf1
     have HN := Aside0.mk (blk_put B3.out 1 (.int .i64 t4) rfl : (we.setCell ⟨g3, 1, none⟩ (.int .i64 t4)).heap[g3]? = _)
     replace B3 := HN; clear HN
     replace B2 := Aside0.mk ((Below.heap_setCell _ _ _ _ N23.out : (we.setCell ⟨g3, 1, none⟩ (.int .i64 t4)).heap[g2]? = _).trans B2.out)
     replace HC := Aside0.mk (Cu.far HC.out G3.out HG.out _ : Cu w0 w (we.setCell ⟨g3, 1, none⟩ (.int .i64 t4)) g s0_0 _ _)
     generalize we.setCell ⟨g3, 1, none⟩ (.int .i64 t4) = wf at *
     obtain ⟨y0, y1, yf0, yf1⟩ := cz2_ B3.out
     obtain ⟨z0, z1, zf0, zf1⟩ := cz2_ B2.out
     go_wp2
     clear y0 y1 yf0 yf1
     clear z0 z1 zf0 zf1
     change bodyPost _ _ _ _ _ (st2_ _ g2 (.int .i64 t1) (.int .i64 t4))
     replace HC := Aside0.mk (st2_cu HC.out G2.out HG.out : Cu w0 w (st2_ _ g2 (.int .i64 t1) (.int .i64 t4)) g s0_0 _ _)
     replace B2 := Aside0.mk (st2_blk B2.out : (st2_ _ g2 (.int .i64 t1) (.int .i64 t4)).heap[g2]? = _)
     generalize st2_ _ g2 (.int .i64 t1) (.int .i64 t4) = wz at *
     refine bodyPost_ret (results_cell_row rfl _ _ g2 36 _ (0, 0) _ rfl (bq_ B2.out) Tryz.underlying36 rfl (by kernel_rfl)) rfl ?_
     exact ⟨rfl, (cu_ HC.out).s, (cu_ HC.out).bl, (cu_ HC.out).k⟩
   · have H := H'.out; rw [if_neg c0, if_neg c1] at H; have c1b : (t3 == 1) = false := beq_eq_false_iff_ne.mpr c1; clear H' c0 c1
     simp only [Option.some.injEq, Prod.mk.injEq] at H
     obtain ⟨rfl, rfl, rfl, rfl⟩ := H
     go_upto_region 7 with fail
     obtain ⟨y0, y1, yf0, yf1⟩ := cz2_ B3.out
     obtain ⟨z0, z1, zf0, zf1⟩ := cz2_ B2.out
     go_wp2
     clear y0 y1 yf0 yf1
     clear z0 z1 zf0 zf1
     change bodyPost _ _ _ _ _ (st2_ _ g2 (.int .i64 t1) (.int .i64 t2))
     replace HC := Aside0.mk (st2_cu HC.out G2.out HG.out : Cu w0 w (st2_ _ g2 (.int .i64 t1) (.int .i64 t2)) g s0_0 _ _)
     replace B2 := Aside0.mk (st2_blk B2.out : (st2_ _ g2 (.int .i64 t1) (.int .i64 t2)).heap[g2]? = _)
     generalize st2_ _ g2 (.int .i64 t1) (.int .i64 t2) = wz at *
     refine bodyPost_ret (results_cell_row rfl _ _ g2 36 _ (0, 0) _ rfl (bq_ B2.out) Tryz.underlying36 rfl (by kernel_rfl)) rfl ?_
     exact ⟨rfl, (cu_ HC.out).s, (cu_ HC.out).bl, (cu_ HC.out).k⟩

/-! ### spec_l03Any: function 70 -/
def spec_l03Any.f (k : Nat) (s0_0 : List Int) (s0_1 : Int) (s0_2 : Int) : Option (Int × Int × List Int × Int × Int) := (spec_l03Mesh.f k s0_0 s0_1 s0_2).bind fun bt222 => ((spec_l01Below.f s0_0 bt222.2.2.2.1 bt222.2.2.2.2 14).bind fun bt230 => (if bt230.1 = 0 then ((spec_l02Any.f s0_0 bt230.2.1 bt230.2.2).bind fun bt233 => (some (bt233.1, bt233.2.1, bt222.2.2.1, bt233.2.2.1, bt233.2.2.2))) else (if bt230.1 = 1 then ((spec_l01PickInt.f s0_0 bt230.2.1 bt230.2.2 (([(-1), 0, 5, 63, 64] : List Int))).bind fun bt240 => (if bt222.2.2.1.length < 17592186044416 then (some (bt222.1, bt222.2.1, (bt222.2.2.1 ++ [bt240.1]), bt240.2.1, bt240.2.2)) else (none))) else (some (bt222.1, bt222.2.1, bt222.2.2.1, bt230.2.1, bt230.2.2)))))
theorem spec_l03Any.mono : ∀ a0 a1 a2 k, LeO (spec_l03Any.f k a0 a1 a2) (spec_l03Any.f (k + 1) a0 a1 a2) := by
 intro a0 a1 a2 k
 unfold spec_l03Any.f
 repeat' (with_reducible first | exact spec_l03Mesh.mono .. | exact LeO.refl .. | exact LeO.none .. | refine LeO.ite ?_ ?_ | refine LeO.bind ?_ (fun _ => ?_))
theorem spec_l03Any.calls (k : Nat) (g : Nat) (s0_0 : List Int) (s0_1 : Int) (s0_2 : Int) (r1 : Int) (r2 : Int) (r3 : List Int) (r4 : Int) (r5 : Int) (w0 w : World) (hI : IsS95 w0 w g s0_0 s0_1 s0_2) (hB : Below w0.heap.size w0 w) (h : spec_l03Any.f k s0_0 s0_1 s0_2 = some (r1, r2, r3, r4, r5)) :
  Calls Tryz.prog 70 #[.pointer (some ⟨g, 0, none⟩)] w fun e w' => ∃ v2_ : Value, e = .returned (.agg #[.int .i64 r1, .int .i64 r2, v2_]) ∧ Kd.R (Kd.int .i64) 3 w' w.heap.size (fun _ => True) v2_ r3 ∧ IsS95 w0 w' g s0_0 r4 r5 ∧ Below w0.heap.size w0 w' ∧ KeepBut w w' g none := by
 have HG := Aside0.mk hI.lt
 have HC := Aside0.mk (Cu.mk hI hB (KeepBut.refl w g none))
 clear hI hB
 have hu36 := Tryz.underlying36
 have hu38 := Tryz.underlying38
 have hu40 := Tryz.underlying40
 unfold spec_l03Any.f at h
 obtain ⟨⟨m1, m2, m3, i1, j1⟩, e1, G_⟩ := Option.bind_eq_some_iff.1 h
 clear h; have h := G_; clear G_
 obtain ⟨⟨t3, i2, j2⟩, e2, G_⟩ := Option.bind_eq_some_iff.1 h
 clear h; have h := G_; clear G_
 dsimp only at e2 h
 have E1 := Aside0.mk e1; have E2 := Aside0.mk e2; have H' := Aside0.mk h; clear e1 e2 h
 go_enter Tryz.func70, Tryz.ntmps70
 go_upto_region 2 with (first | ((with_reducible refine gate_dst (N := 2) rfl ?_); refine box_event ?hg (N := 2) ?hd (cs := #[.int .i64 0, .int .i64 0, .slice none 0 0]) (t := 38) ?hr ?_; (case hd => rfl); (case hg => rfl); (case hr => first | (go_simp; done) | (go_simp; rfl)); intro g2 hg w1 hbox hb; have B2_ := Aside0.mk hbox; have G2 := Aside0.mk (show w.heap.size ≤ g2 by rw [hg]; exact (cu_ HC.out).k.1); skip; have B2 := B2_; clear B2_; replace HC := Aside0.mk ((cu_ HC.out).below hb); clear hb hbox hg) | (go_at_call 101; (with_reducible refine (spec_l03Mesh.calls k g s0_0 s0_1 s0_2  m1 m2 m3 i1 j1 w0 _ ?s1 ?s2  E1.out).mono ?_); (case s1 => exact (cu_ HC.out).s); (case s2 => exact (cu_ HC.out).bl); rintro e wa ⟨v_, rfl, ho, hs, hb, hk⟩; have HM := Aside0.mk (Kd.R_lower ho (cu_ HC.out).k.1); obtain ⟨Am, cm, e_⟩ := Kd.R_slice ho; subst e_; clear ho; replace B2 := Aside0.mk (Cu.blk HG.out G2.out (bq_ B2.out) hk); replace HC := Aside0.mk ((cu_ HC.out).step hs hb hk); clear hs hb hk))
 obtain ⟨g3, wb, hx_, hw_, B3_, G3_, hb_, HC_⟩ := HC.out.new (Obj.cells #[.int .i64 m1, .int .i64 m2, .slice Am m3.length cm] 38 (0, 0))
 have N23 := Aside0.mk (show g2 ≠ g3 by rw [← hx_]; exact Nat.ne_of_lt (blk_lt B2.out))
 replace B2 := Aside0.mk (bk_ B2.out hb_)
 replace HM := Aside0.mk (Kd.R_below (ra_ HM.out) hb_)
 rw [hx_, hw_]
 clear hb_ hx_ hw_
 have B3 := Aside0.mk B3_; have G3 := Aside0.mk G3_; replace HC := Aside0.mk HC_; clear B3_ G3_ HC_
 go_upto_region 3 with (first | (go_at_call 69; (with_reducible refine (spec_l01Below.calls  g s0_0 i1 j1 14 t3 i2 j2 w0 _ ?s1 ?s2  E2.out).mono ?_); (case s1 => exact (cu_ HC.out).s); (case s2 => exact (cu_ HC.out).bl); rintro e wc ⟨rfl, hs, hb, hk⟩; replace B2 := Aside0.mk (Cu.blk HG.out G2.out (bq_ B2.out) hk); replace B3 := Aside0.mk (Cu.blk HG.out G3.out (bq_ B3.out) hk); replace HM := Aside0.mk (Cu.row HG.out (ra_ HM.out) hk); replace HC := Aside0.mk ((cu_ HC.out).step hs hb hk); clear hs hb hk))
 by_cases c0 : t3 = 0
 · have H := H'.out; rw [if_pos c0] at H; have c0b : (t3 == 0) = true := beq_iff_eq.mpr c0; clear H' c0
   obtain ⟨⟨t4, t5, i3, j3⟩, e3, G_⟩ := Option.bind_eq_some_iff.1 H
   have E3 := Aside0.mk e3; clear e3 H
   simp only [Option.some.injEq, Prod.mk.injEq] at G_
   obtain ⟨rfl, rfl, rfl, rfl, rfl⟩ := G_
   go_upto_region 7 with (first | (go_at_call 102; (with_reducible refine (spec_l02Any.calls  g s0_0 i2 j2  t4 t5 i3 j3 w0 _ ?s1 ?s2  E3.out).mono ?_); (case s1 => exact (cu_ HC.out).s); (case s2 => exact (cu_ HC.out).bl); rintro e we ⟨rfl, hs, hb, hk⟩; replace B2 := Aside0.mk (Cu.blk HG.out G2.out (bq_ B2.out) hk); replace B3 := Aside0.mk (Cu.blk HG.out G3.out (bq_ B3.out) hk); replace HM := Aside0.mk (Cu.row HG.out (ra_ HM.out) hk); replace HC := Aside0.mk ((cu_ HC.out).step hs hb hk); clear hs hb hk; obtain ⟨y0, y1, y2, yf0, yf1, yf2⟩ := cz3_ B3.out))
   clear y0 y1 y2 yf0 yf1 yf2
   replace HM := Aside0.mk (Kd.R_mono (Kd.R_far (p := ⟨g3, 0, none⟩) (Kd.R_types HM.out B3.out (by decide)) (fun _ hk => hk.2) (.int .i64 t4)) (fun _ hk => hk.1))
   replace B2 := Aside0.mk ((Below.heap_setCell _ _ _ _ N23.out : (we.setCell ⟨g3, 0, none⟩ (.int .i64 t4)).heap[g2]? = _).trans B2.out)
   replace B3 := Aside0.mk (blk_put B3.out 0 (.int .i64 t4) rfl : (we.setCell ⟨g3, 0, none⟩ (.int .i64 t4)).heap[g3]? = _)
   replace HC := Aside0.mk (Cu.far HC.out G3.out HG.out _ : Cu w0 w (we.setCell ⟨g3, 0, none⟩ (.int .i64 t4)) g s0_0 _ _)
   generalize we.setCell ⟨g3, 0, none⟩ (.int .i64 t4) = wf at *
   replace HM := Aside0.mk (Kd.R_mono (Kd.R_far (p := ⟨g3, 1, none⟩) (Kd.R_types HM.out B3.out (by decide)) (fun _ hk => hk.2) (.int .i64 t5)) (fun _ hk => hk.1))
   replace B2 := Aside0.mk ((Below.heap_setCell _ _ _ _ N23.out : (wf.setCell ⟨g3, 1, none⟩ (.int .i64 t5)).heap[g2]? = _).trans B2.out)
   replace B3 := Aside0.mk (blk_put B3.out 1 (.int .i64 t5) rfl : (wf.setCell ⟨g3, 1, none⟩ (.int .i64 t5)).heap[g3]? = _)
   replace HC := Aside0.mk (Cu.far HC.out G3.out HG.out _ : Cu w0 w (wf.setCell ⟨g3, 1, none⟩ (.int .i64 t5)) g s0_0 _ _)
   generalize wf.setCell ⟨g3, 1, none⟩ (.int .i64 t5) = wg at *
   obtain ⟨y0, y1, y2, yf0, yf1, yf2⟩ := cz3_ B3.out
   obtain ⟨z0, z1, z2, zf0, zf1, zf2⟩ := cz3_ B2.out
   go_wp2
   clear y0 y1 y2 yf0 yf1 yf2
   clear z0 z1 z2 zf0 zf1 zf2
   change bodyPost _ _ _ _ _ (st3_ _ g2 (.int .i64 t4) (.int .i64 t5) (.slice Am m3.length cm))
   replace HM := Aside0.mk (st3_row HM.out B2.out (by decide) : Kd.R _ _ (st3_ _ g2 (.int .i64 t4) (.int .i64 t5) (.slice Am m3.length cm)) _ _ _ _)
   replace B3 := Aside0.mk ((st3_far N23.out.symm : (st3_ _ g2 (.int .i64 t4) (.int .i64 t5) (.slice Am m3.length cm)).heap[g3]? = _).trans B3.out)
   replace HC := Aside0.mk (st3_cu HC.out G2.out HG.out : Cu w0 w (st3_ _ g2 (.int .i64 t4) (.int .i64 t5) (.slice Am m3.length cm)) g s0_0 _ _)
   replace B2 := Aside0.mk (st3_blk B2.out : (st3_ _ g2 (.int .i64 t4) (.int .i64 t5) (.slice Am m3.length cm)).heap[g2]? = _)
   generalize st3_ _ g2 (.int .i64 t4) (.int .i64 t5) (.slice Am m3.length cm) = wz at *
   refine bodyPost_ret (results_cell_row rfl _ _ g2 38 _ (0, 0) _ rfl (bq_ B2.out) Tryz.underlying38 rfl (by kernel_rfl)) rfl ?_
   exact ⟨_, rfl, Kd.R_mono (ra_ HM.out) (fun _ _ => trivial), (cu_ HC.out).s, (cu_ HC.out).bl, (cu_ HC.out).k⟩
 · have c0b : (t3 == 0) = false := beq_eq_false_iff_ne.mpr c0
   by_cases c1 : t3 = 1
   · have H := H'.out; rw [if_neg c0, if_pos c1] at H; have c1b : (t3 == 1) = true := beq_iff_eq.mpr c1; clear H' c0 c1
     obtain ⟨yl, hl⟩ : ∃ y_ : List Int, y_ = [-1, 0, 5, 63, 64] := ⟨_, rfl⟩
     rw [← hl] at H
     obtain ⟨⟨t4, i3, j3⟩, e3, G_⟩ := Option.bind_eq_some_iff.1 H
     have E3 := Aside0.mk e3; have YL := Aside0.mk hl; clear e3 hl H
     dsimp only at G_
     by_cases c2 : m3.length < 17592186044416
     rotate_left
     · rw [if_neg c2] at G_; cases G_
     rw [if_pos c2] at G_
     obtain ⟨m4, h4⟩ : ∃ y_, y_ = m3 ++ [t4] := ⟨_, rfl⟩
     rw [← h4] at G_
     have M4 := Aside0.mk h4; have C2 := Aside0.mk c2; clear h4 c2
     simp only [Option.some.injEq, Prod.mk.injEq] at G_
     obtain ⟨rfl, rfl, rfl, rfl, rfl⟩ := G_
     go_upto_region 6 with fail
     refine start_ (n := 9) (S := fun w' => w'.cell? ⟨g3, 2, none⟩ = some (.slice Am m3.length cm)) (ds := [8]) #[false, false, false, false, false, false, false, false, false] (by kernel_rfl) rfl rfl ((blk_cell B3.out 2).trans rfl) (fun hHeld => ?_)
     replace B2 := Aside0.mk (bq_ B2.out : wc.drew.heap[g2]? = _)
     replace B3 := Aside0.mk (bq_ B3.out : wc.drew.heap[g3]? = _)
     replace HM := Aside0.mk (Kd.R_drew HM.out)
     replace HC := Aside0.mk (Cu.drew HC.out)
     generalize wc.drew = wd at *
     refine pk_ 0 15 (bt_ 9 1) ?_
     refine tk_ (v := .slice Am m3.length cm) 1 16 (bt_ 9 3) hHeld ?_ (hy := by intro w' s0; go_simp)
     refine pk_ 2 17 (bt_ 9 7) ?_
     refine one_ (i := 3) (N := some 18) (bt_ 9 15) rfl rfl (by kernel_rfl) (by decide) (fun K hK => ?_)
     refine Kd.R_lit_step (Kd.int .i64) _ 3 ?hg (N := 18) ?hd (xs := ([-1, 0, 5, 63, 64] : List Int)) (inner := [.int .i64 (-1), .int .i64 0, .int .i64 5, .int .i64 63, .int .i64 64]) (ok := fun _ => True) (okp := fun _ => True) ?hr ?hp (fun _ hk => hk) trivial (Below.refl _ _) (Nat.le_refl _) (by simp) ?_; (case hd => rfl); (case hg => rfl); (case hr => first | (go_simp; done) | (go_simp; rfl)); (case hp => exact (Reps.one (show Kd.M (Kd.int .i64) _ _ _ (-1) [.int .i64 (-1)] from rfl) (Reps.one (show Kd.M (Kd.int .i64) _ _ _ (0) [.int .i64 (0)] from rfl) (Reps.one (show Kd.M (Kd.int .i64) _ _ _ (5) [.int .i64 (5)] from rfl) (Reps.one (show Kd.M (Kd.int .i64) _ _ _ (63) [.int .i64 (63)] from rfl) (Reps.one (show Kd.M (Kd.int .i64) _ _ _ (64) [.int .i64 (64)] from rfl) (Reps.none _ _))))))); intro v_ we ho hb hg_ hn_; clear hg_ hn_; rw [← YL.out] at ho; have HL := Aside0.mk (Kd.R_lower ho (cu_ HC.out).k.1); replace B2 := Aside0.mk (bk_ B2.out hb); replace B3 := Aside0.mk (bk_ B3.out hb); replace HM := Aside0.mk (Kd.R_below (ra_ HM.out) hb); replace HC := Aside0.mk ((cu_ HC.out).below hb); clear hb ho; obtain ⟨Al, cl, e_⟩ := Kd.R_slice HL.out; subst e_
     refine hK.out _ _ ((blk_cell B3.out 2).trans rfl) (fun hHeld => ?_)
     clear hK K
     refine norm_ (a' := ?_) ?_ ?_
     rotate_left
     · show Act.put _ (some 18) _ = _
       simp only [Act.put, List.setIfInBounds_toArray, List.set_cons_zero, List.set_cons_succ, i64_w, i32_w]
       rfl
     refine one_ (i := 4) (N := some 19) (bt_ 9 31) rfl rfl (by kernel_rfl) (by decide) (fun K hK => ?_)
     refine goes_ Tryz.func103 (by kernel_rfl) rfl #[.pointer (some ⟨g, 0, none⟩), .slice Al yl.length cl] (by rfl) rfl rfl (by (try simp only [List.map_toArray, List.map_cons, List.map_nil]); first | done | rfl) ?_
     (with_reducible refine (spec_l01PickInt.calls  g s0_0 i2 j2 _ _ yl t4 i3 j3 w0 _ ?s1 ?s2 ?s3 (Kd.R_reads' HL.out).2.1 ?s5 E3.out).mono ?_); (case s1 => exact (cu_ HC.out).s); (case s2 => exact (cu_ HC.out).bl); (case s3 => exact (Kd.R_reads' (ra_ HL.out)).2.2); (case s5 => exact far_slice (IsS95.own_ne (cu_ HC.out).s (ra_ HL.out) (by decide))); rintro e wf ⟨rfl, hs, hb, hk⟩; refine ⟨_, rfl, ?_⟩; clear HL; replace B2 := Aside0.mk (Cu.blk HG.out G2.out (bq_ B2.out) hk); replace B3 := Aside0.mk (Cu.blk HG.out G3.out (bq_ B3.out) hk); replace HM := Aside0.mk (Cu.row HG.out (ra_ HM.out) hk); replace HC := Aside0.mk ((cu_ HC.out).step hs hb hk); clear hs hb hk
     refine hK.out _ _ ((blk_cell B3.out 2).trans rfl) (fun hHeld => ?_)
     clear hK K
     refine norm_ (a' := ?_) ?_ ?_
     rotate_left
     · show Act.put _ (some 19) _ = _
       simp only [Act.put, List.setIfInBounds_toArray, List.set_cons_zero, List.set_cons_succ, i64_w, i32_w]
       rfl
     refine one_ (i := 5) (N := some 20) (bt_ 9 63) rfl rfl (by kernel_rfl) (by decide) (fun K hK => ?_)
     refine value_ (w1 := ?_) (v := ?_) (by rfl) rfl ?_ ?_
     rotate_left 2
     · go_simp
       constructor
       · rfl
       · rfl
     refine hK.out _ _ ((blk_cell (blk_alloc B3.out _) 2).trans rfl) (fun hHeld => ?_)
     clear hK K
     refine norm_ (a' := ?_) ?_ ?_
     rotate_left
     · show Act.put _ (some 20) _ = _
       simp only [Act.put, List.setIfInBounds_toArray, List.set_cons_zero, List.set_cons_succ, i64_w, i32_w]
       rfl
     refine one_ (i := 6) (N := some 21) (bt_ 9 127) rfl rfl (by kernel_rfl) (by decide) (fun K hK => ?_)
     refine Kd.R_append_step (Kd.int .i64) w.heap.size (by rfl) (.tmp 16) (.tmp 20) 24 3 (.int .i64 0) 8 rfl Tryz.underlying24 info3 rfl (by decide) (by omega) (.slice Am m3.length cm) m3 t4 [.int .i64 t4] (fun _ => True) (fun _ => False) rfl rfl ?aP (fun _ hk => hk.elim) ?aF ?aO (Below.refl _ _) ?aS ?aL ?_; (case aP => exact rfl); (case aF => exact fun _ _ => trivial); (case aO => exact Kd.R_mono (ra_ HM.out) (fun _ _ => trivial)); (case aS => exact (cu_ HC.out).k.1); (case aL => have := C2.out; omega)
     intro v_ wg ho hb hg hat
     rw [← M4.out] at ho
     replace B2 := Aside0.mk (blk_grown (bq_ B2.out) hg (Kd.R_ne HM.out B2.out (by decide)))
     replace B3 := Aside0.mk (blk_grown (bq_ B3.out) hg (Kd.R_ne HM.out B3.out (by decide)))
     replace HC := Aside0.mk ((cu_ HC.out).grown HG.out (ra_ HM.out) hg hb)
     replace HM := Aside0.mk ho
     obtain ⟨An, cn, e_⟩ := Kd.R_slice ho
     subst e_
     clear ho hb hg hat
     refine hK.out _ _ ((blk_cell B3.out 2).trans rfl) (fun hHeld => ?_)
     clear hK K
     refine norm_ (a' := ?_) ?_ ?_
     rotate_left
     · show Act.put _ (some 21) _ = _
       simp only [Act.put, List.setIfInBounds_toArray, List.set_cons_zero, List.set_cons_succ, i64_w, i32_w]
       rfl
     refine pk_ 7 22 (bt_ 9 255) ?_
     refine last_ (i := 8) (N := none) (bt_ 9 511) rfl rfl (by kernel_rfl) (by decide) (fun K hK => ?_)
     obtain ⟨y0, y1, y2, yf0, yf1, yf2⟩ := cz3_ B3.out
     refine skip_ (w1 := ?_) (by rfl) rfl ?_ ?_
     rotate_left
     · go_simp
       rfl
     refine hK.out _ _ ?_
     clear hK K
     clear y0 y1 y2 yf0 yf1 yf2
     refine done_ (by kernel_rfl) ?_
     replace HM := Aside0.mk (Kd.R_mono (Kd.R_far (p := ⟨g3, 2, none⟩) (Kd.R_types HM.out B3.out (by decide)) (fun _ hk => hk.2) (.slice An m4.length cn)) (fun _ hk => hk.1))
     replace B2 := Aside0.mk ((Below.heap_setCell _ _ _ _ N23.out : (wg.setCell ⟨g3, 2, none⟩ (.slice An m4.length cn)).heap[g2]? = _).trans B2.out)
     replace B3 := Aside0.mk (blk_put B3.out 2 (.slice An m4.length cn) rfl : (wg.setCell ⟨g3, 2, none⟩ (.slice An m4.length cn)).heap[g3]? = _)
     replace HC := Aside0.mk (Cu.far HC.out G3.out HG.out _ : Cu w0 w (wg.setCell ⟨g3, 2, none⟩ (.slice An m4.length cn)) g s0_0 _ _)
     generalize wg.setCell ⟨g3, 2, none⟩ (.slice An m4.length cn) = wh at *
     go_upto_region 7 with fail
     obtain ⟨y0, y1, y2, yf0, yf1, yf2⟩ := cz3_ B3.out
     obtain ⟨z0, z1, z2, zf0, zf1, zf2⟩ := cz3_ B2.out
     go_wp2
     clear y0 y1 y2 yf0 yf1 yf2
     clear z0 z1 z2 zf0 zf1 zf2
     change bodyPost _ _ _ _ _ (st3_ _ g2 (.int .i64 m1) (.int .i64 m2) (.slice An m4.length cn))
     replace HM := Aside0.mk (st3_row HM.out B2.out (by decide) : Kd.R _ _ (st3_ _ g2 (.int .i64 m1) (.int .i64 m2) (.slice An m4.length cn)) _ _ _ _)
     replace B3 := Aside0.mk ((st3_far N23.out.symm : (st3_ _ g2 (.int .i64 m1) (.int .i64 m2) (.slice An m4.length cn)).heap[g3]? = _).trans B3.out)
     replace HC := Aside0.mk (st3_cu HC.out G2.out HG.out : Cu w0 w (st3_ _ g2 (.int .i64 m1) (.int .i64 m2) (.slice An m4.length cn)) g s0_0 _ _)
     replace B2 := Aside0.mk (st3_blk B2.out : (st3_ _ g2 (.int .i64 m1) (.int .i64 m2) (.slice An m4.length cn)).heap[g2]? = _)
     generalize st3_ _ g2 (.int .i64 m1) (.int .i64 m2) (.slice An m4.length cn) = wz at *
     refine bodyPost_ret (results_cell_row rfl _ _ g2 38 _ (0, 0) _ rfl (bq_ B2.out) Tryz.underlying38 rfl (by kernel_rfl)) rfl ?_
     exact ⟨_, rfl, Kd.R_mono (ra_ HM.out) (fun _ _ => trivial), (cu_ HC.out).s, (cu_ HC.out).bl, (cu_ HC.out).k⟩
   · have H := H'.out; rw [if_neg c0, if_neg c1] at H; have c1b : (t3 == 1) = false := beq_eq_false_iff_ne.mpr c1; clear H' c0 c1
     simp only [Option.some.injEq, Prod.mk.injEq] at H
     obtain ⟨rfl, rfl, rfl, rfl, rfl⟩ := H
     go_upto_region 7 with fail
     obtain ⟨y0, y1, y2, yf0, yf1, yf2⟩ := cz3_ B3.out
     obtain ⟨z0, z1, z2, zf0, zf1, zf2⟩ := cz3_ B2.out
     go_wp2
     clear y0 y1 y2 yf0 yf1 yf2
     clear z0 z1 z2 zf0 zf1 zf2
     change bodyPost _ _ _ _ _ (st3_ _ g2 (.int .i64 m1) (.int .i64 m2) (.slice Am m3.length cm))
     replace HM := Aside0.mk (st3_row HM.out B2.out (by decide) : Kd.R _ _ (st3_ _ g2 (.int .i64 m1) (.int .i64 m2) (.slice Am m3.length cm)) _ _ _ _)
     replace B3 := Aside0.mk ((st3_far N23.out.symm : (st3_ _ g2 (.int .i64 m1) (.int .i64 m2) (.slice Am m3.length cm)).heap[g3]? = _).trans B3.out)
     replace HC := Aside0.mk (st3_cu HC.out G2.out HG.out : Cu w0 w (st3_ _ g2 (.int .i64 m1) (.int .i64 m2) (.slice Am m3.length cm)) g s0_0 _ _)
     replace B2 := Aside0.mk (st3_blk B2.out : (st3_ _ g2 (.int .i64 m1) (.int .i64 m2) (.slice Am m3.length cm)).heap[g2]? = _)
     generalize st3_ _ g2 (.int .i64 m1) (.int .i64 m2) (.slice Am m3.length cm) = wz at *
     refine bodyPost_ret (results_cell_row rfl _ _ g2 38 _ (0, 0) _ rfl (bq_ B2.out) Tryz.underlying38 rfl (by kernel_rfl)) rfl ?_
     exact ⟨_, rfl, Kd.R_mono (ra_ HM.out) (fun _ _ => trivial), (cu_ HC.out).s, (cu_ HC.out).bl, (cu_ HC.out).k⟩

end Go.Proofs.YtimdefbpoddoaaaGreat.PFnVerdicts
-- thin
