/- Each function that the law comes to, as a plain function, with the proof that the call in the model gives what that function says (written by a program of this session out of the translation). No condition. -/
import Derived.Test.YtaofkfooijfjbaaPFnExactArrivedAtx0
import Derived.Test.YtaofkfooijfjbaaPFnExactArrivedAtx9
import Derived.Test.YtaofkfooijfjbaaPFnExactArrivedAtx10
import Derived.Test.YtaofkfooijfjbaaPFnExactArrivedAtx13
import Derived.Test.YtaofkfooijfjbaaPFnExactArrivedAtx14
namespace Go.Proofs.Ytaofkfooijfjbaa.PFnExactArrivedAt
open Go.RowKit Go.Proofs.YtaofkfooijfjbaaW.PrintWords Go.Proofs.YtaofkfooijfjbaaW.PrintLast Go.Proofs.YtaofkfooijfjbaaW.PrintMore
attribute [local go_sem] max2_int min2_int max_two min_two max_three min_three max_four min_four   -- for this text's walks alone
set_option linter.unusedVariables false
set_option linter.unusedSimpArgs false

/-! ### impl_isPlace: function 78 -/
def impl_isPlace.f (k : Nat) (a0_0 : Int) (a0_1 : Int) (l0_2 : List Int) (l0_3 : List Int) (l0_4 : List Int) (l0_5 : List (List (S112))) (l0_6 : List Int) (l0_7 : List Int) (l0_8 : List (List (S112))) (l0_9 : List (List (S112))) (a0_10 : Int) (a1 : Int) : Option (Bool) := (impl_NetOk.f k a0_0 a0_1 l0_2 l0_3 l0_4 l0_5 l0_6 l0_7 l0_8 l0_9 a0_10).bind fun t490 => (if t490 = true then ((impl_isNode.f a0_0 a0_1 a1).bind fun t491 => (some t491)) else (some false))
theorem impl_isPlace.mono : ∀ a0 a1 a2 a3 a4 a5 a6 a7 a8 a9 a10 a11 k, LeO (impl_isPlace.f k a0 a1 a2 a3 a4 a5 a6 a7 a8 a9 a10 a11) (impl_isPlace.f (k + 1) a0 a1 a2 a3 a4 a5 a6 a7 a8 a9 a10 a11) := by
 intro a0 a1 a2 a3 a4 a5 a6 a7 a8 a9 a10 a11 k
 unfold impl_isPlace.f
 repeat' first
   | (with_reducible exact impl_NetOk.mono _ _ _ _ _ _ _ _ _ _ _ _)
   | (with_reducible exact LeO.refl _)
   | (with_reducible exact LeO.none _)
   | (with_reducible refine LeO.ite ?_ ?_)
   | (with_reducible refine LeO.bind ?_ (fun _ => ?_))
   | exact impl_NetOk.mono _ _ _ _ _ _ _ _ _ _ _ _
   | exact LeO.none _
   | refine LeO.ite ?_ ?_
   | refine LeO.bind ?_ (fun _ => ?_)
theorem impl_isPlace.e0 {P : Prop} (h : P := by
 go_enter Try.func78, Try.ntmps78
 go_wp2_with (first | ((with_reducible refine gate_dst (N := 2) rfl ?_); refine box_event ?hg (N := 2) ?hd (cs := #[.int .i64 a0_0, .int .i64 a0_1, .slice A0_2 l0_2.length c0_2, .slice A0_3 l0_3.length c0_3, .slice A0_4 l0_4.length c0_4, .slice A0_5 l0_5.length c0_5, .slice A0_6 l0_6.length c0_6, .slice A0_7 l0_7.length c0_7, .slice A0_8 l0_8.length c0_8, .slice A0_9 l0_9.length c0_9, .int .i64 a0_10]) (t := 37) ?hr ?_; (case hd => rfl); (case hg => rfl); (case hr => first | (go_simp; done) | (go_simp; rfl)); intro gb489 hg w_0 hbox hb; have BK489 := Aside0.mk (hbox); have GW489 := Aside0.mk ((by rw [hg]; exact (bz_ HB.out) : w.heap.size ≤ gb489)); have GE489 := Aside0.mk ((by rw [hg]; exact (bz_ HB.out) : w.heap.size ≤ gb489)); replace HB := Aside0.mk (bs_ HB.out hb); clear hb hbox hg; obtain ⟨hcz_0, hcz_1, hcz_2, hcz_3, hcz_4, hcz_5, hcz_6, hcz_7, hcz_8, hcz_9, hcz_10, hfz_0, hfz_1, hfz_2, hfz_3, hfz_4, hfz_5, hfz_6, hfz_7, hfz_8, hfz_9, hfz_10⟩ := cz11_ BK489.out) | ((with_reducible refine gate_callee (f := 12) rfl ?_); refine gm_ (some 6) Try.func12 #[.agg #[.int .i64 a0_0, .int .i64 a0_1, .slice A0_2 l0_2.length c0_2, .slice A0_3 l0_3.length c0_3, .slice A0_4 l0_4.length c0_4, .slice A0_5 l0_5.length c0_5, .slice A0_6 l0_6.length c0_6, .slice A0_7 l0_7.length c0_7, .slice A0_8 l0_8.length c0_8, .slice A0_9 l0_9.length c0_9, .int .i64 a0_10]] rfl ?_; (with_reducible refine (impl_NetOk.calls k a0_0 a0_1 _ _ l0_2 _ _ l0_3 _ _ l0_4 _ _ l0_5 _ _ l0_6 _ _ l0_7 _ _ l0_8 _ _ l0_9 a0_10 _ _ ?side1 HC0_2.out ?side3 HC0_3.out ?side5 HC0_4.out ?side7 HC0_5.out ?side9 HC0_6.out ?side11 HC0_7.out ?side13 HC0_8.out ?side15 HC0_9.out A3.out).mono ?_); (case side1 => exact cb_ HR0_2.out HB.out); (case side3 => exact cb_ HR0_3.out HB.out); (case side5 => exact cb_ HR0_4.out HB.out); (case side7 => exact cb_ HR0_5.out HB.out); (case side9 => exact cb_ HR0_6.out HB.out); (case side11 => exact cb_ HR0_7.out HB.out); (case side13 => exact cb_ HR0_8.out HB.out); (case side15 => exact cb_ HR0_9.out HB.out); rintro e w_0 ⟨rfl, hb⟩; refine ⟨_, rfl, ?_⟩; replace BK489 := Aside0.mk (bk_ BK489.out hb); replace HB := Aside0.mk (bs_ HB.out hb); (try clear hb); obtain ⟨hcz_0, hcz_1, hcz_2, hcz_3, hcz_4, hcz_5, hcz_6, hcz_7, hcz_8, hcz_9, hcz_10, hfz_0, hfz_1, hfz_2, hfz_3, hfz_4, hfz_5, hfz_6, hfz_7, hfz_8, hfz_9, hfz_10⟩ := cz11_ BK489.out) | (go_at_call 86; (with_reducible refine (impl_isNode.calls a0_0 a0_1 a1 t491 _ A5.out).mono ?_); rintro e w_0 ⟨rfl, hb⟩; replace BK489 := Aside0.mk (bk_ BK489.out hb); replace HB := Aside0.mk (bs_ HB.out hb); (try clear hb)))
 go_ret
 exact ⟨fin_, bb_ HB.out⟩) : P := h
set_option maxHeartbeats 8000000 in
set_option maxRecDepth 100000 in
theorem impl_isPlace.calls (k : Nat) (a0_0 : Int) (a0_1 : Int) (A0_2 : Option Addr) (c0_2 : Nat) (l0_2 : List Int) (A0_3 : Option Addr) (c0_3 : Nat) (l0_3 : List Int) (A0_4 : Option Addr) (c0_4 : Nat) (l0_4 : List Int) (A0_5 : Option Addr) (c0_5 : Nat) (l0_5 : List (List (S112))) (A0_6 : Option Addr) (c0_6 : Nat) (l0_6 : List Int) (A0_7 : Option Addr) (c0_7 : Nat) (l0_7 : List Int) (A0_8 : Option Addr) (c0_8 : Nat) (l0_8 : List (List (S112))) (A0_9 : Option Addr) (c0_9 : Nat) (l0_9 : List (List (S112))) (a0_10 : Int) (a1 : Int) (r : Bool) (w : World) (hr0_2 : Kd.C (Kd.int .i64) w A0_2 l0_2.length l0_2) (hc0_2 : l0_2.length ≤ c0_2) (hr0_3 : Kd.C (Kd.int .i64) w A0_3 l0_3.length l0_3) (hc0_3 : l0_3.length ≤ c0_3) (hr0_4 : Kd.C (Kd.int .i64) w A0_4 l0_4.length l0_4) (hc0_4 : l0_4.length ≤ c0_4) (hr0_5 : Kd.C (Kd.slice 112 k112) w A0_5 l0_5.length l0_5) (hc0_5 : l0_5.length ≤ c0_5) (hr0_6 : Kd.C (Kd.int .i64) w A0_6 l0_6.length l0_6) (hc0_6 : l0_6.length ≤ c0_6) (hr0_7 : Kd.C (Kd.int .i64) w A0_7 l0_7.length l0_7) (hc0_7 : l0_7.length ≤ c0_7) (hr0_8 : Kd.C (Kd.slice 112 k112) w A0_8 l0_8.length l0_8) (hc0_8 : l0_8.length ≤ c0_8) (hr0_9 : Kd.C (Kd.slice 112 k112) w A0_9 l0_9.length l0_9) (hc0_9 : l0_9.length ≤ c0_9) (h : impl_isPlace.f k a0_0 a0_1 l0_2 l0_3 l0_4 l0_5 l0_6 l0_7 l0_8 l0_9 a0_10 a1 = some r) :
  Calls Try.prog 78 #[.agg #[.int .i64 a0_0, .int .i64 a0_1, .slice A0_2 l0_2.length c0_2, .slice A0_3 l0_3.length c0_3, .slice A0_4 l0_4.length c0_4, .slice A0_5 l0_5.length c0_5, .slice A0_6 l0_6.length c0_6, .slice A0_7 l0_7.length c0_7, .slice A0_8 l0_8.length c0_8, .slice A0_9 l0_9.length c0_9, .int .i64 a0_10], .int .i64 a1] w fun e w' => e = .returned (.bool r) ∧ Below w.heap.size w w' := by
 have hu37 := Try.underlying37
 have hu25 := Try.underlying25
 have HR0_2 := Aside0.mk hr0_2
 have HC0_2 := Aside0.mk hc0_2
 clear hr0_2 hc0_2
 have HR0_3 := Aside0.mk hr0_3
 have HC0_3 := Aside0.mk hc0_3
 clear hr0_3 hc0_3
 have HR0_4 := Aside0.mk hr0_4
 have HC0_4 := Aside0.mk hc0_4
 clear hr0_4 hc0_4
 have HR0_5 := Aside0.mk hr0_5
 have HC0_5 := Aside0.mk hc0_5
 clear hr0_5 hc0_5
 have HR0_6 := Aside0.mk hr0_6
 have HC0_6 := Aside0.mk hc0_6
 clear hr0_6 hc0_6
 have HR0_7 := Aside0.mk hr0_7
 have HC0_7 := Aside0.mk hc0_7
 clear hr0_7 hc0_7
 have HR0_8 := Aside0.mk hr0_8
 have HC0_8 := Aside0.mk hc0_8
 clear hr0_8 hc0_8
 have HR0_9 := Aside0.mk hr0_9
 have HC0_9 := Aside0.mk hc0_9
 clear hr0_9 hc0_9
 have HB := Aside0.mk (Below.refl w.heap.size w)
 have H : ((impl_NetOk.f k a0_0 a0_1 l0_2 l0_3 l0_4 l0_5 l0_6 l0_7 l0_8 l0_9 a0_10).bind fun t490 => (if t490 = true then ((impl_isNode.f a0_0 a0_1 a1).bind fun t491 => (some t491)) else (some false))) = some r := h
 clear h
 replace H := Option.bind_eq_some_iff.mp H
 obtain ⟨t490, A30, H⟩ := H
 try dsimp only at H
 have A3 := Aside0.mk A30
 clear A30
 by_cases c4 : t490 = true
 ·subst c4
  rw [if_pos rfl] at H
  replace H := Option.bind_eq_some_iff.mp H
  obtain ⟨t491, A50, H⟩ := H
  try dsimp only at H
  have A5 := Aside0.mk A50
  clear A50
  obtain rfl := Option.some.inj H
  exact impl_isPlace.e0
 ·replace c4 := Bool.eq_false_iff.mpr c4
  subst c4
  rw [if_neg (show ¬ (false = true) by decide)] at H
  obtain rfl := Option.some.inj H
  exact impl_isPlace.e0

/-! ### impl_IsWhole: function 120 -/
-- needs:
attribute [local go_sem high] eqAF_
def impl_IsWhole.l0 : Nat → List S112 → Int → Option Bool
 | 0, _, _ => none
 | k + 1, l0, x => if x < (l0.length : Int) then (if 0 ≤ x then (if (!((rd_T112 l0 x).f0 == (rd_T112 l0 0).f0) || (!((rd_T112 l0 x).f1 == (rd_T112 l0 0).f1) || (!((rd_T112 l0 x).f2 == (rd_T112 l0 0).f2) || (!((rd_T112 l0 x).f3 == (x == 0)) || (!((rd_T112 l0 x).f4 == (x == (wrap64 ((l0.length : Int) - 1))))))))) = true then (some false) else (impl_IsWhole.l0 k l0 (wrap64 (x + 1)))) else none) else (some (decide ((l0.length : Int) > 0)))
def impl_IsWhole.f (k : Nat) (l0 : List S112) : Option Bool := impl_IsWhole.l0 k l0 0
theorem impl_IsWhole.mono_l : ∀ k l x, LeO (impl_IsWhole.l0 k l x) (impl_IsWhole.l0 (k + 1) l x)
 | 0, _, _ => fun r h => by simp [impl_IsWhole.l0] at h
 | k + 1, l, x => by
  have ih := impl_IsWhole.mono_l k
  unfold impl_IsWhole.l0
  exact LeO.ite (LeO.ite (LeO.ite (LeO.refl _) (ih _ _)) (LeO.refl _)) (LeO.refl _)
theorem impl_IsWhole.mono (l0 : List S112) : ∀ k, LeO (impl_IsWhole.f k l0) (impl_IsWhole.f (k + 1) l0) := fun k => impl_IsWhole.mono_l k l0 0
set_option maxHeartbeats 4000000 in
set_option maxRecDepth 100000 in
theorem impl_IsWhole.calls (k : Nat) (A0 : Option Addr) (c0 : Nat) (l0 : List S112) (r : Bool) (w : World) (hr0 : Kd.C k112 w A0 l0.length l0) (hc0 : l0.length ≤ c0) (h : impl_IsWhole.f k l0 = some r) :
  Calls Try.prog 120 #[.slice A0 l0.length c0] w fun e w' => e = .returned (.bool r) ∧ Below w.heap.size w w' := by
 have hu_ := Try.underlying112
 have HR0 := Aside0.mk hr0
 have HC0 := Aside0.mk hc0
 clear hr0 hc0
 have HB := Aside0.mk (Below.refl w.heap.size w)
 have H' := Aside0.mk h
 clear h
 go_enter Try.func120, Try.ntmps120
 go_wp2
 repeat (go_quiet (fail); try go_wp2)
 go_loopg [7] k (fun kq v7 w' => ∃ (x : Int), v7 = .int .i64 x ∧ Aside0 (impl_IsWhole.l0 kq l0 x = some r) ∧ Aside0 (kq ≤ k) ∧ Aside0 (Below w.heap.size w w'))
 case atStart => exact ⟨(0), ef_, H', ⟨Nat.le_refl _⟩, ⟨bb_ HB.out⟩⟩
 case round =>
  clear H'
  obtain ⟨x, rfl, HA, HK1, HB⟩ := hrel
  cases gk with
  | zero => exact absurd HA.out (by simp [impl_IsWhole.l0])
  | succ k1 =>
   have H := HA.out
   clear HA
   simp only [impl_IsWhole.l0] at H
   by_cases q1 : x < (l0.length : Int)
   ·rw [if_pos q1] at H
    by_cases q2 : 0 ≤ x
    ·rw [if_pos q2] at H
     have q3 : 0 < (l0.length : Int) := by omega
     have q0 : 0 ≤ (0 : Int) := Int.le_refl 0
     obtain ⟨ad, e0, hx0, hx1, hx2, hx3, hx4⟩ := at_T112 HR0.out x q2 q1
     cases e0
     obtain ⟨ad2, e1, hy0, hy1, hy2, hy3, hy4⟩ := at_T112 HR0.out 0 q0 q3
     obtain rfl : ad = ad2 := by injection e1
     have ea : ad.add ((0 : Int).toNat * 5) = ad := Addr.add_zero' _
     rw [ea] at hy0 hy1 hy2 hy3 hy4
     clear ea e1 q0
     replace hx0 := (HB.out.cell (World.block_lt_of_cell? w _ hx0)).trans hx0
     replace hx1 := (HB.out.cell (World.block_lt_of_cell? w _ hx1)).trans hx1
     replace hx2 := (HB.out.cell (World.block_lt_of_cell? w _ hx2)).trans hx2
     replace hx3 := (HB.out.cell (World.block_lt_of_cell? w _ hx3)).trans hx3
     replace hx4 := (HB.out.cell (World.block_lt_of_cell? w _ hx4)).trans hx4
     have Y0 := Aside0.mk hy0
     have Y1 := Aside0.mk hy1
     have Y2 := Aside0.mk hy2
     have Y3 := Aside0.mk hy3
     have Y4 := Aside0.mk hy4
     clear hy0 hy1 hy2 hy3 hy4
     have q1b : decide (x < (l0.length : Int)) = true := decide_eq_true q1
     have q2b : decide (0 ≤ x) = true := decide_eq_true q2
     have q3b : decide (0 < (l0.length : Int)) = true := decide_eq_true q3
     have q3c : (0 < l0.length) = True := eq_true (by omega)
     replace q1 := eq_true q1
     replace q2 := eq_true q2
     replace q3 := eq_true q3
     by_cases c6 : (!((rd_T112 l0 x).f0 == (rd_T112 l0 0).f0) || (!((rd_T112 l0 x).f1 == (rd_T112 l0 0).f1) || (!((rd_T112 l0 x).f2 == (rd_T112 l0 0).f2) || (!((rd_T112 l0 x).f3 == (x == 0)) || (!((rd_T112 l0 x).f4 == (x == (wrap64 ((l0.length : Int) - 1))))))))) = true
     ·rw [if_pos c6] at H
      obtain rfl := Option.some.inj H
      clear H
      have C6 := Aside0.mk c6
      clear c6
      go_wp2_with (first | ((with_reducible refine gate_dst (N := 4) rfl ?_); refine box_event ?hg (N := 4) ?hd (cs := #[.int .i64 0, .int .i64 0, .int .i64 0, .bool false, .bool false]) (t := 112) ?hr ?_; (case hd => rfl); (case hg => rfl); (case hr => first | (go_simp; done) | (go_simp; rfl)); intro gb hg w7 hbox hb; have BK := Aside0.mk hbox; have GE := Aside0.mk (show w.heap.size ≤ gb by rw [hg]; exact below_size HB.out); have HBX := Aside0.mk (below_step HB.out hb); clear HB; have HB := HBX; clear HBX; clear hb hbox hg; have hz0 := (blk_cell BK.out 0).trans rfl; have hz1 := (blk_cell BK.out 1).trans rfl; have hz2 := (blk_cell BK.out 2).trans rfl; have hz3 := (blk_cell BK.out 3).trans rfl; have hz4 := (blk_cell BK.out 4).trans rfl; have hf0 := blk_frozen BK.out 0; have hf1 := blk_frozen BK.out 1; have hf2 := blk_frozen BK.out 2; have hf3 := blk_frozen BK.out 3; have hf4 := blk_frozen BK.out 4))
      have BK5 := Aside0.mk (fiveF_ BK.out (.int .i64 (rd_T112 l0 x).f0) (.int .i64 (rd_T112 l0 x).f1) (.int .i64 (rd_T112 l0 x).f2) (.bool (rd_T112 l0 x).f3) (.bool (rd_T112 l0 x).f4))
      have HB5 := Aside0.mk (fiveB_ HB.out GE.out (.int .i64 (rd_T112 l0 x).f0) (.int .i64 (rd_T112 l0 x).f1) (.int .i64 (rd_T112 l0 x).f2) (.bool (rd_T112 l0 x).f3) (.bool (rd_T112 l0 x).f4))
      generalize hW : (((((w7.setCell ⟨gb, 0, none⟩ (.int .i64 (rd_T112 l0 x).f0)).setCell ⟨gb, 1, none⟩ (.int .i64 (rd_T112 l0 x).f1)).setCell ⟨gb, 2, none⟩ (.int .i64 (rd_T112 l0 x).f2)).setCell ⟨gb, 3, none⟩ (.bool (rd_T112 l0 x).f3)).setCell ⟨gb, 4, none⟩ (.bool (rd_T112 l0 x).f4)) = W at BK5 HB5 ⊢
      clear hW HB BK GE hx0 hx1 hx2 hx3 hx4 hz0 hz1 hz2 hz3 hz4 hf0 hf1 hf2 hf3 hf4
      have hz0 := (blk_cell BK5.out 0).trans rfl
      have hz1 := (blk_cell BK5.out 1).trans rfl
      have hz2 := (blk_cell BK5.out 2).trans rfl
      have hz3 := (blk_cell BK5.out 3).trans rfl
      have hz4 := (blk_cell BK5.out 4).trans rfl
      have hy0 := (HB5.out.cell (World.block_lt_of_cell? w _ Y0.out)).trans Y0.out
      have hy1 := (HB5.out.cell (World.block_lt_of_cell? w _ Y1.out)).trans Y1.out
      have hy2 := (HB5.out.cell (World.block_lt_of_cell? w _ Y2.out)).trans Y2.out
      have hy3 := (HB5.out.cell (World.block_lt_of_cell? w _ Y3.out)).trans Y3.out
      have hy4 := (HB5.out.cell (World.block_lt_of_cell? w _ Y4.out)).trans Y4.out
      have c6 := C6.out
      have c6a : ((rd_T112 l0 x).f0 == (rd_T112 l0 0).f0 && ((rd_T112 l0 x).f1 == (rd_T112 l0 0).f1 && ((rd_T112 l0 x).f2 == (rd_T112 l0 0).f2 && ((rd_T112 l0 x).f3 == (x == 0) && ((rd_T112 l0 x).f4 == (x == (wrap64 ((l0.length : Int) - 1)))))))) = false := by
       cases h : ((rd_T112 l0 x).f0 == (rd_T112 l0 0).f0 && ((rd_T112 l0 x).f1 == (rd_T112 l0 0).f1 && ((rd_T112 l0 x).f2 == (rd_T112 l0 0).f2 && ((rd_T112 l0 x).f3 == (x == 0) && ((rd_T112 l0 x).f4 == (x == (wrap64 ((l0.length : Int) - 1)))))))) with
       | false => rfl
       | true =>
        rw [← Bool.not_eq_false'] at h
        simp [Bool.not_and] at h c6
        simp_all
      repeat (go_quiet (fail); try go_wp2)
      go_ret
      exact ⟨fin_, bb_ HB5.out⟩
     ·rw [if_neg c6] at H
      have H' := Aside0.mk H
      clear H
      have C6 := Aside0.mk (eq_false_of_ne_true c6)
      clear c6
      go_wp2_with (first | ((with_reducible refine gate_dst (N := 4) rfl ?_); refine box_event ?hg (N := 4) ?hd (cs := #[.int .i64 0, .int .i64 0, .int .i64 0, .bool false, .bool false]) (t := 112) ?hr ?_; (case hd => rfl); (case hg => rfl); (case hr => first | (go_simp; done) | (go_simp; rfl)); intro gb hg w7 hbox hb; have BK := Aside0.mk hbox; have GE := Aside0.mk (show w.heap.size ≤ gb by rw [hg]; exact below_size HB.out); have HBX := Aside0.mk (below_step HB.out hb); clear HB; have HB := HBX; clear HBX; clear hb hbox hg; have hz0 := (blk_cell BK.out 0).trans rfl; have hz1 := (blk_cell BK.out 1).trans rfl; have hz2 := (blk_cell BK.out 2).trans rfl; have hz3 := (blk_cell BK.out 3).trans rfl; have hz4 := (blk_cell BK.out 4).trans rfl; have hf0 := blk_frozen BK.out 0; have hf1 := blk_frozen BK.out 1; have hf2 := blk_frozen BK.out 2; have hf3 := blk_frozen BK.out 3; have hf4 := blk_frozen BK.out 4))
      have BK5 := Aside0.mk (fiveF_ BK.out (.int .i64 (rd_T112 l0 x).f0) (.int .i64 (rd_T112 l0 x).f1) (.int .i64 (rd_T112 l0 x).f2) (.bool (rd_T112 l0 x).f3) (.bool (rd_T112 l0 x).f4))
      have HB5 := Aside0.mk (fiveB_ HB.out GE.out (.int .i64 (rd_T112 l0 x).f0) (.int .i64 (rd_T112 l0 x).f1) (.int .i64 (rd_T112 l0 x).f2) (.bool (rd_T112 l0 x).f3) (.bool (rd_T112 l0 x).f4))
      generalize hW : (((((w7.setCell ⟨gb, 0, none⟩ (.int .i64 (rd_T112 l0 x).f0)).setCell ⟨gb, 1, none⟩ (.int .i64 (rd_T112 l0 x).f1)).setCell ⟨gb, 2, none⟩ (.int .i64 (rd_T112 l0 x).f2)).setCell ⟨gb, 3, none⟩ (.bool (rd_T112 l0 x).f3)).setCell ⟨gb, 4, none⟩ (.bool (rd_T112 l0 x).f4)) = W at BK5 HB5 ⊢
      clear hW HB BK GE hx0 hx1 hx2 hx3 hx4 hz0 hz1 hz2 hz3 hz4 hf0 hf1 hf2 hf3 hf4
      have hz0 := (blk_cell BK5.out 0).trans rfl
      have hz1 := (blk_cell BK5.out 1).trans rfl
      have hz2 := (blk_cell BK5.out 2).trans rfl
      have hz3 := (blk_cell BK5.out 3).trans rfl
      have hz4 := (blk_cell BK5.out 4).trans rfl
      have hy0 := (HB5.out.cell (World.block_lt_of_cell? w _ Y0.out)).trans Y0.out
      have hy1 := (HB5.out.cell (World.block_lt_of_cell? w _ Y1.out)).trans Y1.out
      have hy2 := (HB5.out.cell (World.block_lt_of_cell? w _ Y2.out)).trans Y2.out
      have hy3 := (HB5.out.cell (World.block_lt_of_cell? w _ Y3.out)).trans Y3.out
      have hy4 := (HB5.out.cell (World.block_lt_of_cell? w _ Y4.out)).trans Y4.out
      have c6 := C6.out
      repeat (go_quiet (fail); try go_wp2)
      go_roundg k1
      case measure => have := HK1.out; omega
      case rel => exact ⟨(wrap64 (x + 1)), ef_, H', ⟨by have := HK1.out; omega⟩, ⟨bb_ HB5.out⟩⟩
    ·rw [if_neg q2] at H
     exact absurd H (by simp)
   ·rw [if_neg q1] at H
    have q1b : decide (x < (l0.length : Int)) = false := decide_eq_false q1
    clear q1
    obtain rfl := Option.some.inj H
    go_wp2
    repeat (go_quiet (fail); try go_wp2)
    go_ret
    exact ⟨fin_, bb_ HB.out⟩

/-! ### impl_WholePackets: function 104 -/
def impl_WholePackets.l0 : Nat → List (S112) → List Int → Int → Int → Option (List Int × Bool)
 | 0, _, _, _, _ => none
 | k + 1, x0, x4, x5, x6 => if x6 ≤ (x0.length : Int) then (if 0 ≤ x5 then (if x5 ≤ x6 then ((impl_IsWhole.f k ((x0.take (x6 : Int).toNat).drop (x5 : Int).toNat)).bind fun t499 => (if t499 = true then (if x5 < (x0.length : Int) then (if x4.length < 17592186044416 then (impl_WholePackets.l0 k x0 (x4 ++ [(rd_T112 x0 x5).f0]) x6 (wrap64 (x6 + 1))) else (none)) else (none)) else (impl_WholePackets.l0 k x0 x4 x5 (wrap64 (x6 + 1))))) else (none)) else (none)) else (if x5 < (x0.length : Int) then (some (([] : List Int), false)) else (some (x4, true)))
def impl_WholePackets.f (k : Nat) (l0 : List (S112)) : Option (List Int × Bool) := impl_WholePackets.l0 k l0 (([] : List Int)) 0 1
theorem impl_WholePackets.mono_l : ∀ k, (∀ y0 y1 y2 y3, LeO (impl_WholePackets.l0 k y0 y1 y2 y3) (impl_WholePackets.l0 (k + 1) y0 y1 y2 y3))
 | 0 => fun _ _ _ _ r h => by simp [impl_WholePackets.l0] at h
 | k + 1 => by
  have ih0 := impl_WholePackets.mono_l k
  ·intro y0 y1 y2 y3
   unfold impl_WholePackets.l0
   repeat' first
   | (with_reducible exact ih0 _ _ _ _)
   | (with_reducible exact impl_IsWhole.mono _ _)
   | (with_reducible exact LeO.refl _)
   | (with_reducible exact LeO.none _)
   | (with_reducible refine LeO.ite ?_ ?_)
   | (with_reducible refine LeO.bind ?_ (fun _ => ?_))
   | exact ih0 _ _ _ _
   | exact impl_IsWhole.mono _ _
   | exact LeO.none _
   | refine LeO.ite ?_ ?_
   | refine LeO.bind ?_ (fun _ => ?_)
theorem impl_WholePackets.mono : ∀ a0 k, LeO (impl_WholePackets.f k a0) (impl_WholePackets.f (k + 1) a0) := by
 intro a0 k
 have ih0 := impl_WholePackets.mono_l k
 unfold impl_WholePackets.f
 repeat' first
   | (with_reducible exact ih0 _ _ _ _)
   | (with_reducible exact impl_IsWhole.mono _ _)
   | (with_reducible exact LeO.refl _)
   | (with_reducible exact LeO.none _)
   | (with_reducible refine LeO.ite ?_ ?_)
   | (with_reducible refine LeO.bind ?_ (fun _ => ?_))
   | exact ih0 _ _ _ _
   | exact impl_IsWhole.mono _ _
   | exact LeO.none _
   | refine LeO.ite ?_ ?_
   | refine LeO.bind ?_ (fun _ => ?_)
set_option maxHeartbeats 8000000 in
set_option maxRecDepth 100000 in
theorem impl_WholePackets.calls (k : Nat) (A0 : Option Addr) (c0 : Nat) (l0 : List (S112)) (r1 : List Int) (r2 : Bool) (w : World) (hr0 : Kd.C k112 w A0 l0.length l0) (hc0 : l0.length ≤ c0) (h : impl_WholePackets.f k l0 = some (r1, r2)) :
  Calls Try.prog 104 #[.slice A0 l0.length c0] w fun e w' => ∃ v0_ : Value, e = .returned (.tuple #[v0_, .bool r2]) ∧ Kd.R (Kd.int .i64) 3 w' w.heap.size (fun _ => True) v0_ r1 ∧ Below w.heap.size w w' := by
 have HR0 := Aside0.mk hr0
 have HC0 := Aside0.mk hc0
 clear hr0 hc0
 have HB := Aside0.mk (Below.refl w.heap.size w)
 have H : (impl_WholePackets.l0 k l0 (([] : List Int)) 0 1) = some (r1, r2) := h
 clear h
 obtain ⟨y492, hy492⟩ : ∃ y_ : List Int, y_ = (([] : List Int)) := ⟨_, rfl⟩
 replace H : (impl_WholePackets.l0 k l0 y492 0 1) = some (r1, r2) := by first | (rw [hy492]; with_reducible exact H) | (have H2_ := (Option.bind_some _ _).symm.trans H; rw [hy492]; with_reducible exact H2_) | (have H2_ := (Option.bind_some _ _).symm.trans H; with_reducible exact H2_) | with_reducible exact H | (rw [hy492]; exact H) | exact H
 have Ny492 := Aside0.mk hy492
 clear hy492
 have H' := Aside0.mk H
 clear H
 go_enter Try.func104, Try.ntmps104
 go_wp2_with (first | ((with_reducible refine gate_dst (N := 7) rfl ?_); refine Kd.R_lit (Kd.int .i64) _ 3 ?hg (N := 7) ?hd (xs := ([] : List Int)) (inner := []) (ok := fun _ => True) (okp := fun _ => True) ?hr ?hp (fun _ hk => hk) trivial (Below.refl _ _) (Nat.le_refl _) (by simp) ?_; (case hd => rfl); (case hg => rfl); (case hr => first | (go_simp; done) | (go_simp; rfl)); (case hp => exact (Reps.none _ _)); intro v493 w2 ho3 hb hg_ hnew_; clear hg_ hnew_; (first | rw [← Ny492.out] at ho3 | (simp only [Int.reduceToNat] at ho3; rw [← Ny492.out] at ho3)); have HO494 := Aside0.mk (Kd.R_lower ho3 (bz_ HB.out)); replace HB := Aside0.mk (bs_ HB.out hb); clear hb ho3))
 go_loopg [4, 5, 6] k (fun kq v4 v5 v6 w' => ∃ (x4_1 : List Int) (x5_1 : Int) (x6_1 : Int), v5 = .int .i64 x5_1 ∧ v6 = .int .i64 x6_1 ∧ Aside0 (impl_WholePackets.l0 kq l0 x4_1 x5_1 x6_1 = some (r1, r2)) ∧ Aside0 (kq ≤ k) ∧ Aside0 (Kd.R (Kd.int .i64) 3 w' w.heap.size (fun _ => True) v4 x4_1) ∧ Aside0 (Below w.heap.size w w'))
 case atStart => exact ⟨(y492), (0), (1), ef_, ef_, H', ⟨Nat.le_refl _⟩, ⟨by (with_reducible repeat (first | apply Kd.R_alloc | apply Kd.R_drewN | apply Kd.R_drew)); exact HO494.out⟩, ⟨bb_ HB.out⟩⟩
 case round =>
  clear H'
  obtain ⟨x4_1, x5_1, x6_1, rfl, rfl, HA, HK1, HO_4, HB⟩ := hrel
  cases gk with
  | zero => exact absurd HA.out (by simp [impl_WholePackets.l0])
  | succ k1 =>
   have H := HA.out
   clear HA
   simp only [impl_WholePackets.l0] at H
   by_cases c4 : x6_1 ≤ (l0.length : Int)
   ·rw [if_pos c4] at H
    have c4b0 : decide (x6_1 ≤ (l0.length : Int)) = true := decide_eq_true c4
    clear c4
    by_cases c5 : 0 ≤ x5_1
    ·rw [if_pos c5] at H
     have c5b0 := eq_true c5
     have c5b1 : decide (0 ≤ x5_1) = true := decide_eq_true c5
     clear c5
     by_cases c6 : x5_1 ≤ x6_1
     ·rw [if_pos c6] at H
      have c6b0 := eq_true c6
      have c6b1 : decide (x5_1 ≤ x6_1) = true := decide_eq_true c6
      clear c6
      have c7b0 := eq_true (of_decide_eq_true dg_ : x6_1 ≤ (l0.length : Int))
      obtain ⟨y495, hy495⟩ : ∃ y_ : List (S112), y_ = ((l0.take (x6_1 : Int).toNat).drop (x5_1 : Int).toNat) := ⟨_, rfl⟩
      replace H : ((impl_IsWhole.f k1 y495).bind fun t499 => (if t499 = true then (if x5_1 < (l0.length : Int) then (if x4_1.length < 17592186044416 then (impl_WholePackets.l0 k1 l0 (x4_1 ++ [(rd_T112 l0 x5_1).f0]) x6_1 (wrap64 (x6_1 + 1))) else (none)) else (none)) else (impl_WholePackets.l0 k1 l0 x4_1 x5_1 (wrap64 (x6_1 + 1))))) = some (r1, r2) := by first | (rw [hy495]; with_reducible exact H) | (have H2_ := (Option.bind_some _ _).symm.trans H; rw [hy495]; with_reducible exact H2_) | (have H2_ := (Option.bind_some _ _).symm.trans H; with_reducible exact H2_) | with_reducible exact H | (rw [hy495]; exact H) | exact H
      have Ny495 := Aside0.mk hy495
      clear hy495
      replace H := Option.bind_eq_some_iff.mp H
      obtain ⟨t499, A80, H⟩ := H
      try dsimp only at H
      have A8 := Aside0.mk A80
      clear A80
      by_cases c9 : t499 = true
      ·subst c9
       rw [if_pos rfl] at H
       by_cases c10 : x5_1 < (l0.length : Int)
       ·rw [if_pos c10] at H
        have c10b0 : decide (x5_1 < (l0.length : Int)) = true := decide_eq_true c10
        clear c10
        by_cases c11 : x4_1.length < 17592186044416
        ·rw [if_pos c11] at H
         have LMc11 := Aside0.mk c11
         clear c11
         obtain ⟨y501, hy501⟩ : ∃ y_ : List Int, y_ = (x4_1 ++ [(rd_T112 l0 x5_1).f0]) := ⟨_, rfl⟩
         replace H : (impl_WholePackets.l0 k1 l0 y501 x6_1 (wrap64 (x6_1 + 1))) = some (r1, r2) := by first | (rw [hy501]; with_reducible exact H) | (have H2_ := (Option.bind_some _ _).symm.trans H; rw [hy501]; with_reducible exact H2_) | (have H2_ := (Option.bind_some _ _).symm.trans H; with_reducible exact H2_) | with_reducible exact H | (rw [hy501]; exact H) | exact H
         have Ny501 := Aside0.mk hy501
         clear hy501
         have H' := Aside0.mk H
         clear H
         have q12 : (x6_1 : Int) ≤ ((l0.length : Int) : Int) := of_decide_eq_true dg_
         obtain ⟨i012, hi012, _, hsz12, _⟩ := info_parts info112
         have hroom12 : l0.length ≤ c0 := HC0.out
         have hC12 : Kd.C k112 _ A0 l0.length l0 := HR0.out
         have ql12 : (x5_1 : Int) ≤ (x6_1 : Int) := of_decide_eq_true dg_
         have q012 : (0 : Int) ≤ (x5_1 : Int) := of_decide_eq_true dg_
         have hcut12 := cut_mid (P := Try.prog) 81 112 .i64 .i64 Try.underlying81 hi012 5 hsz12 A0 l0.length c0 x5_1 x6_1 q012 ql12 q12 hroom12
         have hr12 := Kd.C_mid (lo := (x5_1 : Int).toNat) (hi := (x6_1 : Int).toNat) (c := c0) hC12 (by omega) (by omega) hroom12
         obtain ⟨A12, hA12⟩ : ∃ A1, A1 = (if c0 = (x5_1 : Int).toNat then A0 else (A0 : Option Addr).map (·.add ((x5_1 : Int).toNat * 5))) := ⟨_, rfl⟩
         obtain ⟨c12, hc12⟩ : ∃ c1, c1 = c0 - (x5_1 : Int).toNat := ⟨_, rfl⟩
         have hy12 : y495.length = (x6_1 : Int).toNat - (x5_1 : Int).toNat := (by rw [Ny495.out, List.length_drop, List.length_take] <;> omega)
         rw [show ((l0).take (x6_1 : Int).toNat).drop (x5_1 : Int).toNat = y495 from Ny495.out.symm] at hr12
         replace hr12 : Kd.C k112 _ A12 y495.length y495 := (by rw [hA12]; exact hr12)
         rw [← hy12, ← hA12, ← hc12] at hcut12
         have HR498 := Aside0.mk hr12
         have HC498 := Aside0.mk (show y495.length ≤ c12 from by rw [hy12, hc12]; exact Nat.sub_le_sub_right (Nat.le_trans (by omega) hroom12) _)
         clear hr12 hC12 hroom12 hi012 hsz12 hc12
         have KY12 := Aside0.mk hy12
         have KA12 := Aside0.mk hA12
         clear hy12 hA12
         replace q12 := eq_true q12
         go_wp2_with (first | ((with_reducible refine gate_callee (f := 120) rfl ?_); refine gm_ (some 18) Try.func120 #[.slice A12 y495.length c12] rfl ?_; (with_reducible refine (impl_IsWhole.calls k1 _ _ y495 true _ ?side1 HC498.out A8.out).mono ?_); (case side1 => exact cb_ HR498.out HB.out); rintro e w13 ⟨rfl, hb⟩; refine ⟨_, rfl, ?_⟩; replace HO_4 := Aside0.mk (Kd.R_below (ra_ HO_4.out) hb); replace HB := Aside0.mk (bs_ HB.out hb); (try clear hb); have p500 : 0 ≤ (x5_1 : Int) := of_decide_eq_true dg_; have q500 : x5_1 < (l0.length : Int) := of_decide_eq_true dg_; obtain ⟨ad500, e500, hx500_0, hx500_1, hx500_2, hx500_3, hx500_4⟩ := at_T112 HR0.out x5_1 p500 q500; cases e500; replace hx500_0 := (HB.out.cell (World.block_lt_of_cell? w _ hx500_0)).trans hx500_0; replace hx500_1 := (HB.out.cell (World.block_lt_of_cell? w _ hx500_1)).trans hx500_1; replace hx500_2 := (HB.out.cell (World.block_lt_of_cell? w _ hx500_2)).trans hx500_2; replace hx500_3 := (HB.out.cell (World.block_lt_of_cell? w _ hx500_3)).trans hx500_3; replace hx500_4 := (HB.out.cell (World.block_lt_of_cell? w _ hx500_4)).trans hx500_4; replace p500 := eq_true p500; replace q500 := eq_true q500) | ((with_reducible refine gate_builtin (b := .append) (xs := #[.tmp 19, .tmp 25]) rfl ?_); at_builtin; refine Kd.R_append (Kd.int .i64) (w0 := w) w.heap.size rfl (.tmp 19) (.tmp 25) 26 3 (.int .i64 0) 8 rfl Try.underlying26 info3 rfl (by decide) (by omega) u4 x4_1 ((rd_T112 l0 x5_1).f0) [.int .i64 ((rd_T112 l0 x5_1).f0)] (fun _ => True) (fun _ => False) rfl rfl ?aP (fun _ hk => hk.elim) ?aF ?aO ?aB ?aS ?aL ?_; (case aP => exact rfl); (case aB => exact (by repeat (first | (with_reducible first | exact HB.out | apply below_alloc | apply pw_below_drewN | apply below_drew1) | exact HB.out))); (case aF => exact (fun _ _ => trivial)); (case aO => exact (ra_ HO_4.out)); (case aS => exact (bz_ HB.out)); (case aL => have := LMc11.out; omega); intro v502 w14 ho hb hg hat; rw [← Ny501.out] at ho; have n0_ := Aside0.mk (hb); have n1_ := Aside0.mk (ho); clear HB; clear HO_4; have HB := n0_; have HO503 := n1_; clear n0_ n1_; clear ho hb hg hat))
         go_roundg k1
         case measure => have := HK1.out; omega
         case rel => exact ⟨(y501), (x6_1), (wrap64 (x6_1 + 1)), ef_, ef_, H', ⟨by have := HK1.out; omega⟩, ⟨by (with_reducible repeat (first | apply Kd.R_alloc | apply Kd.R_drewN | apply Kd.R_drew)); exact HO503.out⟩, ⟨bb_ HB.out⟩⟩
        ·rw [if_neg c11] at H
         exact absurd H (by simp)
       ·rw [if_neg c10] at H
        exact absurd H (by simp)
      ·replace c9 := Bool.eq_false_iff.mpr c9
       subst c9
       rw [if_neg (show ¬ (false = true) by decide)] at H
       have H' := Aside0.mk H
       clear H
       have q15 : (x6_1 : Int) ≤ ((l0.length : Int) : Int) := of_decide_eq_true dg_
       obtain ⟨i015, hi015, _, hsz15, _⟩ := info_parts info112
       have hroom15 : l0.length ≤ c0 := HC0.out
       have hC15 : Kd.C k112 _ A0 l0.length l0 := HR0.out
       have ql15 : (x5_1 : Int) ≤ (x6_1 : Int) := of_decide_eq_true dg_
       have q015 : (0 : Int) ≤ (x5_1 : Int) := of_decide_eq_true dg_
       have hcut15 := cut_mid (P := Try.prog) 81 112 .i64 .i64 Try.underlying81 hi015 5 hsz15 A0 l0.length c0 x5_1 x6_1 q015 ql15 q15 hroom15
       have hr15 := Kd.C_mid (lo := (x5_1 : Int).toNat) (hi := (x6_1 : Int).toNat) (c := c0) hC15 (by omega) (by omega) hroom15
       obtain ⟨A15, hA15⟩ : ∃ A1, A1 = (if c0 = (x5_1 : Int).toNat then A0 else (A0 : Option Addr).map (·.add ((x5_1 : Int).toNat * 5))) := ⟨_, rfl⟩
       obtain ⟨c15, hc15⟩ : ∃ c1, c1 = c0 - (x5_1 : Int).toNat := ⟨_, rfl⟩
       have hy15 : y495.length = (x6_1 : Int).toNat - (x5_1 : Int).toNat := (by rw [Ny495.out, List.length_drop, List.length_take] <;> omega)
       rw [show ((l0).take (x6_1 : Int).toNat).drop (x5_1 : Int).toNat = y495 from Ny495.out.symm] at hr15
       replace hr15 : Kd.C k112 _ A15 y495.length y495 := (by rw [hA15]; exact hr15)
       rw [← hy15, ← hA15, ← hc15] at hcut15
       have HR498 := Aside0.mk hr15
       have HC498 := Aside0.mk (show y495.length ≤ c15 from by rw [hy15, hc15]; exact Nat.sub_le_sub_right (Nat.le_trans (by omega) hroom15) _)
       clear hr15 hC15 hroom15 hi015 hsz15 hc15
       have KY15 := Aside0.mk hy15
       have KA15 := Aside0.mk hA15
       clear hy15 hA15
       replace q15 := eq_true q15
       go_wp2_with (first | ((with_reducible refine gate_callee (f := 120) rfl ?_); refine gm_ (some 18) Try.func120 #[.slice A15 y495.length c15] rfl ?_; (with_reducible refine (impl_IsWhole.calls k1 _ _ y495 false _ ?side1 HC498.out A8.out).mono ?_); (case side1 => exact cb_ HR498.out HB.out); rintro e w16 ⟨rfl, hb⟩; refine ⟨_, rfl, ?_⟩; replace HO_4 := Aside0.mk (Kd.R_below (ra_ HO_4.out) hb); replace HB := Aside0.mk (bs_ HB.out hb); (try clear hb)))
       go_roundg k1
       case measure => have := HK1.out; omega
       case rel => exact ⟨(x4_1), (x5_1), (wrap64 (x6_1 + 1)), ef_, ef_, H', ⟨by have := HK1.out; omega⟩, ⟨by (with_reducible repeat (first | apply Kd.R_alloc | apply Kd.R_drewN | apply Kd.R_drew)); exact HO_4.out⟩, ⟨bb_ HB.out⟩⟩
     ·rw [if_neg c6] at H
      exact absurd H (by simp)
    ·rw [if_neg c5] at H
     exact absurd H (by simp)
   ·rw [if_neg c4] at H
    have c4b0 : decide (x6_1 ≤ (l0.length : Int)) = false := decide_eq_false c4
    clear c4
    by_cases c17 : x5_1 < (l0.length : Int)
    ·rw [if_pos c17] at H
     have c17b0 : decide (x5_1 < (l0.length : Int)) = true := decide_eq_true c17
     clear c17
     simp only [Option.some.injEq, Prod.mk.injEq] at H
     obtain ⟨rfl, rfl⟩ := H
     go_wp2
     go_ret2
     exact ⟨_, fin_, by first | exact Kd.R_nil _ _ _ _ _ | exact Kd.N_nil _ _ _ _ _ | exact Kd.V_nil _ _ _ _ _ | exact Kd.Q_nil _ _ _ _ _ | exact Kd.S_nil _ _ _ _ _, bb_ HB.out⟩
    ·rw [if_neg c17] at H
     have c17b0 : decide (x5_1 < (l0.length : Int)) = false := decide_eq_false c17
     clear c17
     simp only [Option.some.injEq, Prod.mk.injEq] at H
     obtain ⟨rfl, rfl⟩ := H
     go_wp2
     go_ret2
     exact ⟨_, fin_, by (with_reducible repeat (first | apply Kd.R_alloc | apply Kd.R_drewN | apply Kd.R_drew)); exact HO_4.out, bb_ HB.out⟩

/-- A state of type 37 at block g of W; what its slices lead to came in by w0. -/
def IsS37 (w0 W : World) (g : Nat) (f0 : Int) (f1 : Int) (f2 : List Int) (f3 : List Int) (f4 : List Int) (f5 : List (List (S112))) (f6 : List Int) (f7 : List Int) (f8 : List (List (S112))) (f9 : List (List (S112))) (f10 : Int) : Prop := ∃ A2 c2, ∃ A3 c3, ∃ A4 c4, ∃ A5 c5, ∃ A6 c6, ∃ A7 c7, ∃ A8 c8, ∃ A9 c9, W.heap[g]? = some (.cells #[.int .i64 f0, .int .i64 f1, .slice A2 f2.length c2, .slice A3 f3.length c3, .slice A4 f4.length c4, .slice A5 f5.length c5, .slice A6 f6.length c6, .slice A7 f7.length c7, .slice A8 f8.length c8, .slice A9 f9.length c9, .int .i64 f10] 37 (0, 0)) ∧ w0.heap.size ≤ g ∧ Kd.C (Kd.int .i64) w0 A2 f2.length f2 ∧ Kd.C (Kd.int .i64) w0 A3 f3.length f3 ∧ Kd.C (Kd.int .i64) w0 A4 f4.length f4 ∧ Kd.C (Kd.slice 112 k112) w0 A5 f5.length f5 ∧ Kd.C (Kd.int .i64) w0 A6 f6.length f6 ∧ Kd.C (Kd.int .i64) w0 A7 f7.length f7 ∧ Kd.C (Kd.slice 112 k112) w0 A8 f8.length f8 ∧ Kd.C (Kd.slice 112 k112) w0 A9 f9.length f9
theorem IsS37.grown {w0 W : World} {g : Nat} {f0 : Int} {f1 : Int} {f2 : List Int} {f3 : List Int} {f4 : List Int} {f5 : List (List (S112))} {f6 : List Int} {f7 : List Int} {f8 : List (List (S112))} {f9 : List (List (S112))} {f10 : Int} {W1 : World} {row : Option Nat} (h : IsS37 w0 W g f0 f1 f2 f3 f4 f5 f6 f7 f8 f9 f10) (hw : W.grownBy W1 row) (hne : some g ≠ row) : IsS37 w0 W1 g f0 f1 f2 f3 f4 f5 f6 f7 f8 f9 f10 := by
 obtain ⟨A2, c2, A3, c3, A4, c4, A5, c5, A6, c6, A7, c7, A8, c8, A9, c9, hb, hg, hr2, hr3, hr4, hr5, hr6, hr7, hr8, hr9⟩ := h
 exact ⟨A2, c2, A3, c3, A4, c4, A5, c5, A6, c6, A7, c7, A8, c8, A9, c9, blk_grown hb hw hne, hg, hr2, hr3, hr4, hr5, hr6, hr7, hr8, hr9⟩
theorem IsS37.own_neN {w0 W : World} {g : Nat} {f0 : Int} {f1 : Int} {f2 : List Int} {f3 : List Int} {f4 : List Int} {f5 : List (List (S112))} {f6 : List Int} {f7 : List Int} {f8 : List (List (S112))} {f9 : List (List (S112))} {f10 : Int} {α : Type} {d : Kd α} {e : Nat} {base : Nat} {ok : Nat → Prop} {v : Value} {xs : List α} (h : IsS37 w0 W g f0 f1 f2 f3 f4 f5 f6 f7 f8 f9 f10) (ho : Kd.N d e W base ok v xs) (ht : e ≠ 37) : some g ≠ v.ownBlock := by
 obtain ⟨A2, c2, A3, c3, A4, c4, A5, c5, A6, c6, A7, c7, A8, c8, A9, c9, hb, hg, hr2, hr3, hr4, hr5, hr6, hr7, hr8, hr9⟩ := h
 exact Kd.N_ne ho hb ht
theorem IsS37.fresh {w0 W : World} {g : Nat} {f0 : Int} {f1 : Int} {f2 : List Int} {f3 : List Int} {f4 : List Int} {f5 : List (List (S112))} {f6 : List Int} {f7 : List Int} {f8 : List (List (S112))} {f9 : List (List (S112))} {f10 : Int} (h : IsS37 w0 W g f0 f1 f2 f3 f4 f5 f6 f7 f8 f9 f10) : ∀ k, W.heap.size ≤ k → k ≠ g := by
 obtain ⟨A2, c2, A3, c3, A4, c4, A5, c5, A6, c6, A7, c7, A8, c8, A9, c9, hb, hg, hr2, hr3, hr4, hr5, hr6, hr7, hr8, hr9⟩ := h
 exact Kd.freshB hb
theorem IsS37.kept {w0 W : World} {g : Nat} {f0 : Int} {f1 : Int} {f2 : List Int} {f3 : List Int} {f4 : List Int} {f5 : List (List (S112))} {f6 : List Int} {f7 : List Int} {f8 : List (List (S112))} {f9 : List (List (S112))} {f10 : Int} {W1 : World} {S : Nat → Prop} (h : IsS37 w0 W g f0 f1 f2 f3 f4 f5 f6 f7 f8 f9 f10) (hk : Kept W W1 S) (hne : ¬ S g) : IsS37 w0 W1 g f0 f1 f2 f3 f4 f5 f6 f7 f8 f9 f10 := by
 obtain ⟨A2, c2, A3, c3, A4, c4, A5, c5, A6, c6, A7, c7, A8, c8, A9, c9, hb, hg, hr2, hr3, hr4, hr5, hr6, hr7, hr8, hr9⟩ := h
 exact ⟨A2, c2, A3, c3, A4, c4, A5, c5, A6, c6, A7, c7, A8, c8, A9, c9, blk_kept hb hk hne, hg, hr2, hr3, hr4, hr5, hr6, hr7, hr8, hr9⟩
theorem IsS37.below {w0 W : World} {g : Nat} {f0 : Int} {f1 : Int} {f2 : List Int} {f3 : List Int} {f4 : List Int} {f5 : List (List (S112))} {f6 : List Int} {f7 : List Int} {f8 : List (List (S112))} {f9 : List (List (S112))} {f10 : Int} {W1 : World} (h : IsS37 w0 W g f0 f1 f2 f3 f4 f5 f6 f7 f8 f9 f10) (hw : Below W.heap.size W W1) : IsS37 w0 W1 g f0 f1 f2 f3 f4 f5 f6 f7 f8 f9 f10 := h.grown (grown_of_below hw none) (by simp)
theorem IsS37.alloc {w0 W : World} {g : Nat} {f0 : Int} {f1 : Int} {f2 : List Int} {f3 : List Int} {f4 : List Int} {f5 : List (List (S112))} {f6 : List Int} {f7 : List Int} {f8 : List (List (S112))} {f9 : List (List (S112))} {f10 : Int} (h : IsS37 w0 W g f0 f1 f2 f3 f4 f5 f6 f7 f8 f9 f10) (o : Obj) : IsS37 w0 (W.alloc o) g f0 f1 f2 f3 f4 f5 f6 f7 f8 f9 f10 := h.below (below_alloc (Below.refl _ _) o)
theorem IsS37.drewN {w0 W : World} {g : Nat} {f0 : Int} {f1 : Int} {f2 : List Int} {f3 : List Int} {f4 : List Int} {f5 : List (List (S112))} {f6 : List Int} {f7 : List Int} {f8 : List (List (S112))} {f9 : List (List (S112))} {f10 : Int} (h : IsS37 w0 W g f0 f1 f2 f3 f4 f5 f6 f7 f8 f9 f10) (m : Nat) : IsS37 w0 (W.drewN m) g f0 f1 f2 f3 f4 f5 f6 f7 f8 f9 f10 := h
theorem IsS37.drew {w0 W : World} {g : Nat} {f0 : Int} {f1 : Int} {f2 : List Int} {f3 : List Int} {f4 : List Int} {f5 : List (List (S112))} {f6 : List Int} {f7 : List Int} {f8 : List (List (S112))} {f9 : List (List (S112))} {f10 : Int} (h : IsS37 w0 W g f0 f1 f2 f3 f4 f5 f6 f7 f8 f9 f10) : IsS37 w0 W.drew g f0 f1 f2 f3 f4 f5 f6 f7 f8 f9 f10 := h
theorem IsS37.at_ {w0 W : World} {g : Nat} {f0 : Int} {f1 : Int} {f2 : List Int} {f3 : List Int} {f4 : List Int} {f5 : List (List (S112))} {f6 : List Int} {f7 : List Int} {f8 : List (List (S112))} {f9 : List (List (S112))} {f10 : Int} {w' : World} {m : Nat} (hq : W.drewN m = w') (h : IsS37 w0 W g f0 f1 f2 f3 f4 f5 f6 f7 f8 f9 f10) : IsS37 w0 w' g f0 f1 f2 f3 f4 f5 f6 f7 f8 f9 f10 := by subst hq; exact IsS37.drewN h m
theorem IsS37.apart {w0 W : World} {g : Nat} {f0 : Int} {f1 : Int} {f2 : List Int} {f3 : List Int} {f4 : List Int} {f5 : List (List (S112))} {f6 : List Int} {f7 : List Int} {f8 : List (List (S112))} {f9 : List (List (S112))} {f10 : Int} {α : Type} {d : Kd α} {e : Nat} {base : Nat} {ok : Nat → Prop} {v : Value} {xs : List α} (h : IsS37 w0 W g f0 f1 f2 f3 f4 f5 f6 f7 f8 f9 f10) (ho : d.R e W base ok v xs) (ht : ∀ q, q ∈ e :: d.E → q ≠ 37) : d.R e W base (fun k => ok k ∧ k ≠ g) v xs := by
 obtain ⟨A2, c2, A3, c3, A4, c4, A5, c5, A6, c6, A7, c7, A8, c8, A9, c9, hb, hg, hr2, hr3, hr4, hr5, hr6, hr7, hr8, hr9⟩ := h
 exact Kd.R_types ho hb ht
theorem IsS37.own_ne {w0 W : World} {g : Nat} {f0 : Int} {f1 : Int} {f2 : List Int} {f3 : List Int} {f4 : List Int} {f5 : List (List (S112))} {f6 : List Int} {f7 : List Int} {f8 : List (List (S112))} {f9 : List (List (S112))} {f10 : Int} {α : Type} {d : Kd α} {e : Nat} {base : Nat} {ok : Nat → Prop} {v : Value} {xs : List α} (h : IsS37 w0 W g f0 f1 f2 f3 f4 f5 f6 f7 f8 f9 f10) (ho : d.R e W base ok v xs) (ht : e ≠ 37) : some g ≠ v.ownBlock := by
 obtain ⟨A2, c2, A3, c3, A4, c4, A5, c5, A6, c6, A7, c7, A8, c8, A9, c9, hb, hg, hr2, hr3, hr4, hr5, hr6, hr7, hr8, hr9⟩ := h
 exact Kd.R_ne ho hb ht
theorem IsS37.apartQ {w0 W : World} {g : Nat} {f0 : Int} {f1 : Int} {f2 : List Int} {f3 : List Int} {f4 : List Int} {f5 : List (List (S112))} {f6 : List Int} {f7 : List Int} {f8 : List (List (S112))} {f9 : List (List (S112))} {f10 : Int} {α : Type} {d : Kd α} {e : Nat} {base : Nat} {ok : Nat → Prop} {v : Value} {xs : List α} (h : IsS37 w0 W g f0 f1 f2 f3 f4 f5 f6 f7 f8 f9 f10) (ho : d.Q e W base ok v xs) (ht : ∀ q, q ∈ e :: d.E → q ≠ 37) : d.Q e W base (fun k => ok k ∧ k ≠ g) v xs := by
 obtain ⟨A2, c2, A3, c3, A4, c4, A5, c5, A6, c6, A7, c7, A8, c8, A9, c9, hb, hg, hr2, hr3, hr4, hr5, hr6, hr7, hr8, hr9⟩ := h
 exact Kd.Q_types ho hb ht
theorem IsS37.own_neQ {w0 W : World} {g : Nat} {f0 : Int} {f1 : Int} {f2 : List Int} {f3 : List Int} {f4 : List Int} {f5 : List (List (S112))} {f6 : List Int} {f7 : List Int} {f8 : List (List (S112))} {f9 : List (List (S112))} {f10 : Int} {α : Type} {d : Kd α} {e : Nat} {base : Nat} {ok : Nat → Prop} {v : Value} {xs : List α} (h : IsS37 w0 W g f0 f1 f2 f3 f4 f5 f6 f7 f8 f9 f10) (ho : d.Q e W base ok v xs) (ht : e ≠ 37) : some g ≠ v.ownBlock := by
 obtain ⟨A2, c2, A3, c3, A4, c4, A5, c5, A6, c6, A7, c7, A8, c8, A9, c9, hb, hg, hr2, hr3, hr4, hr5, hr6, hr7, hr8, hr9⟩ := h
 exact Kd.Q_ne ho hb ht
theorem IsS37.apartS {w0 W : World} {g : Nat} {f0 : Int} {f1 : Int} {f2 : List Int} {f3 : List Int} {f4 : List Int} {f5 : List (List (S112))} {f6 : List Int} {f7 : List Int} {f8 : List (List (S112))} {f9 : List (List (S112))} {f10 : Int} {α : Type} {d : Kd α} {e : Nat} {base : Nat} {ok : Nat → Prop} {v : Value} {xs : List α} (h : IsS37 w0 W g f0 f1 f2 f3 f4 f5 f6 f7 f8 f9 f10) (ho : d.S e W base ok v xs) (ht : ∀ q, q ∈ e :: d.E → q ≠ 37) : d.S e W base (fun k => ok k ∧ k ≠ g) v xs := by
 obtain ⟨A2, c2, A3, c3, A4, c4, A5, c5, A6, c6, A7, c7, A8, c8, A9, c9, hb, hg, hr2, hr3, hr4, hr5, hr6, hr7, hr8, hr9⟩ := h
 exact Kd.S_types ho hb ht
theorem IsS37.own_neS {w0 W : World} {g : Nat} {f0 : Int} {f1 : Int} {f2 : List Int} {f3 : List Int} {f4 : List Int} {f5 : List (List (S112))} {f6 : List Int} {f7 : List Int} {f8 : List (List (S112))} {f9 : List (List (S112))} {f10 : Int} {α : Type} {d : Kd α} {e : Nat} {base : Nat} {ok : Nat → Prop} {v : Value} {xs : List α} (h : IsS37 w0 W g f0 f1 f2 f3 f4 f5 f6 f7 f8 f9 f10) (ho : d.S e W base ok v xs) (ht : e ≠ 37) : some g ≠ v.ownBlock := by
 obtain ⟨A2, c2, A3, c3, A4, c4, A5, c5, A6, c6, A7, c7, A8, c8, A9, c9, hb, hg, hr2, hr3, hr4, hr5, hr6, hr7, hr8, hr9⟩ := h
 exact Kd.S_ne ho hb ht
theorem IsS37.lt {w0 W : World} {g : Nat} {f0 : Int} {f1 : Int} {f2 : List Int} {f3 : List Int} {f4 : List Int} {f5 : List (List (S112))} {f6 : List Int} {f7 : List Int} {f8 : List (List (S112))} {f9 : List (List (S112))} {f10 : Int} (h : IsS37 w0 W g f0 f1 f2 f3 f4 f5 f6 f7 f8 f9 f10) : g < W.heap.size := by
 obtain ⟨A2, c2, A3, c3, A4, c4, A5, c5, A6, c6, A7, c7, A8, c8, A9, c9, hb, hg, hr2, hr3, hr4, hr5, hr6, hr7, hr8, hr9⟩ := h
 exact blk_lt hb
theorem IsS37.ge {w0 W : World} {g : Nat} {f0 : Int} {f1 : Int} {f2 : List Int} {f3 : List Int} {f4 : List Int} {f5 : List (List (S112))} {f6 : List Int} {f7 : List Int} {f8 : List (List (S112))} {f9 : List (List (S112))} {f10 : Int} (h : IsS37 w0 W g f0 f1 f2 f3 f4 f5 f6 f7 f8 f9 f10) : w0.heap.size ≤ g := by
 obtain ⟨A2, c2, A3, c3, A4, c4, A5, c5, A6, c6, A7, c7, A8, c8, A9, c9, hb, hg, hr2, hr3, hr4, hr5, hr6, hr7, hr8, hr9⟩ := h
 exact hg
theorem IsS37.ne_blk {w0 W : World} {g : Nat} {f0 : Int} {f1 : Int} {f2 : List Int} {f3 : List Int} {f4 : List Int} {f5 : List (List (S112))} {f6 : List Int} {f7 : List Int} {f8 : List (List (S112))} {f9 : List (List (S112))} {f10 : Int} {a : Nat} {cs : Array Value} {t : TypeId} {fr : Nat × Nat} (h : IsS37 w0 W g f0 f1 f2 f3 f4 f5 f6 f7 f8 f9 f10) (hb2 : W.heap[a]? = some (.cells cs t fr)) (ht : t ≠ 37) : g ≠ a := by
 obtain ⟨A2, c2, A3, c3, A4, c4, A5, c5, A6, c6, A7, c7, A8, c8, A9, c9, hb, hg, hr2, hr3, hr4, hr5, hr6, hr7, hr8, hr9⟩ := h
 rintro rfl
 rw [hb] at hb2
 injection hb2 with hb2
 injection hb2 with _ ht2
 exact ht ht2.symm
theorem IsS37.far {w0 W : World} {g : Nat} {f0 : Int} {f1 : Int} {f2 : List Int} {f3 : List Int} {f4 : List Int} {f5 : List (List (S112))} {f6 : List Int} {f7 : List Int} {f8 : List (List (S112))} {f9 : List (List (S112))} {f10 : Int} {p : Addr} (h : IsS37 w0 W g f0 f1 f2 f3 f4 f5 f6 f7 f8 f9 f10) (hne : g ≠ p.block) (u : Value) : IsS37 w0 (W.setCell p u) g f0 f1 f2 f3 f4 f5 f6 f7 f8 f9 f10 := by
 obtain ⟨A2, c2, A3, c3, A4, c4, A5, c5, A6, c6, A7, c7, A8, c8, A9, c9, hb, hg, hr2, hr3, hr4, hr5, hr6, hr7, hr8, hr9⟩ := h
 exact ⟨A2, c2, A3, c3, A4, c4, A5, c5, A6, c6, A7, c7, A8, c8, A9, c9, blk_far hb hne u, hg, hr2, hr3, hr4, hr5, hr6, hr7, hr8, hr9⟩
theorem cellS37_0 {W : World} {g : Nat} {A2 : Option Addr} {c2 : Nat} {A3 : Option Addr} {c3 : Nat} {A4 : Option Addr} {c4 : Nat} {A5 : Option Addr} {c5 : Nat} {A6 : Option Addr} {c6 : Nat} {A7 : Option Addr} {c7 : Nat} {A8 : Option Addr} {c8 : Nat} {A9 : Option Addr} {c9 : Nat} {f0 : Int} {f1 : Int} {f2 : List Int} {f3 : List Int} {f4 : List Int} {f5 : List (List (S112))} {f6 : List Int} {f7 : List Int} {f8 : List (List (S112))} {f9 : List (List (S112))} {f10 : Int} (h : W.heap[g]? = some (.cells #[.int .i64 f0, .int .i64 f1, .slice A2 f2.length c2, .slice A3 f3.length c3, .slice A4 f4.length c4, .slice A5 f5.length c5, .slice A6 f6.length c6, .slice A7 f7.length c7, .slice A8 f8.length c8, .slice A9 f9.length c9, .int .i64 f10] 37 (0, 0))) : W.cell? ⟨g, 0, none⟩ = some (.int .i64 f0) := (blk_cell h 0).trans rfl
theorem IsS37.set_0 {w0 W : World} {g : Nat} {f0 : Int} {f1 : Int} {f2 : List Int} {f3 : List Int} {f4 : List Int} {f5 : List (List (S112))} {f6 : List Int} {f7 : List Int} {f8 : List (List (S112))} {f9 : List (List (S112))} {f10 : Int} (h : IsS37 w0 W g f0 f1 f2 f3 f4 f5 f6 f7 f8 f9 f10) (x : Int) : IsS37 w0 (W.setCell ⟨g, 0, none⟩ (.int .i64 x)) g x f1 f2 f3 f4 f5 f6 f7 f8 f9 f10 := by
 obtain ⟨A2, c2, A3, c3, A4, c4, A5, c5, A6, c6, A7, c7, A8, c8, A9, c9, hb, hg, hr2, hr3, hr4, hr5, hr6, hr7, hr8, hr9⟩ := h
 exact ⟨A2, c2, A3, c3, A4, c4, A5, c5, A6, c6, A7, c7, A8, c8, A9, c9, by simpa using blk_set hb 0 (.int .i64 x), hg, hr2, hr3, hr4, hr5, hr6, hr7, hr8, hr9⟩
theorem cellS37_1 {W : World} {g : Nat} {A2 : Option Addr} {c2 : Nat} {A3 : Option Addr} {c3 : Nat} {A4 : Option Addr} {c4 : Nat} {A5 : Option Addr} {c5 : Nat} {A6 : Option Addr} {c6 : Nat} {A7 : Option Addr} {c7 : Nat} {A8 : Option Addr} {c8 : Nat} {A9 : Option Addr} {c9 : Nat} {f0 : Int} {f1 : Int} {f2 : List Int} {f3 : List Int} {f4 : List Int} {f5 : List (List (S112))} {f6 : List Int} {f7 : List Int} {f8 : List (List (S112))} {f9 : List (List (S112))} {f10 : Int} (h : W.heap[g]? = some (.cells #[.int .i64 f0, .int .i64 f1, .slice A2 f2.length c2, .slice A3 f3.length c3, .slice A4 f4.length c4, .slice A5 f5.length c5, .slice A6 f6.length c6, .slice A7 f7.length c7, .slice A8 f8.length c8, .slice A9 f9.length c9, .int .i64 f10] 37 (0, 0))) : W.cell? ⟨g, 1, none⟩ = some (.int .i64 f1) := (blk_cell h 1).trans rfl
theorem IsS37.set_1 {w0 W : World} {g : Nat} {f0 : Int} {f1 : Int} {f2 : List Int} {f3 : List Int} {f4 : List Int} {f5 : List (List (S112))} {f6 : List Int} {f7 : List Int} {f8 : List (List (S112))} {f9 : List (List (S112))} {f10 : Int} (h : IsS37 w0 W g f0 f1 f2 f3 f4 f5 f6 f7 f8 f9 f10) (x : Int) : IsS37 w0 (W.setCell ⟨g, 1, none⟩ (.int .i64 x)) g f0 x f2 f3 f4 f5 f6 f7 f8 f9 f10 := by
 obtain ⟨A2, c2, A3, c3, A4, c4, A5, c5, A6, c6, A7, c7, A8, c8, A9, c9, hb, hg, hr2, hr3, hr4, hr5, hr6, hr7, hr8, hr9⟩ := h
 exact ⟨A2, c2, A3, c3, A4, c4, A5, c5, A6, c6, A7, c7, A8, c8, A9, c9, by simpa using blk_set hb 1 (.int .i64 x), hg, hr2, hr3, hr4, hr5, hr6, hr7, hr8, hr9⟩
theorem cellS37_2 {W : World} {g : Nat} {A2 : Option Addr} {c2 : Nat} {A3 : Option Addr} {c3 : Nat} {A4 : Option Addr} {c4 : Nat} {A5 : Option Addr} {c5 : Nat} {A6 : Option Addr} {c6 : Nat} {A7 : Option Addr} {c7 : Nat} {A8 : Option Addr} {c8 : Nat} {A9 : Option Addr} {c9 : Nat} {f0 : Int} {f1 : Int} {f2 : List Int} {f3 : List Int} {f4 : List Int} {f5 : List (List (S112))} {f6 : List Int} {f7 : List Int} {f8 : List (List (S112))} {f9 : List (List (S112))} {f10 : Int} (h : W.heap[g]? = some (.cells #[.int .i64 f0, .int .i64 f1, .slice A2 f2.length c2, .slice A3 f3.length c3, .slice A4 f4.length c4, .slice A5 f5.length c5, .slice A6 f6.length c6, .slice A7 f7.length c7, .slice A8 f8.length c8, .slice A9 f9.length c9, .int .i64 f10] 37 (0, 0))) : W.cell? ⟨g, 2, none⟩ = some (.slice A2 f2.length c2) := (blk_cell h 2).trans rfl
theorem cellS37_3 {W : World} {g : Nat} {A2 : Option Addr} {c2 : Nat} {A3 : Option Addr} {c3 : Nat} {A4 : Option Addr} {c4 : Nat} {A5 : Option Addr} {c5 : Nat} {A6 : Option Addr} {c6 : Nat} {A7 : Option Addr} {c7 : Nat} {A8 : Option Addr} {c8 : Nat} {A9 : Option Addr} {c9 : Nat} {f0 : Int} {f1 : Int} {f2 : List Int} {f3 : List Int} {f4 : List Int} {f5 : List (List (S112))} {f6 : List Int} {f7 : List Int} {f8 : List (List (S112))} {f9 : List (List (S112))} {f10 : Int} (h : W.heap[g]? = some (.cells #[.int .i64 f0, .int .i64 f1, .slice A2 f2.length c2, .slice A3 f3.length c3, .slice A4 f4.length c4, .slice A5 f5.length c5, .slice A6 f6.length c6, .slice A7 f7.length c7, .slice A8 f8.length c8, .slice A9 f9.length c9, .int .i64 f10] 37 (0, 0))) : W.cell? ⟨g, 3, none⟩ = some (.slice A3 f3.length c3) := (blk_cell h 3).trans rfl
theorem cellS37_4 {W : World} {g : Nat} {A2 : Option Addr} {c2 : Nat} {A3 : Option Addr} {c3 : Nat} {A4 : Option Addr} {c4 : Nat} {A5 : Option Addr} {c5 : Nat} {A6 : Option Addr} {c6 : Nat} {A7 : Option Addr} {c7 : Nat} {A8 : Option Addr} {c8 : Nat} {A9 : Option Addr} {c9 : Nat} {f0 : Int} {f1 : Int} {f2 : List Int} {f3 : List Int} {f4 : List Int} {f5 : List (List (S112))} {f6 : List Int} {f7 : List Int} {f8 : List (List (S112))} {f9 : List (List (S112))} {f10 : Int} (h : W.heap[g]? = some (.cells #[.int .i64 f0, .int .i64 f1, .slice A2 f2.length c2, .slice A3 f3.length c3, .slice A4 f4.length c4, .slice A5 f5.length c5, .slice A6 f6.length c6, .slice A7 f7.length c7, .slice A8 f8.length c8, .slice A9 f9.length c9, .int .i64 f10] 37 (0, 0))) : W.cell? ⟨g, 4, none⟩ = some (.slice A4 f4.length c4) := (blk_cell h 4).trans rfl
theorem cellS37_5 {W : World} {g : Nat} {A2 : Option Addr} {c2 : Nat} {A3 : Option Addr} {c3 : Nat} {A4 : Option Addr} {c4 : Nat} {A5 : Option Addr} {c5 : Nat} {A6 : Option Addr} {c6 : Nat} {A7 : Option Addr} {c7 : Nat} {A8 : Option Addr} {c8 : Nat} {A9 : Option Addr} {c9 : Nat} {f0 : Int} {f1 : Int} {f2 : List Int} {f3 : List Int} {f4 : List Int} {f5 : List (List (S112))} {f6 : List Int} {f7 : List Int} {f8 : List (List (S112))} {f9 : List (List (S112))} {f10 : Int} (h : W.heap[g]? = some (.cells #[.int .i64 f0, .int .i64 f1, .slice A2 f2.length c2, .slice A3 f3.length c3, .slice A4 f4.length c4, .slice A5 f5.length c5, .slice A6 f6.length c6, .slice A7 f7.length c7, .slice A8 f8.length c8, .slice A9 f9.length c9, .int .i64 f10] 37 (0, 0))) : W.cell? ⟨g, 5, none⟩ = some (.slice A5 f5.length c5) := (blk_cell h 5).trans rfl
theorem cellS37_6 {W : World} {g : Nat} {A2 : Option Addr} {c2 : Nat} {A3 : Option Addr} {c3 : Nat} {A4 : Option Addr} {c4 : Nat} {A5 : Option Addr} {c5 : Nat} {A6 : Option Addr} {c6 : Nat} {A7 : Option Addr} {c7 : Nat} {A8 : Option Addr} {c8 : Nat} {A9 : Option Addr} {c9 : Nat} {f0 : Int} {f1 : Int} {f2 : List Int} {f3 : List Int} {f4 : List Int} {f5 : List (List (S112))} {f6 : List Int} {f7 : List Int} {f8 : List (List (S112))} {f9 : List (List (S112))} {f10 : Int} (h : W.heap[g]? = some (.cells #[.int .i64 f0, .int .i64 f1, .slice A2 f2.length c2, .slice A3 f3.length c3, .slice A4 f4.length c4, .slice A5 f5.length c5, .slice A6 f6.length c6, .slice A7 f7.length c7, .slice A8 f8.length c8, .slice A9 f9.length c9, .int .i64 f10] 37 (0, 0))) : W.cell? ⟨g, 6, none⟩ = some (.slice A6 f6.length c6) := (blk_cell h 6).trans rfl
theorem cellS37_7 {W : World} {g : Nat} {A2 : Option Addr} {c2 : Nat} {A3 : Option Addr} {c3 : Nat} {A4 : Option Addr} {c4 : Nat} {A5 : Option Addr} {c5 : Nat} {A6 : Option Addr} {c6 : Nat} {A7 : Option Addr} {c7 : Nat} {A8 : Option Addr} {c8 : Nat} {A9 : Option Addr} {c9 : Nat} {f0 : Int} {f1 : Int} {f2 : List Int} {f3 : List Int} {f4 : List Int} {f5 : List (List (S112))} {f6 : List Int} {f7 : List Int} {f8 : List (List (S112))} {f9 : List (List (S112))} {f10 : Int} (h : W.heap[g]? = some (.cells #[.int .i64 f0, .int .i64 f1, .slice A2 f2.length c2, .slice A3 f3.length c3, .slice A4 f4.length c4, .slice A5 f5.length c5, .slice A6 f6.length c6, .slice A7 f7.length c7, .slice A8 f8.length c8, .slice A9 f9.length c9, .int .i64 f10] 37 (0, 0))) : W.cell? ⟨g, 7, none⟩ = some (.slice A7 f7.length c7) := (blk_cell h 7).trans rfl
theorem cellS37_8 {W : World} {g : Nat} {A2 : Option Addr} {c2 : Nat} {A3 : Option Addr} {c3 : Nat} {A4 : Option Addr} {c4 : Nat} {A5 : Option Addr} {c5 : Nat} {A6 : Option Addr} {c6 : Nat} {A7 : Option Addr} {c7 : Nat} {A8 : Option Addr} {c8 : Nat} {A9 : Option Addr} {c9 : Nat} {f0 : Int} {f1 : Int} {f2 : List Int} {f3 : List Int} {f4 : List Int} {f5 : List (List (S112))} {f6 : List Int} {f7 : List Int} {f8 : List (List (S112))} {f9 : List (List (S112))} {f10 : Int} (h : W.heap[g]? = some (.cells #[.int .i64 f0, .int .i64 f1, .slice A2 f2.length c2, .slice A3 f3.length c3, .slice A4 f4.length c4, .slice A5 f5.length c5, .slice A6 f6.length c6, .slice A7 f7.length c7, .slice A8 f8.length c8, .slice A9 f9.length c9, .int .i64 f10] 37 (0, 0))) : W.cell? ⟨g, 8, none⟩ = some (.slice A8 f8.length c8) := (blk_cell h 8).trans rfl
theorem cellS37_9 {W : World} {g : Nat} {A2 : Option Addr} {c2 : Nat} {A3 : Option Addr} {c3 : Nat} {A4 : Option Addr} {c4 : Nat} {A5 : Option Addr} {c5 : Nat} {A6 : Option Addr} {c6 : Nat} {A7 : Option Addr} {c7 : Nat} {A8 : Option Addr} {c8 : Nat} {A9 : Option Addr} {c9 : Nat} {f0 : Int} {f1 : Int} {f2 : List Int} {f3 : List Int} {f4 : List Int} {f5 : List (List (S112))} {f6 : List Int} {f7 : List Int} {f8 : List (List (S112))} {f9 : List (List (S112))} {f10 : Int} (h : W.heap[g]? = some (.cells #[.int .i64 f0, .int .i64 f1, .slice A2 f2.length c2, .slice A3 f3.length c3, .slice A4 f4.length c4, .slice A5 f5.length c5, .slice A6 f6.length c6, .slice A7 f7.length c7, .slice A8 f8.length c8, .slice A9 f9.length c9, .int .i64 f10] 37 (0, 0))) : W.cell? ⟨g, 9, none⟩ = some (.slice A9 f9.length c9) := (blk_cell h 9).trans rfl
theorem cellS37_10 {W : World} {g : Nat} {A2 : Option Addr} {c2 : Nat} {A3 : Option Addr} {c3 : Nat} {A4 : Option Addr} {c4 : Nat} {A5 : Option Addr} {c5 : Nat} {A6 : Option Addr} {c6 : Nat} {A7 : Option Addr} {c7 : Nat} {A8 : Option Addr} {c8 : Nat} {A9 : Option Addr} {c9 : Nat} {f0 : Int} {f1 : Int} {f2 : List Int} {f3 : List Int} {f4 : List Int} {f5 : List (List (S112))} {f6 : List Int} {f7 : List Int} {f8 : List (List (S112))} {f9 : List (List (S112))} {f10 : Int} (h : W.heap[g]? = some (.cells #[.int .i64 f0, .int .i64 f1, .slice A2 f2.length c2, .slice A3 f3.length c3, .slice A4 f4.length c4, .slice A5 f5.length c5, .slice A6 f6.length c6, .slice A7 f7.length c7, .slice A8 f8.length c8, .slice A9 f9.length c9, .int .i64 f10] 37 (0, 0))) : W.cell? ⟨g, 10, none⟩ = some (.int .i64 f10) := (blk_cell h 10).trans rfl
theorem IsS37.set_10 {w0 W : World} {g : Nat} {f0 : Int} {f1 : Int} {f2 : List Int} {f3 : List Int} {f4 : List Int} {f5 : List (List (S112))} {f6 : List Int} {f7 : List Int} {f8 : List (List (S112))} {f9 : List (List (S112))} {f10 : Int} (h : IsS37 w0 W g f0 f1 f2 f3 f4 f5 f6 f7 f8 f9 f10) (x : Int) : IsS37 w0 (W.setCell ⟨g, 10, none⟩ (.int .i64 x)) g f0 f1 f2 f3 f4 f5 f6 f7 f8 f9 x := by
 obtain ⟨A2, c2, A3, c3, A4, c4, A5, c5, A6, c6, A7, c7, A8, c8, A9, c9, hb, hg, hr2, hr3, hr4, hr5, hr6, hr7, hr8, hr9⟩ := h
 exact ⟨A2, c2, A3, c3, A4, c4, A5, c5, A6, c6, A7, c7, A8, c8, A9, c9, by simpa using blk_set hb 10 (.int .i64 x), hg, hr2, hr3, hr4, hr5, hr6, hr7, hr8, hr9⟩
theorem IsS37.new (w0 W : World) (A2 : Option Addr) (c2 : Nat) (A3 : Option Addr) (c3 : Nat) (A4 : Option Addr) (c4 : Nat) (A5 : Option Addr) (c5 : Nat) (A6 : Option Addr) (c6 : Nat) (A7 : Option Addr) (c7 : Nat) (A8 : Option Addr) (c8 : Nat) (A9 : Option Addr) (c9 : Nat) (f0 : Int) (f1 : Int) (f2 : List Int) (f3 : List Int) (f4 : List Int) (f5 : List (List (S112))) (f6 : List Int) (f7 : List Int) (f8 : List (List (S112))) (f9 : List (List (S112))) (f10 : Int) (hB : Below w0.heap.size w0 W) (hr2 : Kd.C (Kd.int .i64) w0 A2 f2.length f2) (hr3 : Kd.C (Kd.int .i64) w0 A3 f3.length f3) (hr4 : Kd.C (Kd.int .i64) w0 A4 f4.length f4) (hr5 : Kd.C (Kd.slice 112 k112) w0 A5 f5.length f5) (hr6 : Kd.C (Kd.int .i64) w0 A6 f6.length f6) (hr7 : Kd.C (Kd.int .i64) w0 A7 f7.length f7) (hr8 : Kd.C (Kd.slice 112 k112) w0 A8 f8.length f8) (hr9 : Kd.C (Kd.slice 112 k112) w0 A9 f9.length f9) : IsS37 w0 (W.alloc (.cells #[.int .i64 f0, .int .i64 f1, .slice A2 f2.length c2, .slice A3 f3.length c3, .slice A4 f4.length c4, .slice A5 f5.length c5, .slice A6 f6.length c6, .slice A7 f7.length c7, .slice A8 f8.length c8, .slice A9 f9.length c9, .int .i64 f10] 37)) W.heap.size f0 f1 f2 f3 f4 f5 f6 f7 f8 f9 f10 := ⟨A2, c2, A3, c3, A4, c4, A5, c5, A6, c6, A7, c7, A8, c8, A9, c9, by simpa using heap_alloc_new W _, hB.size, hr2, hr3, hr4, hr5, hr6, hr7, hr8, hr9⟩

/-! ### impl_Net_arrived: function 79 -/
def impl_Net_arrived.l0 : Nat → List (S112) → Int → Int → List Int → List Int → List Int → List (List (S112)) → List Int → List Int → List (List (S112)) → List (List (S112)) → Int → Option (List Int × Bool × Int × Int × Int)
 | 0, _, _, _, _, _, _, _, _, _, _, _, _ => none
 | k + 1, x8, x1000, x1001, x1002, x1003, x1004, x1005, x1006, x1007, x1008, x1009, x1010 => if (x8.length : Int) > 0 then (if 0 ≤ (wrap64 ((x8.length : Int) - 1)) then (if (wrap64 ((x8.length : Int) - 1)) < (x8.length : Int) then (if ((rd_T112 x8 (wrap64 ((x8.length : Int) - 1))).f4 = true) then ((impl_WholePackets.f k x8).bind fun bt509 => (some (bt509.1, bt509.2, x1000, x1001, x1010))) else (if (wrap64 ((x8.length : Int) - 1)) ≤ (x8.length : Int) then (impl_Net_arrived.l0 k (x8.take ((wrap64 ((x8.length : Int) - 1)) : Int).toNat) x1000 x1001 x1002 x1003 x1004 x1005 x1006 x1007 x1008 x1009 x1010) else (none))) else (none)) else (none)) else ((impl_WholePackets.f k x8).bind fun bt516 => (some (bt516.1, bt516.2, x1000, x1001, x1010)))
def impl_Net_arrived.f (k : Nat) (s0_0 : Int) (s0_1 : Int) (s0_2 : List Int) (s0_3 : List Int) (s0_4 : List Int) (s0_5 : List (List (S112))) (s0_6 : List Int) (s0_7 : List Int) (s0_8 : List (List (S112))) (s0_9 : List (List (S112))) (s0_10 : Int) (a1 : Int) (a2 : Int) : Option (List Int × Bool × Int × Int × Int) := if 0 ≤ a1 then (if a1 < (s0_9.length : Int) then ((impl_ClassOnly.f k (rd_L3 s0_9 a1) a2).bind fun t505 => (impl_Net_arrived.l0 k t505 s0_0 s0_1 s0_2 s0_3 s0_4 s0_5 s0_6 s0_7 s0_8 s0_9 s0_10)) else (none)) else (none)
theorem impl_Net_arrived.mono_l : ∀ k, (∀ y0 y1 y2 y3 y4 y5 y6 y7 y8 y9 y10 y11, LeO (impl_Net_arrived.l0 k y0 y1 y2 y3 y4 y5 y6 y7 y8 y9 y10 y11) (impl_Net_arrived.l0 (k + 1) y0 y1 y2 y3 y4 y5 y6 y7 y8 y9 y10 y11))
 | 0 => fun _ _ _ _ _ _ _ _ _ _ _ _ r h => by simp [impl_Net_arrived.l0] at h
 | k + 1 => by
  have ih0 := impl_Net_arrived.mono_l k
  ·intro y0 y1 y2 y3 y4 y5 y6 y7 y8 y9 y10 y11
   unfold impl_Net_arrived.l0
   repeat' first
   | (with_reducible exact ih0 _ _ _ _ _ _ _ _ _ _ _ _)
   | (with_reducible exact impl_ClassOnly.mono _ _ _)
   | (with_reducible exact impl_WholePackets.mono _ _)
   | (with_reducible exact LeO.refl _)
   | (with_reducible exact LeO.none _)
   | (with_reducible refine LeO.ite ?_ ?_)
   | (with_reducible refine LeO.bind ?_ (fun _ => ?_))
   | exact ih0 _ _ _ _ _ _ _ _ _ _ _ _
   | exact impl_ClassOnly.mono _ _ _
   | exact impl_WholePackets.mono _ _
   | exact LeO.none _
   | refine LeO.ite ?_ ?_
   | refine LeO.bind ?_ (fun _ => ?_)
theorem impl_Net_arrived.mono : ∀ a0 a1 a2 a3 a4 a5 a6 a7 a8 a9 a10 a11 a12 k, LeO (impl_Net_arrived.f k a0 a1 a2 a3 a4 a5 a6 a7 a8 a9 a10 a11 a12) (impl_Net_arrived.f (k + 1) a0 a1 a2 a3 a4 a5 a6 a7 a8 a9 a10 a11 a12) := by
 intro a0 a1 a2 a3 a4 a5 a6 a7 a8 a9 a10 a11 a12 k
 have ih0 := impl_Net_arrived.mono_l k
 unfold impl_Net_arrived.f
 repeat' first
   | (with_reducible exact ih0 _ _ _ _ _ _ _ _ _ _ _ _)
   | (with_reducible exact impl_ClassOnly.mono _ _ _)
   | (with_reducible exact impl_WholePackets.mono _ _)
   | (with_reducible exact LeO.refl _)
   | (with_reducible exact LeO.none _)
   | (with_reducible refine LeO.ite ?_ ?_)
   | (with_reducible refine LeO.bind ?_ (fun _ => ?_))
   | exact ih0 _ _ _ _ _ _ _ _ _ _ _ _
   | exact impl_ClassOnly.mono _ _ _
   | exact impl_WholePackets.mono _ _
   | exact LeO.none _
   | refine LeO.ite ?_ ?_
   | refine LeO.bind ?_ (fun _ => ?_)
set_option maxHeartbeats 8000000 in
set_option maxRecDepth 100000 in
theorem impl_Net_arrived.calls (k : Nat) (g : Nat) (s0_0 : Int) (s0_1 : Int) (s0_2 : List Int) (s0_3 : List Int) (s0_4 : List Int) (s0_5 : List (List (S112))) (s0_6 : List Int) (s0_7 : List Int) (s0_8 : List (List (S112))) (s0_9 : List (List (S112))) (s0_10 : Int) (a1 : Int) (a2 : Int) (r1 : List Int) (r2 : Bool) (r3 : Int) (r4 : Int) (r5 : Int) (w0 w : World) (hI : IsS37 w0 w g s0_0 s0_1 s0_2 s0_3 s0_4 s0_5 s0_6 s0_7 s0_8 s0_9 s0_10) (hB : Below w0.heap.size w0 w) (h : impl_Net_arrived.f k s0_0 s0_1 s0_2 s0_3 s0_4 s0_5 s0_6 s0_7 s0_8 s0_9 s0_10 a1 a2 = some (r1, r2, r3, r4, r5)) :
  Calls Try.prog 79 #[.pointer (some ⟨g, 0, none⟩), .int .i64 a1, .int .i64 a2] w fun e w' => ∃ v0_ : Value, e = .returned (.tuple #[v0_, .bool r2]) ∧ Kd.R (Kd.int .i64) 3 w' w.heap.size (fun _ => True) v0_ r1 ∧ IsS37 w0 w' g r3 r4 s0_2 s0_3 s0_4 s0_5 s0_6 s0_7 s0_8 s0_9 r5 ∧ Below w0.heap.size w0 w' ∧ KeepBut w w' g none := by
 have HI0 := Aside0.mk hI
 have HK := Aside0.mk (KeepBut.refl w g none)
 have HL := Aside0.mk hB.size
 clear hI
 have HW0 := Aside0.mk hB.size
 have HB := Aside0.mk hB
 clear hB
 have H : (if 0 ≤ a1 then (if a1 < (s0_9.length : Int) then ((impl_ClassOnly.f k (rd_L3 s0_9 a1) a2).bind fun t505 => (impl_Net_arrived.l0 k t505 s0_0 s0_1 s0_2 s0_3 s0_4 s0_5 s0_6 s0_7 s0_8 s0_9 s0_10)) else (none)) else (none)) = some (r1, r2, r3, r4, r5) := h
 clear h
 by_cases c4 : 0 ≤ a1
 ·rw [if_pos c4] at H
  have c4b0 : decide (0 ≤ a1) = true := decide_eq_true c4
  clear c4
  by_cases c5 : a1 < (s0_9.length : Int)
  ·rw [if_pos c5] at H
   have c5b0 : decide (a1 < (s0_9.length : Int)) = true := decide_eq_true c5
   clear c5
   replace H := Option.bind_eq_some_iff.mp H
   obtain ⟨t505, A60, H⟩ := H
   try dsimp only at H
   have A6 := Aside0.mk A60
   clear A60
   have H' := Aside0.mk H
   clear H
   obtain ⟨ASz7_2, cSz7_2, ASz7_3, cSz7_3, ASz7_4, cSz7_4, ASz7_5, cSz7_5, ASz7_6, cSz7_6, ASz7_7, cSz7_7, ASz7_8, cSz7_8, ASz7_9, cSz7_9, HGz7, hgz7, HSz7_2, HSz7_3, HSz7_4, HSz7_5, HSz7_6, HSz7_7, HSz7_8, HSz7_9⟩ := HI0.out
   have hcz7_0 := cellS37_0 HGz7
   have hcz7_1 := cellS37_1 HGz7
   have hcz7_2 := cellS37_2 HGz7
   have hcz7_3 := cellS37_3 HGz7
   have hcz7_4 := cellS37_4 HGz7
   have hcz7_5 := cellS37_5 HGz7
   have hcz7_6 := cellS37_6 HGz7
   have hcz7_7 := cellS37_7 HGz7
   have hcz7_8 := cellS37_8 HGz7
   have hcz7_9 := cellS37_9 HGz7
   have hcz7_10 := cellS37_10 HGz7
   have hfz7_0 := blk_frozen HGz7 0
   have hfz7_1 := blk_frozen HGz7 1
   have hfz7_10 := blk_frozen HGz7 10
   clear HGz7 hgz7
   have p504 : 0 ≤ (a1 : Int) := of_decide_eq_true dg_
   have q504 : a1 < (s0_9.length : Int) := of_decide_eq_true dg_
   obtain ⟨ad504, A504_0, c504_0, e504, hx504_0, hl504_0, hi504_0⟩ := at_L3 HSz7_9 a1 p504 q504
   cases e504
   replace hx504_0 := pw_cell_below HB.out hx504_0
   have HR504_0 := Aside0.mk (Kd.C_below hi504_0 HB.out)
   have HC504_0 := Aside0.mk hl504_0
   clear hi504_0 hl504_0
   replace p504 := eq_true p504
   replace q504 := eq_true q504
   go_enter Try.func79, Try.ntmps79
   go_wp2_with (first | ((with_reducible refine gate_callee (f := 46) rfl ?_); refine gm_ (some 17) Try.func46 #[.slice A504_0 (rd_L3 s0_9 a1).length c504_0, .int .i64 a2] rfl ?_; (with_reducible refine (impl_ClassOnly.calls k _ _ (rd_L3 s0_9 a1) a2 t505 _ ?side1 HC504_0.out A6.out).mono ?_); (case side1 => repeat (first | exact HR504_0.out | (with_reducible refine Kd.C_alloc ?_ _) | (with_reducible refine Kd.C_drewN ?_ _) | (with_reducible refine Kd.C_drew ?_))); rintro e w8 ⟨v506, rfl, ho0, hb⟩; refine ⟨_, rfl, ?_⟩; have HO507 := Aside0.mk (Kd.R_lower ho0 (keep_size (w := w) (g := g) (row := none) (by repeat (first | (with_reducible first | exact HK.out | apply KeepBut.set_ | apply keep_drewN | apply keep_drew | apply keep_alloc) | exact HK.out)))); replace HR504_0 := Aside0.mk (Kd.C_below (by repeat (first | (with_reducible exact HR504_0.out) | (with_reducible refine Kd.C_alloc ?_ _) | (with_reducible refine Kd.C_drewN ?_ _) | (with_reducible refine Kd.C_drew ?_) | exact HR504_0.out)) hb); replace HK := Aside0.mk (KeepBut.trans (by repeat (first | (with_reducible first | exact HK.out | apply KeepBut.set_ | apply keep_drewN | apply keep_drew | apply keep_alloc) | exact HK.out)) (KeepBut.of_below hb g none) (.inl rfl)); replace HB := Aside0.mk (below_step (by repeat (first | (with_reducible first | exact HB.out | apply below_alloc | apply pw_below_drewN | apply below_drew1 | refine below_set ?_ (IsS37.ge HI0.out)) | exact HB.out)) hb); replace HI0 := Aside0.mk (IsS37.below (by repeat (first | (with_reducible first | exact HI0.out | apply IsS37.alloc | apply IsS37.drewN | apply IsS37.drew | apply IsS37.set_0 | apply IsS37.set_1 | apply IsS37.set_10) | exact HI0.out)) hb); (try clear hb); (try clear ho0)))
   go_loopg [8] k (fun kq v8 w' => ∃ (x8_1 : List (S112)), Aside0 (impl_Net_arrived.l0 kq x8_1 s0_0 s0_1 s0_2 s0_3 s0_4 s0_5 s0_6 s0_7 s0_8 s0_9 s0_10 = some (r1, r2, r3, r4, r5)) ∧ Aside0 (kq ≤ k) ∧ Aside0 (Kd.R k112 112 w' w.heap.size (fun _ => True) v8 x8_1) ∧ Aside0 (Kd.C k112 w' A504_0 (rd_L3 s0_9 a1).length (rd_L3 s0_9 a1)) ∧ Aside0 (IsS37 w0 w' g s0_0 s0_1 s0_2 s0_3 s0_4 s0_5 s0_6 s0_7 s0_8 s0_9 s0_10) ∧ Aside0 (KeepBut w w' g none) ∧ Aside0 (Below w0.heap.size w0 w'))
   case atStart => exact ⟨(t505), H', ⟨Nat.le_refl _⟩, ⟨by (with_reducible repeat (first | apply Kd.R_alloc | apply Kd.R_drewN | apply Kd.R_drew)); exact HO507.out⟩, ⟨by repeat (first | (with_reducible exact HR504_0.out) | (with_reducible refine Kd.C_alloc ?_ _) | (with_reducible refine Kd.C_drewN ?_ _) | (with_reducible refine Kd.C_drew ?_) | exact HR504_0.out)⟩, ⟨by repeat (first | (with_reducible first | exact HI0.out | apply IsS37.alloc | apply IsS37.drewN | apply IsS37.drew | apply IsS37.set_0 | apply IsS37.set_1 | apply IsS37.set_10) | exact HI0.out)⟩, ⟨by repeat (first | (with_reducible first | exact HK.out | apply KeepBut.set_ | apply keep_drewN | apply keep_drew | apply keep_alloc) | exact HK.out)⟩, ⟨by repeat (first | (with_reducible first | exact HB.out | apply below_alloc | apply pw_below_drewN | apply below_drew1 | refine below_set ?_ (IsS37.ge HI0.out)) | exact HB.out)⟩⟩
   case round =>
    clear H'
    try clear c4
    try clear c4b0
    try clear c5
    try clear c5b0
    try clear hcz7_0 hcz7_1 hcz7_10 hcz7_2 hcz7_3 hcz7_4 hcz7_5 hcz7_6 hcz7_7 hcz7_8 hcz7_9 hfz7_0 hfz7_1 hfz7_10
    try clear hx504_0
    try clear p504
    try clear q504
    obtain ⟨x8_1, HA, HK1, HO_8, HR504_0, HI0, HK, HB⟩ := hrel
    cases gk with
    | zero => exact absurd HA.out (by simp [impl_Net_arrived.l0])
    | succ k1 =>
     have H := HA.out
     clear HA
     simp only [impl_Net_arrived.l0] at H
     by_cases c9 : (x8_1.length : Int) > 0
     ·rw [if_pos c9] at H
      have c9b0 : decide (0 < (x8_1.length : Int)) = true := decide_eq_true c9
      have c9b1 : decide (0 < x8_1.length) = true := decide_eq_true (by omega)
      clear c9
      obtain ⟨ji10, hji10⟩ : ∃ j_ : Int, (wrap64 ((x8_1.length : Int) - 1)) = j_ := ⟨_, rfl⟩
      replace H : (if 0 ≤ (ji10) then (if (ji10) < (x8_1.length : Int) then (if ((rd_T112 x8_1 (ji10)).f4 = true) then ((impl_WholePackets.f k1 x8_1).bind fun bt509 => (some (bt509.1, bt509.2, s0_0, s0_1, s0_10))) else (if (ji10) ≤ (x8_1.length : Int) then (impl_Net_arrived.l0 k1 (x8_1.take ((ji10) : Int).toNat) s0_0 s0_1 s0_2 s0_3 s0_4 s0_5 s0_6 s0_7 s0_8 s0_9 s0_10) else (none))) else (none)) else (none)) = some (r1, r2, r3, r4, r5) := by first | (rw [hji10] at H; exact H) | (simp only [hji10] at H ⊢; exact H)
      have hji10w : (IntKind.i64.wrap ((x8_1.length : Int) - 1)) = ji10 := (i64_w _).trans hji10
      by_cases c11 : 0 ≤ (ji10)
      ·rw [if_pos c11] at H
       have c11b0 : decide (0 ≤ (ji10)) = true := decide_eq_true c11
       clear c11
       by_cases c12 : (ji10) < (x8_1.length : Int)
       ·rw [if_pos c12] at H
        have c12b0 : decide ((ji10) < (x8_1.length : Int)) = true := decide_eq_true c12
        clear c12
        obtain ⟨bq13, hbq13⟩ : ∃ b_ : Bool, b_ = ((rd_T112 x8_1 (ji10)).f4) := ⟨_, rfl⟩
        replace H : (if (bq13 = true) then ((impl_WholePackets.f k1 x8_1).bind fun bt509 => (some (bt509.1, bt509.2, s0_0, s0_1, s0_10))) else (if (ji10) ≤ (x8_1.length : Int) then (impl_Net_arrived.l0 k1 (x8_1.take ((ji10) : Int).toNat) s0_0 s0_1 s0_2 s0_3 s0_4 s0_5 s0_6 s0_7 s0_8 s0_9 s0_10) else (none))) = some (r1, r2, r3, r4, r5) := by rw [← hbq13] at H; exact H
        have Nbq13 := Aside0.mk hbq13
        clear hbq13
        by_cases c14 : (bq13 = true)
        ·subst c14
         rw [if_pos rfl] at H
         replace H := Option.bind_eq_some_iff.mp H
         obtain ⟨⟨t509, t510⟩, A150, H⟩ := H
         try dsimp only at H
         have A15 := Aside0.mk A150
         clear A150
         simp only [Option.some.injEq, Prod.mk.injEq] at H
         obtain ⟨rfl, rfl, rfl, rfl, rfl⟩ := H
         obtain ⟨Ao16, co16, eo16⟩ := Kd.R_slice HO_8.out
         subst eo16
         have p508 : 0 ≤ ((ji10) : Int) := of_decide_eq_true dg_
         have q508 : (ji10) < (x8_1.length : Int) := of_decide_eq_true dg_
         obtain ⟨ad508, e508, hx508_0, hx508_1, hx508_2, hx508_3, hx508_4⟩ := at_T112 (Kd.R_reads' HO_8.out).2.2 (ji10) p508 q508
         (try rw [← Nbq13.out] at hx508_3)
         (try rw [← Nbq13.out] at hx508_4)
         cases e508
         replace p508 := eq_true p508
         replace q508 := eq_true q508
         go_wp2_with (first | ((with_reducible refine gate_callee (f := 104) rfl ?_); refine gm_ (some 37) Try.func104 #[.slice (some ad508) x8_1.length co16] rfl ?_; (with_reducible refine (impl_WholePackets.calls k1 _ _ x8_1 t509 t510 _ ?side1 ?side2 A15.out).mono ?_); (case side1 => repeat (first | exact (Kd.R_reads' HO_8.out).2.2 | (with_reducible refine Kd.C_alloc ?_ _) | (with_reducible refine Kd.C_drewN ?_ _) | (with_reducible refine Kd.C_drew ?_))); (case side2 => exact (Kd.R_reads' HO_8.out).2.1); rintro e w17 ⟨v511, rfl, ho0, hb⟩; refine ⟨_, rfl, ?_⟩; replace HO_8 := Aside0.mk (Kd.R_below (ra_ HO_8.out) hb); have HO512 := Aside0.mk (Kd.R_lower ho0 (keep_size (w := w) (g := g) (row := none) (by repeat (first | (with_reducible first | exact HK.out | apply KeepBut.set_ | apply keep_drewN | apply keep_drew | apply keep_alloc) | exact HK.out)))); replace HR504_0 := Aside0.mk (Kd.C_below (by repeat (first | (with_reducible exact HR504_0.out) | (with_reducible refine Kd.C_alloc ?_ _) | (with_reducible refine Kd.C_drewN ?_ _) | (with_reducible refine Kd.C_drew ?_) | exact HR504_0.out)) hb); replace HK := Aside0.mk (KeepBut.trans (by repeat (first | (with_reducible first | exact HK.out | apply KeepBut.set_ | apply keep_drewN | apply keep_drew | apply keep_alloc) | exact HK.out)) (KeepBut.of_below hb g none) (.inl rfl)); replace HB := Aside0.mk (below_step (by repeat (first | (with_reducible first | exact HB.out | apply below_alloc | apply pw_below_drewN | apply below_drew1 | refine below_set ?_ (IsS37.ge HI0.out)) | exact HB.out)) hb); replace HI0 := Aside0.mk (IsS37.below (by repeat (first | (with_reducible first | exact HI0.out | apply IsS37.alloc | apply IsS37.drewN | apply IsS37.drew | apply IsS37.set_0 | apply IsS37.set_1 | apply IsS37.set_10) | exact HI0.out)) hb); (try clear hb); (try clear ho0)))
         go_ret2
         exact ⟨_, by first | rfl | (simp [errW_none, errW_some] <;> rfl) | (simp only [← hji10]; first | rfl | (simp [errW_none, errW_some] <;> rfl)) | (simp [*, errW_none, errW_some] <;> rfl), by (with_reducible repeat (first | apply Kd.R_alloc | apply Kd.R_drewN | apply Kd.R_drew)); exact HO512.out, by repeat (first | (with_reducible first | exact HI0.out | apply IsS37.alloc | apply IsS37.drewN | apply IsS37.drew | apply IsS37.set_0 | apply IsS37.set_1 | apply IsS37.set_10) | exact HI0.out), by repeat (first | (with_reducible first | exact HB.out | apply below_alloc | apply pw_below_drewN | apply below_drew1 | refine below_set ?_ (IsS37.ge HI0.out)) | exact HB.out), by repeat (first | (with_reducible first | exact HK.out | apply KeepBut.set_ | apply keep_drewN | apply keep_drew | apply keep_alloc) | exact HK.out)⟩
        ·replace c14 := Bool.eq_false_iff.mpr c14
         subst c14
         rw [if_neg (show ¬ (false = true) by decide)] at H
         by_cases c18 : (ji10) ≤ (x8_1.length : Int)
         ·rw [if_pos c18] at H
          have c18b0 := eq_true c18
          have c18b1 : decide ((ji10) ≤ (x8_1.length : Int)) = true := decide_eq_true c18
          clear c18
          obtain ⟨y513, hy513⟩ : ∃ y_ : List (S112), y_ = (x8_1.take ((ji10) : Int).toNat) := ⟨_, rfl⟩
          replace H : (impl_Net_arrived.l0 k1 y513 s0_0 s0_1 s0_2 s0_3 s0_4 s0_5 s0_6 s0_7 s0_8 s0_9 s0_10) = some (r1, r2, r3, r4, r5) := by first | (rw [hy513]; with_reducible exact H) | (have H2_ := (Option.bind_some _ _).symm.trans H; rw [hy513]; with_reducible exact H2_) | (have H2_ := (Option.bind_some _ _).symm.trans H; with_reducible exact H2_) | with_reducible exact H | (rw [hy513]; exact H) | exact H
          have Ny513 := Aside0.mk hy513
          clear hy513
          have H' := Aside0.mk H
          clear H
          obtain ⟨Ao19, co19, eo19⟩ := Kd.R_slice HO_8.out
          subst eo19
          have p508 : 0 ≤ ((ji10) : Int) := of_decide_eq_true dg_
          have q508 : (ji10) < (x8_1.length : Int) := of_decide_eq_true dg_
          obtain ⟨ad508, e508, hx508_0, hx508_1, hx508_2, hx508_3, hx508_4⟩ := at_T112 (Kd.R_reads' HO_8.out).2.2 (ji10) p508 q508
          (try rw [← Nbq13.out] at hx508_3)
          (try rw [← Nbq13.out] at hx508_4)
          cases e508
          replace p508 := eq_true p508
          replace q508 := eq_true q508
          have q20 : ((ji10) : Int) ≤ ((x8_1.length : Int) : Int) := of_decide_eq_true dg_
          obtain ⟨i020, hi020, _, hsz20, _⟩ := info_parts info112
          have hcut20 := cut_to (P := Try.prog) 81 112 .i64 Try.underlying81 hi020 (some ad508) x8_1.length co19 (ji10) (of_decide_eq_true dg_) q20 (Kd.R_reads' HO_8.out).2.1
          have hr20 := Kd.R_take (m := ((ji10) : Int).toNat) HO_8.out (by omega)
          have hy20 : y513.length = ((ji10) : Int).toNat := (by rw [Ny513.out, List.length_take]; omega)
          rw [← Ny513.out] at hr20
          rw [← hy20] at hr20 hcut20
          clear hy20 hi020 hsz20 HO_8
          have HO515 := Aside0.mk hr20
          clear hr20
          replace q20 := eq_true q20
          go_wp2
          go_roundg k1
          case measure => have := HK1.out; omega
          case rel => exact ⟨(y513), H', ⟨by have := HK1.out; omega⟩, ⟨by (with_reducible repeat (first | apply Kd.R_alloc | apply Kd.R_drewN | apply Kd.R_drew)); exact HO515.out⟩, ⟨by repeat (first | (with_reducible exact HR504_0.out) | (with_reducible refine Kd.C_alloc ?_ _) | (with_reducible refine Kd.C_drewN ?_ _) | (with_reducible refine Kd.C_drew ?_) | exact HR504_0.out)⟩, ⟨by repeat (first | (with_reducible first | exact HI0.out | apply IsS37.alloc | apply IsS37.drewN | apply IsS37.drew | apply IsS37.set_0 | apply IsS37.set_1 | apply IsS37.set_10) | exact HI0.out)⟩, ⟨by repeat (first | (with_reducible first | exact HK.out | apply KeepBut.set_ | apply keep_drewN | apply keep_drew | apply keep_alloc) | exact HK.out)⟩, ⟨by repeat (first | (with_reducible first | exact HB.out | apply below_alloc | apply pw_below_drewN | apply below_drew1 | refine below_set ?_ (IsS37.ge HI0.out)) | exact HB.out)⟩⟩
         ·rw [if_neg c18] at H
          exact absurd H (by simp)
       ·rw [if_neg c12] at H
        exact absurd H (by simp)
      ·rw [if_neg c11] at H
       exact absurd H (by simp)
     ·rw [if_neg c9] at H
      have c9b0 : decide (0 < (x8_1.length : Int)) = false := decide_eq_false c9
      have c9b1 : decide (0 < x8_1.length) = false := decide_eq_false (by omega)
      clear c9
      replace H := Option.bind_eq_some_iff.mp H
      obtain ⟨⟨t516, t517⟩, A210, H⟩ := H
      try dsimp only at H
      have A21 := Aside0.mk A210
      clear A210
      simp only [Option.some.injEq, Prod.mk.injEq] at H
      obtain ⟨rfl, rfl, rfl, rfl, rfl⟩ := H
      obtain ⟨Ao22, co22, eo22⟩ := Kd.R_slice HO_8.out
      subst eo22
      go_wp2_with (first | ((with_reducible refine gate_callee (f := 104) rfl ?_); refine gm_ (some 37) Try.func104 #[.slice Ao22 x8_1.length co22] rfl ?_; (with_reducible refine (impl_WholePackets.calls k1 _ _ x8_1 t516 t517 _ ?side1 ?side2 A21.out).mono ?_); (case side1 => repeat (first | exact (Kd.R_reads' HO_8.out).2.2 | (with_reducible refine Kd.C_alloc ?_ _) | (with_reducible refine Kd.C_drewN ?_ _) | (with_reducible refine Kd.C_drew ?_))); (case side2 => exact (Kd.R_reads' HO_8.out).2.1); rintro e w23 ⟨v518, rfl, ho0, hb⟩; refine ⟨_, rfl, ?_⟩; replace HO_8 := Aside0.mk (Kd.R_below (ra_ HO_8.out) hb); have HO519 := Aside0.mk (Kd.R_lower ho0 (keep_size (w := w) (g := g) (row := none) (by repeat (first | (with_reducible first | exact HK.out | apply KeepBut.set_ | apply keep_drewN | apply keep_drew | apply keep_alloc) | exact HK.out)))); replace HR504_0 := Aside0.mk (Kd.C_below (by repeat (first | (with_reducible exact HR504_0.out) | (with_reducible refine Kd.C_alloc ?_ _) | (with_reducible refine Kd.C_drewN ?_ _) | (with_reducible refine Kd.C_drew ?_) | exact HR504_0.out)) hb); replace HK := Aside0.mk (KeepBut.trans (by repeat (first | (with_reducible first | exact HK.out | apply KeepBut.set_ | apply keep_drewN | apply keep_drew | apply keep_alloc) | exact HK.out)) (KeepBut.of_below hb g none) (.inl rfl)); replace HB := Aside0.mk (below_step (by repeat (first | (with_reducible first | exact HB.out | apply below_alloc | apply pw_below_drewN | apply below_drew1 | refine below_set ?_ (IsS37.ge HI0.out)) | exact HB.out)) hb); replace HI0 := Aside0.mk (IsS37.below (by repeat (first | (with_reducible first | exact HI0.out | apply IsS37.alloc | apply IsS37.drewN | apply IsS37.drew | apply IsS37.set_0 | apply IsS37.set_1 | apply IsS37.set_10) | exact HI0.out)) hb); (try clear hb); (try clear ho0)))
      go_ret2
      exact ⟨_, fin_, by (with_reducible repeat (first | apply Kd.R_alloc | apply Kd.R_drewN | apply Kd.R_drew)); exact HO519.out, by repeat (first | (with_reducible first | exact HI0.out | apply IsS37.alloc | apply IsS37.drewN | apply IsS37.drew | apply IsS37.set_0 | apply IsS37.set_1 | apply IsS37.set_10) | exact HI0.out), by repeat (first | (with_reducible first | exact HB.out | apply below_alloc | apply pw_below_drewN | apply below_drew1 | refine below_set ?_ (IsS37.ge HI0.out)) | exact HB.out), by repeat (first | (with_reducible first | exact HK.out | apply KeepBut.set_ | apply keep_drewN | apply keep_drew | apply keep_alloc) | exact HK.out)⟩
  ·rw [if_neg c5] at H
   exact absurd H (by simp)
 ·rw [if_neg c4] at H
  exact absurd H (by simp)

/-! ### impl_ArrivedAt: function 38 -/
def impl_ArrivedAt.f (k : Nat) (a0_0 : Int) (a0_1 : Int) (l0_2 : List Int) (l0_3 : List Int) (l0_4 : List Int) (l0_5 : List (List S112)) (l0_6 : List Int) (l0_7 : List Int) (l0_8 : List (List S112)) (l0_9 : List (List S112)) (a0_10 : Int) (a1 : Int) (a2 : Int) : Option (List Int × Bool) := (impl_isPlace.f k a0_0 a0_1 l0_2 l0_3 l0_4 l0_5 l0_6 l0_7 l0_8 l0_9 a0_10 a1).bind fun b1 => if b1 = true then ((impl_inside.f a2 0 1).bind fun b2 => if b2 = true then ((impl_Net_arrived.f k a0_0 a0_1 l0_2 l0_3 l0_4 l0_5 l0_6 l0_7 l0_8 l0_9 a0_10 a1 a2).bind fun q => some (q.1, q.2.1)) else some ([], false)) else some ([], false)
theorem impl_ArrivedAt.mono (a0_0 : Int) (a0_1 : Int) (l0_2 : List Int) (l0_3 : List Int) (l0_4 : List Int) (l0_5 : List (List S112)) (l0_6 : List Int) (l0_7 : List Int) (l0_8 : List (List S112)) (l0_9 : List (List S112)) (a0_10 : Int) (a1 : Int) (a2 : Int) : ∀ k, LeO (impl_ArrivedAt.f k a0_0 a0_1 l0_2 l0_3 l0_4 l0_5 l0_6 l0_7 l0_8 l0_9 a0_10 a1 a2) (impl_ArrivedAt.f (k + 1) a0_0 a0_1 l0_2 l0_3 l0_4 l0_5 l0_6 l0_7 l0_8 l0_9 a0_10 a1 a2) := by
 intro k
 unfold impl_ArrivedAt.f
 exact LeO.bind (impl_isPlace.mono _ _ _ _ _ _ _ _ _ _ _ _ _) (fun _ => LeO.ite (LeO.bind (LeO.refl _) (fun _ => LeO.ite (LeO.bind (impl_Net_arrived.mono _ _ _ _ _ _ _ _ _ _ _ _ _ _) (fun _ => LeO.refl _)) (LeO.refl _))) (LeO.refl _))
theorem impl_ArrivedAt.e0 {P : Prop} (h : P := by
 go_enter Try.func38, Try.ntmps38
 go_wp2_with (first | ((with_reducible refine gate_dst (N := 3) rfl ?_); refine box_event ?hg (N := 3) ?hd (cs := #[.int .i64 a0_0, .int .i64 a0_1, .slice A0_2 l0_2.length c0_2, .slice A0_3 l0_3.length c0_3, .slice A0_4 l0_4.length c0_4, .slice A0_5 l0_5.length c0_5, .slice A0_6 l0_6.length c0_6, .slice A0_7 l0_7.length c0_7, .slice A0_8 l0_8.length c0_8, .slice A0_9 l0_9.length c0_9, .int .i64 a0_10]) (t := 37) ?hr ?_; (case hd => rfl); (case hg => rfl); (case hr => first | (go_simp; done) | (go_simp; rfl)); intro gb hg w_0 hbox hb; have BK := Aside0.mk hbox; have GE := Aside0.mk (show w.heap.size ≤ gb by rw [hg]; exact bz_ HB.out); replace HB := Aside0.mk (bs_ HB.out hb); clear hb hbox hg; obtain ⟨z0, z1, z2, z3, z4, z5, z6, z7, z8, z9, z10, f0, f1, f2, f3, f4, f5, f6, f7, f8, f9, f10⟩ := cz11_ BK.out) | (go_at_call 78; (with_reducible refine (impl_isPlace.calls k a0_0 a0_1 _ _ l0_2 _ _ l0_3 _ _ l0_4 _ _ l0_5 _ _ l0_6 _ _ l0_7 _ _ l0_8 _ _ l0_9 a0_10 a1 _ _ ?side2 HC0_2.out ?side3 HC0_3.out ?side4 HC0_4.out ?side5 HC0_5.out ?side6 HC0_6.out ?side7 HC0_7.out ?side8 HC0_8.out ?side9 HC0_9.out A1.out).mono ?_); (case side2 => exact cb_ HR0_2.out HB.out); (case side3 => exact cb_ HR0_3.out HB.out); (case side4 => exact cb_ HR0_4.out HB.out); (case side5 => exact cb_ HR0_5.out HB.out); (case side6 => exact cb_ HR0_6.out HB.out); (case side7 => exact cb_ HR0_7.out HB.out); (case side8 => exact cb_ HR0_8.out HB.out); (case side9 => exact cb_ HR0_9.out HB.out); rintro e w_0 ⟨rfl, hb⟩; clear z0 z1 z2 z3 z4 z5 z6 z7 z8 z9 z10 f0 f1 f2 f3 f4 f5 f6 f7 f8 f9 f10; replace BK := Aside0.mk (bk_ BK.out hb); replace HB := Aside0.mk (bs_ HB.out hb); clear hb; obtain ⟨z0, z1, z2, z3, z4, z5, z6, z7, z8, z9, z10, f0, f1, f2, f3, f4, f5, f6, f7, f8, f9, f10⟩ := cz11_ BK.out) | (go_at_call 49; (with_reducible refine (impl_inside.calls a2 0 1 _ _ A2.out).mono ?_); rintro e w' ⟨rfl, ⟨nd, rfl⟩⟩))
 go_ret2
 exact ⟨_, fin_, Kd.R_nil _ _ _ _ _, bb_ HB.out⟩) : P := h
set_option maxHeartbeats 4000000 in
set_option maxRecDepth 100000 in
theorem impl_ArrivedAt.calls (k : Nat) (a0_0 : Int) (a0_1 : Int) (A0_2 : Option Addr) (c0_2 : Nat) (l0_2 : List Int) (A0_3 : Option Addr) (c0_3 : Nat) (l0_3 : List Int) (A0_4 : Option Addr) (c0_4 : Nat) (l0_4 : List Int) (A0_5 : Option Addr) (c0_5 : Nat) (l0_5 : List (List S112)) (A0_6 : Option Addr) (c0_6 : Nat) (l0_6 : List Int) (A0_7 : Option Addr) (c0_7 : Nat) (l0_7 : List Int) (A0_8 : Option Addr) (c0_8 : Nat) (l0_8 : List (List S112)) (A0_9 : Option Addr) (c0_9 : Nat) (l0_9 : List (List S112)) (a0_10 : Int) (a1 : Int) (a2 : Int) (r1 : List Int) (r2 : Bool) (w : World) (hr0_2 : Kd.C (Kd.int .i64) w A0_2 l0_2.length l0_2) (hc0_2 : l0_2.length ≤ c0_2) (hr0_3 : Kd.C (Kd.int .i64) w A0_3 l0_3.length l0_3) (hc0_3 : l0_3.length ≤ c0_3) (hr0_4 : Kd.C (Kd.int .i64) w A0_4 l0_4.length l0_4) (hc0_4 : l0_4.length ≤ c0_4) (hr0_5 : Kd.C (Kd.slice 112 k112) w A0_5 l0_5.length l0_5) (hc0_5 : l0_5.length ≤ c0_5) (hr0_6 : Kd.C (Kd.int .i64) w A0_6 l0_6.length l0_6) (hc0_6 : l0_6.length ≤ c0_6) (hr0_7 : Kd.C (Kd.int .i64) w A0_7 l0_7.length l0_7) (hc0_7 : l0_7.length ≤ c0_7) (hr0_8 : Kd.C (Kd.slice 112 k112) w A0_8 l0_8.length l0_8) (hc0_8 : l0_8.length ≤ c0_8) (hr0_9 : Kd.C (Kd.slice 112 k112) w A0_9 l0_9.length l0_9) (hc0_9 : l0_9.length ≤ c0_9) (h : impl_ArrivedAt.f k a0_0 a0_1 l0_2 l0_3 l0_4 l0_5 l0_6 l0_7 l0_8 l0_9 a0_10 a1 a2 = some (r1, r2)) :
  Calls Try.prog 38 #[.agg #[.int .i64 a0_0, .int .i64 a0_1, .slice A0_2 l0_2.length c0_2, .slice A0_3 l0_3.length c0_3, .slice A0_4 l0_4.length c0_4, .slice A0_5 l0_5.length c0_5, .slice A0_6 l0_6.length c0_6, .slice A0_7 l0_7.length c0_7, .slice A0_8 l0_8.length c0_8, .slice A0_9 l0_9.length c0_9, .int .i64 a0_10], .int .i64 a1, .int .i64 a2] w fun e w' => ∃ v0_ : Value, e = .returned (.tuple #[v0_, .bool r2]) ∧ Kd.R (Kd.int .i64) 3 w' w.heap.size (fun _ => True) v0_ r1 ∧ Below w.heap.size w w' := by
 have HR0_2 := Aside0.mk hr0_2
 have HC0_2 := Aside0.mk hc0_2
 have HR0_3 := Aside0.mk hr0_3
 have HC0_3 := Aside0.mk hc0_3
 have HR0_4 := Aside0.mk hr0_4
 have HC0_4 := Aside0.mk hc0_4
 have HR0_5 := Aside0.mk hr0_5
 have HC0_5 := Aside0.mk hc0_5
 have HR0_6 := Aside0.mk hr0_6
 have HC0_6 := Aside0.mk hc0_6
 have HR0_7 := Aside0.mk hr0_7
 have HC0_7 := Aside0.mk hc0_7
 have HR0_8 := Aside0.mk hr0_8
 have HC0_8 := Aside0.mk hc0_8
 have HR0_9 := Aside0.mk hr0_9
 have HC0_9 := Aside0.mk hc0_9
 clear hr0_2 hc0_2 hr0_3 hc0_3 hr0_4 hc0_4 hr0_5 hc0_5 hr0_6 hc0_6 hr0_7 hc0_7 hr0_8 hc0_8 hr0_9 hc0_9
 have HB := Aside0.mk (Below.refl w.heap.size w)
 have hu1_ := Try.underlying37
 unfold impl_ArrivedAt.f at h
 obtain ⟨b1, A10, h⟩ := Option.bind_eq_some_iff.1 h
 have A1 := Aside0.mk A10
 clear A10
 cases b1 with
 | false =>
  have h1 : some ([], false) = some (r1, r2) := h
  obtain ⟨rfl, rfl⟩ := Prod.mk.inj (Option.some.inj h1)
  clear h h1
  exact impl_ArrivedAt.e0
 | true =>
 rw [if_pos rfl] at h
 obtain ⟨b2, A20, h⟩ := Option.bind_eq_some_iff.1 h
 have A2 := Aside0.mk A20
 clear A20
 cases b2 with
 | false =>
  have h1 : some ([], false) = some (r1, r2) := h
  obtain ⟨rfl, rfl⟩ := Prod.mk.inj (Option.some.inj h1)
  clear h h1
  exact impl_ArrivedAt.e0
 | true =>
 rw [if_pos rfl] at h
 obtain ⟨⟨q1, q2, q3, q4, q5⟩, A30, h⟩ := Option.bind_eq_some_iff.1 h
 have A3 := Aside0.mk A30
 clear A30
 have h1 : some (q1, q2) = some (r1, r2) := h
 obtain ⟨rfl, rfl⟩ := Prod.mk.inj (Option.some.inj h1)
 clear h h1
 go_enter Try.func38, Try.ntmps38
 go_wp2_with (first | ((with_reducible refine gate_dst (N := 3) rfl ?_); refine box_event ?hg (N := 3) ?hd (cs := #[.int .i64 a0_0, .int .i64 a0_1, .slice A0_2 l0_2.length c0_2, .slice A0_3 l0_3.length c0_3, .slice A0_4 l0_4.length c0_4, .slice A0_5 l0_5.length c0_5, .slice A0_6 l0_6.length c0_6, .slice A0_7 l0_7.length c0_7, .slice A0_8 l0_8.length c0_8, .slice A0_9 l0_9.length c0_9, .int .i64 a0_10]) (t := 37) ?hr ?_; (case hd => rfl); (case hg => rfl); (case hr => first | (go_simp; done) | (go_simp; rfl)); intro gb hg w1 hbox hb; have BK := Aside0.mk hbox; have GE := Aside0.mk (show w.heap.size ≤ gb by rw [hg]; exact bz_ HB.out); replace HB := Aside0.mk (bs_ HB.out hb); clear hb hbox hg; obtain ⟨z0, z1, z2, z3, z4, z5, z6, z7, z8, z9, z10, f0, f1, f2, f3, f4, f5, f6, f7, f8, f9, f10⟩ := cz11_ BK.out) | (go_at_call 78; (with_reducible refine (impl_isPlace.calls k a0_0 a0_1 _ _ l0_2 _ _ l0_3 _ _ l0_4 _ _ l0_5 _ _ l0_6 _ _ l0_7 _ _ l0_8 _ _ l0_9 a0_10 a1 _ _ ?side2 HC0_2.out ?side3 HC0_3.out ?side4 HC0_4.out ?side5 HC0_5.out ?side6 HC0_6.out ?side7 HC0_7.out ?side8 HC0_8.out ?side9 HC0_9.out A1.out).mono ?_); (case side2 => exact cb_ HR0_2.out HB.out); (case side3 => exact cb_ HR0_3.out HB.out); (case side4 => exact cb_ HR0_4.out HB.out); (case side5 => exact cb_ HR0_5.out HB.out); (case side6 => exact cb_ HR0_6.out HB.out); (case side7 => exact cb_ HR0_7.out HB.out); (case side8 => exact cb_ HR0_8.out HB.out); (case side9 => exact cb_ HR0_9.out HB.out); rintro e w2 ⟨rfl, hb⟩; clear z0 z1 z2 z3 z4 z5 z6 z7 z8 z9 z10 f0 f1 f2 f3 f4 f5 f6 f7 f8 f9 f10; replace BK := Aside0.mk (bk_ BK.out hb); replace HB := Aside0.mk (bs_ HB.out hb); clear hb; obtain ⟨z0, z1, z2, z3, z4, z5, z6, z7, z8, z9, z10, f0, f1, f2, f3, f4, f5, f6, f7, f8, f9, f10⟩ := cz11_ BK.out) | (go_at_call 49; (with_reducible refine (impl_inside.calls a2 0 1 _ _ A2.out).mono ?_); rintro e w' ⟨rfl, ⟨nd, rfl⟩⟩) | (go_at_call 79; (with_reducible refine (impl_Net_arrived.calls k gb a0_0 a0_1 l0_2 l0_3 l0_4 l0_5 l0_6 l0_7 l0_8 l0_9 a0_10 a1 a2 _ _ _ _ _ w _ ?side1 ?side2 A3.out).mono ?_); (case side1 => exact ⟨A0_2, c0_2, A0_3, c0_3, A0_4, c0_4, A0_5, c0_5, A0_6, c0_6, A0_7, c0_7, A0_8, c0_8, A0_9, c0_9, bq_ BK.out, GE.out, HR0_2.out, HR0_3.out, HR0_4.out, HR0_5.out, HR0_6.out, HR0_7.out, HR0_8.out, HR0_9.out⟩); (case side2 => exact bb_ HB.out); rintro e w3 ⟨v, rfl, ho, _, hb, _⟩; have HO := Aside0.mk (Kd.R_lower ho (bz_ HB.out)); replace HB := Aside0.mk hb; clear ho hb))
 go_ret2
 exact ⟨_, fin_, ra_ HO.out, bb_ HB.out⟩

end Go.Proofs.Ytaofkfooijfjbaa.PFnExactArrivedAt
-- thin
