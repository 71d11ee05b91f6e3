
import Derived.Test.YteiemoooelpdaaaPFnRequestsx0
import Derived.Test.YteiemoooelpdaaaPFnRequestsx2
import Derived.Test.YteiemoooelpdaaaPFnRequestsx3
import Derived.Test.YteiemoooelpdaaaPFnRequestsx13
import Derived.Test.YteiemoooelpdaaaPFnRequestsx19
namespace Go.Proofs.Yteiemoooelpdaaa.PFnRequests
open Go.RowKit Go.Proofs.YteiemoooelpdaaaW.PrintWords Go.Proofs.YteiemoooelpdaaaW.PrintLast Go.Proofs.YteiemoooelpdaaaW.PrintMore
attribute [local go_sem] max2_int min2_int max_two min_two max_three min_three max_four min_four
set_option linter.unusedVariables false
set_option maxHeartbeats 8000000
set_option maxRecDepth 100000
set_option linter.unusedSimpArgs false
def impl_isPlace.f (k : Nat) (a0_0 : Int) (a0_1 : Int) (l0_2 : List Int) (l0_3 : List Int) (l0_4 : List Int) (l0_5 : List (List (S72))) (l0_6 : List Int) (l0_7 : List Int) (l0_8 : List (List (S72))) (l0_9 : List (List (S72))) (a0_10 : Int) (a1 : Int) : Option (Bool) := (impl_NetOk.f k a0_0 a0_1 l0_2 l0_3 l0_4 l0_5 l0_6 l0_7 l0_8 l0_9 a0_10).bind fun t488 => (if t488 = true then ((impl_isNode.f a0_0 a0_1 a1).bind fun t489 => (some t489)) else (none))
theorem impl_isPlace.calls (k : Nat) (a0_0 : Int) (a0_1 : Int) (A0_2 : Option Addr) (c0_2 : Nat) (l0_2 : List Int) (A0_3 : Option Addr) (c0_3 : Nat) (l0_3 : List Int) (A0_4 : Option Addr) (c0_4 : Nat) (l0_4 : List Int) (A0_5 : Option Addr) (c0_5 : Nat) (l0_5 : List (List (S72))) (A0_6 : Option Addr) (c0_6 : Nat) (l0_6 : List Int) (A0_7 : Option Addr) (c0_7 : Nat) (l0_7 : List Int) (A0_8 : Option Addr) (c0_8 : Nat) (l0_8 : List (List (S72))) (A0_9 : Option Addr) (c0_9 : Nat) (l0_9 : List (List (S72))) (a0_10 : Int) (a1 : Int) (r : Bool) (w : World) (hr0_2 : Kd.C (Kd.int .i64) w A0_2 l0_2.length l0_2) (hc0_2 : l0_2.length ≤ c0_2) (hr0_3 : Kd.C (Kd.int .i64) w A0_3 l0_3.length l0_3) (hc0_3 : l0_3.length ≤ c0_3) (hr0_4 : Kd.C (Kd.int .i64) w A0_4 l0_4.length l0_4) (hc0_4 : l0_4.length ≤ c0_4) (hr0_5 : Kd.C (Kd.slice 72 k72) w A0_5 l0_5.length l0_5) (hc0_5 : l0_5.length ≤ c0_5) (hr0_6 : Kd.C (Kd.int .i64) w A0_6 l0_6.length l0_6) (hc0_6 : l0_6.length ≤ c0_6) (hr0_7 : Kd.C (Kd.int .i64) w A0_7 l0_7.length l0_7) (hc0_7 : l0_7.length ≤ c0_7) (hr0_8 : Kd.C (Kd.slice 72 k72) w A0_8 l0_8.length l0_8) (hc0_8 : l0_8.length ≤ c0_8) (hr0_9 : Kd.C (Kd.slice 72 k72) w A0_9 l0_9.length l0_9) (hc0_9 : l0_9.length ≤ c0_9) (h : impl_isPlace.f k a0_0 a0_1 l0_2 l0_3 l0_4 l0_5 l0_6 l0_7 l0_8 l0_9 a0_10 a1 = some r) :
  Calls Try.prog 18 #[.agg #[.int .i64 a0_0, .int .i64 a0_1, .slice A0_2 l0_2.length c0_2, .slice A0_3 l0_3.length c0_3, .slice A0_4 l0_4.length c0_4, .slice A0_5 l0_5.length c0_5, .slice A0_6 l0_6.length c0_6, .slice A0_7 l0_7.length c0_7, .slice A0_8 l0_8.length c0_8, .slice A0_9 l0_9.length c0_9, .int .i64 a0_10], .int .i64 a1] w fun e w' => e = .returned (.bool r) ∧ Below w.heap.size w w' := by
 have hu35 := Try.underlying35
 have hu25 := Try.underlying25
 obtain ⟨HR0_2, HC0_2, HR0_3, HC0_3, HR0_4, HC0_4, HR0_5, HC0_5, HR0_6, HC0_6, HR0_7, HC0_7, HR0_8, HC0_8, HR0_9, HC0_9⟩ := a16_ hr0_2 hc0_2 hr0_3 hc0_3 hr0_4 hc0_4 hr0_5 hc0_5 hr0_6 hc0_6 hr0_7 hc0_7 hr0_8 hc0_8 hr0_9 hc0_9; clear hr0_2 hc0_2 hr0_3 hc0_3 hr0_4 hc0_4 hr0_5 hc0_5 hr0_6 hc0_6 hr0_7 hc0_7 hr0_8 hc0_8 hr0_9 hc0_9
 have HB := am (Below.refl w.heap.size w)
 have H : ((impl_NetOk.f k a0_0 a0_1 l0_2 l0_3 l0_4 l0_5 l0_6 l0_7 l0_8 l0_9 a0_10).bind fun t488 => (if t488 = true then ((impl_isNode.f a0_0 a0_1 a1).bind fun t489 => (some t489)) else (none))) = some r := h
 clear h
 obtain ⟨t488, A3, H⟩ := bi_ H
 by_cases c4 : t488 = true
 ·subst c4
  rw [if_pos rfl] at H
  obtain ⟨t489, A5, H⟩ := bi_ H
  obtain rfl := Option.some.inj H
  go_enter Try.func18, Try.ntmps18
  go_wp2_with (first | ((with_reducible refine gate_dst (N := 2) rfl ?_); refine bx_ 2 #[.int .i64 a0_0, .int .i64 a0_1, .slice A0_2 l0_2.length c0_2, .slice A0_3 l0_3.length c0_3, .slice A0_4 l0_4.length c0_4, .slice A0_5 l0_5.length c0_5, .slice A0_6 l0_6.length c0_6, .slice A0_7 l0_7.length c0_7, .slice A0_8 l0_8.length c0_8, .slice A0_9 l0_9.length c0_9, .int .i64 a0_10] 35 ?_; intro gb487 hg w6 hbox hb; have BK487 := am (hbox); have GW487 := gw_ hg HB; replace HB := h9_ HB hb; clear hb hbox hg; obtain ⟨hcz7_0, hcz7_1, hcz7_2, hcz7_3, hcz7_4, hcz7_5, hcz7_6, hcz7_7, hcz7_8, hcz7_9, hcz7_10, hfz7_0, hfz7_1, hfz7_2, hfz7_3, hfz7_4, hfz7_5, hfz7_6, hfz7_7, hfz7_8, hfz7_9, hfz7_10⟩ := cz11_ BK487.out) | ((with_reducible refine gate_callee (f := 26) rfl ?_); refine gm_ (some 6) Try.func26 #[.agg #[.int .i64 a0_0, .int .i64 a0_1, .slice A0_2 l0_2.length c0_2, .slice A0_3 l0_3.length c0_3, .slice A0_4 l0_4.length c0_4, .slice A0_5 l0_5.length c0_5, .slice A0_6 l0_6.length c0_6, .slice A0_7 l0_7.length c0_7, .slice A0_8 l0_8.length c0_8, .slice A0_9 l0_9.length c0_9, .int .i64 a0_10]] rfl ?_; (with_reducible refine (impl_NetOk.calls k a0_0 a0_1 _ _ l0_2 _ _ l0_3 _ _ l0_4 _ _ l0_5 _ _ l0_6 _ _ l0_7 _ _ l0_8 _ _ l0_9 a0_10 true _ ?side1 HC0_2.out ?side3 HC0_3.out ?side5 HC0_4.out ?side7 HC0_5.out ?side9 HC0_6.out ?side11 HC0_7.out ?side13 HC0_8.out ?side15 HC0_9.out A3.out).mono ?_); (case side1 => exact cb_ HR0_2.out HB.out); (case side3 => exact cb_ HR0_3.out HB.out); (case side5 => exact cb_ HR0_4.out HB.out); (case side7 => exact cb_ HR0_5.out HB.out); (case side9 => exact cb_ HR0_6.out HB.out); (case side11 => exact cb_ HR0_7.out HB.out); (case side13 => exact cb_ HR0_8.out HB.out); (case side15 => exact cb_ HR0_9.out HB.out); rintro e w8 ⟨rfl, hb⟩; refine ⟨_, rfl, ?_⟩; replace BK487 := kb_ BK487 hb; replace HB := h9_ HB hb; (try clear hb); obtain ⟨hcz9_0, hcz9_1, hcz9_2, hcz9_3, hcz9_4, hcz9_5, hcz9_6, hcz9_7, hcz9_8, hcz9_9, hcz9_10, hfz9_0, hfz9_1, hfz9_2, hfz9_3, hfz9_4, hfz9_5, hfz9_6, hfz9_7, hfz9_8, hfz9_9, hfz9_10⟩ := cz11_ BK487.out) | (go_at_call 37; (with_reducible refine (impl_isNode.calls a0_0 a0_1 a1 t489 _ A5.out).mono ?_); rintro e w10 ⟨rfl, hb⟩; replace BK487 := kb_ BK487 hb; replace HB := h9_ HB hb; (try clear hb)))
  go_ret
  exact ⟨fin_, bb_ HB.out⟩
 ·replace c4 := Bool.eq_false_iff.mpr c4
  subst c4
  rw [if_neg (show ¬ (false = true) by decide)] at H
  exact absurd H (by simp)
def impl_tableFor.f (l0_0 : List Int) (l0_1 : List Int) (a1 : Int) : Option (List Int) := if a1 = 1 then (some l0_1) else (some l0_0)
theorem impl_tableFor.calls (P0_0_ : Nat → Prop) (u9000_ : Value) (l0_0 : List Int) (P0_1_ : Nat → Prop) (u9001_ : Value) (l0_1 : List Int) (a1 : Int) (r : List Int) (w0 w : World) (hB : Below w0.heap.size w0 w) (ho0_0 : Kd.R (Kd.int .i64) 3 w w0.heap.size P0_0_ u9000_ l0_0) (hp0_0_0_1 : ∀ k_, P0_0_ k_ → ¬ P0_1_ k_) (ho0_1 : Kd.R (Kd.int .i64) 3 w w0.heap.size P0_1_ u9001_ l0_1) (hp0_1_0_0 : ∀ k_, P0_1_ k_ → ¬ P0_0_ k_) (h : impl_tableFor.f l0_0 l0_1 a1 = some r) :
  Calls Try.prog 44 #[.agg #[u9000_, u9001_], .int .i64 a1] w fun e w' => ∃ v0_ : Value, e = .returned (.agg #[v0_]) ∧ Kd.R (Kd.int .i64) 3 w' w0.heap.size (fun k_ => ((P0_0_ k_ ∨ P0_1_ k_) ∨ w.heap.size ≤ k_)) v0_ r ∧ Below w0.heap.size w0 w' ∧ Kept w w' (fun k_ => P0_0_ k_ ∨ P0_1_ k_) := by
 have hu32 := Try.underlying32
 have hu30 := Try.underlying30
 have HO0_0 := am (show Kd.R (Kd.int .i64) 3 w w0.heap.size (fun k_ => ((P0_0_ k_ ∨ P0_1_ k_) ∨ w.heap.size ≤ k_) ∧ some k_ ≠ (u9001_ : Value).ownBlock) u9000_ l0_0 from Kd.R_mono ho0_0 (fun k_ hk => ⟨(.inl (.inl hk)), fun e_ => hp0_0_0_1 k_ hk (ho0_1.1 k_ e_.symm)⟩))
 have HO0_1 := am (show Kd.R (Kd.int .i64) 3 w w0.heap.size (fun k_ => ((P0_0_ k_ ∨ P0_1_ k_) ∨ w.heap.size ≤ k_) ∧ some k_ ≠ (u9000_ : Value).ownBlock) u9001_ l0_1 from Kd.R_mono ho0_1 (fun k_ hk => ⟨(.inl (.inr hk)), fun e_ => hp0_1_0_0 k_ hk (ho0_0.1 k_ e_.symm)⟩))
 have HK := am (Kept.refl w (fun k_ => P0_0_ k_ ∨ P0_1_ k_))
 have HW0 := am hB.size
 have HB := am hB
 clear hB
 have H : (if a1 = 1 then (some l0_1) else (some l0_0)) = some r := h
 clear h
 by_cases c3 : a1 = 1
 ·rw [if_pos c3] at H
  have c3b0 : (a1 == 1) = true := beq_iff_eq.mpr c3
  have c3b1 : (a1 != 1) = false := bne_eq_false_iff_eq.mpr c3
  clear c3
  obtain rfl := Option.some.inj H
  obtain ⟨Ao4, co4, eo4⟩ := Kd.R_slice HO0_0.out
  subst eo4
  obtain ⟨Ao5, co5, eo5⟩ := Kd.R_slice HO0_1.out
  subst eo5
  go_enter Try.func44, Try.ntmps44
  go_wp2_with (first | ((with_reducible refine gate_dst (N := 2) rfl ?_); refine bx_ 2 #[.slice Ao4 l0_0.length co4, .slice Ao5 l0_1.length co5] 32 ?_; intro gb490 hg w6 hbox hb; replace HO0_0 := rb_ HO0_0 hb; replace HO0_1 := rb_ HO0_1 hb; have BK490 := am (hbox); have GW490 := am ((by rw [hg]; exact (by first | exact HK.out.1 | exact (show Kept w _ (fun k_ => P0_0_ k_ ∨ P0_1_ k_) from by repeat (first | (with_reducible first | exact HK.out | apply Kept.alloc | apply Kept.drewN | apply Kept.drew) | exact HK.out)).1) : w.heap.size ≤ gb490)); replace HK := am (Kept.below (S := (fun k_ => P0_0_ k_ ∨ P0_1_ k_)) (by repeat (first | (with_reducible first | exact HK.out | apply Kept.alloc | apply Kept.drewN | apply Kept.drew) | exact HK.out)) hb); have GE490 := am ((by rw [hg]; exact (bz_ HB.out) : w0.heap.size ≤ gb490)); replace HB := h9_ HB hb; clear hb hbox hg) | ((with_reducible refine gate_dst (N := 4) rfl ?_); refine bx_ 4 #[.slice none 0 0] 30 ?_; intro gb491 hg w7 hbox hb; replace HO0_0 := rb_ HO0_0 hb; replace HO0_1 := rb_ HO0_1 hb; have BK491 := am (hbox); have GW491 := am ((by rw [hg]; exact (by first | exact HK.out.1 | exact (show Kept w _ (fun k_ => P0_0_ k_ ∨ P0_1_ k_) from by repeat (first | (with_reducible first | exact HK.out | apply Kept.alloc | apply Kept.drewN | apply Kept.drew | refine Kept.setCell ?_ (.inr GW490.out) _) | exact HK.out)).1) : w.heap.size ≤ gb491)); replace HK := am (Kept.below (S := (fun k_ => P0_0_ k_ ∨ P0_1_ k_)) (by repeat (first | (with_reducible first | exact HK.out | apply Kept.alloc | apply Kept.drewN | apply Kept.drew | refine Kept.setCell ?_ (.inr GW490.out) _) | exact HK.out)) hb); have GE491 := am ((by rw [hg]; exact (bz_ HB.out) : w0.heap.size ≤ gb491)); replace HB := h9_ HB hb; have NB490_491 := nl_ hg BK490; have NB491_490 := ng_ hg BK490; replace BK490 := kb_ BK490 hb; clear hb hbox hg; have hnb8 := NB490_491.out; have hnc8 := NB491_490.out; obtain ⟨hcz9_0, hcz9_1, hfz9_0, hfz9_1⟩ := cz2_ BK490.out; obtain ⟨hcz10_0, hfz10_0⟩ := cz1_ BK491.out))
  refine bodyPost_ret (results_cell_row rfl _ _ gb491 30 #[.slice Ao5 l0_1.length co5] (0, 0) _ rfl (by (with_reducible repeat (first | refine blk_drewN ?_ _ | refine blk_drew ?_ | refine blk_alloc ?_ _)); refine blk_put (cs := #[.slice none 0 0]) ?_ 0 _ rfl; (with_reducible repeat (first | refine blk_drewN ?_ _ | refine blk_drew ?_ | refine blk_alloc ?_ _)); exact BK491.out) Try.underlying30 rfl (by kernel_rfl)) rfl ?_
  exact ⟨_, fin_, rm_ (Kd.R_types HO0_1.out BK491.out (by decide)) (fun _ hk => hk.1.1), bb_ HB.out, by repeat (first | (with_reducible first | exact HK.out | apply Kept.alloc | apply Kept.drewN | apply Kept.drew | refine Kept.setCell ?_ (.inr GW490.out) _ | refine Kept.setCell ?_ (.inr GW491.out) _) | exact HK.out)⟩
 ·rw [if_neg c3] at H
  have c3b0 : (a1 == 1) = false := beq_eq_false_iff_ne.mpr c3
  have c3b1 : (a1 != 1) = true := bne_iff_ne.mpr c3
  obtain rfl := Option.some.inj H
  obtain ⟨Ao11, co11, eo11⟩ := Kd.R_slice HO0_0.out
  subst eo11
  obtain ⟨Ao12, co12, eo12⟩ := Kd.R_slice HO0_1.out
  subst eo12
  go_enter Try.func44, Try.ntmps44
  go_wp2_with (first | ((with_reducible refine gate_dst (N := 2) rfl ?_); refine bx_ 2 #[.slice Ao11 l0_0.length co11, .slice Ao12 l0_1.length co12] 32 ?_; intro gb490 hg w13 hbox hb; replace HO0_0 := rb_ HO0_0 hb; replace HO0_1 := rb_ HO0_1 hb; have BK490 := am (hbox); have GW490 := am ((by rw [hg]; exact (by first | exact HK.out.1 | exact (show Kept w _ (fun k_ => P0_0_ k_ ∨ P0_1_ k_) from by repeat (first | (with_reducible first | exact HK.out | apply Kept.alloc | apply Kept.drewN | apply Kept.drew) | exact HK.out)).1) : w.heap.size ≤ gb490)); replace HK := am (Kept.below (S := (fun k_ => P0_0_ k_ ∨ P0_1_ k_)) (by repeat (first | (with_reducible first | exact HK.out | apply Kept.alloc | apply Kept.drewN | apply Kept.drew) | exact HK.out)) hb); have GE490 := am ((by rw [hg]; exact (bz_ HB.out) : w0.heap.size ≤ gb490)); replace HB := h9_ HB hb; clear hb hbox hg) | ((with_reducible refine gate_dst (N := 4) rfl ?_); refine bx_ 4 #[.slice none 0 0] 30 ?_; intro gb491 hg w14 hbox hb; replace HO0_0 := rb_ HO0_0 hb; replace HO0_1 := rb_ HO0_1 hb; have BK491 := am (hbox); have GW491 := am ((by rw [hg]; exact (by first | exact HK.out.1 | exact (show Kept w _ (fun k_ => P0_0_ k_ ∨ P0_1_ k_) from by repeat (first | (with_reducible first | exact HK.out | apply Kept.alloc | apply Kept.drewN | apply Kept.drew | refine Kept.setCell ?_ (.inr GW490.out) _) | exact HK.out)).1) : w.heap.size ≤ gb491)); replace HK := am (Kept.below (S := (fun k_ => P0_0_ k_ ∨ P0_1_ k_)) (by repeat (first | (with_reducible first | exact HK.out | apply Kept.alloc | apply Kept.drewN | apply Kept.drew | refine Kept.setCell ?_ (.inr GW490.out) _) | exact HK.out)) hb); have GE491 := am ((by rw [hg]; exact (bz_ HB.out) : w0.heap.size ≤ gb491)); replace HB := h9_ HB hb; have NB490_491 := nl_ hg BK490; have NB491_490 := ng_ hg BK490; replace BK490 := kb_ BK490 hb; clear hb hbox hg; have hnb15 := NB490_491.out; have hnc15 := NB491_490.out; obtain ⟨hcz16_0, hcz16_1, hfz16_0, hfz16_1⟩ := cz2_ BK490.out; obtain ⟨hcz17_0, hfz17_0⟩ := cz1_ BK491.out))
  refine bodyPost_ret (results_cell_row rfl _ _ gb491 30 #[.slice Ao11 l0_0.length co11] (0, 0) _ rfl (by (with_reducible repeat (first | refine blk_drewN ?_ _ | refine blk_drew ?_ | refine blk_alloc ?_ _)); refine blk_put (cs := #[.slice none 0 0]) ?_ 0 _ rfl; (with_reducible repeat (first | refine blk_drewN ?_ _ | refine blk_drew ?_ | refine blk_alloc ?_ _)); exact BK491.out) Try.underlying30 rfl (by kernel_rfl)) rfl ?_
  exact ⟨_, fin_, rm_ (Kd.R_types HO0_0.out BK491.out (by decide)) (fun _ hk => hk.1.1), bb_ HB.out, by repeat (first | (with_reducible first | exact HK.out | apply Kept.alloc | apply Kept.drewN | apply Kept.drew | refine Kept.setCell ?_ (.inr GW490.out) _ | refine Kept.setCell ?_ (.inr GW491.out) _) | exact HK.out)⟩
def impl_BufferAt.f (a0 : Int) (a1 : Int) (a2 : Int) : Option (Int) := (impl_inside.f a0 0 15).bind fun t492 => (if t492 = true then ((impl_inside.f a1 0 4).bind fun t493 => (if t493 = true then ((impl_inside.f a2 0 1).bind fun t494 => (if t494 = true then (some (wrap64 ((wrap64 ((wrap64 ((wrap64 (5 * a0)) + a1)) * 2)) + a2))) else (some (-1)))) else (some (-1)))) else (some (-1)))
theorem impl_BufferAt.e0 {P : Prop} (h : P := by
 go_enter Try.func45, Try.ntmps45
 go_wp2_with (first | ((with_reducible refine gate_callee (f := 22) rfl ?_); refine gm_ (some 8) Try.func22 #[.int .i64 a0, .int .i64 0, .int .i64 15] rfl ?_; (with_reducible refine (impl_inside.calls a0 0 15 _ _ A4.out).mono ?_); rintro e w' ⟨rfl, ⟨nd, rfl⟩⟩; refine ⟨_, rfl, ?_⟩) | (go_at_call 22; (with_reducible refine (impl_inside.calls a1 0 4 _ _ A6.out).mono ?_); rintro e w' ⟨rfl, ⟨nd, rfl⟩⟩) | (go_at_call 22; (with_reducible refine (impl_inside.calls a2 0 1 _ _ A8.out).mono ?_); rintro e w' ⟨rfl, ⟨nd, rfl⟩⟩))
 go_ret
 exact ⟨by first | rfl | (simp; done) | (simp [*]; done), by repeat (first | exact Drawn0.refl _ | apply Drawn0.step)⟩) : P := h
theorem impl_BufferAt.calls (a0 : Int) (a1 : Int) (a2 : Int) (r : Int) (w : World) (h : impl_BufferAt.f a0 a1 a2 = some r) :
  Calls Try.prog 45 #[.int .i64 a0, .int .i64 a1, .int .i64 a2] w fun e w' => e = .returned (.int .i64 r) ∧ Drawn0 w w' := by
 have H : ((impl_inside.f a0 0 15).bind fun t492 => (if t492 = true then ((impl_inside.f a1 0 4).bind fun t493 => (if t493 = true then ((impl_inside.f a2 0 1).bind fun t494 => (if t494 = true then (some (wrap64 ((wrap64 ((wrap64 ((wrap64 (5 * a0)) + a1)) * 2)) + a2))) else (some (-1)))) else (some (-1)))) else (some (-1)))) = some r := h
 clear h
 obtain ⟨t492, A4, H⟩ := bi_ H
 by_cases c5 : t492 = true
 ·subst c5
  rw [if_pos rfl] at H
  obtain ⟨t493, A6, H⟩ := bi_ H
  by_cases c7 : t493 = true
  rotate_left
  ·replace c7 := Bool.eq_false_iff.mpr c7
   subst c7
   rw [if_neg (show ¬ (false = true) by decide)] at H
   obtain rfl := Option.some.inj H
   exact impl_BufferAt.e0
  subst c7
  rw [if_pos rfl] at H
  obtain ⟨t494, A8, H⟩ := bi_ H
  by_cases c9 : t494 = true
  ·subst c9
   rw [if_pos rfl] at H
   obtain rfl := Option.some.inj H
   exact impl_BufferAt.e0
  replace c9 := Bool.eq_false_iff.mpr c9
  subst c9
  rw [if_neg (show ¬ (false = true) by decide)] at H
  obtain rfl := Option.some.inj H
  exact impl_BufferAt.e0
 ·replace c5 := Bool.eq_false_iff.mpr c5
  subst c5
  rw [if_neg (show ¬ (false = true) by decide)] at H
  obtain rfl := Option.some.inj H
  exact impl_BufferAt.e0
def NetAt (W : World) (g : Nat) (s0 : Int) (s1 : Int) (s2 : List Int) (s3 : List Int) (s4 : List Int) (s5 : List (List S72)) (s6 : List Int) (s7 : List Int) (s8 : List (List S72)) (s9 : List (List S72)) (s10 : Int) : Prop := ∃ A2 c2 A3 c3 A4 c4 A5 c5 A6 c6 A7 c7 A8 c8 A9 c9, W.heap[g]? = some (.cells #[.int .i64 s0, .int .i64 s1, .slice A2 s2.length c2, .slice A3 s3.length c3, .slice A4 s4.length c4, .slice A5 s5.length c5, .slice A6 s6.length c6, .slice A7 s7.length c7, .slice A8 s8.length c8, .slice A9 s9.length c9, .int .i64 s10] 35 (0, 0)) ∧ (Kd.C (Kd.int .i64) W A2 s2.length s2 ∧ s2.length ≤ c2) ∧ (Kd.C (Kd.int .i64) W A3 s3.length s3 ∧ s3.length ≤ c3) ∧ (Kd.C (Kd.int .i64) W A4 s4.length s4 ∧ s4.length ≤ c4) ∧ (Kd.C (Kd.slice 72 k72) W A5 s5.length s5 ∧ s5.length ≤ c5) ∧ (Kd.C (Kd.int .i64) W A6 s6.length s6 ∧ s6.length ≤ c6) ∧ (Kd.C (Kd.int .i64) W A7 s7.length s7 ∧ s7.length ≤ c7) ∧ (Kd.C (Kd.slice 72 k72) W A8 s8.length s8 ∧ s8.length ≤ c8) ∧ (Kd.C (Kd.slice 72 k72) W A9 s9.length s9 ∧ s9.length ≤ c9)
theorem NetAt.below {W W1 : World} {g : Nat} {s0 : Int} {s1 : Int} {s2 : List Int} {s3 : List Int} {s4 : List Int} {s5 : List (List S72)} {s6 : List Int} {s7 : List Int} {s8 : List (List S72)} {s9 : List (List S72)} {s10 : Int} (h : NetAt W g s0 s1 s2 s3 s4 s5 s6 s7 s8 s9 s10) (b : Below W.heap.size W W1) : NetAt W1 g s0 s1 s2 s3 s4 s5 s6 s7 s8 s9 s10 := by
 obtain ⟨A2, c2, A3, c3, A4, c4, A5, c5, A6, c6, A7, c7, A8, c8, A9, c9, hb, ⟨h2, k2⟩, ⟨h3, k3⟩, ⟨h4, k4⟩, ⟨h5, k5⟩, ⟨h6, k6⟩, ⟨h7, k7⟩, ⟨h8, k8⟩, ⟨h9, k9⟩⟩ := h
 exact ⟨A2, c2, A3, c3, A4, c4, A5, c5, A6, c6, A7, c7, A8, c8, A9, c9, blk_below hb b, ⟨Kd.C_below h2 b, k2⟩, ⟨Kd.C_below h3 b, k3⟩, ⟨Kd.C_below h4 b, k4⟩, ⟨Kd.C_below h5 b, k5⟩, ⟨Kd.C_below h6 b, k6⟩, ⟨Kd.C_below h7 b, k7⟩, ⟨Kd.C_below h8 b, k8⟩, ⟨Kd.C_below h9 b, k9⟩⟩
theorem tableFor_r (A3 : Option Addr) (c3 : Nat) (s3 : List Int) (A4 : Option Addr) (c4 : Nat) (s4 : List Int) (c : Int) (A : Option Addr) (cc : Nat) (s : List Int) (w : World) (h : (c = 1 ∧ A = A4 ∧ cc = c4 ∧ s = s4) ∨ (¬ c = 1 ∧ A = A3 ∧ cc = c3 ∧ s = s3)) :
  Calls Try.prog 44 #[.agg #[.slice A3 s3.length c3, .slice A4 s4.length c4], .int .i64 c] w fun e w' => e = .returned (.agg #[.slice A s.length cc]) ∧ Below w.heap.size w w' := by
 have HB := am (Below.refl w.heap.size w)
 rcases h with ⟨h1, rfl, rfl, rfl⟩ | ⟨h1, rfl, rfl, rfl⟩
 ·have h1b : (c == 1) = true := beq_iff_eq.mpr h1
  clear h1
  go_enter Try.func44, Try.ntmps44
  go_wp2
  refine bodyPost_ret (v := .agg #[.slice A s.length cc]) (by simp [results, Try.results44, go_sem]) rfl ⟨rfl, ?_⟩
  exact bb_ HB.out
 ·have h1b : (c == 1) = false := beq_eq_false_iff_ne.mpr h1
  clear h1
  go_enter Try.func44, Try.ntmps44
  go_wp2
  refine bodyPost_ret (v := .agg #[.slice A s.length cc]) (by simp [results, Try.results44, go_sem]) rfl ⟨rfl, ?_⟩
  exact bb_ HB.out
def impl_Net_wanted.l0 : Nat → List Int → Int → Int → Int → Option Int
 | 0, _, _, _, _ => none
 | k + 1, s6, a1, a2, x => if x ≤ 4 then ((impl_BufferAt.f a1 x (Int.tmod a2 2)).bind fun t => (if 0 ≤ t then (if t < (s6.length : Int) then (if rd s6 t = (wrap64 (Int.tdiv a2 2)) then (some x) else (impl_Net_wanted.l0 k s6 a1 a2 (wrap64 (x + 1)))) else none) else none)) else (some (-1))
def impl_Net_wanted.f (k : Nat) (s0 s1 : Int) (s2 s3 s4 : List Int) (s5 : List (List S72)) (s6 : List Int) (a1 a2 : Int) : Option Int := if 0 ≤ (wrap64 ((wrap64 (10 * a1)) + a2)) then (if (wrap64 ((wrap64 (10 * a1)) + a2)) < (s5.length : Int) then (if ((rd_L4 s5 (wrap64 ((wrap64 (10 * a1)) + a2))).length : Int) = 0 then (some (-1)) else (if (rd_T72 (rd_L4 s5 (wrap64 ((wrap64 (10 * a1)) + a2))) 0).f3 = true then (impl_PortAt.f k s0 s1 s2 (if (rd_T72 (rd_L4 s5 (wrap64 ((wrap64 (10 * a1)) + a2))) 0).f2 = 1 then s4 else s3) a1 (rd_T72 (rd_L4 s5 (wrap64 ((wrap64 (10 * a1)) + a2))) 0).f1) else (impl_Net_wanted.l0 k s6 a1 a2 0))) else none) else none
set_option maxHeartbeats 4000000 in
theorem impl_Net_wanted.calls (k g : Nat) (s0 : Int) (s1 : Int) (s2 : List Int) (s3 : List Int) (s4 : List Int) (s5 : List (List S72)) (s6 : List Int) (s7 : List Int) (s8 : List (List S72)) (s9 : List (List S72)) (s10 : Int) (a1 a2 : Int) (r : Int) (w : World) (hN : NetAt w g s0 s1 s2 s3 s4 s5 s6 s7 s8 s9 s10) (h : impl_Net_wanted.f k s0 s1 s2 s3 s4 s5 s6 a1 a2 = some r) :
  Calls Try.prog 23 #[.pointer (some ⟨g, 0, none⟩), .int .i64 a1, .int .i64 a2] w fun e w' => e = .returned (.int .i64 r) ∧ Below w.heap.size w w' := by
 obtain ⟨A2, c2, A3, c3, A4, c4, A5, c5, A6, c6, A7, c7, A8, c8, A9, c9, hb, ⟨h2, k2⟩, ⟨h3, k3⟩, ⟨h4, k4⟩, ⟨h5, k5⟩, ⟨h6, k6⟩, ⟨h7, k7⟩, ⟨h8, k8⟩, ⟨h9, k9⟩⟩ := hN
 have BK := am hb
 have HR2 := am h2
 have HC2 := am k2
 have HR3 := am h3
 have HC3 := am k3
 have HR4 := am h4
 have HC4 := am k4
 have HR5 := am h5
 have HC5 := am k5
 have HR6 := am h6
 have HC6 := am k6
 clear hb h2 k2 h3 k3 h4 k4 h5 k5 h6 k6 h7 k7 h8 k8 h9 k9
 have HB := am (Below.refl w.heap.size w)
 obtain ⟨z0, z1, z2, z3, z4, z5, z6, z7, z8, z9, z10, f0, f1, f2, f3, f4, f5, f6, f7, f8, f9, f10⟩ := cz11_ BK.out
 unfold impl_Net_wanted.f at h
 obtain ⟨ix, hix⟩ : ∃ j_ : Int, (wrap64 ((wrap64 (10 * a1)) + a2)) = j_ := ⟨_, rfl⟩
 have hixw : (IntKind.i64.wrap ((wrap64 (10 * a1)) + a2)) = ix := (i64_w _).trans hix
 rw [hix] at h
 by_cases q1 : 0 ≤ ix
 ·rw [if_pos q1] at h
  by_cases q2 : ix < (s5.length : Int)
  rotate_left
  ·rw [if_neg q2] at h
   exact absurd h (by simp)
  rw [if_pos q2] at h
  obtain ⟨ad, AE, cE, eE, hxE, hlE, hiE⟩ := at_L4 HR5.out ix q1 q2
  cases eE
  have HRL := am hiE
  clear hlE hiE
  have q1b : decide (0 ≤ ix) = true := decide_eq_true q1
  have q2b : decide (ix < (s5.length : Int)) = true := decide_eq_true q2
  replace q1 := eq_true q1
  replace q2 := eq_true q2
  by_cases q3 : ((rd_L4 s5 ix).length : Int) = 0
  ·rw [if_pos q3] at h
   obtain rfl := Option.some.inj h
   clear h
   have q3b : (((rd_L4 s5 ix).length : Int) == 0) = true := beq_iff_eq.mpr q3
   clear q3
   go_enter Try.func23, Try.ntmps23
   go_wp2
   go_ret
   exact ⟨fin_, bb_ HB.out⟩
  rw [if_neg q3] at h
  have q3b : (((rd_L4 s5 ix).length : Int) == 0) = false := beq_eq_false_iff_ne.mpr q3
  have q4 : (0 : Int) < ((rd_L4 s5 ix).length : Int) := by omega
  clear q3
  obtain ⟨ah, eh, hh0, hh1, hh2, hh3, hh4⟩ := headF HRL.out q4
  cases eh
  have q4b : decide ((0 : Int) < ((rd_L4 s5 ix).length : Int)) = true := decide_eq_true q4
  have q4n : (0 < (rd_L4 s5 ix).length) = True := eq_true (by omega)
  clear q4
  by_cases q5 : (rd_T72 (rd_L4 s5 ix) 0).f3 = true
  ·rw [if_pos q5] at h
   rw [q5] at hh3
   clear q5
   go_enter Try.func23, Try.ntmps23
   obtain ⟨AT, cT, T, hT0, HRT, HCT, hPA⟩ : ∃ (AT : Option Addr) (cT : Nat) (T : List Int), ((rd_T72 (rd_L4 s5 ix) 0).f2 = 1 ∧ AT = A4 ∧ cT = c4 ∧ T = s4 ∨ ¬ (rd_T72 (rd_L4 s5 ix) 0).f2 = 1 ∧ AT = A3 ∧ cT = c3 ∧ T = s3) ∧ Aside0 (Kd.C (Kd.int .i64) w AT T.length T) ∧ Aside0 (T.length ≤ cT) ∧ Aside0 (impl_PortAt.f k s0 s1 s2 T a1 (rd_T72 (rd_L4 s5 ix) 0).f1 = some r) := by
    by_cases q6 : (rd_T72 (rd_L4 s5 ix) 0).f2 = 1
    rotate_left
    ·rw [if_neg q6] at h
     exact ⟨A3, c3, s3, .inr ⟨q6, rfl, rfl, rfl⟩, HR3, HC3, ⟨h⟩⟩
    rw [if_pos q6] at h
    exact ⟨A4, c4, s4, .inl ⟨q6, rfl, rfl, rfl⟩, HR4, HC4, ⟨h⟩⟩
   have hT := am hT0
   clear hT0 h
   go_wp2_with fail
   go_region_held3 (fun w' => w'.cell? ⟨g, 0, none⟩ = some (.int .i64 s0) ∧ w'.cell? ⟨g, 1, none⟩ = some (.int .i64 s1) ∧ w'.cell? ⟨g, 2, none⟩ = some (.slice A2 s2.length c2) ∧ w'.cell? ⟨g, 3, none⟩ = some (.slice A3 s3.length c3) ∧ w'.cell? ⟨g, 4, none⟩ = some (.slice A4 s4.length c4) ∧ w'.cell? ⟨ah.block, ah.off + 1, none⟩ = some (.int .i64 (rd_T72 (rd_L4 s5 ix) 0).f1) ∧ w'.cell? ⟨ah.block, ah.off + 2, none⟩ = some (.int .i64 (rd_T72 (rd_L4 s5 ix) 0).f2))
    (first | exact ⟨z0, z1, z2, z3, z4, hh1, hh2⟩ | exact ⟨m0, m1, m2, m3, m4, m5, m6⟩ | exact ⟨n0, n1, n2, n3, n4, n5, n6⟩)
    (first
     | (go_at_call 44; refine (tableFor_r A3 c3 s3 A4 c4 s4 _ AT cT T _ hT.out).mono ?_; rintro e w1 ⟨rfl, hb⟩; have m0 := (hb.cell (World.block_lt_of_cell? w _ z0)).trans z0; have m1 := (hb.cell (World.block_lt_of_cell? w _ z1)).trans z1; have m2 := (hb.cell (World.block_lt_of_cell? w _ z2)).trans z2; have m3 := (hb.cell (World.block_lt_of_cell? w _ z3)).trans z3; have m4 := (hb.cell (World.block_lt_of_cell? w _ z4)).trans z4; have m5 := (hb.cell (World.block_lt_of_cell? w _ hh1)).trans hh1; have m6 := (hb.cell (World.block_lt_of_cell? w _ hh2)).trans hh2; replace HB := h9_ HB hb; (try clear hb))
     | (go_at_call 43; refine (impl_PortAt.calls k s0 s1 _ _ s2 _ _ T a1 _ r _ (cb_ HR2.out HB.out) HC2.out (cb_ HRT.out HB.out) HCT.out hPA.out).mono ?_; rintro e w2 ⟨rfl, hb⟩; have n0 := (hb.cell (World.block_lt_of_cell? w1 _ m0)).trans m0; have n1 := (hb.cell (World.block_lt_of_cell? w1 _ m1)).trans m1; have n2 := (hb.cell (World.block_lt_of_cell? w1 _ m2)).trans m2; have n3 := (hb.cell (World.block_lt_of_cell? w1 _ m3)).trans m3; have n4 := (hb.cell (World.block_lt_of_cell? w1 _ m4)).trans m4; have n5 := (hb.cell (World.block_lt_of_cell? w1 _ m5)).trans m5; have n6 := (hb.cell (World.block_lt_of_cell? w1 _ m6)).trans m6; replace HB := h9_ HB hb; (try clear hb)))
   go_wp2
   go_ret
   exact ⟨fin_, bb_ HB.out⟩
  rw [if_neg q5] at h
  have q5 := Bool.eq_false_iff.mpr q5
  rw [q5] at hh3
  clear q5
  go_enter Try.func23, Try.ntmps23
  have H' := am h
  clear h
  go_wp2_with fail
  go_loopg [8] k (fun kq v8 w' => ∃ x : Int, v8 = .int .i64 x ∧ Aside0 (impl_Net_wanted.l0 kq s6 a1 a2 x = some r) ∧ Aside0 (kq ≤ k) ∧ Drawn0 w w')
  case atStart => exact ⟨0, ef_, H', ⟨Nat.le_refl _⟩, Drawn0.refl _⟩
  clear H'
  obtain ⟨x, rfl, HA, HK1, ⟨m1, rfl⟩⟩ := hrel
  obtain _ | k1 := gk
  ·exact absurd HA.out (by simp [impl_Net_wanted.l0])
  have H := HA.out
  clear HA
  simp only [impl_Net_wanted.l0] at H
  by_cases q6 : x ≤ 4
  rotate_left
  ·rw [if_neg q6] at H
   have q6b : decide (x ≤ 4) = false := decide_eq_false q6
   clear q6
   obtain rfl := Option.some.inj H
   clear H
   go_wp2
   go_ret
   exact ⟨fin_, bb_ HB.out⟩
  rw [if_pos q6] at H
  have q6b : decide (x ≤ 4) = true := decide_eq_true q6
  clear q6
  obtain ⟨t, A10, H⟩ := Option.bind_eq_some_iff.1 H
  have A1 := am A10
  clear A10
  by_cases q7 : 0 ≤ t
  rotate_left
  ·rw [if_neg q7] at H
   exact absurd H (by simp)
  rw [if_pos q7] at H
  by_cases q8 : t < (s6.length : Int)
  rotate_left
  ·rw [if_neg q8] at H
   exact absurd H (by simp)
  rw [if_pos q8] at H
  obtain ⟨at_, ea, hx⟩ := Kd.at_int HR6.out t q7 q8
  cases ea
  have q7b : decide (0 ≤ t) = true := decide_eq_true q7
  have q8b : decide (t < (s6.length : Int)) = true := decide_eq_true q8
  replace q7 := eq_true q7
  replace q8 := eq_true q8
  by_cases q9 : rd s6 t = (wrap64 (Int.tdiv a2 2))
  ·rw [if_pos q9] at H
   have q9b : (rd s6 t == (wrap64 (Int.tdiv a2 2))) = true := beq_iff_eq.mpr q9
   clear q9
   obtain rfl := Option.some.inj H
   clear H
   go_wp2_with fail
   go_quiet ((go_at_call 45; (with_reducible refine (impl_BufferAt.calls _ _ _ _ _ A1.out).mono ?_); rintro e w' ⟨rfl, ⟨nd, rfl⟩⟩; (first | exact ⟨rfl, _, World.drewN_drewN _ _ _⟩ | exact ⟨rfl, _, Eq.trans (World.drewN_drewN _ _ _) (congrArg (World.drewN _) (Nat.add_assoc _ _ _))⟩)))
   go_wp2
   go_ret
   exact ⟨fin_, bb_ HB.out⟩
  rw [if_neg q9] at H
  have q9b : (rd s6 t == (wrap64 (Int.tdiv a2 2))) = false := beq_eq_false_iff_ne.mpr q9
  clear q9
  have H' := am H
  clear H
  go_wp2_with fail
  go_quiet ((go_at_call 45; (with_reducible refine (impl_BufferAt.calls _ _ _ _ _ A1.out).mono ?_); rintro e w' ⟨rfl, ⟨nd, rfl⟩⟩; (first | exact ⟨rfl, _, World.drewN_drewN _ _ _⟩ | exact ⟨rfl, _, Eq.trans (World.drewN_drewN _ _ _) (congrArg (World.drewN _) (Nat.add_assoc _ _ _))⟩)))
  go_wp2
  go_roundg k1
  case measure => have := HK1.out; omega
  case rel => exact ⟨wrap64 (x + 1), ef_, H', ⟨by have := HK1.out; omega⟩, by repeat (first | exact Drawn0.refl _ | apply Drawn0.step)⟩
 ·rw [if_neg q1] at h
  exact absurd h (by simp)
def impl_live.f (k : Nat) (a0_0 : Int) (a0_1 : Int) (l0_2 : List Int) (a1 : Int) : Option (Bool) := (impl_leads.f a0_0 a0_1 a1).bind fun t496 => (if t496 = true then ((slices_Contains_int_int.f k l0_2 a1).bind fun t497 => (some (!t497))) else (some false))
theorem impl_live.e0 {P : Prop} (h : P := by
 go_enter Try.func72, Try.ntmps72
 go_wp2_with (first | ((with_reducible refine gate_dst (N := 2) rfl ?_); refine bx_ 2 #[.int .i64 a0_0, .int .i64 a0_1, .slice A0_2 l0_2.length c0_2] 28 ?_; intro gb495 hg w_0 hbox hb; have BK495 := am (hbox); have GW495 := gw_ hg HB; replace HB := h9_ HB hb; clear hb hbox hg; obtain ⟨hcz_0, hcz_1, hcz_2, hfz_0, hfz_1, hfz_2⟩ := cz3_ BK495.out) | ((with_reducible refine gate_callee (f := 54) rfl ?_); refine gm_ (some 8) Try.func54 #[.agg #[.int .i64 a0_0, .int .i64 a0_1], .int .i64 a1] rfl ?_; (with_reducible refine (impl_leads.calls a0_0 a0_1 a1 _ _ A3.out).mono ?_); rintro e w_0 ⟨rfl, hb⟩; refine ⟨_, rfl, ?_⟩; replace BK495 := kb_ BK495 hb; replace HB := h9_ HB hb; (try clear hb); obtain ⟨hcz_0, hcz_1, hcz_2, hfz_0, hfz_1, hfz_2⟩ := cz3_ BK495.out) | (go_at_call 55; (with_reducible refine (slices_Contains_int_int.calls k _ _ l0_2 a1 t497 _ ?side1 HC0_2.out A5.out).mono ?_); (case side1 => exact cb_ HR0_2.out HB.out); rintro e w' ⟨rfl, ⟨nd, rfl⟩⟩))
 go_ret
 exact ⟨fin_, bb_ HB.out⟩) : P := h
theorem impl_live.calls (k : Nat) (a0_0 : Int) (a0_1 : Int) (A0_2 : Option Addr) (c0_2 : Nat) (l0_2 : List Int) (a1 : Int) (r : Bool) (w : World) (hr0_2 : Kd.C (Kd.int .i64) w A0_2 l0_2.length l0_2) (hc0_2 : l0_2.length ≤ c0_2) (h : impl_live.f k a0_0 a0_1 l0_2 a1 = some r) :
  Calls Try.prog 72 #[.agg #[.int .i64 a0_0, .int .i64 a0_1, .slice A0_2 l0_2.length c0_2], .int .i64 a1] w fun e w' => e = .returned (.bool r) ∧ Below w.heap.size w w' := by
 have hu28 := Try.underlying28
 have hu25 := Try.underlying25
 have HR0_2 := am hr0_2
 have HC0_2 := am hc0_2
 clear hr0_2 hc0_2
 have HB := am (Below.refl w.heap.size w)
 have H : ((impl_leads.f a0_0 a0_1 a1).bind fun t496 => (if t496 = true then ((slices_Contains_int_int.f k l0_2 a1).bind fun t497 => (some (!t497))) else (some false))) = some r := h
 clear h
 obtain ⟨t496, A3, H⟩ := bi_ H
 by_cases c4 : t496 = true
 ·subst c4
  rw [if_pos rfl] at H
  obtain ⟨t497, A5, H⟩ := bi_ H
  obtain rfl := Option.some.inj H
  exact impl_live.e0
 ·replace c4 := Bool.eq_false_iff.mpr c4
  subst c4
  rw [if_neg (show ¬ (false = true) by decide)] at H
  obtain rfl := Option.some.inj H
  exact impl_live.e0
def impl_Opposite.f (a0 : Int) : Option (Int) := if a0 = 4 then (some 4) else ((impl_inside.f a0 0 3).bind fun t498 => (if t498 = true then (some (Int.tmod (wrap64 (a0 + 2)) 4)) else (some (-1))))
theorem impl_Opposite.e0 {P : Prop} (h : P := by
 go_enter Try.func74, Try.ntmps74
 go_wp2_with (first | ((with_reducible refine gate_callee (f := 22) rfl ?_); refine gm_ (some 8) Try.func22 #[.int .i64 a0, .int .i64 0, .int .i64 3] rfl ?_; (with_reducible refine (impl_inside.calls a0 0 3 _ _ A3.out).mono ?_); rintro e w' ⟨rfl, ⟨nd, rfl⟩⟩; refine ⟨_, rfl, ?_⟩))
 go_ret
 exact ⟨by first | rfl | (simp; done) | (simp [*]; done), by repeat (first | exact Drawn0.refl _ | apply Drawn0.step)⟩) : P := h
theorem impl_Opposite.calls (a0 : Int) (r : Int) (w : World) (h : impl_Opposite.f a0 = some r) :
  Calls Try.prog 74 #[.int .i64 a0] w fun e w' => e = .returned (.int .i64 r) ∧ Drawn0 w w' := by
 have H : (if a0 = 4 then (some 4) else ((impl_inside.f a0 0 3).bind fun t498 => (if t498 = true then (some (Int.tmod (wrap64 (a0 + 2)) 4)) else (some (-1))))) = some r := h
 clear h
 by_cases c2 : a0 = 4
 ·rw [if_pos c2] at H
  have c2b0 : (a0 == 4) = true := beq_iff_eq.mpr c2
  have c2b1 : (a0 != 4) = false := bne_eq_false_iff_eq.mpr c2
  clear c2
  obtain rfl := Option.some.inj H
  exact impl_Opposite.e0
 ·rw [if_neg c2] at H
  have c2b0 : (a0 == 4) = false := beq_eq_false_iff_ne.mpr c2
  have c2b1 : (a0 != 4) = true := bne_iff_ne.mpr c2
  obtain ⟨t498, A3, H⟩ := bi_ H
  by_cases c4 : t498 = true
  ·subst c4
   rw [if_pos rfl] at H
   obtain rfl := Option.some.inj H
   exact impl_Opposite.e0
  ·replace c4 := Bool.eq_false_iff.mpr c4
   subst c4
   rw [if_neg (show ¬ (false = true) by decide)] at H
   obtain rfl := Option.some.inj H
   exact impl_Opposite.e0
def impl_Net_behind.f (k : Nat) (s0 s1 : Int) (s2 : List Int) (a1 a2 a3 : Int) : Option Int := if a2 = 4 then (some (-1)) else ((impl_live.f k s0 s1 s2 (wrap64 ((wrap64 (4 * a1)) + a2))).bind fun b => (if b = true then ((impl_endOf.f s0 s1 s2 (wrap64 ((wrap64 (4 * a1)) + a2))).bind fun e => ((impl_Opposite.f a2).bind fun o => (impl_BufferAt.f e o a3))) else (some (-1))))
theorem impl_Net_behind.e0 {P : Prop} (h : P := by
 go_enter Try.func46, Try.ntmps46
 go_wp2_with (first | (go_at_call 72; (with_reducible refine (impl_live.calls k s0 s1 _ _ s2 _ _ _ ?side1 HC2.out A1.out).mono ?_); (case side1 => exact cb_ HR2.out HB.out); rintro e w_0 ⟨rfl, hb⟩; replace BK := kb_ BK hb; replace HB := h9_ HB hb; (try clear hb); obtain ⟨z0, z1, z2, z3, z4, z5, z6, z7, z8, z9, z10, f0, f1, f2, f3, f4, f5, f6, f7, f8, f9, f10⟩ := cz11_ BK.out) | (go_at_call 73; (with_reducible refine (impl_endOf.calls s0 s1 _ _ s2 _ _ _ ?side1 HC2.out A2_.out).mono ?_); (case side1 => exact cb_ HR2.out HB.out); rintro e w_0 ⟨rfl, hb⟩; replace BK := kb_ BK hb; replace HB := h9_ HB hb; (try clear hb); obtain ⟨z0, z1, z2, z3, z4, z5, z6, z7, z8, z9, z10, f0, f1, f2, f3, f4, f5, f6, f7, f8, f9, f10⟩ := cz11_ BK.out) | (go_at_call 74; (with_reducible refine (impl_Opposite.calls _ _ _ A3_.out).mono ?_); rintro e w' ⟨rfl, ⟨nd, rfl⟩⟩) | (go_at_call 45; (with_reducible refine (impl_BufferAt.calls _ _ _ _ _ A4_.out).mono ?_); rintro e w' ⟨rfl, ⟨nd, rfl⟩⟩))
 go_ret
 exact ⟨fin_, bb_ HB.out⟩) : P := h
set_option maxHeartbeats 4000000 in
theorem impl_Net_behind.calls (k g : Nat) (s0 : Int) (s1 : Int) (s2 : List Int) (s3 : List Int) (s4 : List Int) (s5 : List (List S72)) (s6 : List Int) (s7 : List Int) (s8 : List (List S72)) (s9 : List (List S72)) (s10 : Int) (a1 a2 a3 r : Int) (w : World) (hN : NetAt w g s0 s1 s2 s3 s4 s5 s6 s7 s8 s9 s10) (h : impl_Net_behind.f k s0 s1 s2 a1 a2 a3 = some r) :
  Calls Try.prog 46 #[.pointer (some ⟨g, 0, none⟩), .int .i64 a1, .int .i64 a2, .int .i64 a3] w fun e w' => e = .returned (.int .i64 r) ∧ Below w.heap.size w w' := by
 obtain ⟨A2, c2, A3, c3, A4, c4, A5, c5, A6, c6, A7, c7, A8, c8, A9, c9, hb, ⟨h2, k2⟩, ⟨h3, k3⟩, ⟨h4, k4⟩, ⟨h5, k5⟩, ⟨h6, k6⟩, ⟨h7, k7⟩, ⟨h8, k8⟩, ⟨h9, k9⟩⟩ := hN
 have BK := am hb
 have HR2 := am h2
 have HC2 := am k2
 clear hb h2 k2 h3 k3 h4 k4 h5 k5 h6 k6 h7 k7 h8 k8 h9 k9
 have HB := am (Below.refl w.heap.size w)
 obtain ⟨z0, z1, z2, z3, z4, z5, z6, z7, z8, z9, z10, f0, f1, f2, f3, f4, f5, f6, f7, f8, f9, f10⟩ := cz11_ BK.out
 unfold impl_Net_behind.f at h
 by_cases c1 : a2 = 4
 ·rw [if_pos c1] at h
  obtain rfl := Option.some.inj h
  have c1b : (a2 == 4) = true := beq_iff_eq.mpr c1
  clear c1 h
  exact impl_Net_behind.e0
 ·rw [if_neg c1] at h
  have c1b : (a2 == 4) = false := beq_eq_false_iff_ne.mpr c1
  clear c1
  obtain ⟨b, A10, h⟩ := Option.bind_eq_some_iff.1 h
  have A1 := am A10
  clear A10
  cases b with
  | false =>
   have h1 : some (-1 : Int) = some r := h
   obtain rfl := Option.some.inj h1
   clear h h1
   exact impl_Net_behind.e0
  | true =>
   have h1 : ((impl_endOf.f s0 s1 s2 (wrap64 ((wrap64 (4 * a1)) + a2))).bind fun e => ((impl_Opposite.f a2).bind fun o => (impl_BufferAt.f e o a3))) = some r := h
   clear h
   obtain ⟨e0, A20, h⟩ := Option.bind_eq_some_iff.1 h1
   obtain ⟨o0, A30, h⟩ := Option.bind_eq_some_iff.1 h
   have A2_ := am A20
   have A3_ := am A30
   have A4_ := am h
   clear A20 A30 h h1
   exact impl_Net_behind.e0
def impl_Net_hasRoom.f (k : Nat) (s0 s1 : Int) (s2 : List Int) (s5 : List (List S72)) (a1 a2 a3 : Int) : Option Bool := if a2 = 4 then (some true) else ((impl_Net_behind.f k s0 s1 s2 a1 a2 a3).bind fun at_ => (if 0 ≤ at_ then (if at_ < (s5.length : Int) then (some (decide (((rd_L4 s5 at_).length : Int) < 3))) else none) else (some false)))
theorem impl_Net_hasRoom.e0 {P : Prop} (h : P := by
 go_enter Try.func24, Try.ntmps24
 go_wp2_with (first | (go_at_call 46; (with_reducible refine (impl_Net_behind.calls k g s0 s1 s2 s3 s4 s5 s6 s7 s8 s9 s10 a1 a2 a3 _ _ ?side1 A1.out).mono ?_); (case side1 => exact hNA.out); rintro e w_0 ⟨rfl, hb⟩; replace BK := kb_ BK hb; replace HB := h9_ HB hb; (try clear hb); obtain ⟨z0, z1, z2, z3, z4, z5, z6, z7, z8, z9, z10, f0, f1, f2, f3, f4, f5, f6, f7, f8, f9, f10⟩ := cz11_ BK.out; have hxE := (HB.out.cell (World.block_lt_of_cell? w _ hxA.out)).trans hxA.out) | (go_at_call 46; (with_reducible refine (impl_Net_behind.calls k g s0 s1 s2 s3 s4 s5 s6 s7 s8 s9 s10 a1 a2 a3 _ _ ?side1 A1.out).mono ?_); (case side1 => exact hNA.out); rintro e w_0 ⟨rfl, hb⟩; replace BK := kb_ BK hb; replace HB := h9_ HB hb; (try clear hb); obtain ⟨z0, z1, z2, z3, z4, z5, z6, z7, z8, z9, z10, f0, f1, f2, f3, f4, f5, f6, f7, f8, f9, f10⟩ := cz11_ BK.out))
 go_ret
 exact ⟨fin_, bb_ HB.out⟩) : P := h
set_option maxHeartbeats 4000000 in
theorem impl_Net_hasRoom.calls (k g : Nat) (s0 : Int) (s1 : Int) (s2 : List Int) (s3 : List Int) (s4 : List Int) (s5 : List (List S72)) (s6 : List Int) (s7 : List Int) (s8 : List (List S72)) (s9 : List (List S72)) (s10 : Int) (a1 a2 a3 : Int) (r : Bool) (w : World) (hN : NetAt w g s0 s1 s2 s3 s4 s5 s6 s7 s8 s9 s10) (h : impl_Net_hasRoom.f k s0 s1 s2 s5 a1 a2 a3 = some r) :
  Calls Try.prog 24 #[.pointer (some ⟨g, 0, none⟩), .int .i64 a1, .int .i64 a2, .int .i64 a3] w fun e w' => e = .returned (.bool r) ∧ Below w.heap.size w w' := by
 have hNA := am hN
 obtain ⟨A2, c2, A3, c3, A4, c4, A5, c5, A6, c6, A7, c7, A8, c8, A9, c9, hb, ⟨h2, k2⟩, ⟨h3, k3⟩, ⟨h4, k4⟩, ⟨h5, k5⟩, ⟨h6, k6⟩, ⟨h7, k7⟩, ⟨h8, k8⟩, ⟨h9, k9⟩⟩ := hN
 have BK := am hb
 have HR5 := am h5
 have HC5 := am k5
 clear hb h2 k2 h3 k3 h4 k4 h5 k5 h6 k6 h7 k7 h8 k8 h9 k9
 have HB := am (Below.refl w.heap.size w)
 obtain ⟨z0, z1, z2, z3, z4, z5, z6, z7, z8, z9, z10, f0, f1, f2, f3, f4, f5, f6, f7, f8, f9, f10⟩ := cz11_ BK.out
 unfold impl_Net_hasRoom.f at h
 by_cases c1 : a2 = 4
 ·rw [if_pos c1] at h
  obtain rfl := Option.some.inj h
  have c1b : (a2 == 4) = true := beq_iff_eq.mpr c1
  clear c1 h
  exact impl_Net_hasRoom.e0
 ·rw [if_neg c1] at h
  have c1b : (a2 == 4) = false := beq_eq_false_iff_ne.mpr c1
  clear c1
  obtain ⟨at_, A10, h⟩ := Option.bind_eq_some_iff.1 h
  have A1 := am A10
  clear A10
  by_cases c2 : 0 ≤ at_
  ·rw [if_pos c2] at h
   by_cases c3 : at_ < (s5.length : Int)
   rotate_left
   ·rw [if_neg c3] at h
    exact absurd h (by simp)
   rw [if_pos c3] at h
   obtain rfl := Option.some.inj h
   clear h
   obtain ⟨ad, AE, cE, eE, hxE, hlE, hiE⟩ := at_L4 HR5.out at_ c2 c3
   cases eE
   have hxA := am hxE
   clear hxE hlE hiE
   have c2b : decide (0 ≤ at_) = true := decide_eq_true c2
   have c3b : decide (at_ < (s5.length : Int)) = true := decide_eq_true c3
   replace c2 := eq_true c2
   replace c3 := eq_true c3
   exact impl_Net_hasRoom.e0
  ·rw [if_neg c2] at h
   obtain rfl := Option.some.inj h
   clear h
   have c2b : decide (0 ≤ at_) = false := decide_eq_false c2
   clear c2
   exact impl_Net_hasRoom.e0
def impl_Net_isRequest.f (k : Nat) (s0 s1 : Int) (s2 s3 s4 : List Int) (s5 : List (List S72)) (s6 : List Int) (a1 a2 a3 : Int) : Option Bool := if a3 < 0 then (some false) else ((impl_Net_wanted.f k s0 s1 s2 s3 s4 s5 s6 a1 a2).bind fun p => (if p = a3 then ((impl_Net_hasRoom.f k s0 s1 s2 s5 a1 a3 (Int.tmod a2 2)).bind fun b => (if b = true then ((impl_BufferAt.f a1 a3 (Int.tmod a2 2)).bind fun t => (if 0 ≤ t then (if t < (s6.length : Int) then (if 0 ≤ (wrap64 ((wrap64 (10 * a1)) + a2)) then (if (wrap64 ((wrap64 (10 * a1)) + a2)) < (s5.length : Int) then (if 0 < ((rd_L4 s5 (wrap64 ((wrap64 (10 * a1)) + a2))).length : Int) then (if (rd_T72 (rd_L4 s5 (wrap64 ((wrap64 (10 * a1)) + a2))) 0).f3 = true then (some (decide (rd s6 t = -1))) else (some (decide (rd s6 t = (wrap64 (Int.tdiv a2 2)))))) else none) else none) else none) else none) else none)) else (some false))) else (some false)))
theorem impl_Net_isRequest.e0 {P : Prop} (h : P := by
 go_enter Try.func25, Try.ntmps25
 go_wp2_with (first | (go_at_call 23; (with_reducible refine (impl_Net_wanted.calls k g s0 s1 s2 s3 s4 s5 s6 s7 s8 s9 s10 a1 a2 _ _ ?side1 A1.out).mono ?_); (case side1 => exact hNA.out.below HB.out); rintro e w_0 ⟨rfl, hb⟩; replace BK := kb_ BK hb; replace HB := h9_ HB hb; (try clear hb); obtain ⟨z0, z1, z2, z3, z4, z5, z6, z7, z8, z9, z10, f0, f1, f2, f3, f4, f5, f6, f7, f8, f9, f10⟩ := cz11_ BK.out) | (go_at_call 24; (with_reducible refine (impl_Net_hasRoom.calls k g s0 s1 s2 s3 s4 s5 s6 s7 s8 s9 s10 a1 a3 (Int.tmod a2 2) _ _ ?side1 A2_.out).mono ?_); (case side1 => exact hNA.out.below HB.out); rintro e w_0 ⟨rfl, hb⟩; replace BK := kb_ BK hb; replace HB := h9_ HB hb; (try clear hb); obtain ⟨z0, z1, z2, z3, z4, z5, z6, z7, z8, z9, z10, f0, f1, f2, f3, f4, f5, f6, f7, f8, f9, f10⟩ := cz11_ BK.out))
 go_ret
 exact ⟨fin_, bb_ HB.out⟩) : P := h
theorem impl_Net_isRequest.e1 {P : Prop} (h : P := by
 go_enter Try.func25, Try.ntmps25
 go_wp2_with (first | (go_at_call 23; (with_reducible refine (impl_Net_wanted.calls k g s0 s1 s2 s3 s4 s5 s6 s7 s8 s9 s10 a1 a2 _ _ ?side1 A1.out).mono ?_); (case side1 => exact hNA.out.below HB.out); rintro e w_0 ⟨rfl, hb⟩; replace BK := kb_ BK hb; replace HB := h9_ HB hb; (try clear hb); obtain ⟨z0, z1, z2, z3, z4, z5, z6, z7, z8, z9, z10, f0, f1, f2, f3, f4, f5, f6, f7, f8, f9, f10⟩ := cz11_ BK.out) | (go_at_call 24; (with_reducible refine (impl_Net_hasRoom.calls k g s0 s1 s2 s3 s4 s5 s6 s7 s8 s9 s10 a1 a3 (Int.tmod a2 2) _ _ ?side1 A2_.out).mono ?_); (case side1 => exact hNA.out.below HB.out); rintro e w_0 ⟨rfl, hb⟩; replace BK := kb_ BK hb; replace HB := h9_ HB hb; (try clear hb); obtain ⟨z0, z1, z2, z3, z4, z5, z6, z7, z8, z9, z10, f0, f1, f2, f3, f4, f5, f6, f7, f8, f9, f10⟩ := cz11_ BK.out; have hx := (HB.out.cell (World.block_lt_of_cell? w _ X1.out)).trans X1.out; have hxE := (HB.out.cell (World.block_lt_of_cell? w _ X2.out)).trans X2.out; have hh3 := (HB.out.cell (World.block_lt_of_cell? w _ X3.out)).trans X3.out))
 go_quiet ((go_at_call 45; (with_reducible refine (impl_BufferAt.calls _ _ _ _ _ A3_.out).mono ?_); rintro e w' ⟨rfl, ⟨nd, rfl⟩⟩; (first | exact ⟨rfl, _, World.drewN_drewN _ _ _⟩ | exact ⟨rfl, _, Eq.trans (World.drewN_drewN _ _ _) (congrArg (World.drewN _) (Nat.add_assoc _ _ _))⟩)))
 go_wp2
 go_ret
 exact ⟨by first | rfl | simp | (congr; done) | skip, bb_ HB.out⟩) : P := h
set_option maxHeartbeats 4000000 in
theorem impl_Net_isRequest.calls (k g : Nat) (s0 : Int) (s1 : Int) (s2 : List Int) (s3 : List Int) (s4 : List Int) (s5 : List (List S72)) (s6 : List Int) (s7 : List Int) (s8 : List (List S72)) (s9 : List (List S72)) (s10 : Int) (a1 a2 a3 : Int) (r : Bool) (w : World) (hN : NetAt w g s0 s1 s2 s3 s4 s5 s6 s7 s8 s9 s10) (h : impl_Net_isRequest.f k s0 s1 s2 s3 s4 s5 s6 a1 a2 a3 = some r) :
  Calls Try.prog 25 #[.pointer (some ⟨g, 0, none⟩), .int .i64 a1, .int .i64 a2, .int .i64 a3] w fun e w' => e = .returned (.bool r) ∧ Below w.heap.size w w' := by
 have hNA := am hN
 obtain ⟨A2, c2, A3, c3, A4, c4, A5, c5, A6, c6, A7, c7, A8, c8, A9, c9, hb, ⟨h2, k2⟩, ⟨h3, k3⟩, ⟨h4, k4⟩, ⟨h5, k5⟩, ⟨h6, k6⟩, ⟨h7, k7⟩, ⟨h8, k8⟩, ⟨h9, k9⟩⟩ := hN
 have BK := am hb
 have HR5 := am h5
 have HC5 := am k5
 have HR6 := am h6
 have HC6 := am k6
 clear hb h2 k2 h3 k3 h4 k4 h5 k5 h6 k6 h7 k7 h8 k8 h9 k9
 have HB := am (Below.refl w.heap.size w)
 obtain ⟨z0, z1, z2, z3, z4, z5, z6, z7, z8, z9, z10, f0, f1, f2, f3, f4, f5, f6, f7, f8, f9, f10⟩ := cz11_ BK.out
 unfold impl_Net_isRequest.f at h
 by_cases q1 : a3 < 0
 ·rw [if_pos q1] at h
  obtain rfl := Option.some.inj h
  clear h
  have q1b : decide (a3 < 0) = true := decide_eq_true q1
  clear q1
  exact impl_Net_isRequest.e0
 ·rw [if_neg q1] at h
  have q1b : decide (a3 < 0) = false := decide_eq_false q1
  clear q1
  obtain ⟨p, A10, h⟩ := Option.bind_eq_some_iff.1 h
  have A1 := am A10
  clear A10
  by_cases q2 : p = a3
  ·rw [if_pos q2] at h
   have q2b : (p != a3) = false := bne_eq_false_iff_eq.mpr q2
   clear q2
   obtain ⟨b, A20, h⟩ := Option.bind_eq_some_iff.1 h
   have A2_ := am A20
   clear A20
   cases b with
   | false =>
    have h1 : some false = some r := h
    obtain rfl := Option.some.inj h1
    clear h h1
    exact impl_Net_isRequest.e0
   | true =>
    rw [if_pos rfl] at h
    obtain ⟨t, A30, h⟩ := Option.bind_eq_some_iff.1 h
    have A3_ := am A30
    clear A30
    obtain ⟨ix, hix⟩ : ∃ j_ : Int, (wrap64 ((wrap64 (10 * a1)) + a2)) = j_ := ⟨_, rfl⟩
    have hixw : (IntKind.i64.wrap ((wrap64 (10 * a1)) + a2)) = ix := (i64_w _).trans hix
    rw [hix] at h
    by_cases q3 : 0 ≤ t
    rotate_left
    ·rw [if_neg q3] at h
     exact absurd h (by simp)
    rw [if_pos q3] at h
    by_cases q4 : t < (s6.length : Int)
    rotate_left
    ·rw [if_neg q4] at h
     exact absurd h (by simp)
    rw [if_pos q4] at h
    by_cases q5 : 0 ≤ ix
    rotate_left
    ·rw [if_neg q5] at h
     exact absurd h (by simp)
    rw [if_pos q5] at h
    by_cases q6 : ix < (s5.length : Int)
    rotate_left
    ·rw [if_neg q6] at h
     exact absurd h (by simp)
    rw [if_pos q6] at h
    by_cases q7 : (0 : Int) < ((rd_L4 s5 ix).length : Int)
    rotate_left
    ·rw [if_neg q7] at h
     exact absurd h (by simp)
    rw [if_pos q7] at h
    obtain ⟨at_, ea, hx⟩ := Kd.at_int HR6.out t q3 q4
    cases ea
    obtain ⟨ad, AE, cE, eE, hxE, hlE, hiE⟩ := at_L4 HR5.out ix q5 q6
    cases eE
    obtain ⟨ah, eh, hh0, hh1, hh2, hh3, hh4⟩ := headF hiE q7
    cases eh
    have X1 := am hx
    have X2 := am hxE
    have X3 := am hh3
    clear hx hxE hlE hiE hh0 hh1 hh2 hh3 hh4
    have q3b : decide (0 ≤ t) = true := decide_eq_true q3
    have q4b : decide (t < (s6.length : Int)) = true := decide_eq_true q4
    have q5b : decide (0 ≤ ix) = true := decide_eq_true q5
    have q6b : decide (ix < (s5.length : Int)) = true := decide_eq_true q6
    have q7b : decide ((0 : Int) < ((rd_L4 s5 ix).length : Int)) = true := decide_eq_true q7
    have q7n : (0 < (rd_L4 s5 ix).length) = True := eq_true (by omega)
    replace q3 := eq_true q3
    replace q4 := eq_true q4
    replace q5 := eq_true q5
    replace q6 := eq_true q6
    clear q7
    by_cases q8 : (rd_T72 (rd_L4 s5 ix) 0).f3 = true
    ·rw [if_pos q8] at h
     rw [q8] at X3
     clear q8
     obtain rfl := Option.some.inj h
     clear h
     exact impl_Net_isRequest.e1
    rw [if_neg q8] at h
    have q8 := Bool.eq_false_iff.mpr q8
    rw [q8] at X3
    clear q8
    obtain rfl := Option.some.inj h
    clear h
    exact impl_Net_isRequest.e1
  ·rw [if_neg q2] at h
   have q2b : (p != a3) = true := bne_iff_ne.mpr q2
   clear q2
   obtain rfl := Option.some.inj h
   clear h
   exact impl_Net_isRequest.e0
def impl_Net_requests.l0 : Nat → Int → Int → List Int → List Int → List Int → List (List S72) → List Int → Int → Int → List Int → Int → Option (List Int)
 | 0, _, _, _, _, _, _, _, _, _, _, _ => none
 | k + 1, s0, s1, s2, s3, s4, s5, s6, a1, a2, acc, x => if x < 10 then ((impl_Net_isRequest.f k s0 s1 s2 s3 s4 s5 s6 a1 x a2).bind fun b => (if b = true then (if acc.length < 8796093022208 then (impl_Net_requests.l0 k s0 s1 s2 s3 s4 s5 s6 a1 a2 (acc ++ [x]) (wrap64 (x + 1))) else none) else (impl_Net_requests.l0 k s0 s1 s2 s3 s4 s5 s6 a1 a2 acc (wrap64 (x + 1))))) else (some acc)
def impl_Net_requests.f (k : Nat) (s0 s1 : Int) (s2 s3 s4 : List Int) (s5 : List (List S72)) (s6 : List Int) (a1 a2 : Int) : Option (List Int) := impl_Net_requests.l0 k s0 s1 s2 s3 s4 s5 s6 a1 a2 [] 0
set_option maxHeartbeats 4000000 in
theorem impl_Net_requests.calls (k g : Nat) (s0 : Int) (s1 : Int) (s2 : List Int) (s3 : List Int) (s4 : List Int) (s5 : List (List S72)) (s6 : List Int) (s7 : List Int) (s8 : List (List S72)) (s9 : List (List S72)) (s10 : Int) (a1 a2 : Int) (r : List Int) (w : World) (hN : NetAt w g s0 s1 s2 s3 s4 s5 s6 s7 s8 s9 s10) (h : impl_Net_requests.f k s0 s1 s2 s3 s4 s5 s6 a1 a2 = some r) :
  Calls Try.prog 19 #[.pointer (some ⟨g, 0, none⟩), .int .i64 a1, .int .i64 a2] w fun e w' => ∃ v0_ : Value, e = .returned v0_ ∧ Kd.R (Kd.int .i64) 3 w' w.heap.size (fun _ => True) v0_ r ∧ Below w.heap.size w w' := by
 have hNA := am hN
 clear hN
 have HB := am (Below.refl w.heap.size w)
 have H' := am h
 clear h
 go_enter Try.func19, Try.ntmps19
 go_wp2_with (first | ((with_reducible refine gate_dst (N := 9) rfl ?_); refine Kd.R_lit (Kd.int .i64) _ 3 ?hg (N := 9) ?hd (xs := ([] : List Int)) (inner := []) (ok := fun _ => True) (okp := fun _ => True) ?hr ?hp (fun _ hk => hk) trivial (Below.refl _ _) (Nat.le_refl _) (by simp) ?_; (case hd => rfl); (case hg => rfl); (case hr => first | (go_simp; done) | (go_simp; rfl)); (case hp => exact (Reps.none _ _)); intro v0 w1 ho hb hg_ hnew_; clear hg_ hnew_; have HO := am (Kd.R_lower ho (bz_ HB.out)); replace HB := h9_ HB hb; clear hb ho))
 go_loopg [7, 10] k (fun kq v7 v10 w' => ∃ (acc : List Int) (x : Int), v10 = .int .i64 x ∧ Aside0 (impl_Net_requests.l0 kq s0 s1 s2 s3 s4 s5 s6 a1 a2 acc x = some r) ∧ Aside0 (kq ≤ k) ∧ Aside0 (Kd.R (Kd.int .i64) 3 w' w.heap.size (fun _ => True) v7 acc) ∧ Aside0 (Below w.heap.size w w'))
 case atStart => exact ⟨[], 0, ef_, H', ⟨Nat.le_refl _⟩, ⟨ra_ HO.out⟩, ⟨bb_ HB.out⟩⟩
 clear H'
 (try clear HO)
 (try clear HB)
 obtain ⟨acc, x, rfl, HA, HK1, HO, HB⟩ := hrel
 obtain _ | k1 := gk
 ·exact absurd HA.out (by simp [impl_Net_requests.l0])
 have H := HA.out
 clear HA
 simp only [impl_Net_requests.l0] at H
 by_cases q1 : x < 10
 rotate_left
 ·rw [if_neg q1] at H
  have q1b : decide (x < 10) = false := decide_eq_false q1
  clear q1
  obtain rfl := Option.some.inj H
  clear H
  go_wp2
  go_ret
  exact ⟨_, fin_, ra_ HO.out, bb_ HB.out⟩
 rw [if_pos q1] at H
 have q1b : decide (x < 10) = true := decide_eq_true q1
 clear q1
 obtain ⟨b, A10, H⟩ := Option.bind_eq_some_iff.1 H
 have A1 := am A10
 clear A10
 cases b with
 | true =>
  rw [if_pos rfl] at H
  by_cases q2 : acc.length < 8796093022208
  rotate_left
  ·rw [if_neg q2] at H
   exact absurd H (by simp)
  rw [if_pos q2] at H
  have LM := am q2
  clear q2
  have H' := am H
  clear H
  go_wp2_with (first | (go_at_call 25; (with_reducible refine (impl_Net_isRequest.calls k1 g s0 s1 s2 s3 s4 s5 s6 s7 s8 s9 s10 _ _ _ _ _ ?side1 A1.out).mono ?_); (case side1 => exact hNA.out.below HB.out); rintro e w1 ⟨rfl, hb⟩; replace HO := am (Kd.R_below (ra_ HO.out) hb); replace HB := h9_ HB hb; (try clear hb)) | ((with_reducible refine gate_builtin (b := .append) (xs := #[.tmp 18, .tmp 20]) rfl ?_); at_builtin; refine Kd.R_append (Kd.int .i64) w.heap.size rfl (.tmp 18) (.tmp 20) 26 3 (.int .i64 0) 8 rfl Try.underlying26 info3 rfl (by decide) (by omega) _ acc x [.int .i64 x] (fun _ => True) (fun _ => False) rfl rfl ?aP (fun _ hk => hk.elim) ?aF ?aO (Below.refl _ _) ?aS ?aL ?_; (case aP => exact rfl); (case aF => exact (fun _ _ => trivial)); (case aO => exact (ra_ HO.out)); (case aS => exact bz_ HB.out); (case aL => have := LM.out; omega); intro v1 w2 ho hb hg hat; replace HO := am ho; replace HB := am (below_weaken HB.out (Nat.le_refl _) hb); clear ho hb hg hat))
  go_roundg k1
  case measure => have := HK1.out; omega
  case rel => exact ⟨acc ++ [x], wrap64 (x + 1), ef_, H', ⟨by have := HK1.out; omega⟩, ⟨ra_ HO.out⟩, ⟨bb_ HB.out⟩⟩
 | false =>
  rw [if_neg (by decide)] at H
  have H' := am H
  clear H
  go_wp2_with (first | (go_at_call 25; (with_reducible refine (impl_Net_isRequest.calls k1 g s0 s1 s2 s3 s4 s5 s6 s7 s8 s9 s10 _ _ _ _ _ ?side1 A1.out).mono ?_); (case side1 => exact hNA.out.below HB.out); rintro e w1 ⟨rfl, hb⟩; replace HO := am (Kd.R_below (ra_ HO.out) hb); replace HB := h9_ HB hb; (try clear hb)))
  go_roundg k1
  case measure => have := HK1.out; omega
  case rel => exact ⟨acc, wrap64 (x + 1), ef_, H', ⟨by have := HK1.out; omega⟩, ⟨ra_ HO.out⟩, ⟨bb_ HB.out⟩⟩
def impl_RequestsAt.f (k : Nat) (a0_0 : Int) (a0_1 : Int) (l0_2 : List Int) (l0_3 : List Int) (l0_4 : List Int) (l0_5 : List (List S72)) (l0_6 : List Int) (l0_7 : List Int) (l0_8 : List (List S72)) (l0_9 : List (List S72)) (a0_10 : Int) (a1 a2 : Int) : Option (List Int) := (impl_isPlace.f k a0_0 a0_1 l0_2 l0_3 l0_4 l0_5 l0_6 l0_7 l0_8 l0_9 a0_10 a1).bind fun b1 => (if b1 = true then (impl_Net_requests.f k a0_0 a0_1 l0_2 l0_3 l0_4 l0_5 l0_6 a1 a2) else (some []))
set_option maxHeartbeats 4000000 in
theorem impl_RequestsAt.calls (k : Nat) (a0_0 : Int) (a0_1 : Int) (A0_2 : Option Addr) (c0_2 : Nat) (l0_2 : List Int) (A0_3 : Option Addr) (c0_3 : Nat) (l0_3 : List Int) (A0_4 : Option Addr) (c0_4 : Nat) (l0_4 : List Int) (A0_5 : Option Addr) (c0_5 : Nat) (l0_5 : List (List S72)) (A0_6 : Option Addr) (c0_6 : Nat) (l0_6 : List Int) (A0_7 : Option Addr) (c0_7 : Nat) (l0_7 : List Int) (A0_8 : Option Addr) (c0_8 : Nat) (l0_8 : List (List S72)) (A0_9 : Option Addr) (c0_9 : Nat) (l0_9 : List (List S72)) (a0_10 : Int) (a1 a2 : Int) (r : List Int) (w : World) (hr0_2 : Kd.C (Kd.int .i64) w A0_2 l0_2.length l0_2) (hc0_2 : l0_2.length ≤ c0_2) (hr0_3 : Kd.C (Kd.int .i64) w A0_3 l0_3.length l0_3) (hc0_3 : l0_3.length ≤ c0_3) (hr0_4 : Kd.C (Kd.int .i64) w A0_4 l0_4.length l0_4) (hc0_4 : l0_4.length ≤ c0_4) (hr0_5 : Kd.C (Kd.slice 72 k72) w A0_5 l0_5.length l0_5) (hc0_5 : l0_5.length ≤ c0_5) (hr0_6 : Kd.C (Kd.int .i64) w A0_6 l0_6.length l0_6) (hc0_6 : l0_6.length ≤ c0_6) (hr0_7 : Kd.C (Kd.int .i64) w A0_7 l0_7.length l0_7) (hc0_7 : l0_7.length ≤ c0_7) (hr0_8 : Kd.C (Kd.slice 72 k72) w A0_8 l0_8.length l0_8) (hc0_8 : l0_8.length ≤ c0_8) (hr0_9 : Kd.C (Kd.slice 72 k72) w A0_9 l0_9.length l0_9) (hc0_9 : l0_9.length ≤ c0_9) (h : impl_RequestsAt.f k a0_0 a0_1 l0_2 l0_3 l0_4 l0_5 l0_6 l0_7 l0_8 l0_9 a0_10 a1 a2 = some r) :
  Calls Try.prog 8 #[.agg #[.int .i64 a0_0, .int .i64 a0_1, .slice A0_2 l0_2.length c0_2, .slice A0_3 l0_3.length c0_3, .slice A0_4 l0_4.length c0_4, .slice A0_5 l0_5.length c0_5, .slice A0_6 l0_6.length c0_6, .slice A0_7 l0_7.length c0_7, .slice A0_8 l0_8.length c0_8, .slice A0_9 l0_9.length c0_9, .int .i64 a0_10], .int .i64 a1, .int .i64 a2] w fun e w' => ∃ v0_ : Value, e = .returned v0_ ∧ Kd.R (Kd.int .i64) 3 w' w.heap.size (fun _ => True) v0_ r ∧ Below w.heap.size w w' := by
 obtain ⟨HR0_2, HC0_2, HR0_3, HC0_3, HR0_4, HC0_4, HR0_5, HC0_5, HR0_6, HC0_6, HR0_7, HC0_7, HR0_8, HC0_8, HR0_9, HC0_9⟩ := a16_ hr0_2 hc0_2 hr0_3 hc0_3 hr0_4 hc0_4 hr0_5 hc0_5 hr0_6 hc0_6 hr0_7 hc0_7 hr0_8 hc0_8 hr0_9 hc0_9; clear hr0_2 hc0_2 hr0_3 hc0_3 hr0_4 hc0_4 hr0_5 hc0_5 hr0_6 hc0_6 hr0_7 hc0_7 hr0_8 hc0_8 hr0_9 hc0_9
 have HB := am (Below.refl w.heap.size w)
 unfold impl_RequestsAt.f at h
 obtain ⟨b1, A10, h⟩ := Option.bind_eq_some_iff.1 h
 have A1 := am A10
 clear A10
 cases b1 with
 | false =>
  have h1 : some ([] : List Int) = some r := h
  obtain rfl := Option.some.inj h1
  clear h h1
  go_enter Try.func8, Try.ntmps8
  go_wp2_with (first | ((with_reducible refine gate_dst (N := 3) rfl ?_); refine bx_ 3 #[.int .i64 a0_0, .int .i64 a0_1, .slice A0_2 l0_2.length c0_2, .slice A0_3 l0_3.length c0_3, .slice A0_4 l0_4.length c0_4, .slice A0_5 l0_5.length c0_5, .slice A0_6 l0_6.length c0_6, .slice A0_7 l0_7.length c0_7, .slice A0_8 l0_8.length c0_8, .slice A0_9 l0_9.length c0_9, .int .i64 a0_10] 35 ?_; intro gb hg w1 hbox hb; have BK := am hbox; replace HB := h9_ HB hb; clear hb hbox hg; obtain ⟨z0, z1, z2, z3, z4, z5, z6, z7, z8, z9, z10, f0, f1, f2, f3, f4, f5, f6, f7, f8, f9, f10⟩ := cz11_ BK.out) | (go_at_call 18; (with_reducible refine (impl_isPlace.calls k a0_0 a0_1 _ _ l0_2 _ _ l0_3 _ _ l0_4 _ _ l0_5 _ _ l0_6 _ _ l0_7 _ _ l0_8 _ _ l0_9 a0_10 a1 _ _ ?side1 HC0_2.out ?side2 HC0_3.out ?side3 HC0_4.out ?side4 HC0_5.out ?side5 HC0_6.out ?side6 HC0_7.out ?side7 HC0_8.out ?side8 HC0_9.out A1.out).mono ?_); (case side1 => exact cb_ HR0_2.out HB.out); (case side2 => exact cb_ HR0_3.out HB.out); (case side3 => exact cb_ HR0_4.out HB.out); (case side4 => exact cb_ HR0_5.out HB.out); (case side5 => exact cb_ HR0_6.out HB.out); (case side6 => exact cb_ HR0_7.out HB.out); (case side7 => exact cb_ HR0_8.out HB.out); (case side8 => exact cb_ HR0_9.out HB.out); rintro e w1 ⟨rfl, hb⟩; replace BK := kb_ BK hb; replace HB := h9_ HB hb; (try clear hb); obtain ⟨z0, z1, z2, z3, z4, z5, z6, z7, z8, z9, z10, f0, f1, f2, f3, f4, f5, f6, f7, f8, f9, f10⟩ := cz11_ BK.out))
  go_ret
  exact ⟨_, fin_, Kd.R_nil _ _ _ _ _, bb_ HB.out⟩
 | true =>
  rw [if_pos rfl] at h
  have A2_ := am h
  clear h
  go_enter Try.func8, Try.ntmps8
  go_wp2_with (first | ((with_reducible refine gate_dst (N := 3) rfl ?_); refine bx_ 3 #[.int .i64 a0_0, .int .i64 a0_1, .slice A0_2 l0_2.length c0_2, .slice A0_3 l0_3.length c0_3, .slice A0_4 l0_4.length c0_4, .slice A0_5 l0_5.length c0_5, .slice A0_6 l0_6.length c0_6, .slice A0_7 l0_7.length c0_7, .slice A0_8 l0_8.length c0_8, .slice A0_9 l0_9.length c0_9, .int .i64 a0_10] 35 ?_; intro gb hg w1 hbox hb; have BK := am hbox; replace HB := h9_ HB hb; clear hb hbox hg; obtain ⟨z0, z1, z2, z3, z4, z5, z6, z7, z8, z9, z10, f0, f1, f2, f3, f4, f5, f6, f7, f8, f9, f10⟩ := cz11_ BK.out) | (go_at_call 18; (with_reducible refine (impl_isPlace.calls k a0_0 a0_1 _ _ l0_2 _ _ l0_3 _ _ l0_4 _ _ l0_5 _ _ l0_6 _ _ l0_7 _ _ l0_8 _ _ l0_9 a0_10 a1 _ _ ?side1 HC0_2.out ?side2 HC0_3.out ?side3 HC0_4.out ?side4 HC0_5.out ?side5 HC0_6.out ?side6 HC0_7.out ?side7 HC0_8.out ?side8 HC0_9.out A1.out).mono ?_); (case side1 => exact cb_ HR0_2.out HB.out); (case side2 => exact cb_ HR0_3.out HB.out); (case side3 => exact cb_ HR0_4.out HB.out); (case side4 => exact cb_ HR0_5.out HB.out); (case side5 => exact cb_ HR0_6.out HB.out); (case side6 => exact cb_ HR0_7.out HB.out); (case side7 => exact cb_ HR0_8.out HB.out); (case side8 => exact cb_ HR0_9.out HB.out); rintro e w1 ⟨rfl, hb⟩; replace BK := kb_ BK hb; replace HB := h9_ HB hb; (try clear hb); obtain ⟨z0, z1, z2, z3, z4, z5, z6, z7, z8, z9, z10, f0, f1, f2, f3, f4, f5, f6, f7, f8, f9, f10⟩ := cz11_ BK.out) | (go_at_call 19; (with_reducible refine (impl_Net_requests.calls k gb a0_0 a0_1 l0_2 l0_3 l0_4 l0_5 l0_6 l0_7 l0_8 l0_9 a0_10 a1 a2 _ _ ?side1 A2_.out).mono ?_); (case side1 => exact ⟨A0_2, c0_2, A0_3, c0_3, A0_4, c0_4, A0_5, c0_5, A0_6, c0_6, A0_7, c0_7, A0_8, c0_8, A0_9, c0_9, bq_ BK.out, ⟨cb_ HR0_2.out HB.out, HC0_2.out⟩, ⟨cb_ HR0_3.out HB.out, HC0_3.out⟩, ⟨cb_ HR0_4.out HB.out, HC0_4.out⟩, ⟨cb_ HR0_5.out HB.out, HC0_5.out⟩, ⟨cb_ HR0_6.out HB.out, HC0_6.out⟩, ⟨cb_ HR0_7.out HB.out, HC0_7.out⟩, ⟨cb_ HR0_8.out HB.out, HC0_8.out⟩, ⟨cb_ HR0_9.out HB.out, HC0_9.out⟩⟩); rintro e wc ⟨vc, rfl, ho, hb⟩; have HO := am (Kd.R_lower ho (bz_ HB.out)); replace HB := h9_ HB hb; clear ho hb))
  go_ret
  exact ⟨_, fin_, ra_ HO.out, bb_ HB.out⟩
end Go.Proofs.Yteiemoooelpdaaa.PFnRequests
-- thin
