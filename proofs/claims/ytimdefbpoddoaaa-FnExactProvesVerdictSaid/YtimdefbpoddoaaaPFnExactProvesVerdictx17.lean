/- Each function that the law comes to, as a plain function, with the proof that the call in the model gives what that function says (written by a program of this session out of the translation). No condition. -/
import Derived.Test.YtimdefbpoddoaaaPFnExactProvesVerdictx0
import Derived.Test.YtimdefbpoddoaaaPFnExactProvesVerdictx13
import Derived.Test.YtimdefbpoddoaaaPFnExactProvesVerdictx14
import Derived.Test.YtimdefbpoddoaaaPFnExactProvesVerdictx16
namespace Go.Proofs.Ytimdefbpoddoaaa.PFnExactProvesVerdict
open Go.RowKit Go.Proofs.YtimdefbpoddoaaaW.PrintWords Go.Proofs.YtimdefbpoddoaaaW.PrintLast Go.Proofs.YtimdefbpoddoaaaW.PrintMore
attribute [local go_sem] max2_int min2_int max_two min_two max_three min_three max_four min_four   -- for this text's walks alone
set_option linter.unusedVariables false
set_option linter.unusedSimpArgs false

/-! ### impl_ProvesVerdict: function 44 -/
def impl_ProvesVerdict.f (k : Nat) (a0_0 : Int) (a0_1 : Int) (l0_2 : List Int) (l1_0 : List Int) (a2_0 : Int) (l2_1 : List Int) (l2_2 : List Int) : Option (Bool) := (impl_TableOk.f k a0_0 a0_1 l0_2 l1_0).bind fun t395 => (if a2_0 = 1 then (if t395 = true then ((impl_DependsOf.f k a0_0 a0_1 l0_2 l1_0).bind fun t396 => ((impl_IsOrder.f k t396 l2_1).bind fun t399 => (if t399 = true then (some ((l2_2.length : Int) == 0)) else (some false)))) else (some false)) else (if a2_0 = 2 then (if t395 = true then ((impl_DependsOf.f k a0_0 a0_1 l0_2 l1_0).bind fun t400 => ((impl_IsCycle.f k t400 l2_2).bind fun t403 => (if t403 = true then (some ((l2_1.length : Int) == 0)) else (some false)))) else (some false)) else (if a2_0 = 0 then (if t395 = true then (some false) else (if (l2_1.length : Int) = 0 then (some ((l2_2.length : Int) == 0)) else (some false))) else (some false))))
theorem impl_ProvesVerdict.mono : ∀ a0 a1 a2 a3 a4 a5 a6 k, LeO (impl_ProvesVerdict.f k a0 a1 a2 a3 a4 a5 a6) (impl_ProvesVerdict.f (k + 1) a0 a1 a2 a3 a4 a5 a6) := by
 intro a0 a1 a2 a3 a4 a5 a6 k
 unfold impl_ProvesVerdict.f
 repeat' first
   | (with_reducible exact impl_DependsOf.mono _ _ _ _ _)
   | (with_reducible exact impl_IsCycle.mono _ _ _)
   | (with_reducible exact impl_IsOrder.mono _ _ _)
   | (with_reducible exact impl_TableOk.mono _ _ _ _ _)
   | (with_reducible exact LeO.refl _)
   | (with_reducible exact LeO.none _)
   | (with_reducible refine LeO.ite ?_ ?_)
   | (with_reducible refine LeO.bind ?_ (fun _ => ?_))
   | exact impl_DependsOf.mono _ _ _ _ _
   | exact impl_IsCycle.mono _ _ _
   | exact impl_IsOrder.mono _ _ _
   | exact impl_TableOk.mono _ _ _ _ _
   | exact LeO.none _
   | refine LeO.ite ?_ ?_
   | refine LeO.bind ?_ (fun _ => ?_)
def impl_ProvesVerdict.T4 : Bool × List (List Nat × List Nat) := (true, [([], []), ([0], [0]), ([1], [1]), ([1], [1]), ([2, 3, 1, 1], [1, 2, 3]), ([1], [1]), ([5, 1], [1, 5]), ([4, 6, 4, 1], [1, 4, 6]), ([1, 7], [1, 7]), ([8, 7], [8]), ([9], [9]), ([10, 9], [9, 10]), ([11, 9], [9, 11]), ([12, 9], [9, 12]), ([9, 13], [9, 13]), ([14, 9, 0, 1, 2, 3, 4, 5, 6, 7, 8, 9, 10, 11, 12, 13, 14], [14])])
def impl_ProvesVerdict.B4 : List Nat := [0, 1, 3, 3, 15, 3, 35, 127, 255, 511, 1023, 2047, 4095, 8191, 16383, 32767]
theorem impl_ProvesVerdict.tab4 : rtab .any (opsOf Try.f44 4) = impl_ProvesVerdict.T4 := by kernel_rfl
theorem impl_ProvesVerdict.bits4 : waitsOk impl_ProvesVerdict.T4.2 impl_ProvesVerdict.B4 = true := by kernel_rfl
def impl_ProvesVerdict.T6 : Bool × List (List Nat × List Nat) := (true, [([], []), ([0], [0]), ([1], [1]), ([1], [1]), ([2, 3, 1, 1], [1, 2, 3]), ([1], [1]), ([5, 1], [1, 5]), ([4, 6, 4, 1], [1, 4, 6]), ([1, 7], [1, 7]), ([8, 7], [8]), ([9], [9]), ([10, 9], [9, 10]), ([11, 9], [9, 11]), ([12, 9], [9, 12]), ([9, 13], [9, 13]), ([14, 9, 0, 1, 2, 3, 4, 5, 6, 7, 8, 9, 10, 11, 12, 13, 14], [14])])
def impl_ProvesVerdict.B6 : List Nat := [0, 1, 3, 3, 15, 3, 35, 127, 255, 511, 1023, 2047, 4095, 8191, 16383, 32767]
theorem impl_ProvesVerdict.tab6 : rtab .any (opsOf Try.f44 6) = impl_ProvesVerdict.T6 := by kernel_rfl
theorem impl_ProvesVerdict.bits6 : waitsOk impl_ProvesVerdict.T6.2 impl_ProvesVerdict.B6 = true := by kernel_rfl
theorem impl_ProvesVerdict.e0 {P : Prop} (h : P := by
 go_enter Try.func44, Try.ntmps44
 go_wp2_with (first | ((with_reducible refine gate_dst (N := 3) rfl ?_); (try (refine gate_guard (by rfl) ?_; dsimp only)); refine box_event ?hg (N := 3) ?hd (cs := #[.int .i64 a0_0, .int .i64 a0_1, .slice A0_2 l0_2.length c0_2]) (t := 44) ?hr ?_; (case hd => rfl); (case hg => rfl); (case hr => first | (go_simp; done) | (go_simp; rfl)); intro gb392 hg w_0 hbox hb; have BK392 := Aside0.mk (hbox); have GW392 := Aside0.mk ((by rw [hg]; exact (bz_ HB.out) : w.heap.size ≤ gb392)); have GE392 := Aside0.mk ((by rw [hg]; exact (bz_ HB.out) : w.heap.size ≤ gb392)); replace HB := Aside0.mk (bs_ HB.out hb); clear hb hbox hg) | ((with_reducible refine gate_dst (N := 4) rfl ?_); (try (refine gate_guard (by rfl) ?_; dsimp only)); refine box_event ?hg (N := 4) ?hd (cs := #[.slice A1_0 l1_0.length c1_0]) (t := 46) ?hr ?_; (case hd => rfl); (case hg => rfl); (case hr => first | (go_simp; done) | (go_simp; rfl)); intro gb393 hg w_0 hbox hb; have BK393 := Aside0.mk (hbox); have GW393 := Aside0.mk ((by rw [hg]; exact (bz_ HB.out) : w.heap.size ≤ gb393)); have GE393 := Aside0.mk ((by rw [hg]; exact (bz_ HB.out) : w.heap.size ≤ gb393)); replace HB := Aside0.mk (bs_ HB.out hb); have NB392_393 := Aside0.mk ((by rw [hg]; exact Nat.ne_of_lt (bl_ BK392.out) : gb392 ≠ gb393)); have NB393_392 := Aside0.mk ((by rw [hg]; exact Nat.ne_of_gt (bl_ BK392.out) : gb393 ≠ gb392)); replace BK392 := Aside0.mk (bk_ BK392.out hb); clear hb hbox hg) | ((with_reducible refine gate_dst (N := 5) rfl ?_); (try (refine gate_guard (by rfl) ?_; dsimp only)); refine box_event ?hg (N := 5) ?hd (cs := #[.int .i64 a2_0, .slice A2_1 l2_1.length c2_1, .slice A2_2 l2_2.length c2_2]) (t := 40) ?hr ?_; (case hd => rfl); (case hg => rfl); (case hr => first | (go_simp; done) | (go_simp; rfl)); intro gb394 hg w_0 hbox hb; have BK394 := Aside0.mk (hbox); have GW394 := Aside0.mk ((by rw [hg]; exact (bz_ HB.out) : w.heap.size ≤ gb394)); have GE394 := Aside0.mk ((by rw [hg]; exact (bz_ HB.out) : w.heap.size ≤ gb394)); replace HB := Aside0.mk (bs_ HB.out hb); have NB392_394 := Aside0.mk ((by rw [hg]; exact Nat.ne_of_lt (bl_ BK392.out) : gb392 ≠ gb394)); have NB394_392 := Aside0.mk ((by rw [hg]; exact Nat.ne_of_gt (bl_ BK392.out) : gb394 ≠ gb392)); replace BK392 := Aside0.mk (bk_ BK392.out hb); have NB393_394 := Aside0.mk ((by rw [hg]; exact Nat.ne_of_lt (bl_ BK393.out) : gb393 ≠ gb394)); have NB394_393 := Aside0.mk ((by rw [hg]; exact Nat.ne_of_gt (bl_ BK393.out) : gb394 ≠ gb393)); replace BK393 := Aside0.mk (bk_ BK393.out hb); clear hb hbox hg; have hnb_ := NB392_393.out; have hnc_ := NB393_392.out; have hnb_ := NB392_394.out; have hnc_ := NB394_392.out; obtain ⟨hcz_0, hcz_1, hcz_2, hfz_0, hfz_1, hfz_2⟩ := cz3_ BK392.out; have hnb_ := NB393_394.out; have hnc_ := NB394_393.out; obtain ⟨hcz__0, hfz__0⟩ := cz1_ BK393.out) | ((with_reducible refine gate_callee (f := 78) rfl ?_); refine gm_ (some 10) Try.func78 #[.agg #[.int .i64 a0_0, .int .i64 a0_1, .slice A0_2 l0_2.length c0_2], .agg #[.slice A1_0 l1_0.length c1_0]] rfl ?_; (with_reducible refine (impl_TableOk.calls k a0_0 a0_1 _ _ l0_2 _ _ l1_0 _ _ ?side1 HC0_2.out ?side3 HC1_0.out A4.out).mono ?_); (case side1 => exact cb_ HR0_2.out HB.out); (case side3 => exact cb_ HR1_0.out HB.out); rintro e w_0 ⟨rfl, hb⟩; refine ⟨_, rfl, ?_⟩; replace BK392 := Aside0.mk (bk_ BK392.out hb); replace BK393 := Aside0.mk (bk_ BK393.out hb); replace BK394 := Aside0.mk (bk_ BK394.out hb); replace HB := Aside0.mk (bs_ HB.out hb); (try clear hb); obtain ⟨hcz_0, hcz_1, hcz_2, hfz_0, hfz_1, hfz_2⟩ := cz3_ BK394.out) | ((with_reducible refine gate_callee (f := 78) rfl ?_); refine gm_ (some 10) Try.func78 #[.agg #[.int .i64 a0_0, .int .i64 a0_1, .slice A0_2 l0_2.length c0_2], .agg #[.slice A1_0 l1_0.length c1_0]] rfl ?_; (with_reducible refine (impl_TableOk.calls k a0_0 a0_1 _ _ l0_2 _ _ l1_0 t395 _ ?side1 HC0_2.out ?side3 HC1_0.out A4.out).mono ?_); (case side1 => exact cb_ HR0_2.out HB.out); (case side3 => exact cb_ HR1_0.out HB.out); rintro e w_0 ⟨rfl, hb⟩; refine ⟨_, rfl, ?_⟩; replace BK392 := Aside0.mk (bk_ BK392.out hb); replace BK393 := Aside0.mk (bk_ BK393.out hb); replace BK394 := Aside0.mk (bk_ BK394.out hb); replace HB := Aside0.mk (bs_ HB.out hb); (try clear hb); obtain ⟨hcz_0, hcz_1, hcz_2, hfz_0, hfz_1, hfz_2⟩ := cz3_ BK394.out))
 go_ret
 exact ⟨fin_, bb_ HB.out⟩) : P := h
set_option maxHeartbeats 8000000 in
set_option maxRecDepth 100000 in
theorem impl_ProvesVerdict.calls (k : Nat) (a0_0 : Int) (a0_1 : Int) (A0_2 : Option Addr) (c0_2 : Nat) (l0_2 : List Int) (A1_0 : Option Addr) (c1_0 : Nat) (l1_0 : List Int) (a2_0 : Int) (A2_1 : Option Addr) (c2_1 : Nat) (l2_1 : List Int) (A2_2 : Option Addr) (c2_2 : Nat) (l2_2 : List Int) (r : Bool) (w : World) (hr0_2 : Kd.C (Kd.int .i64) w A0_2 l0_2.length l0_2) (hc0_2 : l0_2.length ≤ c0_2) (hr1_0 : Kd.C (Kd.int .i64) w A1_0 l1_0.length l1_0) (hc1_0 : l1_0.length ≤ c1_0) (hr2_1 : Kd.C (Kd.int .i64) w A2_1 l2_1.length l2_1) (hc2_1 : l2_1.length ≤ c2_1) (hr2_2 : Kd.C (Kd.int .i64) w A2_2 l2_2.length l2_2) (hc2_2 : l2_2.length ≤ c2_2) (h : impl_ProvesVerdict.f k a0_0 a0_1 l0_2 l1_0 a2_0 l2_1 l2_2 = some r) :
  Calls Try.prog 44 #[.agg #[.int .i64 a0_0, .int .i64 a0_1, .slice A0_2 l0_2.length c0_2], .agg #[.slice A1_0 l1_0.length c1_0], .agg #[.int .i64 a2_0, .slice A2_1 l2_1.length c2_1, .slice A2_2 l2_2.length c2_2]] w fun e w' => e = .returned (.bool r) ∧ Below w.heap.size w w' := by
 have hu44 := Try.underlying44
 have hu46 := Try.underlying46
 have hu40 := Try.underlying40
 have HR0_2 := Aside0.mk hr0_2
 have HC0_2 := Aside0.mk hc0_2
 clear hr0_2 hc0_2
 have HR1_0 := Aside0.mk hr1_0
 have HC1_0 := Aside0.mk hc1_0
 clear hr1_0 hc1_0
 have HR2_1 := Aside0.mk hr2_1
 have HC2_1 := Aside0.mk hc2_1
 clear hr2_1 hc2_1
 have HR2_2 := Aside0.mk hr2_2
 have HC2_2 := Aside0.mk hc2_2
 clear hr2_2 hc2_2
 have HB := Aside0.mk (Below.refl w.heap.size w)
 have H : ((impl_TableOk.f k a0_0 a0_1 l0_2 l1_0).bind fun t395 => (if a2_0 = 1 then (if t395 = true then ((impl_DependsOf.f k a0_0 a0_1 l0_2 l1_0).bind fun t396 => ((impl_IsOrder.f k t396 l2_1).bind fun t399 => (if t399 = true then (some ((l2_2.length : Int) == 0)) else (some false)))) else (some false)) else (if a2_0 = 2 then (if t395 = true then ((impl_DependsOf.f k a0_0 a0_1 l0_2 l1_0).bind fun t400 => ((impl_IsCycle.f k t400 l2_2).bind fun t403 => (if t403 = true then (some ((l2_1.length : Int) == 0)) else (some false)))) else (some false)) else (if a2_0 = 0 then (if t395 = true then (some false) else (if (l2_1.length : Int) = 0 then (some ((l2_2.length : Int) == 0)) else (some false))) else (some false))))) = some r := h
 clear h
 replace H := Option.bind_eq_some_iff.mp H
 obtain ⟨t395, A40, H⟩ := H
 try dsimp only at H
 have A4 := Aside0.mk A40
 clear A40
 by_cases c5 : a2_0 = 1
 ·rw [if_pos c5] at H
  have c5b0 : (a2_0 == 1) = true := beq_iff_eq.mpr c5
  have c5b1 : (a2_0 != 1) = false := bne_eq_false_iff_eq.mpr c5
  clear c5
  by_cases c6 : t395 = true
  ·subst c6
   rw [if_pos rfl] at H
   replace H := Option.bind_eq_some_iff.mp H
   obtain ⟨t396, A70, H⟩ := H
   try dsimp only at H
   have A7 := Aside0.mk A70
   clear A70
   replace H := Option.bind_eq_some_iff.mp H
   obtain ⟨t399, A80, H⟩ := H
   try dsimp only at H
   have A8 := Aside0.mk A80
   clear A80
   by_cases c9 : t399 = true
   ·subst c9
    rw [if_pos rfl] at H
    obtain rfl := Option.some.inj H
    go_enter Try.func44, Try.ntmps44
    try go_wp2_with (first | ((with_reducible refine gate_dst (N := 3) rfl ?_); (try (refine gate_guard (by rfl) ?_; dsimp only)); refine box_event ?hg (N := 3) ?hd (cs := #[.int .i64 a0_0, .int .i64 a0_1, .slice A0_2 l0_2.length c0_2]) (t := 44) ?hr ?_; (case hd => rfl); (case hg => rfl); (case hr => first | (go_simp; done) | (go_simp; rfl)); intro gb392 hg w10 hbox hb; have BK392 := Aside0.mk (hbox); have GW392 := Aside0.mk ((by rw [hg]; exact (bz_ HB.out) : w.heap.size ≤ gb392)); have GE392 := Aside0.mk ((by rw [hg]; exact (bz_ HB.out) : w.heap.size ≤ gb392)); replace HB := Aside0.mk (bs_ HB.out hb); clear hb hbox hg) | ((with_reducible refine gate_dst (N := 4) rfl ?_); (try (refine gate_guard (by rfl) ?_; dsimp only)); refine box_event ?hg (N := 4) ?hd (cs := #[.slice A1_0 l1_0.length c1_0]) (t := 46) ?hr ?_; (case hd => rfl); (case hg => rfl); (case hr => first | (go_simp; done) | (go_simp; rfl)); intro gb393 hg w11 hbox hb; have BK393 := Aside0.mk (hbox); have GW393 := Aside0.mk ((by rw [hg]; exact (bz_ HB.out) : w.heap.size ≤ gb393)); have GE393 := Aside0.mk ((by rw [hg]; exact (bz_ HB.out) : w.heap.size ≤ gb393)); replace HB := Aside0.mk (bs_ HB.out hb); have NB392_393 := Aside0.mk ((by rw [hg]; exact Nat.ne_of_lt (bl_ BK392.out) : gb392 ≠ gb393)); have NB393_392 := Aside0.mk ((by rw [hg]; exact Nat.ne_of_gt (bl_ BK392.out) : gb393 ≠ gb392)); replace BK392 := Aside0.mk (bk_ BK392.out hb); clear hb hbox hg) | ((with_reducible refine gate_dst (N := 5) rfl ?_); (try (refine gate_guard (by rfl) ?_; dsimp only)); refine box_event ?hg (N := 5) ?hd (cs := #[.int .i64 a2_0, .slice A2_1 l2_1.length c2_1, .slice A2_2 l2_2.length c2_2]) (t := 40) ?hr ?_; (case hd => rfl); (case hg => rfl); (case hr => first | (go_simp; done) | (go_simp; rfl)); intro gb394 hg w12 hbox hb; have BK394 := Aside0.mk (hbox); have GW394 := Aside0.mk ((by rw [hg]; exact (bz_ HB.out) : w.heap.size ≤ gb394)); have GE394 := Aside0.mk ((by rw [hg]; exact (bz_ HB.out) : w.heap.size ≤ gb394)); replace HB := Aside0.mk (bs_ HB.out hb); have NB392_394 := Aside0.mk ((by rw [hg]; exact Nat.ne_of_lt (bl_ BK392.out) : gb392 ≠ gb394)); have NB394_392 := Aside0.mk ((by rw [hg]; exact Nat.ne_of_gt (bl_ BK392.out) : gb394 ≠ gb392)); replace BK392 := Aside0.mk (bk_ BK392.out hb); have NB393_394 := Aside0.mk ((by rw [hg]; exact Nat.ne_of_lt (bl_ BK393.out) : gb393 ≠ gb394)); have NB394_393 := Aside0.mk ((by rw [hg]; exact Nat.ne_of_gt (bl_ BK393.out) : gb394 ≠ gb393)); replace BK393 := Aside0.mk (bk_ BK393.out hb); clear hb hbox hg; have hnb13 := NB392_393.out; have hnc13 := NB393_392.out; have hnb14 := NB392_394.out; have hnc14 := NB394_392.out; obtain ⟨hcz15_0, hcz15_1, hcz15_2, hfz15_0, hfz15_1, hfz15_2⟩ := cz3_ BK392.out; have hnb16 := NB393_394.out; have hnc16 := NB394_393.out; obtain ⟨hcz17_0, hfz17_0⟩ := cz1_ BK393.out) | ((with_reducible refine gate_callee (f := 78) rfl ?_); refine gm_ (some 10) Try.func78 #[.agg #[.int .i64 a0_0, .int .i64 a0_1, .slice A0_2 l0_2.length c0_2], .agg #[.slice A1_0 l1_0.length c1_0]] rfl ?_; (with_reducible refine (impl_TableOk.calls k a0_0 a0_1 _ _ l0_2 _ _ l1_0 true _ ?side1 HC0_2.out ?side3 HC1_0.out A4.out).mono ?_); (case side1 => exact cb_ HR0_2.out HB.out); (case side3 => exact cb_ HR1_0.out HB.out); rintro e w18 ⟨rfl, hb⟩; refine ⟨_, rfl, ?_⟩; replace BK392 := Aside0.mk (bk_ BK392.out hb); replace BK393 := Aside0.mk (bk_ BK393.out hb); replace BK394 := Aside0.mk (bk_ BK394.out hb); replace HB := Aside0.mk (bs_ HB.out hb); (try clear hb); obtain ⟨hcz19_0, hcz19_1, hcz19_2, hfz19_0, hfz19_1, hfz19_2⟩ := cz3_ BK394.out))
    have n0_ := Aside0.mk (blk_drew BK392.out)
    have n1_ := Aside0.mk (blk_drew BK393.out)
    have n2_ := Aside0.mk (blk_drew BK394.out)
    have n3_ := Aside0.mk (below_drew1 HB.out)
    clear BK392
    clear BK393
    clear BK394
    clear HB
    have BK392 := n0_
    have BK393 := n1_
    have BK394 := n2_
    have HB := n3_
    clear n0_ n1_ n2_ n3_
    refine start_ (n := 16) (S := fun w' => w'.cell? ⟨gb392, 0, none⟩ = some (.int .i64 a0_0) ∧ w'.cell? ⟨gb392, 1, none⟩ = some (.int .i64 a0_1) ∧ w'.cell? ⟨gb392, 2, none⟩ = some (.slice A0_2 l0_2.length c0_2) ∧ w'.cell? ⟨gb393, 0, none⟩ = some (.slice A1_0 l1_0.length c1_0) ∧ w'.cell? ⟨gb394, 0, none⟩ = some (.int .i64 a2_0) ∧ w'.cell? ⟨gb394, 1, none⟩ = some (.slice A2_1 l2_1.length c2_1) ∧ w'.cell? ⟨gb394, 2, none⟩ = some (.slice A2_2 l2_2.length c2_2)) (ds := []) #[false, false, false, false, false, false, false, false, false, false, false, false, false, false, false, false] (by kernel_rfl) rfl rfl ⟨(blk_cell BK392.out 0).trans rfl, (blk_cell BK392.out 1).trans rfl, (blk_cell BK392.out 2).trans rfl, (blk_cell BK393.out 0).trans rfl, (blk_cell BK394.out 0).trans rfl, (blk_cell BK394.out 1).trans rfl, (blk_cell BK394.out 2).trans rfl⟩ (fun hHeld => ?_); refine with_tabW impl_ProvesVerdict.tab4 impl_ProvesVerdict.bits4 (fun HT_ HW_ => ?_)
    generalize w18.drew = w20 at BK392 BK393 BK394 HB hHeld ⊢
    refine pu_ 0 15 (bt_ 16 1) HT_ ?_
    refine pu_ 1 16 (bt_ 16 3) HT_ ?_
    refine pu_ 5 20 (bt_ 16 35) HT_ ?_
    refine take_ (i := 2) (N := some 17) (v := ?_) (a' := ?_) (bt_ 16 39) rfl rfl (take_ofW HT_.out HW_.out (by kernel_rfl)) (fun _ _ _ h => h) (Or.inl ⟨by rfl, ?_⟩) hHeld ?_ ?_
    rotate_left
    ·rintro w' ⟨s0, s1, s2, s3, s4, s5, s6⟩
     go_simp
     with_reducible rfl
    rotate_left
    ·simp only [Act.put, List.setIfInBounds_toArray, List.set_cons_zero, List.set_cons_succ, i64_w, i32_w]
     rfl
    refine take_ (i := 3) (N := some 18) (v := ?_) (a' := ?_) (bt_ 16 47) rfl rfl (take_ofW HT_.out HW_.out (by kernel_rfl)) (fun _ _ _ h => h) (Or.inl ⟨by rfl, ?_⟩) hHeld ?_ ?_
    rotate_left
    ·rintro w' ⟨s0, s1, s2, s3, s4, s5, s6⟩
     go_simp
     with_reducible rfl
    rotate_left
    ·simp only [Act.put, List.setIfInBounds_toArray, List.set_cons_zero, List.set_cons_succ, i64_w, i32_w]
     rfl
    refine take_ (i := 6) (N := some 21) (v := ?_) (a' := ?_) (bt_ 16 111) rfl rfl (take_ofW HT_.out HW_.out (by kernel_rfl)) (fun _ _ _ h => h) (Or.inl ⟨by rfl, ?_⟩) hHeld ?_ ?_
    rotate_left
    ·rintro w' ⟨s0, s1, s2, s3, s4, s5, s6⟩
     go_simp
     with_reducible rfl
    rotate_left
    ·simp only [Act.put, List.setIfInBounds_toArray, List.set_cons_zero, List.set_cons_succ, i64_w, i32_w]
     rfl
    refine one_ (i := 4) (N := some 19) (bt_ 16 127) rfl rfl (one_of HT_.out (by kernel_rfl)) (by decide) (fun K hK => ?_)
    refine goes_ Try.func60 (by kernel_rfl) rfl #[.agg #[.int .i64 a0_0, .int .i64 a0_1, .slice A0_2 l0_2.length c0_2], .agg #[.slice A1_0 l1_0.length c1_0]] (by rfl) rfl rfl (by (try simp only [List.map_toArray, List.map_cons, List.map_nil]); first | done | rfl | (simp only [List.length_drop, List.length_take]; rfl)) ?_
    with_reducible refine (impl_DependsOf.calls k a0_0 a0_1 _ _ l0_2 _ _ l1_0 t396 _ ?side1 ?side2 ?side3 ?side4 A7.out).mono ?_
    (case side1 => exact cb_ HR0_2.out HB.out)
    (case side2 => exact HC0_2.out)
    (case side3 => exact cb_ HR1_0.out HB.out)
    (case side4 => exact HC1_0.out)
    rintro e w21 ⟨v397, rfl, ho0, hb⟩
    refine ⟨_, rfl, ?_⟩
    have n0_ := Aside0.mk (Kd.R_lower ho0 (bz_ HB.out))
    have n1_ := Aside0.mk (bk_ BK392.out hb)
    have n2_ := Aside0.mk (bk_ BK393.out hb)
    have n3_ := Aside0.mk (bk_ BK394.out hb)
    have n4_ := Aside0.mk (bs_ HB.out hb)
    clear BK392
    clear BK393
    clear BK394
    clear HB
    have HO398 := n0_
    have BK392 := n1_
    have BK393 := n2_
    have BK394 := n3_
    have HB := n4_
    clear n0_ n1_ n2_ n3_ n4_
    (try clear hb)
    (try clear hb2)
    (try clear hk)
    (try clear hi)
    (try clear ho0)
    obtain ⟨Ao22, co22, eo22⟩ := Kd.R_slice HO398.out
    (first | subst eo22 | (injection eo22 with f1_ f2_ f3_; have f4_ := f1_.symm; have f5_ := f3_.symm; clear f1_ f2_ f3_; subst f4_; subst f5_))
    refine hK.out _ _ ⟨(blk_cell BK392.out 0).trans rfl, (blk_cell BK392.out 1).trans rfl, (blk_cell BK392.out 2).trans rfl, (blk_cell BK393.out 0).trans rfl, (blk_cell BK394.out 0).trans rfl, (blk_cell BK394.out 1).trans rfl, (blk_cell BK394.out 2).trans rfl⟩ (fun hHeld => ?_)
    clear hK K
    refine norm_ (a' := ?_) ?_ ?_
    rotate_left
    ·show Act.put _ (some 19) _ = _
     simp only [Act.put, List.setIfInBounds_toArray, List.set_cons_zero, List.set_cons_succ, i64_w, i32_w]
     rfl
    refine one_ (i := 7) (N := some 22) (bt_ 16 255) rfl rfl (one_of HT_.out (by kernel_rfl)) (by decide) (fun K hK => ?_)
    refine goes_ Try.func85 (by kernel_rfl) rfl #[.slice Ao22 t396.length co22, .slice A2_1 l2_1.length c2_1] (by rfl) rfl rfl (by (try simp only [List.map_toArray, List.map_cons, List.map_nil]); first | done | rfl | (simp only [List.length_drop, List.length_take]; rfl)) ?_
    with_reducible refine (impl_IsOrder.calls k _ _ t396 _ _ l2_1 true _ ?side1 ?side2 ?side3 ?side4 A8.out).mono ?_
    (case side1 => repeat (first | exact (Kd.R_reads' HO398.out).2.2 | (with_reducible refine Kd.C_alloc ?_ _) | (with_reducible refine Kd.C_drewN ?_ _) | (with_reducible refine Kd.C_drew ?_)))
    (case side2 => exact (Kd.R_reads' HO398.out).2.1)
    (case side3 => exact cb_ HR2_1.out HB.out)
    (case side4 => exact HC2_1.out)
    rintro e w23 ⟨rfl, hb⟩
    refine ⟨_, rfl, ?_⟩
    have n0_ := Aside0.mk (Kd.R_below (ra_ HO398.out) hb)
    have n1_ := Aside0.mk (bk_ BK392.out hb)
    have n2_ := Aside0.mk (bk_ BK393.out hb)
    have n3_ := Aside0.mk (bk_ BK394.out hb)
    have n4_ := Aside0.mk (bs_ HB.out hb)
    clear HO398
    clear BK392
    clear BK393
    clear BK394
    clear HB
    have HO398 := n0_
    have BK392 := n1_
    have BK393 := n2_
    have BK394 := n3_
    have HB := n4_
    clear n0_ n1_ n2_ n3_ n4_
    (try clear hb)
    (try clear hb2)
    (try clear hk)
    (try clear hi)
    refine hK.out _ _ ⟨(blk_cell BK392.out 0).trans rfl, (blk_cell BK392.out 1).trans rfl, (blk_cell BK392.out 2).trans rfl, (blk_cell BK393.out 0).trans rfl, (blk_cell BK394.out 0).trans rfl, (blk_cell BK394.out 1).trans rfl, (blk_cell BK394.out 2).trans rfl⟩ (fun hHeld => ?_)
    clear hK K
    refine norm_ (a' := ?_) ?_ ?_
    rotate_left
    ·show Act.put _ (some 22) _ = _
     simp only [Act.put, List.setIfInBounds_toArray, List.set_cons_zero, List.set_cons_succ, i64_w, i32_w]
     rfl
    refine pu_ 8 23 (bt_ 16 511) HT_ ?_
    refine pu_ 9 24 (bt_ 16 1023) HT_ ?_
    refine pu_ 10 25 (bt_ 16 2047) HT_ ?_
    refine take_ (i := 11) (N := some 26) (v := ?_) (a' := ?_) (bt_ 16 4095) rfl rfl (take_ofW HT_.out HW_.out (by kernel_rfl)) (fun _ _ _ h => h) (Or.inl ⟨by rfl, ?_⟩) hHeld ?_ ?_
    rotate_left
    ·rintro w' ⟨s0, s1, s2, s3, s4, s5, s6⟩
     go_simp
     with_reducible rfl
    rotate_left
    ·simp only [Act.put, List.setIfInBounds_toArray, List.set_cons_zero, List.set_cons_succ, i64_w, i32_w]
     rfl
    refine pu_ 12 27 (bt_ 16 8191) HT_ ?_
    refine pu_ 13 28 (bt_ 16 16383) HT_ ?_
    refine pu_ 14 29 (bt_ 16 32767) HT_ ?_
    refine pu_ 15 6 (bt_ 16 65535) HT_ ?_
    refine done_ (done_of HT_.out (by kernel_rfl)) ?_
    try go_wp2
    go_ret
    exact ⟨fin_, bb_ HB.out⟩
   ·replace c9 := Bool.eq_false_iff.mpr c9
    subst c9
    rw [if_neg (show ¬ (false = true) by decide)] at H
    obtain rfl := Option.some.inj H
    go_enter Try.func44, Try.ntmps44
    try go_wp2_with (first | ((with_reducible refine gate_dst (N := 3) rfl ?_); (try (refine gate_guard (by rfl) ?_; dsimp only)); refine box_event ?hg (N := 3) ?hd (cs := #[.int .i64 a0_0, .int .i64 a0_1, .slice A0_2 l0_2.length c0_2]) (t := 44) ?hr ?_; (case hd => rfl); (case hg => rfl); (case hr => first | (go_simp; done) | (go_simp; rfl)); intro gb392 hg w24 hbox hb; have BK392 := Aside0.mk (hbox); have GW392 := Aside0.mk ((by rw [hg]; exact (bz_ HB.out) : w.heap.size ≤ gb392)); have GE392 := Aside0.mk ((by rw [hg]; exact (bz_ HB.out) : w.heap.size ≤ gb392)); replace HB := Aside0.mk (bs_ HB.out hb); clear hb hbox hg) | ((with_reducible refine gate_dst (N := 4) rfl ?_); (try (refine gate_guard (by rfl) ?_; dsimp only)); refine box_event ?hg (N := 4) ?hd (cs := #[.slice A1_0 l1_0.length c1_0]) (t := 46) ?hr ?_; (case hd => rfl); (case hg => rfl); (case hr => first | (go_simp; done) | (go_simp; rfl)); intro gb393 hg w25 hbox hb; have BK393 := Aside0.mk (hbox); have GW393 := Aside0.mk ((by rw [hg]; exact (bz_ HB.out) : w.heap.size ≤ gb393)); have GE393 := Aside0.mk ((by rw [hg]; exact (bz_ HB.out) : w.heap.size ≤ gb393)); replace HB := Aside0.mk (bs_ HB.out hb); have NB392_393 := Aside0.mk ((by rw [hg]; exact Nat.ne_of_lt (bl_ BK392.out) : gb392 ≠ gb393)); have NB393_392 := Aside0.mk ((by rw [hg]; exact Nat.ne_of_gt (bl_ BK392.out) : gb393 ≠ gb392)); replace BK392 := Aside0.mk (bk_ BK392.out hb); clear hb hbox hg) | ((with_reducible refine gate_dst (N := 5) rfl ?_); (try (refine gate_guard (by rfl) ?_; dsimp only)); refine box_event ?hg (N := 5) ?hd (cs := #[.int .i64 a2_0, .slice A2_1 l2_1.length c2_1, .slice A2_2 l2_2.length c2_2]) (t := 40) ?hr ?_; (case hd => rfl); (case hg => rfl); (case hr => first | (go_simp; done) | (go_simp; rfl)); intro gb394 hg w26 hbox hb; have BK394 := Aside0.mk (hbox); have GW394 := Aside0.mk ((by rw [hg]; exact (bz_ HB.out) : w.heap.size ≤ gb394)); have GE394 := Aside0.mk ((by rw [hg]; exact (bz_ HB.out) : w.heap.size ≤ gb394)); replace HB := Aside0.mk (bs_ HB.out hb); have NB392_394 := Aside0.mk ((by rw [hg]; exact Nat.ne_of_lt (bl_ BK392.out) : gb392 ≠ gb394)); have NB394_392 := Aside0.mk ((by rw [hg]; exact Nat.ne_of_gt (bl_ BK392.out) : gb394 ≠ gb392)); replace BK392 := Aside0.mk (bk_ BK392.out hb); have NB393_394 := Aside0.mk ((by rw [hg]; exact Nat.ne_of_lt (bl_ BK393.out) : gb393 ≠ gb394)); have NB394_393 := Aside0.mk ((by rw [hg]; exact Nat.ne_of_gt (bl_ BK393.out) : gb394 ≠ gb393)); replace BK393 := Aside0.mk (bk_ BK393.out hb); clear hb hbox hg; have hnb27 := NB392_393.out; have hnc27 := NB393_392.out; have hnb28 := NB392_394.out; have hnc28 := NB394_392.out; obtain ⟨hcz29_0, hcz29_1, hcz29_2, hfz29_0, hfz29_1, hfz29_2⟩ := cz3_ BK392.out; have hnb30 := NB393_394.out; have hnc30 := NB394_393.out; obtain ⟨hcz31_0, hfz31_0⟩ := cz1_ BK393.out) | ((with_reducible refine gate_callee (f := 78) rfl ?_); refine gm_ (some 10) Try.func78 #[.agg #[.int .i64 a0_0, .int .i64 a0_1, .slice A0_2 l0_2.length c0_2], .agg #[.slice A1_0 l1_0.length c1_0]] rfl ?_; (with_reducible refine (impl_TableOk.calls k a0_0 a0_1 _ _ l0_2 _ _ l1_0 true _ ?side1 HC0_2.out ?side3 HC1_0.out A4.out).mono ?_); (case side1 => exact cb_ HR0_2.out HB.out); (case side3 => exact cb_ HR1_0.out HB.out); rintro e w32 ⟨rfl, hb⟩; refine ⟨_, rfl, ?_⟩; replace BK392 := Aside0.mk (bk_ BK392.out hb); replace BK393 := Aside0.mk (bk_ BK393.out hb); replace BK394 := Aside0.mk (bk_ BK394.out hb); replace HB := Aside0.mk (bs_ HB.out hb); (try clear hb); obtain ⟨hcz33_0, hcz33_1, hcz33_2, hfz33_0, hfz33_1, hfz33_2⟩ := cz3_ BK394.out))
    have n0_ := Aside0.mk (blk_drew BK392.out)
    have n1_ := Aside0.mk (blk_drew BK393.out)
    have n2_ := Aside0.mk (blk_drew BK394.out)
    have n3_ := Aside0.mk (below_drew1 HB.out)
    clear BK392
    clear BK393
    clear BK394
    clear HB
    have BK392 := n0_
    have BK393 := n1_
    have BK394 := n2_
    have HB := n3_
    clear n0_ n1_ n2_ n3_
    refine start_ (n := 16) (S := fun w' => w'.cell? ⟨gb392, 0, none⟩ = some (.int .i64 a0_0) ∧ w'.cell? ⟨gb392, 1, none⟩ = some (.int .i64 a0_1) ∧ w'.cell? ⟨gb392, 2, none⟩ = some (.slice A0_2 l0_2.length c0_2) ∧ w'.cell? ⟨gb393, 0, none⟩ = some (.slice A1_0 l1_0.length c1_0) ∧ w'.cell? ⟨gb394, 0, none⟩ = some (.int .i64 a2_0) ∧ w'.cell? ⟨gb394, 1, none⟩ = some (.slice A2_1 l2_1.length c2_1) ∧ w'.cell? ⟨gb394, 2, none⟩ = some (.slice A2_2 l2_2.length c2_2)) (ds := []) #[false, false, false, false, false, false, false, false, false, false, false, false, false, false, false, false] (by kernel_rfl) rfl rfl ⟨(blk_cell BK392.out 0).trans rfl, (blk_cell BK392.out 1).trans rfl, (blk_cell BK392.out 2).trans rfl, (blk_cell BK393.out 0).trans rfl, (blk_cell BK394.out 0).trans rfl, (blk_cell BK394.out 1).trans rfl, (blk_cell BK394.out 2).trans rfl⟩ (fun hHeld => ?_); refine with_tabW impl_ProvesVerdict.tab4 impl_ProvesVerdict.bits4 (fun HT_ HW_ => ?_)
    generalize w32.drew = w34 at BK392 BK393 BK394 HB hHeld ⊢
    refine pu_ 0 15 (bt_ 16 1) HT_ ?_
    refine pu_ 1 16 (bt_ 16 3) HT_ ?_
    refine pu_ 5 20 (bt_ 16 35) HT_ ?_
    refine take_ (i := 2) (N := some 17) (v := ?_) (a' := ?_) (bt_ 16 39) rfl rfl (take_ofW HT_.out HW_.out (by kernel_rfl)) (fun _ _ _ h => h) (Or.inl ⟨by rfl, ?_⟩) hHeld ?_ ?_
    rotate_left
    ·rintro w' ⟨s0, s1, s2, s3, s4, s5, s6⟩
     go_simp
     with_reducible rfl
    rotate_left
    ·simp only [Act.put, List.setIfInBounds_toArray, List.set_cons_zero, List.set_cons_succ, i64_w, i32_w]
     rfl
    refine take_ (i := 3) (N := some 18) (v := ?_) (a' := ?_) (bt_ 16 47) rfl rfl (take_ofW HT_.out HW_.out (by kernel_rfl)) (fun _ _ _ h => h) (Or.inl ⟨by rfl, ?_⟩) hHeld ?_ ?_
    rotate_left
    ·rintro w' ⟨s0, s1, s2, s3, s4, s5, s6⟩
     go_simp
     with_reducible rfl
    rotate_left
    ·simp only [Act.put, List.setIfInBounds_toArray, List.set_cons_zero, List.set_cons_succ, i64_w, i32_w]
     rfl
    refine take_ (i := 6) (N := some 21) (v := ?_) (a' := ?_) (bt_ 16 111) rfl rfl (take_ofW HT_.out HW_.out (by kernel_rfl)) (fun _ _ _ h => h) (Or.inl ⟨by rfl, ?_⟩) hHeld ?_ ?_
    rotate_left
    ·rintro w' ⟨s0, s1, s2, s3, s4, s5, s6⟩
     go_simp
     with_reducible rfl
    rotate_left
    ·simp only [Act.put, List.setIfInBounds_toArray, List.set_cons_zero, List.set_cons_succ, i64_w, i32_w]
     rfl
    refine one_ (i := 4) (N := some 19) (bt_ 16 127) rfl rfl (one_of HT_.out (by kernel_rfl)) (by decide) (fun K hK => ?_)
    refine goes_ Try.func60 (by kernel_rfl) rfl #[.agg #[.int .i64 a0_0, .int .i64 a0_1, .slice A0_2 l0_2.length c0_2], .agg #[.slice A1_0 l1_0.length c1_0]] (by rfl) rfl rfl (by (try simp only [List.map_toArray, List.map_cons, List.map_nil]); first | done | rfl | (simp only [List.length_drop, List.length_take]; rfl)) ?_
    with_reducible refine (impl_DependsOf.calls k a0_0 a0_1 _ _ l0_2 _ _ l1_0 t396 _ ?side1 ?side2 ?side3 ?side4 A7.out).mono ?_
    (case side1 => exact cb_ HR0_2.out HB.out)
    (case side2 => exact HC0_2.out)
    (case side3 => exact cb_ HR1_0.out HB.out)
    (case side4 => exact HC1_0.out)
    rintro e w35 ⟨v397, rfl, ho0, hb⟩
    refine ⟨_, rfl, ?_⟩
    have n0_ := Aside0.mk (Kd.R_lower ho0 (bz_ HB.out))
    have n1_ := Aside0.mk (bk_ BK392.out hb)
    have n2_ := Aside0.mk (bk_ BK393.out hb)
    have n3_ := Aside0.mk (bk_ BK394.out hb)
    have n4_ := Aside0.mk (bs_ HB.out hb)
    clear BK392
    clear BK393
    clear BK394
    clear HB
    have HO398 := n0_
    have BK392 := n1_
    have BK393 := n2_
    have BK394 := n3_
    have HB := n4_
    clear n0_ n1_ n2_ n3_ n4_
    (try clear hb)
    (try clear hb2)
    (try clear hk)
    (try clear hi)
    (try clear ho0)
    obtain ⟨Ao36, co36, eo36⟩ := Kd.R_slice HO398.out
    (first | subst eo36 | (injection eo36 with f1_ f2_ f3_; have f4_ := f1_.symm; have f5_ := f3_.symm; clear f1_ f2_ f3_; subst f4_; subst f5_))
    refine hK.out _ _ ⟨(blk_cell BK392.out 0).trans rfl, (blk_cell BK392.out 1).trans rfl, (blk_cell BK392.out 2).trans rfl, (blk_cell BK393.out 0).trans rfl, (blk_cell BK394.out 0).trans rfl, (blk_cell BK394.out 1).trans rfl, (blk_cell BK394.out 2).trans rfl⟩ (fun hHeld => ?_)
    clear hK K
    refine norm_ (a' := ?_) ?_ ?_
    rotate_left
    ·show Act.put _ (some 19) _ = _
     simp only [Act.put, List.setIfInBounds_toArray, List.set_cons_zero, List.set_cons_succ, i64_w, i32_w]
     rfl
    refine one_ (i := 7) (N := some 22) (bt_ 16 255) rfl rfl (one_of HT_.out (by kernel_rfl)) (by decide) (fun K hK => ?_)
    refine goes_ Try.func85 (by kernel_rfl) rfl #[.slice Ao36 t396.length co36, .slice A2_1 l2_1.length c2_1] (by rfl) rfl rfl (by (try simp only [List.map_toArray, List.map_cons, List.map_nil]); first | done | rfl | (simp only [List.length_drop, List.length_take]; rfl)) ?_
    with_reducible refine (impl_IsOrder.calls k _ _ t396 _ _ l2_1 false _ ?side1 ?side2 ?side3 ?side4 A8.out).mono ?_
    (case side1 => repeat (first | exact (Kd.R_reads' HO398.out).2.2 | (with_reducible refine Kd.C_alloc ?_ _) | (with_reducible refine Kd.C_drewN ?_ _) | (with_reducible refine Kd.C_drew ?_)))
    (case side2 => exact (Kd.R_reads' HO398.out).2.1)
    (case side3 => exact cb_ HR2_1.out HB.out)
    (case side4 => exact HC2_1.out)
    rintro e w37 ⟨rfl, hb⟩
    refine ⟨_, rfl, ?_⟩
    have n0_ := Aside0.mk (Kd.R_below (ra_ HO398.out) hb)
    have n1_ := Aside0.mk (bk_ BK392.out hb)
    have n2_ := Aside0.mk (bk_ BK393.out hb)
    have n3_ := Aside0.mk (bk_ BK394.out hb)
    have n4_ := Aside0.mk (bs_ HB.out hb)
    clear HO398
    clear BK392
    clear BK393
    clear BK394
    clear HB
    have HO398 := n0_
    have BK392 := n1_
    have BK393 := n2_
    have BK394 := n3_
    have HB := n4_
    clear n0_ n1_ n2_ n3_ n4_
    (try clear hb)
    (try clear hb2)
    (try clear hk)
    (try clear hi)
    refine hK.out _ _ ⟨(blk_cell BK392.out 0).trans rfl, (blk_cell BK392.out 1).trans rfl, (blk_cell BK392.out 2).trans rfl, (blk_cell BK393.out 0).trans rfl, (blk_cell BK394.out 0).trans rfl, (blk_cell BK394.out 1).trans rfl, (blk_cell BK394.out 2).trans rfl⟩ (fun hHeld => ?_)
    clear hK K
    refine norm_ (a' := ?_) ?_ ?_
    rotate_left
    ·show Act.put _ (some 22) _ = _
     simp only [Act.put, List.setIfInBounds_toArray, List.set_cons_zero, List.set_cons_succ, i64_w, i32_w]
     rfl
    refine pu_ 8 23 (bt_ 16 511) HT_ ?_
    refine pu_ 9 24 (bt_ 16 1023) HT_ ?_
    refine un_ 10 25 (bt_ 16 2047) HT_ ?_
    refine un_ 11 26 (bt_ 16 4095) HT_ ?_
    refine un_ 12 27 (bt_ 16 8191) HT_ ?_
    refine un_ 13 28 (bt_ 16 16383) HT_ ?_
    refine pu_ 14 29 (bt_ 16 32767) HT_ ?_
    refine pu_ 15 6 (bt_ 16 65535) HT_ ?_
    refine done_ (done_of HT_.out (by kernel_rfl)) ?_
    try go_wp2
    go_ret
    exact ⟨fin_, bb_ HB.out⟩
  ·replace c6 := Bool.eq_false_iff.mpr c6
   subst c6
   rw [if_neg (show ¬ (false = true) by decide)] at H
   obtain rfl := Option.some.inj H
   go_enter Try.func44, Try.ntmps44
   try go_wp2_with (first | ((with_reducible refine gate_dst (N := 3) rfl ?_); (try (refine gate_guard (by rfl) ?_; dsimp only)); refine box_event ?hg (N := 3) ?hd (cs := #[.int .i64 a0_0, .int .i64 a0_1, .slice A0_2 l0_2.length c0_2]) (t := 44) ?hr ?_; (case hd => rfl); (case hg => rfl); (case hr => first | (go_simp; done) | (go_simp; rfl)); intro gb392 hg w38 hbox hb; have BK392 := Aside0.mk (hbox); have GW392 := Aside0.mk ((by rw [hg]; exact (bz_ HB.out) : w.heap.size ≤ gb392)); have GE392 := Aside0.mk ((by rw [hg]; exact (bz_ HB.out) : w.heap.size ≤ gb392)); replace HB := Aside0.mk (bs_ HB.out hb); clear hb hbox hg) | ((with_reducible refine gate_dst (N := 4) rfl ?_); (try (refine gate_guard (by rfl) ?_; dsimp only)); refine box_event ?hg (N := 4) ?hd (cs := #[.slice A1_0 l1_0.length c1_0]) (t := 46) ?hr ?_; (case hd => rfl); (case hg => rfl); (case hr => first | (go_simp; done) | (go_simp; rfl)); intro gb393 hg w39 hbox hb; have BK393 := Aside0.mk (hbox); have GW393 := Aside0.mk ((by rw [hg]; exact (bz_ HB.out) : w.heap.size ≤ gb393)); have GE393 := Aside0.mk ((by rw [hg]; exact (bz_ HB.out) : w.heap.size ≤ gb393)); replace HB := Aside0.mk (bs_ HB.out hb); have NB392_393 := Aside0.mk ((by rw [hg]; exact Nat.ne_of_lt (bl_ BK392.out) : gb392 ≠ gb393)); have NB393_392 := Aside0.mk ((by rw [hg]; exact Nat.ne_of_gt (bl_ BK392.out) : gb393 ≠ gb392)); replace BK392 := Aside0.mk (bk_ BK392.out hb); clear hb hbox hg) | ((with_reducible refine gate_dst (N := 5) rfl ?_); (try (refine gate_guard (by rfl) ?_; dsimp only)); refine box_event ?hg (N := 5) ?hd (cs := #[.int .i64 a2_0, .slice A2_1 l2_1.length c2_1, .slice A2_2 l2_2.length c2_2]) (t := 40) ?hr ?_; (case hd => rfl); (case hg => rfl); (case hr => first | (go_simp; done) | (go_simp; rfl)); intro gb394 hg w40 hbox hb; have BK394 := Aside0.mk (hbox); have GW394 := Aside0.mk ((by rw [hg]; exact (bz_ HB.out) : w.heap.size ≤ gb394)); have GE394 := Aside0.mk ((by rw [hg]; exact (bz_ HB.out) : w.heap.size ≤ gb394)); replace HB := Aside0.mk (bs_ HB.out hb); have NB392_394 := Aside0.mk ((by rw [hg]; exact Nat.ne_of_lt (bl_ BK392.out) : gb392 ≠ gb394)); have NB394_392 := Aside0.mk ((by rw [hg]; exact Nat.ne_of_gt (bl_ BK392.out) : gb394 ≠ gb392)); replace BK392 := Aside0.mk (bk_ BK392.out hb); have NB393_394 := Aside0.mk ((by rw [hg]; exact Nat.ne_of_lt (bl_ BK393.out) : gb393 ≠ gb394)); have NB394_393 := Aside0.mk ((by rw [hg]; exact Nat.ne_of_gt (bl_ BK393.out) : gb394 ≠ gb393)); replace BK393 := Aside0.mk (bk_ BK393.out hb); clear hb hbox hg; have hnb41 := NB392_393.out; have hnc41 := NB393_392.out; have hnb42 := NB392_394.out; have hnc42 := NB394_392.out; obtain ⟨hcz43_0, hcz43_1, hcz43_2, hfz43_0, hfz43_1, hfz43_2⟩ := cz3_ BK392.out; have hnb44 := NB393_394.out; have hnc44 := NB394_393.out; obtain ⟨hcz45_0, hfz45_0⟩ := cz1_ BK393.out) | ((with_reducible refine gate_callee (f := 78) rfl ?_); refine gm_ (some 10) Try.func78 #[.agg #[.int .i64 a0_0, .int .i64 a0_1, .slice A0_2 l0_2.length c0_2], .agg #[.slice A1_0 l1_0.length c1_0]] rfl ?_; (with_reducible refine (impl_TableOk.calls k a0_0 a0_1 _ _ l0_2 _ _ l1_0 false _ ?side1 HC0_2.out ?side3 HC1_0.out A4.out).mono ?_); (case side1 => exact cb_ HR0_2.out HB.out); (case side3 => exact cb_ HR1_0.out HB.out); rintro e w46 ⟨rfl, hb⟩; refine ⟨_, rfl, ?_⟩; replace BK392 := Aside0.mk (bk_ BK392.out hb); replace BK393 := Aside0.mk (bk_ BK393.out hb); replace BK394 := Aside0.mk (bk_ BK394.out hb); replace HB := Aside0.mk (bs_ HB.out hb); (try clear hb); obtain ⟨hcz47_0, hcz47_1, hcz47_2, hfz47_0, hfz47_1, hfz47_2⟩ := cz3_ BK394.out))
   have n0_ := Aside0.mk (blk_drew BK392.out)
   have n1_ := Aside0.mk (blk_drew BK393.out)
   have n2_ := Aside0.mk (blk_drew BK394.out)
   have n3_ := Aside0.mk (below_drew1 HB.out)
   clear BK392
   clear BK393
   clear BK394
   clear HB
   have BK392 := n0_
   have BK393 := n1_
   have BK394 := n2_
   have HB := n3_
   clear n0_ n1_ n2_ n3_
   refine start_ (n := 16) (S := fun w' => True) (ds := []) #[false, false, false, false, false, false, false, false, false, false, false, false, false, false, false, false] (by kernel_rfl) rfl rfl trivial (fun hHeld => ?_); refine with_tabW impl_ProvesVerdict.tab4 impl_ProvesVerdict.bits4 (fun HT_ HW_ => ?_)
   generalize w46.drew = w48 at BK392 BK393 BK394 HB hHeld ⊢
   refine pu_ 0 15 (bt_ 16 1) HT_ ?_
   refine pu_ 1 16 (bt_ 16 3) HT_ ?_
   refine un_ 2 17 (bt_ 16 7) HT_ ?_
   refine un_ 3 18 (bt_ 16 15) HT_ ?_
   refine un_ 4 19 (bt_ 16 31) HT_ ?_
   refine un_ 5 20 (bt_ 16 63) HT_ ?_
   refine un_ 6 21 (bt_ 16 127) HT_ ?_
   refine un_ 7 22 (bt_ 16 255) HT_ ?_
   refine pu_ 8 23 (bt_ 16 511) HT_ ?_
   refine pu_ 9 24 (bt_ 16 1023) HT_ ?_
   refine un_ 10 25 (bt_ 16 2047) HT_ ?_
   refine un_ 11 26 (bt_ 16 4095) HT_ ?_
   refine un_ 12 27 (bt_ 16 8191) HT_ ?_
   refine un_ 13 28 (bt_ 16 16383) HT_ ?_
   refine pu_ 14 29 (bt_ 16 32767) HT_ ?_
   refine pu_ 15 6 (bt_ 16 65535) HT_ ?_
   refine done_ (done_of HT_.out (by kernel_rfl)) ?_
   try go_wp2
   go_ret
   exact ⟨fin_, bb_ HB.out⟩
 ·rw [if_neg c5] at H
  have c5b0 : (a2_0 == 1) = false := beq_eq_false_iff_ne.mpr c5
  have c5b1 : (a2_0 != 1) = true := bne_iff_ne.mpr c5
  by_cases c49 : a2_0 = 2
  ·rw [if_pos c49] at H
   have c49b0 : (a2_0 == 2) = true := beq_iff_eq.mpr c49
   have c49b1 : (a2_0 != 2) = false := bne_eq_false_iff_eq.mpr c49
   clear c49
   by_cases c50 : t395 = true
   ·subst c50
    rw [if_pos rfl] at H
    replace H := Option.bind_eq_some_iff.mp H
    obtain ⟨t400, A510, H⟩ := H
    try dsimp only at H
    have A51 := Aside0.mk A510
    clear A510
    replace H := Option.bind_eq_some_iff.mp H
    obtain ⟨t403, A520, H⟩ := H
    try dsimp only at H
    have A52 := Aside0.mk A520
    clear A520
    by_cases c53 : t403 = true
    ·subst c53
     rw [if_pos rfl] at H
     obtain rfl := Option.some.inj H
     go_enter Try.func44, Try.ntmps44
     try go_wp2_with (first | ((with_reducible refine gate_dst (N := 3) rfl ?_); (try (refine gate_guard (by rfl) ?_; dsimp only)); refine box_event ?hg (N := 3) ?hd (cs := #[.int .i64 a0_0, .int .i64 a0_1, .slice A0_2 l0_2.length c0_2]) (t := 44) ?hr ?_; (case hd => rfl); (case hg => rfl); (case hr => first | (go_simp; done) | (go_simp; rfl)); intro gb392 hg w54 hbox hb; have BK392 := Aside0.mk (hbox); have GW392 := Aside0.mk ((by rw [hg]; exact (bz_ HB.out) : w.heap.size ≤ gb392)); have GE392 := Aside0.mk ((by rw [hg]; exact (bz_ HB.out) : w.heap.size ≤ gb392)); replace HB := Aside0.mk (bs_ HB.out hb); clear hb hbox hg) | ((with_reducible refine gate_dst (N := 4) rfl ?_); (try (refine gate_guard (by rfl) ?_; dsimp only)); refine box_event ?hg (N := 4) ?hd (cs := #[.slice A1_0 l1_0.length c1_0]) (t := 46) ?hr ?_; (case hd => rfl); (case hg => rfl); (case hr => first | (go_simp; done) | (go_simp; rfl)); intro gb393 hg w55 hbox hb; have BK393 := Aside0.mk (hbox); have GW393 := Aside0.mk ((by rw [hg]; exact (bz_ HB.out) : w.heap.size ≤ gb393)); have GE393 := Aside0.mk ((by rw [hg]; exact (bz_ HB.out) : w.heap.size ≤ gb393)); replace HB := Aside0.mk (bs_ HB.out hb); have NB392_393 := Aside0.mk ((by rw [hg]; exact Nat.ne_of_lt (bl_ BK392.out) : gb392 ≠ gb393)); have NB393_392 := Aside0.mk ((by rw [hg]; exact Nat.ne_of_gt (bl_ BK392.out) : gb393 ≠ gb392)); replace BK392 := Aside0.mk (bk_ BK392.out hb); clear hb hbox hg) | ((with_reducible refine gate_dst (N := 5) rfl ?_); (try (refine gate_guard (by rfl) ?_; dsimp only)); refine box_event ?hg (N := 5) ?hd (cs := #[.int .i64 a2_0, .slice A2_1 l2_1.length c2_1, .slice A2_2 l2_2.length c2_2]) (t := 40) ?hr ?_; (case hd => rfl); (case hg => rfl); (case hr => first | (go_simp; done) | (go_simp; rfl)); intro gb394 hg w56 hbox hb; have BK394 := Aside0.mk (hbox); have GW394 := Aside0.mk ((by rw [hg]; exact (bz_ HB.out) : w.heap.size ≤ gb394)); have GE394 := Aside0.mk ((by rw [hg]; exact (bz_ HB.out) : w.heap.size ≤ gb394)); replace HB := Aside0.mk (bs_ HB.out hb); have NB392_394 := Aside0.mk ((by rw [hg]; exact Nat.ne_of_lt (bl_ BK392.out) : gb392 ≠ gb394)); have NB394_392 := Aside0.mk ((by rw [hg]; exact Nat.ne_of_gt (bl_ BK392.out) : gb394 ≠ gb392)); replace BK392 := Aside0.mk (bk_ BK392.out hb); have NB393_394 := Aside0.mk ((by rw [hg]; exact Nat.ne_of_lt (bl_ BK393.out) : gb393 ≠ gb394)); have NB394_393 := Aside0.mk ((by rw [hg]; exact Nat.ne_of_gt (bl_ BK393.out) : gb394 ≠ gb393)); replace BK393 := Aside0.mk (bk_ BK393.out hb); clear hb hbox hg; have hnb57 := NB392_393.out; have hnc57 := NB393_392.out; have hnb58 := NB392_394.out; have hnc58 := NB394_392.out; obtain ⟨hcz59_0, hcz59_1, hcz59_2, hfz59_0, hfz59_1, hfz59_2⟩ := cz3_ BK392.out; have hnb60 := NB393_394.out; have hnc60 := NB394_393.out; obtain ⟨hcz61_0, hfz61_0⟩ := cz1_ BK393.out) | ((with_reducible refine gate_callee (f := 78) rfl ?_); refine gm_ (some 10) Try.func78 #[.agg #[.int .i64 a0_0, .int .i64 a0_1, .slice A0_2 l0_2.length c0_2], .agg #[.slice A1_0 l1_0.length c1_0]] rfl ?_; (with_reducible refine (impl_TableOk.calls k a0_0 a0_1 _ _ l0_2 _ _ l1_0 true _ ?side1 HC0_2.out ?side3 HC1_0.out A4.out).mono ?_); (case side1 => exact cb_ HR0_2.out HB.out); (case side3 => exact cb_ HR1_0.out HB.out); rintro e w62 ⟨rfl, hb⟩; refine ⟨_, rfl, ?_⟩; replace BK392 := Aside0.mk (bk_ BK392.out hb); replace BK393 := Aside0.mk (bk_ BK393.out hb); replace BK394 := Aside0.mk (bk_ BK394.out hb); replace HB := Aside0.mk (bs_ HB.out hb); (try clear hb); obtain ⟨hcz63_0, hcz63_1, hcz63_2, hfz63_0, hfz63_1, hfz63_2⟩ := cz3_ BK394.out))
     have n0_ := Aside0.mk (blk_drew BK392.out)
     have n1_ := Aside0.mk (blk_drew BK393.out)
     have n2_ := Aside0.mk (blk_drew BK394.out)
     have n3_ := Aside0.mk (below_drew1 HB.out)
     clear BK392
     clear BK393
     clear BK394
     clear HB
     have BK392 := n0_
     have BK393 := n1_
     have BK394 := n2_
     have HB := n3_
     clear n0_ n1_ n2_ n3_
     refine start_ (n := 16) (S := fun w' => w'.cell? ⟨gb392, 0, none⟩ = some (.int .i64 a0_0) ∧ w'.cell? ⟨gb392, 1, none⟩ = some (.int .i64 a0_1) ∧ w'.cell? ⟨gb392, 2, none⟩ = some (.slice A0_2 l0_2.length c0_2) ∧ w'.cell? ⟨gb393, 0, none⟩ = some (.slice A1_0 l1_0.length c1_0) ∧ w'.cell? ⟨gb394, 0, none⟩ = some (.int .i64 a2_0) ∧ w'.cell? ⟨gb394, 1, none⟩ = some (.slice A2_1 l2_1.length c2_1) ∧ w'.cell? ⟨gb394, 2, none⟩ = some (.slice A2_2 l2_2.length c2_2)) (ds := []) #[false, false, false, false, false, false, false, false, false, false, false, false, false, false, false, false] (by kernel_rfl) rfl rfl ⟨(blk_cell BK392.out 0).trans rfl, (blk_cell BK392.out 1).trans rfl, (blk_cell BK392.out 2).trans rfl, (blk_cell BK393.out 0).trans rfl, (blk_cell BK394.out 0).trans rfl, (blk_cell BK394.out 1).trans rfl, (blk_cell BK394.out 2).trans rfl⟩ (fun hHeld => ?_); refine with_tabW impl_ProvesVerdict.tab6 impl_ProvesVerdict.bits6 (fun HT_ HW_ => ?_)
     generalize w62.drew = w64 at BK392 BK393 BK394 HB hHeld ⊢
     refine pu_ 0 32 (bt_ 16 1) HT_ ?_
     refine pu_ 1 33 (bt_ 16 3) HT_ ?_
     refine pu_ 5 37 (bt_ 16 35) HT_ ?_
     refine take_ (i := 2) (N := some 34) (v := ?_) (a' := ?_) (bt_ 16 39) rfl rfl (take_ofW HT_.out HW_.out (by kernel_rfl)) (fun _ _ _ h => h) (Or.inl ⟨by rfl, ?_⟩) hHeld ?_ ?_
     rotate_left
     ·rintro w' ⟨s0, s1, s2, s3, s4, s5, s6⟩
      go_simp
      with_reducible rfl
     rotate_left
     ·simp only [Act.put, List.setIfInBounds_toArray, List.set_cons_zero, List.set_cons_succ, i64_w, i32_w]
      rfl
     refine take_ (i := 3) (N := some 35) (v := ?_) (a' := ?_) (bt_ 16 47) rfl rfl (take_ofW HT_.out HW_.out (by kernel_rfl)) (fun _ _ _ h => h) (Or.inl ⟨by rfl, ?_⟩) hHeld ?_ ?_
     rotate_left
     ·rintro w' ⟨s0, s1, s2, s3, s4, s5, s6⟩
      go_simp
      with_reducible rfl
     rotate_left
     ·simp only [Act.put, List.setIfInBounds_toArray, List.set_cons_zero, List.set_cons_succ, i64_w, i32_w]
      rfl
     refine take_ (i := 6) (N := some 38) (v := ?_) (a' := ?_) (bt_ 16 111) rfl rfl (take_ofW HT_.out HW_.out (by kernel_rfl)) (fun _ _ _ h => h) (Or.inl ⟨by rfl, ?_⟩) hHeld ?_ ?_
     rotate_left
     ·rintro w' ⟨s0, s1, s2, s3, s4, s5, s6⟩
      go_simp
      with_reducible rfl
     rotate_left
     ·simp only [Act.put, List.setIfInBounds_toArray, List.set_cons_zero, List.set_cons_succ, i64_w, i32_w]
      rfl
     refine one_ (i := 4) (N := some 36) (bt_ 16 127) rfl rfl (one_of HT_.out (by kernel_rfl)) (by decide) (fun K hK => ?_)
     refine goes_ Try.func60 (by kernel_rfl) rfl #[.agg #[.int .i64 a0_0, .int .i64 a0_1, .slice A0_2 l0_2.length c0_2], .agg #[.slice A1_0 l1_0.length c1_0]] (by rfl) rfl rfl (by (try simp only [List.map_toArray, List.map_cons, List.map_nil]); first | done | rfl | (simp only [List.length_drop, List.length_take]; rfl)) ?_
     with_reducible refine (impl_DependsOf.calls k a0_0 a0_1 _ _ l0_2 _ _ l1_0 t400 _ ?side1 ?side2 ?side3 ?side4 A51.out).mono ?_
     (case side1 => exact cb_ HR0_2.out HB.out)
     (case side2 => exact HC0_2.out)
     (case side3 => exact cb_ HR1_0.out HB.out)
     (case side4 => exact HC1_0.out)
     rintro e w65 ⟨v401, rfl, ho0, hb⟩
     refine ⟨_, rfl, ?_⟩
     have n0_ := Aside0.mk (Kd.R_lower ho0 (bz_ HB.out))
     have n1_ := Aside0.mk (bk_ BK392.out hb)
     have n2_ := Aside0.mk (bk_ BK393.out hb)
     have n3_ := Aside0.mk (bk_ BK394.out hb)
     have n4_ := Aside0.mk (bs_ HB.out hb)
     clear BK392
     clear BK393
     clear BK394
     clear HB
     have HO402 := n0_
     have BK392 := n1_
     have BK393 := n2_
     have BK394 := n3_
     have HB := n4_
     clear n0_ n1_ n2_ n3_ n4_
     (try clear hb)
     (try clear hb2)
     (try clear hk)
     (try clear hi)
     (try clear ho0)
     obtain ⟨Ao66, co66, eo66⟩ := Kd.R_slice HO402.out
     (first | subst eo66 | (injection eo66 with f1_ f2_ f3_; have f4_ := f1_.symm; have f5_ := f3_.symm; clear f1_ f2_ f3_; subst f4_; subst f5_))
     refine hK.out _ _ ⟨(blk_cell BK392.out 0).trans rfl, (blk_cell BK392.out 1).trans rfl, (blk_cell BK392.out 2).trans rfl, (blk_cell BK393.out 0).trans rfl, (blk_cell BK394.out 0).trans rfl, (blk_cell BK394.out 1).trans rfl, (blk_cell BK394.out 2).trans rfl⟩ (fun hHeld => ?_)
     clear hK K
     refine norm_ (a' := ?_) ?_ ?_
     rotate_left
     ·show Act.put _ (some 36) _ = _
      simp only [Act.put, List.setIfInBounds_toArray, List.set_cons_zero, List.set_cons_succ, i64_w, i32_w]
      rfl
     refine one_ (i := 7) (N := some 39) (bt_ 16 255) rfl rfl (one_of HT_.out (by kernel_rfl)) (by decide) (fun K hK => ?_)
     refine goes_ Try.func86 (by kernel_rfl) rfl #[.slice Ao66 t400.length co66, .slice A2_2 l2_2.length c2_2] (by rfl) rfl rfl (by (try simp only [List.map_toArray, List.map_cons, List.map_nil]); first | done | rfl | (simp only [List.length_drop, List.length_take]; rfl)) ?_
     with_reducible refine (impl_IsCycle.calls k _ _ t400 _ _ l2_2 true _ ?side1 ?side2 ?side3 ?side4 A52.out).mono ?_
     (case side1 => repeat (first | exact (Kd.R_reads' HO402.out).2.2 | (with_reducible refine Kd.C_alloc ?_ _) | (with_reducible refine Kd.C_drewN ?_ _) | (with_reducible refine Kd.C_drew ?_)))
     (case side2 => exact (Kd.R_reads' HO402.out).2.1)
     (case side3 => exact cb_ HR2_2.out HB.out)
     (case side4 => exact HC2_2.out)
     rintro e w67 ⟨rfl, hb⟩
     refine ⟨_, rfl, ?_⟩
     have n0_ := Aside0.mk (Kd.R_below (ra_ HO402.out) hb)
     have n1_ := Aside0.mk (bk_ BK392.out hb)
     have n2_ := Aside0.mk (bk_ BK393.out hb)
     have n3_ := Aside0.mk (bk_ BK394.out hb)
     have n4_ := Aside0.mk (bs_ HB.out hb)
     clear HO402
     clear BK392
     clear BK393
     clear BK394
     clear HB
     have HO402 := n0_
     have BK392 := n1_
     have BK393 := n2_
     have BK394 := n3_
     have HB := n4_
     clear n0_ n1_ n2_ n3_ n4_
     (try clear hb)
     (try clear hb2)
     (try clear hk)
     (try clear hi)
     refine hK.out _ _ ⟨(blk_cell BK392.out 0).trans rfl, (blk_cell BK392.out 1).trans rfl, (blk_cell BK392.out 2).trans rfl, (blk_cell BK393.out 0).trans rfl, (blk_cell BK394.out 0).trans rfl, (blk_cell BK394.out 1).trans rfl, (blk_cell BK394.out 2).trans rfl⟩ (fun hHeld => ?_)
     clear hK K
     refine norm_ (a' := ?_) ?_ ?_
     rotate_left
     ·show Act.put _ (some 39) _ = _
      simp only [Act.put, List.setIfInBounds_toArray, List.set_cons_zero, List.set_cons_succ, i64_w, i32_w]
      rfl
     refine pu_ 8 40 (bt_ 16 511) HT_ ?_
     refine pu_ 9 41 (bt_ 16 1023) HT_ ?_
     refine pu_ 10 42 (bt_ 16 2047) HT_ ?_
     refine take_ (i := 11) (N := some 43) (v := ?_) (a' := ?_) (bt_ 16 4095) rfl rfl (take_ofW HT_.out HW_.out (by kernel_rfl)) (fun _ _ _ h => h) (Or.inl ⟨by rfl, ?_⟩) hHeld ?_ ?_
     rotate_left
     ·rintro w' ⟨s0, s1, s2, s3, s4, s5, s6⟩
      go_simp
      with_reducible rfl
     rotate_left
     ·simp only [Act.put, List.setIfInBounds_toArray, List.set_cons_zero, List.set_cons_succ, i64_w, i32_w]
      rfl
     refine pu_ 12 44 (bt_ 16 8191) HT_ ?_
     refine pu_ 13 45 (bt_ 16 16383) HT_ ?_
     refine pu_ 14 46 (bt_ 16 32767) HT_ ?_
     refine pu_ 15 6 (bt_ 16 65535) HT_ ?_
     refine done_ (done_of HT_.out (by kernel_rfl)) ?_
     try go_wp2
     go_ret
     exact ⟨fin_, bb_ HB.out⟩
    ·replace c53 := Bool.eq_false_iff.mpr c53
     subst c53
     rw [if_neg (show ¬ (false = true) by decide)] at H
     obtain rfl := Option.some.inj H
     go_enter Try.func44, Try.ntmps44
     try go_wp2_with (first | ((with_reducible refine gate_dst (N := 3) rfl ?_); (try (refine gate_guard (by rfl) ?_; dsimp only)); refine box_event ?hg (N := 3) ?hd (cs := #[.int .i64 a0_0, .int .i64 a0_1, .slice A0_2 l0_2.length c0_2]) (t := 44) ?hr ?_; (case hd => rfl); (case hg => rfl); (case hr => first | (go_simp; done) | (go_simp; rfl)); intro gb392 hg w68 hbox hb; have BK392 := Aside0.mk (hbox); have GW392 := Aside0.mk ((by rw [hg]; exact (bz_ HB.out) : w.heap.size ≤ gb392)); have GE392 := Aside0.mk ((by rw [hg]; exact (bz_ HB.out) : w.heap.size ≤ gb392)); replace HB := Aside0.mk (bs_ HB.out hb); clear hb hbox hg) | ((with_reducible refine gate_dst (N := 4) rfl ?_); (try (refine gate_guard (by rfl) ?_; dsimp only)); refine box_event ?hg (N := 4) ?hd (cs := #[.slice A1_0 l1_0.length c1_0]) (t := 46) ?hr ?_; (case hd => rfl); (case hg => rfl); (case hr => first | (go_simp; done) | (go_simp; rfl)); intro gb393 hg w69 hbox hb; have BK393 := Aside0.mk (hbox); have GW393 := Aside0.mk ((by rw [hg]; exact (bz_ HB.out) : w.heap.size ≤ gb393)); have GE393 := Aside0.mk ((by rw [hg]; exact (bz_ HB.out) : w.heap.size ≤ gb393)); replace HB := Aside0.mk (bs_ HB.out hb); have NB392_393 := Aside0.mk ((by rw [hg]; exact Nat.ne_of_lt (bl_ BK392.out) : gb392 ≠ gb393)); have NB393_392 := Aside0.mk ((by rw [hg]; exact Nat.ne_of_gt (bl_ BK392.out) : gb393 ≠ gb392)); replace BK392 := Aside0.mk (bk_ BK392.out hb); clear hb hbox hg) | ((with_reducible refine gate_dst (N := 5) rfl ?_); (try (refine gate_guard (by rfl) ?_; dsimp only)); refine box_event ?hg (N := 5) ?hd (cs := #[.int .i64 a2_0, .slice A2_1 l2_1.length c2_1, .slice A2_2 l2_2.length c2_2]) (t := 40) ?hr ?_; (case hd => rfl); (case hg => rfl); (case hr => first | (go_simp; done) | (go_simp; rfl)); intro gb394 hg w70 hbox hb; have BK394 := Aside0.mk (hbox); have GW394 := Aside0.mk ((by rw [hg]; exact (bz_ HB.out) : w.heap.size ≤ gb394)); have GE394 := Aside0.mk ((by rw [hg]; exact (bz_ HB.out) : w.heap.size ≤ gb394)); replace HB := Aside0.mk (bs_ HB.out hb); have NB392_394 := Aside0.mk ((by rw [hg]; exact Nat.ne_of_lt (bl_ BK392.out) : gb392 ≠ gb394)); have NB394_392 := Aside0.mk ((by rw [hg]; exact Nat.ne_of_gt (bl_ BK392.out) : gb394 ≠ gb392)); replace BK392 := Aside0.mk (bk_ BK392.out hb); have NB393_394 := Aside0.mk ((by rw [hg]; exact Nat.ne_of_lt (bl_ BK393.out) : gb393 ≠ gb394)); have NB394_393 := Aside0.mk ((by rw [hg]; exact Nat.ne_of_gt (bl_ BK393.out) : gb394 ≠ gb393)); replace BK393 := Aside0.mk (bk_ BK393.out hb); clear hb hbox hg; have hnb71 := NB392_393.out; have hnc71 := NB393_392.out; have hnb72 := NB392_394.out; have hnc72 := NB394_392.out; obtain ⟨hcz73_0, hcz73_1, hcz73_2, hfz73_0, hfz73_1, hfz73_2⟩ := cz3_ BK392.out; have hnb74 := NB393_394.out; have hnc74 := NB394_393.out; obtain ⟨hcz75_0, hfz75_0⟩ := cz1_ BK393.out) | ((with_reducible refine gate_callee (f := 78) rfl ?_); refine gm_ (some 10) Try.func78 #[.agg #[.int .i64 a0_0, .int .i64 a0_1, .slice A0_2 l0_2.length c0_2], .agg #[.slice A1_0 l1_0.length c1_0]] rfl ?_; (with_reducible refine (impl_TableOk.calls k a0_0 a0_1 _ _ l0_2 _ _ l1_0 true _ ?side1 HC0_2.out ?side3 HC1_0.out A4.out).mono ?_); (case side1 => exact cb_ HR0_2.out HB.out); (case side3 => exact cb_ HR1_0.out HB.out); rintro e w76 ⟨rfl, hb⟩; refine ⟨_, rfl, ?_⟩; replace BK392 := Aside0.mk (bk_ BK392.out hb); replace BK393 := Aside0.mk (bk_ BK393.out hb); replace BK394 := Aside0.mk (bk_ BK394.out hb); replace HB := Aside0.mk (bs_ HB.out hb); (try clear hb); obtain ⟨hcz77_0, hcz77_1, hcz77_2, hfz77_0, hfz77_1, hfz77_2⟩ := cz3_ BK394.out))
     have n0_ := Aside0.mk (blk_drew BK392.out)
     have n1_ := Aside0.mk (blk_drew BK393.out)
     have n2_ := Aside0.mk (blk_drew BK394.out)
     have n3_ := Aside0.mk (below_drew1 HB.out)
     clear BK392
     clear BK393
     clear BK394
     clear HB
     have BK392 := n0_
     have BK393 := n1_
     have BK394 := n2_
     have HB := n3_
     clear n0_ n1_ n2_ n3_
     refine start_ (n := 16) (S := fun w' => w'.cell? ⟨gb392, 0, none⟩ = some (.int .i64 a0_0) ∧ w'.cell? ⟨gb392, 1, none⟩ = some (.int .i64 a0_1) ∧ w'.cell? ⟨gb392, 2, none⟩ = some (.slice A0_2 l0_2.length c0_2) ∧ w'.cell? ⟨gb393, 0, none⟩ = some (.slice A1_0 l1_0.length c1_0) ∧ w'.cell? ⟨gb394, 0, none⟩ = some (.int .i64 a2_0) ∧ w'.cell? ⟨gb394, 1, none⟩ = some (.slice A2_1 l2_1.length c2_1) ∧ w'.cell? ⟨gb394, 2, none⟩ = some (.slice A2_2 l2_2.length c2_2)) (ds := []) #[false, false, false, false, false, false, false, false, false, false, false, false, false, false, false, false] (by kernel_rfl) rfl rfl ⟨(blk_cell BK392.out 0).trans rfl, (blk_cell BK392.out 1).trans rfl, (blk_cell BK392.out 2).trans rfl, (blk_cell BK393.out 0).trans rfl, (blk_cell BK394.out 0).trans rfl, (blk_cell BK394.out 1).trans rfl, (blk_cell BK394.out 2).trans rfl⟩ (fun hHeld => ?_); refine with_tabW impl_ProvesVerdict.tab6 impl_ProvesVerdict.bits6 (fun HT_ HW_ => ?_)
     generalize w76.drew = w78 at BK392 BK393 BK394 HB hHeld ⊢
     refine pu_ 0 32 (bt_ 16 1) HT_ ?_
     refine pu_ 1 33 (bt_ 16 3) HT_ ?_
     refine pu_ 5 37 (bt_ 16 35) HT_ ?_
     refine take_ (i := 2) (N := some 34) (v := ?_) (a' := ?_) (bt_ 16 39) rfl rfl (take_ofW HT_.out HW_.out (by kernel_rfl)) (fun _ _ _ h => h) (Or.inl ⟨by rfl, ?_⟩) hHeld ?_ ?_
     rotate_left
     ·rintro w' ⟨s0, s1, s2, s3, s4, s5, s6⟩
      go_simp
      with_reducible rfl
     rotate_left
     ·simp only [Act.put, List.setIfInBounds_toArray, List.set_cons_zero, List.set_cons_succ, i64_w, i32_w]
      rfl
     refine take_ (i := 3) (N := some 35) (v := ?_) (a' := ?_) (bt_ 16 47) rfl rfl (take_ofW HT_.out HW_.out (by kernel_rfl)) (fun _ _ _ h => h) (Or.inl ⟨by rfl, ?_⟩) hHeld ?_ ?_
     rotate_left
     ·rintro w' ⟨s0, s1, s2, s3, s4, s5, s6⟩
      go_simp
      with_reducible rfl
     rotate_left
     ·simp only [Act.put, List.setIfInBounds_toArray, List.set_cons_zero, List.set_cons_succ, i64_w, i32_w]
      rfl
     refine take_ (i := 6) (N := some 38) (v := ?_) (a' := ?_) (bt_ 16 111) rfl rfl (take_ofW HT_.out HW_.out (by kernel_rfl)) (fun _ _ _ h => h) (Or.inl ⟨by rfl, ?_⟩) hHeld ?_ ?_
     rotate_left
     ·rintro w' ⟨s0, s1, s2, s3, s4, s5, s6⟩
      go_simp
      with_reducible rfl
     rotate_left
     ·simp only [Act.put, List.setIfInBounds_toArray, List.set_cons_zero, List.set_cons_succ, i64_w, i32_w]
      rfl
     refine one_ (i := 4) (N := some 36) (bt_ 16 127) rfl rfl (one_of HT_.out (by kernel_rfl)) (by decide) (fun K hK => ?_)
     refine goes_ Try.func60 (by kernel_rfl) rfl #[.agg #[.int .i64 a0_0, .int .i64 a0_1, .slice A0_2 l0_2.length c0_2], .agg #[.slice A1_0 l1_0.length c1_0]] (by rfl) rfl rfl (by (try simp only [List.map_toArray, List.map_cons, List.map_nil]); first | done | rfl | (simp only [List.length_drop, List.length_take]; rfl)) ?_
     with_reducible refine (impl_DependsOf.calls k a0_0 a0_1 _ _ l0_2 _ _ l1_0 t400 _ ?side1 ?side2 ?side3 ?side4 A51.out).mono ?_
     (case side1 => exact cb_ HR0_2.out HB.out)
     (case side2 => exact HC0_2.out)
     (case side3 => exact cb_ HR1_0.out HB.out)
     (case side4 => exact HC1_0.out)
     rintro e w79 ⟨v401, rfl, ho0, hb⟩
     refine ⟨_, rfl, ?_⟩
     have n0_ := Aside0.mk (Kd.R_lower ho0 (bz_ HB.out))
     have n1_ := Aside0.mk (bk_ BK392.out hb)
     have n2_ := Aside0.mk (bk_ BK393.out hb)
     have n3_ := Aside0.mk (bk_ BK394.out hb)
     have n4_ := Aside0.mk (bs_ HB.out hb)
     clear BK392
     clear BK393
     clear BK394
     clear HB
     have HO402 := n0_
     have BK392 := n1_
     have BK393 := n2_
     have BK394 := n3_
     have HB := n4_
     clear n0_ n1_ n2_ n3_ n4_
     (try clear hb)
     (try clear hb2)
     (try clear hk)
     (try clear hi)
     (try clear ho0)
     obtain ⟨Ao80, co80, eo80⟩ := Kd.R_slice HO402.out
     (first | subst eo80 | (injection eo80 with f1_ f2_ f3_; have f4_ := f1_.symm; have f5_ := f3_.symm; clear f1_ f2_ f3_; subst f4_; subst f5_))
     refine hK.out _ _ ⟨(blk_cell BK392.out 0).trans rfl, (blk_cell BK392.out 1).trans rfl, (blk_cell BK392.out 2).trans rfl, (blk_cell BK393.out 0).trans rfl, (blk_cell BK394.out 0).trans rfl, (blk_cell BK394.out 1).trans rfl, (blk_cell BK394.out 2).trans rfl⟩ (fun hHeld => ?_)
     clear hK K
     refine norm_ (a' := ?_) ?_ ?_
     rotate_left
     ·show Act.put _ (some 36) _ = _
      simp only [Act.put, List.setIfInBounds_toArray, List.set_cons_zero, List.set_cons_succ, i64_w, i32_w]
      rfl
     refine one_ (i := 7) (N := some 39) (bt_ 16 255) rfl rfl (one_of HT_.out (by kernel_rfl)) (by decide) (fun K hK => ?_)
     refine goes_ Try.func86 (by kernel_rfl) rfl #[.slice Ao80 t400.length co80, .slice A2_2 l2_2.length c2_2] (by rfl) rfl rfl (by (try simp only [List.map_toArray, List.map_cons, List.map_nil]); first | done | rfl | (simp only [List.length_drop, List.length_take]; rfl)) ?_
     with_reducible refine (impl_IsCycle.calls k _ _ t400 _ _ l2_2 false _ ?side1 ?side2 ?side3 ?side4 A52.out).mono ?_
     (case side1 => repeat (first | exact (Kd.R_reads' HO402.out).2.2 | (with_reducible refine Kd.C_alloc ?_ _) | (with_reducible refine Kd.C_drewN ?_ _) | (with_reducible refine Kd.C_drew ?_)))
     (case side2 => exact (Kd.R_reads' HO402.out).2.1)
     (case side3 => exact cb_ HR2_2.out HB.out)
     (case side4 => exact HC2_2.out)
     rintro e w81 ⟨rfl, hb⟩
     refine ⟨_, rfl, ?_⟩
     have n0_ := Aside0.mk (Kd.R_below (ra_ HO402.out) hb)
     have n1_ := Aside0.mk (bk_ BK392.out hb)
     have n2_ := Aside0.mk (bk_ BK393.out hb)
     have n3_ := Aside0.mk (bk_ BK394.out hb)
     have n4_ := Aside0.mk (bs_ HB.out hb)
     clear HO402
     clear BK392
     clear BK393
     clear BK394
     clear HB
     have HO402 := n0_
     have BK392 := n1_
     have BK393 := n2_
     have BK394 := n3_
     have HB := n4_
     clear n0_ n1_ n2_ n3_ n4_
     (try clear hb)
     (try clear hb2)
     (try clear hk)
     (try clear hi)
     refine hK.out _ _ ⟨(blk_cell BK392.out 0).trans rfl, (blk_cell BK392.out 1).trans rfl, (blk_cell BK392.out 2).trans rfl, (blk_cell BK393.out 0).trans rfl, (blk_cell BK394.out 0).trans rfl, (blk_cell BK394.out 1).trans rfl, (blk_cell BK394.out 2).trans rfl⟩ (fun hHeld => ?_)
     clear hK K
     refine norm_ (a' := ?_) ?_ ?_
     rotate_left
     ·show Act.put _ (some 39) _ = _
      simp only [Act.put, List.setIfInBounds_toArray, List.set_cons_zero, List.set_cons_succ, i64_w, i32_w]
      rfl
     refine pu_ 8 40 (bt_ 16 511) HT_ ?_
     refine pu_ 9 41 (bt_ 16 1023) HT_ ?_
     refine un_ 10 42 (bt_ 16 2047) HT_ ?_
     refine un_ 11 43 (bt_ 16 4095) HT_ ?_
     refine un_ 12 44 (bt_ 16 8191) HT_ ?_
     refine un_ 13 45 (bt_ 16 16383) HT_ ?_
     refine pu_ 14 46 (bt_ 16 32767) HT_ ?_
     refine pu_ 15 6 (bt_ 16 65535) HT_ ?_
     refine done_ (done_of HT_.out (by kernel_rfl)) ?_
     try go_wp2
     go_ret
     exact ⟨fin_, bb_ HB.out⟩
   ·replace c50 := Bool.eq_false_iff.mpr c50
    subst c50
    rw [if_neg (show ¬ (false = true) by decide)] at H
    obtain rfl := Option.some.inj H
    go_enter Try.func44, Try.ntmps44
    try go_wp2_with (first | ((with_reducible refine gate_dst (N := 3) rfl ?_); (try (refine gate_guard (by rfl) ?_; dsimp only)); refine box_event ?hg (N := 3) ?hd (cs := #[.int .i64 a0_0, .int .i64 a0_1, .slice A0_2 l0_2.length c0_2]) (t := 44) ?hr ?_; (case hd => rfl); (case hg => rfl); (case hr => first | (go_simp; done) | (go_simp; rfl)); intro gb392 hg w82 hbox hb; have BK392 := Aside0.mk (hbox); have GW392 := Aside0.mk ((by rw [hg]; exact (bz_ HB.out) : w.heap.size ≤ gb392)); have GE392 := Aside0.mk ((by rw [hg]; exact (bz_ HB.out) : w.heap.size ≤ gb392)); replace HB := Aside0.mk (bs_ HB.out hb); clear hb hbox hg) | ((with_reducible refine gate_dst (N := 4) rfl ?_); (try (refine gate_guard (by rfl) ?_; dsimp only)); refine box_event ?hg (N := 4) ?hd (cs := #[.slice A1_0 l1_0.length c1_0]) (t := 46) ?hr ?_; (case hd => rfl); (case hg => rfl); (case hr => first | (go_simp; done) | (go_simp; rfl)); intro gb393 hg w83 hbox hb; have BK393 := Aside0.mk (hbox); have GW393 := Aside0.mk ((by rw [hg]; exact (bz_ HB.out) : w.heap.size ≤ gb393)); have GE393 := Aside0.mk ((by rw [hg]; exact (bz_ HB.out) : w.heap.size ≤ gb393)); replace HB := Aside0.mk (bs_ HB.out hb); have NB392_393 := Aside0.mk ((by rw [hg]; exact Nat.ne_of_lt (bl_ BK392.out) : gb392 ≠ gb393)); have NB393_392 := Aside0.mk ((by rw [hg]; exact Nat.ne_of_gt (bl_ BK392.out) : gb393 ≠ gb392)); replace BK392 := Aside0.mk (bk_ BK392.out hb); clear hb hbox hg) | ((with_reducible refine gate_dst (N := 5) rfl ?_); (try (refine gate_guard (by rfl) ?_; dsimp only)); refine box_event ?hg (N := 5) ?hd (cs := #[.int .i64 a2_0, .slice A2_1 l2_1.length c2_1, .slice A2_2 l2_2.length c2_2]) (t := 40) ?hr ?_; (case hd => rfl); (case hg => rfl); (case hr => first | (go_simp; done) | (go_simp; rfl)); intro gb394 hg w84 hbox hb; have BK394 := Aside0.mk (hbox); have GW394 := Aside0.mk ((by rw [hg]; exact (bz_ HB.out) : w.heap.size ≤ gb394)); have GE394 := Aside0.mk ((by rw [hg]; exact (bz_ HB.out) : w.heap.size ≤ gb394)); replace HB := Aside0.mk (bs_ HB.out hb); have NB392_394 := Aside0.mk ((by rw [hg]; exact Nat.ne_of_lt (bl_ BK392.out) : gb392 ≠ gb394)); have NB394_392 := Aside0.mk ((by rw [hg]; exact Nat.ne_of_gt (bl_ BK392.out) : gb394 ≠ gb392)); replace BK392 := Aside0.mk (bk_ BK392.out hb); have NB393_394 := Aside0.mk ((by rw [hg]; exact Nat.ne_of_lt (bl_ BK393.out) : gb393 ≠ gb394)); have NB394_393 := Aside0.mk ((by rw [hg]; exact Nat.ne_of_gt (bl_ BK393.out) : gb394 ≠ gb393)); replace BK393 := Aside0.mk (bk_ BK393.out hb); clear hb hbox hg; have hnb85 := NB392_393.out; have hnc85 := NB393_392.out; have hnb86 := NB392_394.out; have hnc86 := NB394_392.out; obtain ⟨hcz87_0, hcz87_1, hcz87_2, hfz87_0, hfz87_1, hfz87_2⟩ := cz3_ BK392.out; have hnb88 := NB393_394.out; have hnc88 := NB394_393.out; obtain ⟨hcz89_0, hfz89_0⟩ := cz1_ BK393.out) | ((with_reducible refine gate_callee (f := 78) rfl ?_); refine gm_ (some 10) Try.func78 #[.agg #[.int .i64 a0_0, .int .i64 a0_1, .slice A0_2 l0_2.length c0_2], .agg #[.slice A1_0 l1_0.length c1_0]] rfl ?_; (with_reducible refine (impl_TableOk.calls k a0_0 a0_1 _ _ l0_2 _ _ l1_0 false _ ?side1 HC0_2.out ?side3 HC1_0.out A4.out).mono ?_); (case side1 => exact cb_ HR0_2.out HB.out); (case side3 => exact cb_ HR1_0.out HB.out); rintro e w90 ⟨rfl, hb⟩; refine ⟨_, rfl, ?_⟩; replace BK392 := Aside0.mk (bk_ BK392.out hb); replace BK393 := Aside0.mk (bk_ BK393.out hb); replace BK394 := Aside0.mk (bk_ BK394.out hb); replace HB := Aside0.mk (bs_ HB.out hb); (try clear hb); obtain ⟨hcz91_0, hcz91_1, hcz91_2, hfz91_0, hfz91_1, hfz91_2⟩ := cz3_ BK394.out))
    have n0_ := Aside0.mk (blk_drew BK392.out)
    have n1_ := Aside0.mk (blk_drew BK393.out)
    have n2_ := Aside0.mk (blk_drew BK394.out)
    have n3_ := Aside0.mk (below_drew1 HB.out)
    clear BK392
    clear BK393
    clear BK394
    clear HB
    have BK392 := n0_
    have BK393 := n1_
    have BK394 := n2_
    have HB := n3_
    clear n0_ n1_ n2_ n3_
    refine start_ (n := 16) (S := fun w' => True) (ds := []) #[false, false, false, false, false, false, false, false, false, false, false, false, false, false, false, false] (by kernel_rfl) rfl rfl trivial (fun hHeld => ?_); refine with_tabW impl_ProvesVerdict.tab6 impl_ProvesVerdict.bits6 (fun HT_ HW_ => ?_)
    generalize w90.drew = w92 at BK392 BK393 BK394 HB hHeld ⊢
    refine pu_ 0 32 (bt_ 16 1) HT_ ?_
    refine pu_ 1 33 (bt_ 16 3) HT_ ?_
    refine un_ 2 34 (bt_ 16 7) HT_ ?_
    refine un_ 3 35 (bt_ 16 15) HT_ ?_
    refine un_ 4 36 (bt_ 16 31) HT_ ?_
    refine un_ 5 37 (bt_ 16 63) HT_ ?_
    refine un_ 6 38 (bt_ 16 127) HT_ ?_
    refine un_ 7 39 (bt_ 16 255) HT_ ?_
    refine pu_ 8 40 (bt_ 16 511) HT_ ?_
    refine pu_ 9 41 (bt_ 16 1023) HT_ ?_
    refine un_ 10 42 (bt_ 16 2047) HT_ ?_
    refine un_ 11 43 (bt_ 16 4095) HT_ ?_
    refine un_ 12 44 (bt_ 16 8191) HT_ ?_
    refine un_ 13 45 (bt_ 16 16383) HT_ ?_
    refine pu_ 14 46 (bt_ 16 32767) HT_ ?_
    refine pu_ 15 6 (bt_ 16 65535) HT_ ?_
    refine done_ (done_of HT_.out (by kernel_rfl)) ?_
    try go_wp2
    go_ret
    exact ⟨fin_, bb_ HB.out⟩
  ·rw [if_neg c49] at H
   have c49b0 : (a2_0 == 2) = false := beq_eq_false_iff_ne.mpr c49
   have c49b1 : (a2_0 != 2) = true := bne_iff_ne.mpr c49
   by_cases c93 : a2_0 = 0
   ·rw [if_pos c93] at H
    have c93b0 : (a2_0 == 0) = true := beq_iff_eq.mpr c93
    have c93b1 : (a2_0 != 0) = false := bne_eq_false_iff_eq.mpr c93
    clear c93
    by_cases c94 : t395 = true
    ·subst c94
     rw [if_pos rfl] at H
     obtain rfl := Option.some.inj H
     exact impl_ProvesVerdict.e0
    ·replace c94 := Bool.eq_false_iff.mpr c94
     subst c94
     rw [if_neg (show ¬ (false = true) by decide)] at H
     by_cases c105 : (l2_1.length : Int) = 0
     ·rw [if_pos c105] at H
      have c105b0 : ((l2_1.length : Int) == 0) = true := beq_iff_eq.mpr c105
      have c105b1 : ((l2_1.length : Int) != 0) = false := bne_eq_false_iff_eq.mpr c105
      clear c105
      obtain rfl := Option.some.inj H
      exact impl_ProvesVerdict.e0
     ·rw [if_neg c105] at H
      have c105b0 : ((l2_1.length : Int) == 0) = false := beq_eq_false_iff_ne.mpr c105
      have c105b1 : ((l2_1.length : Int) != 0) = true := bne_iff_ne.mpr c105
      have c105b2 : ¬ (l2_1 = []) := fun h_ => c105 (by rw [h_]; rfl)
      obtain rfl := Option.some.inj H
      exact impl_ProvesVerdict.e0
   ·rw [if_neg c93] at H
    have c93b0 : (a2_0 == 0) = false := beq_eq_false_iff_ne.mpr c93
    have c93b1 : (a2_0 != 0) = true := bne_iff_ne.mpr c93
    obtain rfl := Option.some.inj H
    exact impl_ProvesVerdict.e0

end Go.Proofs.Ytimdefbpoddoaaa.PFnExactProvesVerdict
-- thin
