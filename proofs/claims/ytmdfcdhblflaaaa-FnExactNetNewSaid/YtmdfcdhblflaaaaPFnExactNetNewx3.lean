/- Each function that the law comes to, as a plain function, with the proof that the call in the model gives what that function says (written by a program of this session out of the translation). No condition. -/
import Derived.Test.YtmdfcdhblflaaaaPFnExactNetNewx0
import Derived.Test.YtmdfcdhblflaaaaPFnExactNetNewx1
import Derived.Test.YtmdfcdhblflaaaaPFnExactNetNewx2
namespace Go.Proofs.Ytmdfcdhblflaaaa.PFnExactNetNew
open Go.RowKit Go.Proofs.YtmdfcdhblflaaaaW.PrintWords Go.Proofs.YtmdfcdhblflaaaaW.PrintLast Go.Proofs.YtmdfcdhblflaaaaW.PrintMore
attribute [local go_sem] max2_int min2_int max_two min_two max_three min_three max_four min_four   -- for this text's walks alone
set_option linter.unusedVariables false
set_option linter.unusedSimpArgs false

/-! ### spec_l04Sized: function 51 -/
def spec_l04Sized.f (k : Nat) (a0_0 : Int) (a0_1 : Int) (l0_2 : List Int) (l1_0 : List Int) : Option (Bool) := (spec_NodeCount.f a0_0 a0_1).bind fun t138 => ((spec_MeshOk.f k a0_0 a0_1 l0_2).bind fun t139 => (if t139 = true then (some ((l1_0.length : Int) == (wrap64 (t138 * t138)))) else (some false)))
theorem spec_l04Sized.mono : ∀ a0 a1 a2 a3 k, LeO (spec_l04Sized.f k a0 a1 a2 a3) (spec_l04Sized.f (k + 1) a0 a1 a2 a3) := by
 intro a0 a1 a2 a3 k
 unfold spec_l04Sized.f
 repeat' first
   | (with_reducible exact spec_MeshOk.mono _ _ _ _)
   | (with_reducible exact LeO.refl _)
   | (with_reducible exact LeO.none _)
   | (with_reducible refine LeO.ite ?_ ?_)
   | (with_reducible refine LeO.bind ?_ (fun _ => ?_))
   | exact spec_MeshOk.mono _ _ _ _
   | exact LeO.none _
   | refine LeO.ite ?_ ?_
   | refine LeO.bind ?_ (fun _ => ?_)
theorem spec_l04Sized.e0 {P : Prop} (h : P := by
 go_enter Try.func51, Try.ntmps51
 go_wp2_with (first | ((with_reducible refine gate_dst (N := 2) rfl ?_); (try (refine gate_guard (by rfl) ?_; dsimp only)); refine box_event ?hg (N := 2) ?hd (cs := #[.int .i64 a0_0, .int .i64 a0_1, .slice A0_2 l0_2.length c0_2]) (t := 35) ?hr ?_; (case hd => rfl); (case hg => rfl); (case hr => first | (go_simp; done) | (go_simp; rfl)); intro gb136 hg w_0 hbox hb; have BK136 := Aside0.mk (hbox); have GW136 := Aside0.mk ((by rw [hg]; exact (bz_ HB.out) : w.heap.size ≤ gb136)); have GE136 := Aside0.mk ((by rw [hg]; exact (bz_ HB.out) : w.heap.size ≤ gb136)); replace HB := Aside0.mk (bs_ HB.out hb); clear hb hbox hg) | ((with_reducible refine gate_dst (N := 3) rfl ?_); (try (refine gate_guard (by rfl) ?_; dsimp only)); refine box_event ?hg (N := 3) ?hd (cs := #[.slice A1_0 l1_0.length c1_0]) (t := 36) ?hr ?_; (case hd => rfl); (case hg => rfl); (case hr => first | (go_simp; done) | (go_simp; rfl)); intro gb137 hg w_0 hbox hb; have BK137 := Aside0.mk (hbox); have GW137 := Aside0.mk ((by rw [hg]; exact (bz_ HB.out) : w.heap.size ≤ gb137)); have GE137 := Aside0.mk ((by rw [hg]; exact (bz_ HB.out) : w.heap.size ≤ gb137)); replace HB := Aside0.mk (bs_ HB.out hb); have NB136_137 := Aside0.mk ((by rw [hg]; exact Nat.ne_of_lt (bl_ BK136.out) : gb136 ≠ gb137)); have NB137_136 := Aside0.mk ((by rw [hg]; exact Nat.ne_of_gt (bl_ BK136.out) : gb137 ≠ gb136)); replace BK136 := Aside0.mk (bk_ BK136.out hb); clear hb hbox hg; have hnb_ := NB136_137.out; have hnc_ := NB137_136.out; obtain ⟨hcz_0, hcz_1, hcz_2, hfz_0, hfz_1, hfz_2⟩ := cz3_ BK136.out) | ((with_reducible refine gate_callee (f := 20) rfl ?_); refine gm_ (some 8) Try.func20 #[.agg #[.int .i64 a0_0, .int .i64 a0_1]] rfl ?_; (with_reducible refine (spec_NodeCount.calls a0_0 a0_1 t138 _ A3.out).mono ?_); rintro e w_0 ⟨rfl, hb⟩; refine ⟨_, rfl, ?_⟩; replace BK136 := Aside0.mk (bk_ BK136.out hb); replace BK137 := Aside0.mk (bk_ BK137.out hb); replace HB := Aside0.mk (bs_ HB.out hb); (try clear hb); obtain ⟨hcz_0, hcz_1, hcz_2, hfz_0, hfz_1, hfz_2⟩ := cz3_ BK136.out) | ((with_reducible refine gate_callee (f := 60) rfl ?_); refine gm_ (some 10) Try.func60 #[.agg #[.int .i64 a0_0, .int .i64 a0_1, .slice A0_2 l0_2.length c0_2]] rfl ?_; (with_reducible refine (spec_MeshOk.calls k a0_0 a0_1 _ _ l0_2 _ _ ?side1 HC0_2.out A4.out).mono ?_); (case side1 => exact cb_ HR0_2.out HB.out); rintro e w_0 ⟨rfl, hb⟩; refine ⟨_, rfl, ?_⟩; replace BK136 := Aside0.mk (bk_ BK136.out hb); replace BK137 := Aside0.mk (bk_ BK137.out hb); replace HB := Aside0.mk (bs_ HB.out hb); (try clear hb); obtain ⟨hcz_0, hfz_0⟩ := cz1_ BK137.out))
 go_ret
 exact ⟨fin_, bb_ HB.out⟩) : P := h
set_option maxHeartbeats 8000000 in
set_option maxRecDepth 100000 in
theorem spec_l04Sized.calls (k : Nat) (a0_0 : Int) (a0_1 : Int) (A0_2 : Option Addr) (c0_2 : Nat) (l0_2 : List Int) (A1_0 : Option Addr) (c1_0 : Nat) (l1_0 : List Int) (r : Bool) (w : World) (hr0_2 : Kd.C (Kd.int .i64) w A0_2 l0_2.length l0_2) (hc0_2 : l0_2.length ≤ c0_2) (hr1_0 : Kd.C (Kd.int .i64) w A1_0 l1_0.length l1_0) (hc1_0 : l1_0.length ≤ c1_0) (h : spec_l04Sized.f k a0_0 a0_1 l0_2 l1_0 = some r) :
  Calls Try.prog 51 #[.agg #[.int .i64 a0_0, .int .i64 a0_1, .slice A0_2 l0_2.length c0_2], .agg #[.slice A1_0 l1_0.length c1_0]] w fun e w' => e = .returned (.bool r) ∧ Below w.heap.size w w' := by
 have hu35 := Try.underlying35
 have hu36 := Try.underlying36
 have hu33 := Try.underlying33
 have HR0_2 := Aside0.mk hr0_2
 have HC0_2 := Aside0.mk hc0_2
 clear hr0_2 hc0_2
 have HR1_0 := Aside0.mk hr1_0
 have HC1_0 := Aside0.mk hc1_0
 clear hr1_0 hc1_0
 have HB := Aside0.mk (Below.refl w.heap.size w)
 have H : ((spec_NodeCount.f a0_0 a0_1).bind fun t138 => ((spec_MeshOk.f k a0_0 a0_1 l0_2).bind fun t139 => (if t139 = true then (some ((l1_0.length : Int) == (wrap64 (t138 * t138)))) else (some false)))) = some r := h
 clear h
 replace H := Option.bind_eq_some_iff.mp H
 obtain ⟨t138, A30, H⟩ := H
 try dsimp only at H
 have A3 := Aside0.mk A30
 clear A30
 replace H := Option.bind_eq_some_iff.mp H
 obtain ⟨t139, A40, H⟩ := H
 try dsimp only at H
 have A4 := Aside0.mk A40
 clear A40
 by_cases c5 : t139 = true
 ·subst c5
  rw [if_pos rfl] at H
  obtain rfl := Option.some.inj H
  exact spec_l04Sized.e0
 ·replace c5 := Bool.eq_false_iff.mpr c5
  subst c5
  rw [if_neg (show ¬ (false = true) by decide)] at H
  obtain rfl := Option.some.inj H
  exact spec_l04Sized.e0

/-! ### spec_l03Find: function 69 -/
def spec_l03Find.l0 : Nat → List Int → Int → Int → Option (Bool)
 | 0, _, _, _ => none
 | k + 1, x0, x1, x5 => if x5 < (x0.length : Int) then (if 0 ≤ x5 then (if (rd x0 x5) = x1 then (some true) else (spec_l03Find.l0 k x0 x1 (wrap64 (x5 + 1)))) else (none)) else (some false)
def spec_l03Find.f (k : Nat) (l0 : List Int) (a1 : Int) : Option (Bool) := spec_l03Find.l0 k l0 a1 0
theorem spec_l03Find.mono_l : ∀ k, (∀ y0 y1 y2, LeO (spec_l03Find.l0 k y0 y1 y2) (spec_l03Find.l0 (k + 1) y0 y1 y2))
 | 0 => fun _ _ _ r h => by simp [spec_l03Find.l0] at h
 | k + 1 => by
  have ih0 := spec_l03Find.mono_l k
  ·intro y0 y1 y2
   unfold spec_l03Find.l0
   repeat' first
   | (with_reducible exact ih0 _ _ _)
   | (with_reducible exact LeO.refl _)
   | (with_reducible exact LeO.none _)
   | (with_reducible refine LeO.ite ?_ ?_)
   | (with_reducible refine LeO.bind ?_ (fun _ => ?_))
   | exact ih0 _ _ _
   | exact LeO.none _
   | refine LeO.ite ?_ ?_
   | refine LeO.bind ?_ (fun _ => ?_)
theorem spec_l03Find.mono : ∀ a0 a1 k, LeO (spec_l03Find.f k a0 a1) (spec_l03Find.f (k + 1) a0 a1) := by
 intro a0 a1 k
 have ih0 := spec_l03Find.mono_l k
 unfold spec_l03Find.f
 repeat' first
   | (with_reducible exact ih0 _ _ _)
   | (with_reducible exact LeO.refl _)
   | (with_reducible exact LeO.none _)
   | (with_reducible refine LeO.ite ?_ ?_)
   | (with_reducible refine LeO.bind ?_ (fun _ => ?_))
   | exact ih0 _ _ _
   | exact LeO.none _
   | refine LeO.ite ?_ ?_
   | refine LeO.bind ?_ (fun _ => ?_)
set_option maxHeartbeats 8000000 in
set_option maxRecDepth 100000 in
theorem spec_l03Find.calls (k : Nat) (A0 : Option Addr) (c0 : Nat) (l0 : List Int) (a1 : Int) (r : Bool) (w : World) (hr0 : Kd.C (Kd.int .i64) w A0 l0.length l0) (hc0 : l0.length ≤ c0) (h : spec_l03Find.f k l0 a1 = some r) :
  Calls Try.prog 69 #[.slice A0 l0.length c0, .int .i64 a1] w fun e w' => e = .returned (.bool r) ∧ Drawn0 w w' := by
 have HR0 := Aside0.mk hr0
 have HC0 := Aside0.mk hc0
 clear hr0 hc0
 have H : (spec_l03Find.l0 k l0 a1 0) = some r := h
 clear h
 have H' := Aside0.mk H
 clear H
 go_enter Try.func69, Try.ntmps69
 go_wp2
 go_loopg [5] k (fun kq v5 w' => ∃ (x5_1 : Int), v5 = .int .i64 x5_1 ∧ Aside0 (spec_l03Find.l0 kq l0 a1 x5_1 = some r) ∧ Aside0 (kq ≤ k) ∧ Drawn0 w w')
 case atStart => exact ⟨(0), ef_, H', ⟨Nat.le_refl _⟩, by repeat (first | exact Drawn0.refl _ | apply Drawn0.step)⟩
 case round =>
  clear H'
  obtain ⟨x5_1, rfl, HA, HK1, ⟨m1, rfl⟩⟩ := hrel
  cases gk with
  | zero => exact absurd HA.out (by simp [spec_l03Find.l0])
  | succ k1 =>
   have H := HA.out
   clear HA
   simp only [spec_l03Find.l0] at H
   by_cases c3 : x5_1 < (l0.length : Int)
   ·rw [if_pos c3] at H
    have c3b0 : decide (x5_1 < (l0.length : Int)) = true := decide_eq_true c3
    clear c3
    by_cases c4 : 0 ≤ x5_1
    ·rw [if_pos c4] at H
     have c4b0 : decide (0 ≤ x5_1) = true := decide_eq_true c4
     clear c4
     by_cases c5 : (rd l0 x5_1) = a1
     ·rw [if_pos c5] at H
      have c5b0 : ((rd l0 x5_1) == a1) = true := beq_iff_eq.mpr c5
      have c5b1 : ((rd l0 x5_1) != a1) = false := bne_eq_false_iff_eq.mpr c5
      clear c5
      obtain rfl := Option.some.inj H
      have p140 : 0 ≤ (x5_1 : Int) := of_decide_eq_true dg_
      have q140 : x5_1 < (l0.length : Int) := of_decide_eq_true dg_
      obtain ⟨ad140, e140, hx140_0⟩ := Kd.at_int HR0.out x5_1 p140 q140
      cases e140
      replace p140 := eq_true p140
      replace q140 := eq_true q140
      go_wp2
      go_ret
      exact ⟨by first | rfl | (simp; done) | (simp [*]; done), by repeat (first | exact Drawn0.refl _ | apply Drawn0.step)⟩
     ·rw [if_neg c5] at H
      have c5b0 : ((rd l0 x5_1) == a1) = false := beq_eq_false_iff_ne.mpr c5
      have c5b1 : ((rd l0 x5_1) != a1) = true := bne_iff_ne.mpr c5
      have H' := Aside0.mk H
      clear H
      have p140 : 0 ≤ (x5_1 : Int) := of_decide_eq_true dg_
      have q140 : x5_1 < (l0.length : Int) := of_decide_eq_true dg_
      obtain ⟨ad140, e140, hx140_0⟩ := Kd.at_int HR0.out x5_1 p140 q140
      cases e140
      replace p140 := eq_true p140
      replace q140 := eq_true q140
      go_wp2
      go_roundg k1
      case measure => have := HK1.out; omega
      case rel => exact ⟨(wrap64 (x5_1 + 1)), ef_, H', ⟨by have := HK1.out; omega⟩, by repeat (first | exact Drawn0.refl _ | apply Drawn0.step)⟩
    ·rw [if_neg c4] at H
     exact absurd H (by simp)
   ·rw [if_neg c3] at H
    have c3b0 : decide (x5_1 < (l0.length : Int)) = false := decide_eq_false c3
    clear c3
    obtain rfl := Option.some.inj H
    go_wp2
    go_ret
    exact ⟨by first | rfl | (simp; done) | (simp [*]; done), by repeat (first | exact Drawn0.refl _ | apply Drawn0.step)⟩

/-! ### spec_l03Has: function 61 -/
def spec_l03Has.f (k : Nat) (a0_0 : Int) (a0_1 : Int) (l0_2 : List Int) (a1 : Int) : Option (Bool) := (spec_l03Leads.f a0_0 a0_1 a1).bind fun t142 => (if t142 = true then ((spec_l03Find.f k l0_2 a1).bind fun t143 => (some (!t143))) else (some false))
theorem spec_l03Has.mono : ∀ a0 a1 a2 a3 k, LeO (spec_l03Has.f k a0 a1 a2 a3) (spec_l03Has.f (k + 1) a0 a1 a2 a3) := by
 intro a0 a1 a2 a3 k
 unfold spec_l03Has.f
 repeat' first
   | (with_reducible exact spec_l03Find.mono _ _ _)
   | (with_reducible exact LeO.refl _)
   | (with_reducible exact LeO.none _)
   | (with_reducible refine LeO.ite ?_ ?_)
   | (with_reducible refine LeO.bind ?_ (fun _ => ?_))
   | exact spec_l03Find.mono _ _ _
   | exact LeO.none _
   | refine LeO.ite ?_ ?_
   | refine LeO.bind ?_ (fun _ => ?_)
theorem spec_l03Has.e0 {P : Prop} (h : P := by
 go_enter Try.func61, Try.ntmps61
 go_wp2_with (first | ((with_reducible refine gate_dst (N := 2) rfl ?_); refine box_event ?hg (N := 2) ?hd (cs := #[.int .i64 a0_0, .int .i64 a0_1, .slice A0_2 l0_2.length c0_2]) (t := 35) ?hr ?_; (case hd => rfl); (case hg => rfl); (case hr => first | (go_simp; done) | (go_simp; rfl)); intro gb141 hg w_0 hbox hb; have BK141 := Aside0.mk (hbox); have GW141 := Aside0.mk ((by rw [hg]; exact (bz_ HB.out) : w.heap.size ≤ gb141)); have GE141 := Aside0.mk ((by rw [hg]; exact (bz_ HB.out) : w.heap.size ≤ gb141)); replace HB := Aside0.mk (bs_ HB.out hb); clear hb hbox hg; obtain ⟨hcz_0, hcz_1, hcz_2, hfz_0, hfz_1, hfz_2⟩ := cz3_ BK141.out) | ((with_reducible refine gate_callee (f := 68) rfl ?_); refine gm_ (some 8) Try.func68 #[.agg #[.int .i64 a0_0, .int .i64 a0_1], .int .i64 a1] rfl ?_; (with_reducible refine (spec_l03Leads.calls a0_0 a0_1 a1 _ _ A3.out).mono ?_); rintro e w_0 ⟨rfl, hb⟩; refine ⟨_, rfl, ?_⟩; replace BK141 := Aside0.mk (bk_ BK141.out hb); replace HB := Aside0.mk (bs_ HB.out hb); (try clear hb); obtain ⟨hcz_0, hcz_1, hcz_2, hfz_0, hfz_1, hfz_2⟩ := cz3_ BK141.out) | (go_at_call 69; (with_reducible refine (spec_l03Find.calls k _ _ l0_2 a1 t143 _ ?side1 HC0_2.out A5.out).mono ?_); (case side1 => exact cb_ HR0_2.out HB.out); rintro e w' ⟨rfl, ⟨nd, rfl⟩⟩))
 go_ret
 exact ⟨fin_, bb_ HB.out⟩) : P := h
set_option maxHeartbeats 8000000 in
set_option maxRecDepth 100000 in
theorem spec_l03Has.calls (k : Nat) (a0_0 : Int) (a0_1 : Int) (A0_2 : Option Addr) (c0_2 : Nat) (l0_2 : List Int) (a1 : Int) (r : Bool) (w : World) (hr0_2 : Kd.C (Kd.int .i64) w A0_2 l0_2.length l0_2) (hc0_2 : l0_2.length ≤ c0_2) (h : spec_l03Has.f k a0_0 a0_1 l0_2 a1 = some r) :
  Calls Try.prog 61 #[.agg #[.int .i64 a0_0, .int .i64 a0_1, .slice A0_2 l0_2.length c0_2], .int .i64 a1] w fun e w' => e = .returned (.bool r) ∧ Below w.heap.size w w' := by
 have hu35 := Try.underlying35
 have hu33 := Try.underlying33
 have HR0_2 := Aside0.mk hr0_2
 have HC0_2 := Aside0.mk hc0_2
 clear hr0_2 hc0_2
 have HB := Aside0.mk (Below.refl w.heap.size w)
 have H : ((spec_l03Leads.f a0_0 a0_1 a1).bind fun t142 => (if t142 = true then ((spec_l03Find.f k l0_2 a1).bind fun t143 => (some (!t143))) else (some false))) = some r := h
 clear h
 replace H := Option.bind_eq_some_iff.mp H
 obtain ⟨t142, A30, H⟩ := H
 try dsimp only at H
 have A3 := Aside0.mk A30
 clear A30
 by_cases c4 : t142 = true
 ·subst c4
  rw [if_pos rfl] at H
  replace H := Option.bind_eq_some_iff.mp H
  obtain ⟨t143, A50, H⟩ := H
  try dsimp only at H
  have A5 := Aside0.mk A50
  clear A50
  obtain rfl := Option.some.inj H
  exact spec_l03Has.e0
 ·replace c4 := Bool.eq_false_iff.mpr c4
  subst c4
  rw [if_neg (show ¬ (false = true) by decide)] at H
  obtain rfl := Option.some.inj H
  exact spec_l03Has.e0

/-! ### spec_l04Walk: function 52 -/
def spec_l04Walk.l0 : Nat → Int → List Int → Int → Int → Int → Int → List Int → List Int → Option (List Int)
 | 0, _, _, _, _, _, _, _, _ => none
 | k + 1, x3, x9, x10, x11, x145000, x145001, x145002, x146000 => if (x9.length : Int) ≤ x10 then (if 0 ≤ (wrap64 ((wrap64 (x11 * x10)) + x3)) then (if (wrap64 ((wrap64 (x11 * x10)) + x3)) < (x146000.length : Int) then (if (rd x146000 (wrap64 ((wrap64 (x11 * x10)) + x3))) = 4 then (if x11 = x3 then (some x9) else (some (([] : List Int)))) else ((spec_l01In.f (rd x146000 (wrap64 ((wrap64 (x11 * x10)) + x3))) 0 3).bind fun t157 => (if t157 = true then ((spec_l03Has.f k x145000 x145001 x145002 (wrap64 ((wrap64 (4 * x11)) + (rd x146000 (wrap64 ((wrap64 (x11 * x10)) + x3)))))).bind fun t158 => (if t158 = true then (if x9.length < 17592186044416 then ((spec_NextNode.f x145000 x145001 x11 (rd x146000 (wrap64 ((wrap64 (x11 * x10)) + x3)))).bind fun t162 => (spec_l04Walk.l0 k x3 (x9 ++ [wrap64 ((wrap64 (4 * x11)) + (rd x146000 (wrap64 ((wrap64 (x11 * x10)) + x3))))]) x10 t162 x145000 x145001 x145002 x146000)) else (none)) else (some (([] : List Int))))) else (some (([] : List Int)))))) else (none)) else (none)) else (some (([] : List Int)))
def spec_l04Walk.f (k : Nat) (a0_0 : Int) (a0_1 : Int) (l0_2 : List Int) (l1_0 : List Int) (a2 : Int) (a3 : Int) : Option (List Int) := (spec_NodeCount.f a0_0 a0_1).bind fun t149 => (spec_l04Walk.l0 k a3 (([] : List Int)) t149 a2 a0_0 a0_1 l0_2 l1_0)
theorem spec_l04Walk.mono_l : ∀ k, (∀ y0 y1 y2 y3 y4 y5 y6 y7, LeO (spec_l04Walk.l0 k y0 y1 y2 y3 y4 y5 y6 y7) (spec_l04Walk.l0 (k + 1) y0 y1 y2 y3 y4 y5 y6 y7))
 | 0 => fun _ _ _ _ _ _ _ _ r h => by simp [spec_l04Walk.l0] at h
 | k + 1 => by
  have ih0 := spec_l04Walk.mono_l k
  ·intro y0 y1 y2 y3 y4 y5 y6 y7
   unfold spec_l04Walk.l0
   repeat' first
   | (with_reducible exact ih0 _ _ _ _ _ _ _ _)
   | (with_reducible exact spec_l03Has.mono _ _ _ _ _)
   | (with_reducible exact LeO.refl _)
   | (with_reducible exact LeO.none _)
   | (with_reducible refine LeO.ite ?_ ?_)
   | (with_reducible refine LeO.bind ?_ (fun _ => ?_))
   | exact ih0 _ _ _ _ _ _ _ _
   | exact spec_l03Has.mono _ _ _ _ _
   | exact LeO.none _
   | refine LeO.ite ?_ ?_
   | refine LeO.bind ?_ (fun _ => ?_)
theorem spec_l04Walk.mono : ∀ a0 a1 a2 a3 a4 a5 k, LeO (spec_l04Walk.f k a0 a1 a2 a3 a4 a5) (spec_l04Walk.f (k + 1) a0 a1 a2 a3 a4 a5) := by
 intro a0 a1 a2 a3 a4 a5 k
 have ih0 := spec_l04Walk.mono_l k
 unfold spec_l04Walk.f
 repeat' first
   | (with_reducible exact ih0 _ _ _ _ _ _ _ _)
   | (with_reducible exact spec_l03Has.mono _ _ _ _ _)
   | (with_reducible exact LeO.refl _)
   | (with_reducible exact LeO.none _)
   | (with_reducible refine LeO.ite ?_ ?_)
   | (with_reducible refine LeO.bind ?_ (fun _ => ?_))
   | exact ih0 _ _ _ _ _ _ _ _
   | exact spec_l03Has.mono _ _ _ _ _
   | exact LeO.none _
   | refine LeO.ite ?_ ?_
   | refine LeO.bind ?_ (fun _ => ?_)
set_option maxHeartbeats 8000000 in
set_option maxRecDepth 100000 in
theorem spec_l04Walk.calls (k : Nat) (a0_0 : Int) (a0_1 : Int) (A0_2 : Option Addr) (c0_2 : Nat) (l0_2 : List Int) (A1_0 : Option Addr) (c1_0 : Nat) (l1_0 : List Int) (a2 : Int) (a3 : Int) (r : List Int) (w : World) (hr0_2 : Kd.C (Kd.int .i64) w A0_2 l0_2.length l0_2) (hc0_2 : l0_2.length ≤ c0_2) (hr1_0 : Kd.C (Kd.int .i64) w A1_0 l1_0.length l1_0) (hc1_0 : l1_0.length ≤ c1_0) (h : spec_l04Walk.f k a0_0 a0_1 l0_2 l1_0 a2 a3 = some r) :
  Calls Try.prog 52 #[.agg #[.int .i64 a0_0, .int .i64 a0_1, .slice A0_2 l0_2.length c0_2], .agg #[.slice A1_0 l1_0.length c1_0], .int .i64 a2, .int .i64 a3] w fun e w' => ∃ v0_ : Value, e = .returned (v0_) ∧ Kd.R (Kd.int .i64) 3 w' w.heap.size (fun _ => True) v0_ r ∧ Below w.heap.size w w' := by
 have hu35 := Try.underlying35
 have hu36 := Try.underlying36
 have hu33 := Try.underlying33
 have HR0_2 := Aside0.mk hr0_2
 have HC0_2 := Aside0.mk hc0_2
 clear hr0_2 hc0_2
 have HR1_0 := Aside0.mk hr1_0
 have HC1_0 := Aside0.mk hc1_0
 clear hr1_0 hc1_0
 have HB := Aside0.mk (Below.refl w.heap.size w)
 have H : ((spec_NodeCount.f a0_0 a0_1).bind fun t149 => (spec_l04Walk.l0 k a3 (([] : List Int)) t149 a2 a0_0 a0_1 l0_2 l1_0)) = some r := h
 clear h
 obtain ⟨y146, hy146⟩ : ∃ y_ : List Int, y_ = (([] : List Int)) := ⟨_, rfl⟩
 replace H : ((spec_NodeCount.f a0_0 a0_1).bind fun t149 => (spec_l04Walk.l0 k a3 y146 t149 a2 a0_0 a0_1 l0_2 l1_0)) = some r := by first | (rw [hy146]; with_reducible exact H) | (have H2_ := (Option.bind_some _ _).symm.trans H; rw [hy146]; with_reducible exact H2_) | (have H2_ := (Option.bind_some _ _).symm.trans H; with_reducible exact H2_) | with_reducible exact H | (rw [hy146]; exact H) | exact H
 have Ny146 := Aside0.mk hy146
 clear hy146
 replace H := Option.bind_eq_some_iff.mp H
 obtain ⟨t149, A50, H⟩ := H
 try dsimp only at H
 have A5 := Aside0.mk A50
 clear A50
 have H' := Aside0.mk H
 clear H
 go_enter Try.func52, Try.ntmps52
 go_wp2_with (first | ((with_reducible refine gate_dst (N := 4) rfl ?_); refine box_event ?hg (N := 4) ?hd (cs := #[.int .i64 a0_0, .int .i64 a0_1, .slice A0_2 l0_2.length c0_2]) (t := 35) ?hr ?_; (case hd => rfl); (case hg => rfl); (case hr => first | (go_simp; done) | (go_simp; rfl)); intro gb144 hg w6 hbox hb; have BK144 := Aside0.mk (hbox); have GW144 := Aside0.mk ((by rw [hg]; exact (bz_ HB.out) : w.heap.size ≤ gb144)); have GE144 := Aside0.mk ((by rw [hg]; exact (bz_ HB.out) : w.heap.size ≤ gb144)); replace HB := Aside0.mk (bs_ HB.out hb); clear hb hbox hg) | ((with_reducible refine gate_dst (N := 5) rfl ?_); refine box_event ?hg (N := 5) ?hd (cs := #[.slice A1_0 l1_0.length c1_0]) (t := 36) ?hr ?_; (case hd => rfl); (case hg => rfl); (case hr => first | (go_simp; done) | (go_simp; rfl)); intro gb145 hg w7 hbox hb; have BK145 := Aside0.mk (hbox); have GW145 := Aside0.mk ((by rw [hg]; exact (bz_ HB.out) : w.heap.size ≤ gb145)); have GE145 := Aside0.mk ((by rw [hg]; exact (bz_ HB.out) : w.heap.size ≤ gb145)); replace HB := Aside0.mk (bs_ HB.out hb); have NB144_145 := Aside0.mk ((by rw [hg]; exact Nat.ne_of_lt (bl_ BK144.out) : gb144 ≠ gb145)); have NB145_144 := Aside0.mk ((by rw [hg]; exact Nat.ne_of_gt (bl_ BK144.out) : gb145 ≠ gb144)); replace BK144 := Aside0.mk (bk_ BK144.out hb); clear hb hbox hg) | ((with_reducible refine gate_dst (N := 13) rfl ?_); refine Kd.R_lit (Kd.int .i64) _ 3 ?hg (N := 13) ?hd (xs := ([] : List Int)) (inner := []) (ok := fun _ => True) (okp := fun _ => True) ?hr ?hp (fun _ hk => hk) trivial (Below.refl _ _) (Nat.le_refl _) (by simp) ?_; (case hd => rfl); (case hg => rfl); (case hr => first | (go_simp; done) | (go_simp; rfl)); (case hp => exact (Reps.none _ _)); intro v147 w8 ho9 hb hg_ hnew_; clear hg_ hnew_; (first | rw [← Ny146.out] at ho9 | (simp only [Int.reduceToNat] at ho9; rw [← Ny146.out] at ho9)); have HO148 := Aside0.mk (Kd.R_lower ho9 (bz_ HB.out)); replace BK144 := Aside0.mk (bk_ BK144.out hb); replace BK145 := Aside0.mk (bk_ BK145.out hb); replace HB := Aside0.mk (bs_ HB.out hb); clear hb ho9; have hnb10 := NB144_145.out; have hnc10 := NB145_144.out; obtain ⟨hcz11_0, hcz11_1, hcz11_2, hfz11_0, hfz11_1, hfz11_2⟩ := cz3_ BK144.out) | ((with_reducible refine gate_callee (f := 20) rfl ?_); refine gm_ (some 16) Try.func20 #[.agg #[.int .i64 a0_0, .int .i64 a0_1]] rfl ?_; (with_reducible refine (spec_NodeCount.calls a0_0 a0_1 t149 _ A5.out).mono ?_); rintro e w12 ⟨rfl, hb⟩; refine ⟨_, rfl, ?_⟩; replace HO148 := Aside0.mk (Kd.R_below (ra_ HO148.out) hb); replace BK144 := Aside0.mk (bk_ BK144.out hb); replace BK145 := Aside0.mk (bk_ BK145.out hb); replace HB := Aside0.mk (bs_ HB.out hb); (try clear hb)))
 go_loopg [9, 11] k (fun kq v9 v11 w' => ∃ (x9_1 : List Int) (x11_1 : Int), v11 = .int .i64 x11_1 ∧ Aside0 (spec_l04Walk.l0 kq a3 x9_1 t149 x11_1 a0_0 a0_1 l0_2 l1_0 = some r) ∧ Aside0 (kq ≤ k) ∧ Aside0 (Kd.R (Kd.int .i64) 3 w' w.heap.size (fun _ => True) v9 x9_1) ∧ Aside0 (w'.heap[gb144]? = some (.cells #[.int .i64 a0_0, .int .i64 a0_1, (.slice A0_2 l0_2.length c0_2)] 35 (0, 0))) ∧ Aside0 (w'.heap[gb145]? = some (.cells #[(.slice A1_0 l1_0.length c1_0)] 36 (0, 0))) ∧ Aside0 (Below w.heap.size w w'))
 case atStart => exact ⟨(y146), (a2), ef_, H', ⟨Nat.le_refl _⟩, ⟨by (with_reducible repeat (first | apply Kd.R_alloc | apply Kd.R_drewN | apply Kd.R_drew)); exact HO148.out⟩, ⟨bq_ BK144.out⟩, ⟨bq_ BK145.out⟩, ⟨bb_ HB.out⟩⟩
 case round =>
  clear H'
  try clear hcz11_0 hcz11_1 hcz11_2 hfz11_0 hfz11_1 hfz11_2
  obtain ⟨x9_1, x11_1, rfl, HA, HK1, HO_9, BK144, BK145, HB⟩ := hrel
  cases gk with
  | zero => exact absurd HA.out (by simp [spec_l04Walk.l0])
  | succ k1 =>
   have H := HA.out
   clear HA
   simp only [spec_l04Walk.l0] at H
   by_cases c13 : (x9_1.length : Int) ≤ t149
   ·rw [if_pos c13] at H
    have c13b0 : decide ((x9_1.length : Int) ≤ t149) = true := decide_eq_true c13
    clear c13
    obtain ⟨ji14, hji14⟩ : ∃ j_ : Int, (wrap64 ((wrap64 (x11_1 * t149)) + a3)) = j_ := ⟨_, rfl⟩
    replace H : (if 0 ≤ (ji14) then (if (ji14) < (l1_0.length : Int) then (if (rd l1_0 (ji14)) = 4 then (if x11_1 = a3 then (some x9_1) else (some (([] : List Int)))) else ((spec_l01In.f (rd l1_0 (ji14)) 0 3).bind fun t157 => (if t157 = true then ((spec_l03Has.f k1 a0_0 a0_1 l0_2 (wrap64 ((wrap64 (4 * x11_1)) + (rd l1_0 (ji14))))).bind fun t158 => (if t158 = true then (if x9_1.length < 17592186044416 then ((spec_NextNode.f a0_0 a0_1 x11_1 (rd l1_0 (ji14))).bind fun t162 => (spec_l04Walk.l0 k1 a3 (x9_1 ++ [wrap64 ((wrap64 (4 * x11_1)) + (rd l1_0 (ji14)))]) t149 t162 a0_0 a0_1 l0_2 l1_0)) else (none)) else (some (([] : List Int))))) else (some (([] : List Int)))))) else (none)) else (none)) = some r := by first | (rw [hji14] at H; exact H) | (simp only [hji14] at H ⊢; exact H)
    have hji14w : (IntKind.i64.wrap ((wrap64 (x11_1 * t149)) + a3)) = ji14 := (i64_w _).trans hji14
    by_cases c15 : 0 ≤ (ji14)
    ·rw [if_pos c15] at H
     have c15b0 : decide (0 ≤ (ji14)) = true := decide_eq_true c15
     clear c15
     by_cases c16 : (ji14) < (l1_0.length : Int)
     ·rw [if_pos c16] at H
      have c16b0 : decide ((ji14) < (l1_0.length : Int)) = true := decide_eq_true c16
      clear c16
      by_cases c17 : (rd l1_0 (ji14)) = 4
      ·rw [if_pos c17] at H
       have c17b0 : ((rd l1_0 (ji14)) == 4) = true := beq_iff_eq.mpr c17
       have c17b1 : ((rd l1_0 (ji14)) != 4) = false := bne_eq_false_iff_eq.mpr c17
       clear c17
       by_cases c18 : x11_1 = a3
       ·rw [if_pos c18] at H
        have c18b0 : (x11_1 == a3) = true := beq_iff_eq.mpr c18
        have c18b1 : (x11_1 != a3) = false := bne_eq_false_iff_eq.mpr c18
        clear c18
        obtain rfl := Option.some.inj H
        obtain ⟨Ao19, co19, eo19⟩ := Kd.R_slice HO_9.out
        subst eo19
        have hnb20 := NB145_144.out
        have hnc20 := NB144_145.out
        obtain ⟨hcz21_0, hfz21_0⟩ := cz1_ BK145.out
        have p153 : 0 ≤ ((ji14) : Int) := of_decide_eq_true dg_
        have q153 : (ji14) < (l1_0.length : Int) := of_decide_eq_true dg_
        obtain ⟨ad153, e153, hx153_0⟩ := Kd.at_int HR1_0.out (ji14) p153 q153
        cases e153
        replace hx153_0 := (HB.out.cell (World.block_lt_of_cell? w _ hx153_0)).trans hx153_0
        replace p153 := eq_true p153
        replace q153 := eq_true q153
        go_wp2
        go_ret
        exact ⟨_, by first | rfl | (simp [errW_none, errW_some] <;> rfl) | (simp only [← hji14]; first | rfl | (simp [errW_none, errW_some] <;> rfl)) | (simp [*, errW_none, errW_some] <;> rfl), by (with_reducible repeat (first | apply Kd.R_alloc | apply Kd.R_drewN | apply Kd.R_drew)); exact HO_9.out, bb_ HB.out⟩
       ·rw [if_neg c18] at H
        have c18b0 : (x11_1 == a3) = false := beq_eq_false_iff_ne.mpr c18
        have c18b1 : (x11_1 != a3) = true := bne_iff_ne.mpr c18
        obtain ⟨y154, hy154⟩ : ∃ y_ : List Int, y_ = (([] : List Int)) := ⟨_, rfl⟩
        replace H : (some y154) = some r := by first | (rw [hy154]; with_reducible exact H) | (have H2_ := (Option.bind_some _ _).symm.trans H; rw [hy154]; with_reducible exact H2_) | (have H2_ := (Option.bind_some _ _).symm.trans H; with_reducible exact H2_) | with_reducible exact H | (rw [hy154]; exact H) | exact H
        have Ny154 := Aside0.mk hy154
        clear hy154
        obtain rfl := Option.some.inj H
        obtain ⟨Ao22, co22, eo22⟩ := Kd.R_slice HO_9.out
        subst eo22
        have hnb23 := NB145_144.out
        have hnc23 := NB144_145.out
        obtain ⟨hcz24_0, hfz24_0⟩ := cz1_ BK145.out
        have p153 : 0 ≤ ((ji14) : Int) := of_decide_eq_true dg_
        have q153 : (ji14) < (l1_0.length : Int) := of_decide_eq_true dg_
        obtain ⟨ad153, e153, hx153_0⟩ := Kd.at_int HR1_0.out (ji14) p153 q153
        cases e153
        replace hx153_0 := (HB.out.cell (World.block_lt_of_cell? w _ hx153_0)).trans hx153_0
        replace p153 := eq_true p153
        replace q153 := eq_true q153
        go_wp2_with (first | ((with_reducible refine gate_dst (N := 36) rfl ?_); refine Kd.R_lit (Kd.int .i64) _ 3 ?hg (N := 36) ?hd (xs := ([] : List Int)) (inner := []) (ok := fun _ => True) (okp := fun _ => True) ?hr ?hp (fun _ hk => hk) trivial (Below.refl _ _) (Nat.le_refl _) (by simp) ?_; (case hd => rfl); (case hg => rfl); (case hr => first | (go_simp; done) | (go_simp; rfl)); (case hp => exact (Reps.none _ _)); intro v155 w25 ho26 hb hg_ hnew_; clear hg_ hnew_; (first | rw [← Ny154.out] at ho26 | (simp only [Int.reduceToNat] at ho26; rw [← Ny154.out] at ho26)); have HO156 := Aside0.mk (Kd.R_lower (Kd.R_new' ho26 (rl_ HO_9.out)) (bz_ HB.out)); replace HO_9 := Aside0.mk (Kd.R_elder' (ra_ HO_9.out) (Kd.R_base ho26) hb); replace BK144 := Aside0.mk (bk_ BK144.out hb); replace BK145 := Aside0.mk (bk_ BK145.out hb); replace HB := Aside0.mk (bs_ HB.out hb); clear hb ho26))
        go_ret
        exact ⟨_, by first | rfl | (simp [errW_none, errW_some] <;> rfl) | (simp only [← hji14]; first | rfl | (simp [errW_none, errW_some] <;> rfl)) | (simp [*, errW_none, errW_some] <;> rfl), by (with_reducible repeat (first | apply Kd.R_alloc | apply Kd.R_drewN | apply Kd.R_drew)); exact Kd.R_mono HO156.out (fun _ hk => trivial), bb_ HB.out⟩
      ·rw [if_neg c17] at H
       have c17b0 : ((rd l1_0 (ji14)) == 4) = false := beq_eq_false_iff_ne.mpr c17
       have c17b1 : ((rd l1_0 (ji14)) != 4) = true := bne_iff_ne.mpr c17
       replace H := Option.bind_eq_some_iff.mp H
       obtain ⟨t157, A270, H⟩ := H
       try dsimp only at H
       have A27 := Aside0.mk A270
       clear A270
       by_cases c28 : t157 = true
       ·subst c28
        rw [if_pos rfl] at H
        replace H := Option.bind_eq_some_iff.mp H
        obtain ⟨t158, A290, H⟩ := H
        try dsimp only at H
        have A29 := Aside0.mk A290
        clear A290
        by_cases c30 : t158 = true
        ·subst c30
         rw [if_pos rfl] at H
         by_cases c31 : x9_1.length < 17592186044416
         ·rw [if_pos c31] at H
          have LMc31 := Aside0.mk c31
          clear c31
          obtain ⟨y159, hy159⟩ : ∃ y_ : List Int, y_ = (x9_1 ++ [wrap64 ((wrap64 (4 * x11_1)) + (rd l1_0 (ji14)))]) := ⟨_, rfl⟩
          replace H : ((spec_NextNode.f a0_0 a0_1 x11_1 (rd l1_0 (ji14))).bind fun t162 => (spec_l04Walk.l0 k1 a3 y159 t149 t162 a0_0 a0_1 l0_2 l1_0)) = some r := by first | (rw [hy159]; with_reducible exact H) | (have H2_ := (Option.bind_some _ _).symm.trans H; rw [hy159]; with_reducible exact H2_) | (have H2_ := (Option.bind_some _ _).symm.trans H; with_reducible exact H2_) | with_reducible exact H | (rw [hy159]; exact H) | exact H
          have Ny159 := Aside0.mk hy159
          clear hy159
          replace H := Option.bind_eq_some_iff.mp H
          obtain ⟨t162, A320, H⟩ := H
          try dsimp only at H
          have A32 := Aside0.mk A320
          clear A320
          have H' := Aside0.mk H
          clear H
          obtain ⟨Ao33, co33, eo33⟩ := Kd.R_slice HO_9.out
          subst eo33
          have hnb34 := NB145_144.out
          have hnc34 := NB144_145.out
          obtain ⟨hcz35_0, hfz35_0⟩ := cz1_ BK145.out
          have p153 : 0 ≤ ((ji14) : Int) := of_decide_eq_true dg_
          have q153 : (ji14) < (l1_0.length : Int) := of_decide_eq_true dg_
          obtain ⟨ad153, e153, hx153_0⟩ := Kd.at_int HR1_0.out (ji14) p153 q153
          cases e153
          replace hx153_0 := (HB.out.cell (World.block_lt_of_cell? w _ hx153_0)).trans hx153_0
          replace p153 := eq_true p153
          replace q153 := eq_true q153
          go_wp2_with (first | ((with_reducible refine gate_callee (f := 53) rfl ?_); refine goesL_ (some 39) rfl rfl Try.func53 (by kernel_rfl) rfl #[.int .i64 (rd l1_0 (ji14)), .int .i64 0, .int .i64 3] rfl (by (try simp only [List.map_toArray, List.map_cons, List.map_nil]); first | done | (simp only [hji14]; rfl) | rfl | (simp only [List.length_drop, List.length_take]; rfl)) ?_; (with_reducible refine (spec_l01In.calls (rd l1_0 (ji14)) 0 3 true _ A27.out).mono ?_); rintro e w' ⟨rfl, ⟨nd, rfl⟩⟩; refine ⟨_, rfl, ?_⟩; obtain ⟨hcz36_0, hcz36_1, hcz36_2, hfz36_0, hfz36_1, hfz36_2⟩ := cz3_ BK144.out) | (go_at_call 61; (with_reducible refine (spec_l03Has.calls k1 a0_0 a0_1 _ _ l0_2 (wrap64 ((wrap64 (4 * x11_1)) + (rd l1_0 (ji14)))) true _ ?side1 HC0_2.out A29.out).mono ?_); (case side1 => exact cb_ HR0_2.out HB.out); rintro e w37 ⟨rfl, hb⟩; replace HO_9 := Aside0.mk (Kd.R_below (ra_ HO_9.out) hb); replace BK144 := Aside0.mk (bk_ BK144.out hb); replace BK145 := Aside0.mk (bk_ BK145.out hb); replace HB := Aside0.mk (bs_ HB.out hb); (try clear hb)) | ((with_reducible refine gate_builtin (b := .append) (xs := #[.tmp 51, .tmp 56]) rfl ?_); at_builtin; refine Kd.R_append (Kd.int .i64) (w0 := w) w.heap.size rfl (.tmp 51) (.tmp 56) 24 3 (.int .i64 0) 8 rfl Try.underlying24 info3 rfl (by decide) (by omega) (.slice Ao33 x9_1.length co33) x9_1 (wrap64 ((wrap64 (4 * x11_1)) + (rd l1_0 (ji14)))) [.int .i64 (wrap64 ((wrap64 (4 * x11_1)) + (rd l1_0 (ji14))))] (fun _ => True) (fun _ => False) rfl rfl ?aP (fun _ hk => hk.elim) ?aF ?aO ?aB ?aS ?aL ?_; (case aP => exact rfl); (case aB => exact (by repeat (first | (with_reducible first | exact HB.out | apply below_alloc | apply pw_below_drewN | apply below_drew1 | refine below_set ?_ GE144.out | refine below_set ?_ GE145.out) | exact HB.out))); (case aF => exact (fun _ _ => trivial)); (case aO => exact (ra_ HO_9.out)); (case aS => exact (bz_ HB.out)); (case aL => have := LMc31.out; omega); intro v160 w38 ho hb hg hat; rw [← Ny159.out] at ho; have n0_ := Aside0.mk (blk_grown (g := gb144) (o := .cells #[.int .i64 a0_0, .int .i64 a0_1, .slice A0_2 l0_2.length c0_2] 35 (0, 0)) (by (with_reducible repeat (first | refine blk_drewN ?_ _ | refine blk_drew ?_ | refine blk_alloc ?_ _)); exact BK144.out) hg (Kd.R_ne HO_9.out BK144.out (by decide))); have n1_ := Aside0.mk (blk_grown (g := gb145) (o := .cells #[.slice (some ad153) l1_0.length c1_0] 36 (0, 0)) (by (with_reducible repeat (first | refine blk_drewN ?_ _ | refine blk_drew ?_ | refine blk_alloc ?_ _)); exact BK145.out) hg (Kd.R_ne HO_9.out BK145.out (by decide))); have n2_ := Aside0.mk (hb); have n3_ := Aside0.mk (ho); clear BK144; clear BK145; clear HB; clear HO_9; have BK144 := n0_; have BK145 := n1_; have HB := n2_; have HO161 := n3_; clear n0_ n1_ n2_ n3_; clear ho hb hg hat; obtain ⟨hcz39_0, hcz39_1, hcz39_2, hfz39_0, hfz39_1, hfz39_2⟩ := cz3_ BK144.out) | ((with_reducible refine gate_callee (f := 62) rfl ?_); refine goesL_ (some 62) rfl rfl Try.func62 (by kernel_rfl) rfl #[.agg #[.int .i64 a0_0, .int .i64 a0_1], .int .i64 x11_1, .int .i64 (rd l1_0 (ji14))] rfl (by (try simp only [List.map_toArray, List.map_cons, List.map_nil]); first | done | (simp only [hji14]; rfl) | rfl | (simp only [List.length_drop, List.length_take]; rfl)) ?_; (with_reducible refine (spec_NextNode.calls a0_0 a0_1 x11_1 (rd l1_0 (ji14)) t162 _ A32.out).mono ?_); rintro e w40 ⟨rfl, hb⟩; refine ⟨_, rfl, ?_⟩; replace HO161 := Aside0.mk (Kd.R_below (ra_ HO161.out) hb); replace BK144 := Aside0.mk (bk_ BK144.out hb); replace BK145 := Aside0.mk (bk_ BK145.out hb); replace HB := Aside0.mk (bs_ HB.out hb); (try clear hb)))
          go_roundg k1
          case measure => have := HK1.out; omega
          case rel => exact ⟨(y159), (t162), ef_, H', ⟨by have := HK1.out; omega⟩, ⟨by (with_reducible repeat (first | apply Kd.R_alloc | apply Kd.R_drewN | apply Kd.R_drew)); exact HO161.out⟩, ⟨bq_ BK144.out⟩, ⟨bq_ BK145.out⟩, ⟨bb_ HB.out⟩⟩
         ·rw [if_neg c31] at H
          exact absurd H (by simp)
        ·replace c30 := Bool.eq_false_iff.mpr c30
         subst c30
         rw [if_neg (show ¬ (false = true) by decide)] at H
         obtain ⟨y163, hy163⟩ : ∃ y_ : List Int, y_ = (([] : List Int)) := ⟨_, rfl⟩
         replace H : (some y163) = some r := by first | (rw [hy163]; with_reducible exact H) | (have H2_ := (Option.bind_some _ _).symm.trans H; rw [hy163]; with_reducible exact H2_) | (have H2_ := (Option.bind_some _ _).symm.trans H; with_reducible exact H2_) | with_reducible exact H | (rw [hy163]; exact H) | exact H
         have Ny163 := Aside0.mk hy163
         clear hy163
         obtain rfl := Option.some.inj H
         obtain ⟨Ao41, co41, eo41⟩ := Kd.R_slice HO_9.out
         subst eo41
         have hnb42 := NB145_144.out
         have hnc42 := NB144_145.out
         obtain ⟨hcz43_0, hfz43_0⟩ := cz1_ BK145.out
         have p153 : 0 ≤ ((ji14) : Int) := of_decide_eq_true dg_
         have q153 : (ji14) < (l1_0.length : Int) := of_decide_eq_true dg_
         obtain ⟨ad153, e153, hx153_0⟩ := Kd.at_int HR1_0.out (ji14) p153 q153
         cases e153
         replace hx153_0 := (HB.out.cell (World.block_lt_of_cell? w _ hx153_0)).trans hx153_0
         replace p153 := eq_true p153
         replace q153 := eq_true q153
         go_wp2_with (first | ((with_reducible refine gate_callee (f := 53) rfl ?_); refine goesL_ (some 39) rfl rfl Try.func53 (by kernel_rfl) rfl #[.int .i64 (rd l1_0 (ji14)), .int .i64 0, .int .i64 3] rfl (by (try simp only [List.map_toArray, List.map_cons, List.map_nil]); first | done | (simp only [hji14]; rfl) | rfl | (simp only [List.length_drop, List.length_take]; rfl)) ?_; (with_reducible refine (spec_l01In.calls (rd l1_0 (ji14)) 0 3 true _ A27.out).mono ?_); rintro e w' ⟨rfl, ⟨nd, rfl⟩⟩; refine ⟨_, rfl, ?_⟩; obtain ⟨hcz44_0, hcz44_1, hcz44_2, hfz44_0, hfz44_1, hfz44_2⟩ := cz3_ BK144.out) | (go_at_call 61; (with_reducible refine (spec_l03Has.calls k1 a0_0 a0_1 _ _ l0_2 (wrap64 ((wrap64 (4 * x11_1)) + (rd l1_0 (ji14)))) false _ ?side1 HC0_2.out A29.out).mono ?_); (case side1 => exact cb_ HR0_2.out HB.out); rintro e w45 ⟨rfl, hb⟩; replace HO_9 := Aside0.mk (Kd.R_below (ra_ HO_9.out) hb); replace BK144 := Aside0.mk (bk_ BK144.out hb); replace BK145 := Aside0.mk (bk_ BK145.out hb); replace HB := Aside0.mk (bs_ HB.out hb); (try clear hb)) | ((with_reducible refine gate_dst (N := 50) rfl ?_); refine Kd.R_lit (Kd.int .i64) _ 3 ?hg (N := 50) ?hd (xs := ([] : List Int)) (inner := []) (ok := fun _ => True) (okp := fun _ => True) ?hr ?hp (fun _ hk => hk) trivial (Below.refl _ _) (Nat.le_refl _) (by simp) ?_; (case hd => rfl); (case hg => rfl); (case hr => first | (go_simp; done) | (go_simp; rfl)); (case hp => exact (Reps.none _ _)); intro v164 w46 ho47 hb hg_ hnew_; clear hg_ hnew_; (first | rw [← Ny163.out] at ho47 | (simp only [Int.reduceToNat] at ho47; rw [← Ny163.out] at ho47)); have HO165 := Aside0.mk (Kd.R_lower (Kd.R_new' ho47 (rl_ HO_9.out)) (bz_ HB.out)); replace HO_9 := Aside0.mk (Kd.R_elder' (ra_ HO_9.out) (Kd.R_base ho47) hb); replace BK144 := Aside0.mk (bk_ BK144.out hb); replace BK145 := Aside0.mk (bk_ BK145.out hb); replace HB := Aside0.mk (bs_ HB.out hb); clear hb ho47))
         go_ret
         exact ⟨_, by first | rfl | (simp [errW_none, errW_some] <;> rfl) | (simp only [← hji14]; first | rfl | (simp [errW_none, errW_some] <;> rfl)) | (simp [*, errW_none, errW_some] <;> rfl), by (with_reducible repeat (first | apply Kd.R_alloc | apply Kd.R_drewN | apply Kd.R_drew)); exact Kd.R_mono HO165.out (fun _ hk => trivial), bb_ HB.out⟩
       ·replace c28 := Bool.eq_false_iff.mpr c28
        subst c28
        rw [if_neg (show ¬ (false = true) by decide)] at H
        obtain ⟨y166, hy166⟩ : ∃ y_ : List Int, y_ = (([] : List Int)) := ⟨_, rfl⟩
        replace H : (some y166) = some r := by first | (rw [hy166]; with_reducible exact H) | (have H2_ := (Option.bind_some _ _).symm.trans H; rw [hy166]; with_reducible exact H2_) | (have H2_ := (Option.bind_some _ _).symm.trans H; with_reducible exact H2_) | with_reducible exact H | (rw [hy166]; exact H) | exact H
        have Ny166 := Aside0.mk hy166
        clear hy166
        obtain rfl := Option.some.inj H
        obtain ⟨Ao48, co48, eo48⟩ := Kd.R_slice HO_9.out
        subst eo48
        have hnb49 := NB145_144.out
        have hnc49 := NB144_145.out
        obtain ⟨hcz50_0, hfz50_0⟩ := cz1_ BK145.out
        have p153 : 0 ≤ ((ji14) : Int) := of_decide_eq_true dg_
        have q153 : (ji14) < (l1_0.length : Int) := of_decide_eq_true dg_
        obtain ⟨ad153, e153, hx153_0⟩ := Kd.at_int HR1_0.out (ji14) p153 q153
        cases e153
        replace hx153_0 := (HB.out.cell (World.block_lt_of_cell? w _ hx153_0)).trans hx153_0
        replace p153 := eq_true p153
        replace q153 := eq_true q153
        go_wp2_with (first | ((with_reducible refine gate_callee (f := 53) rfl ?_); refine goesL_ (some 39) rfl rfl Try.func53 (by kernel_rfl) rfl #[.int .i64 (rd l1_0 (ji14)), .int .i64 0, .int .i64 3] rfl (by (try simp only [List.map_toArray, List.map_cons, List.map_nil]); first | done | (simp only [hji14]; rfl) | rfl | (simp only [List.length_drop, List.length_take]; rfl)) ?_; (with_reducible refine (spec_l01In.calls (rd l1_0 (ji14)) 0 3 false _ A27.out).mono ?_); rintro e w' ⟨rfl, ⟨nd, rfl⟩⟩; refine ⟨_, rfl, ?_⟩) | ((with_reducible refine gate_dst (N := 50) rfl ?_); refine Kd.R_lit (Kd.int .i64) _ 3 ?hg (N := 50) ?hd (xs := ([] : List Int)) (inner := []) (ok := fun _ => True) (okp := fun _ => True) ?hr ?hp (fun _ hk => hk) trivial (Below.refl _ _) (Nat.le_refl _) (by simp) ?_; (case hd => rfl); (case hg => rfl); (case hr => first | (go_simp; done) | (go_simp; rfl)); (case hp => exact (Reps.none _ _)); intro v167 w51 ho52 hb hg_ hnew_; clear hg_ hnew_; (first | rw [← Ny166.out] at ho52 | (simp only [Int.reduceToNat] at ho52; rw [← Ny166.out] at ho52)); have HO168 := Aside0.mk (Kd.R_lower (Kd.R_new' ho52 (rl_ HO_9.out)) (bz_ HB.out)); replace HO_9 := Aside0.mk (Kd.R_elder' (ra_ HO_9.out) (Kd.R_base ho52) hb); replace BK144 := Aside0.mk (bk_ BK144.out hb); replace BK145 := Aside0.mk (bk_ BK145.out hb); replace HB := Aside0.mk (bs_ HB.out hb); clear hb ho52))
        go_ret
        exact ⟨_, by first | rfl | (simp [errW_none, errW_some] <;> rfl) | (simp only [← hji14]; first | rfl | (simp [errW_none, errW_some] <;> rfl)) | (simp [*, errW_none, errW_some] <;> rfl), by (with_reducible repeat (first | apply Kd.R_alloc | apply Kd.R_drewN | apply Kd.R_drew)); exact Kd.R_mono HO168.out (fun _ hk => trivial), bb_ HB.out⟩
     ·rw [if_neg c16] at H
      exact absurd H (by simp)
    ·rw [if_neg c15] at H
     exact absurd H (by simp)
   ·rw [if_neg c13] at H
    have c13b0 : decide ((x9_1.length : Int) ≤ t149) = false := decide_eq_false c13
    clear c13
    obtain ⟨y150, hy150⟩ : ∃ y_ : List Int, y_ = (([] : List Int)) := ⟨_, rfl⟩
    replace H : (some y150) = some r := by first | (rw [hy150]; with_reducible exact H) | (have H2_ := (Option.bind_some _ _).symm.trans H; rw [hy150]; with_reducible exact H2_) | (have H2_ := (Option.bind_some _ _).symm.trans H; with_reducible exact H2_) | with_reducible exact H | (rw [hy150]; exact H) | exact H
    have Ny150 := Aside0.mk hy150
    clear hy150
    obtain rfl := Option.some.inj H
    obtain ⟨Ao53, co53, eo53⟩ := Kd.R_slice HO_9.out
    subst eo53
    go_wp2_with (first | ((with_reducible refine gate_dst (N := 63) rfl ?_); refine Kd.R_lit (Kd.int .i64) _ 3 ?hg (N := 63) ?hd (xs := ([] : List Int)) (inner := []) (ok := fun _ => True) (okp := fun _ => True) ?hr ?hp (fun _ hk => hk) trivial (Below.refl _ _) (Nat.le_refl _) (by simp) ?_; (case hd => rfl); (case hg => rfl); (case hr => first | (go_simp; done) | (go_simp; rfl)); (case hp => exact (Reps.none _ _)); intro v151 w54 ho55 hb hg_ hnew_; clear hg_ hnew_; (first | rw [← Ny150.out] at ho55 | (simp only [Int.reduceToNat] at ho55; rw [← Ny150.out] at ho55)); have HO152 := Aside0.mk (Kd.R_lower (Kd.R_new' ho55 (rl_ HO_9.out)) (bz_ HB.out)); replace HO_9 := Aside0.mk (Kd.R_elder' (ra_ HO_9.out) (Kd.R_base ho55) hb); replace BK144 := Aside0.mk (bk_ BK144.out hb); replace BK145 := Aside0.mk (bk_ BK145.out hb); replace HB := Aside0.mk (bs_ HB.out hb); clear hb ho55))
    go_ret
    exact ⟨_, fin_, by (with_reducible repeat (first | apply Kd.R_alloc | apply Kd.R_drewN | apply Kd.R_drew)); exact Kd.R_mono HO152.out (fun _ hk => trivial), bb_ HB.out⟩

/-! ### spec_TableOk: function 41 -/
mutual
def spec_TableOk.l0 : Nat → Int → Int → Int → Int → List Int → List Int → Option (Bool)
 | 0, _, _, _, _, _, _ => none
 | k + 1, x5, x6, x170000, x170001, x170002, x171000 => if x6 < x5 then (spec_TableOk.l1 k x5 x6 0 x170000 x170001 x170002 x171000) else (some true)
def spec_TableOk.l1 : Nat → Int → Int → Int → Int → Int → List Int → List Int → Option (Bool)
 | 0, _, _, _, _, _, _, _ => none
 | k + 1, x5, x6, x7, x170000, x170001, x170002, x171000 => if x7 < x5 then (if x6 = x7 then (if 0 ≤ (wrap64 ((wrap64 (x6 * x5)) + x6)) then (if (wrap64 ((wrap64 (x6 * x5)) + x6)) < (x171000.length : Int) then (if (rd x171000 (wrap64 ((wrap64 (x6 * x5)) + x6))) = 4 then (spec_TableOk.l1 k x5 x6 (wrap64 (x7 + 1)) x170000 x170001 x170002 x171000) else (some false)) else (none)) else (none)) else ((spec_l04Walk.f k x170000 x170001 x170002 x171000 x6 x7).bind fun t174 => (if (t174.length : Int) = 0 then (some false) else (spec_TableOk.l1 k x5 x6 (wrap64 (x7 + 1)) x170000 x170001 x170002 x171000)))) else (spec_TableOk.l0 k x5 (wrap64 (x6 + 1)) x170000 x170001 x170002 x171000)
end
def spec_TableOk.f (k : Nat) (a0_0 : Int) (a0_1 : Int) (l0_2 : List Int) (l1_0 : List Int) : Option (Bool) := (spec_l04Sized.f k a0_0 a0_1 l0_2 l1_0).bind fun t171 => (if t171 = true then ((spec_NodeCount.f a0_0 a0_1).bind fun t172 => (spec_TableOk.l0 k t172 0 a0_0 a0_1 l0_2 l1_0)) else (some false))
theorem spec_TableOk.mono_l : ∀ k, (∀ y0 y1 y2 y3 y4 y5, LeO (spec_TableOk.l0 k y0 y1 y2 y3 y4 y5) (spec_TableOk.l0 (k + 1) y0 y1 y2 y3 y4 y5)) ∧ (∀ y0 y1 y2 y3 y4 y5 y6, LeO (spec_TableOk.l1 k y0 y1 y2 y3 y4 y5 y6) (spec_TableOk.l1 (k + 1) y0 y1 y2 y3 y4 y5 y6))
 | 0 => ⟨fun _ _ _ _ _ _ r h => by simp [spec_TableOk.l0] at h, fun _ _ _ _ _ _ _ r h => by simp [spec_TableOk.l1] at h⟩
 | k + 1 => by
  obtain ⟨ih0, ih1⟩ := spec_TableOk.mono_l k
  refine ⟨?_, ?_⟩
  ·intro y0 y1 y2 y3 y4 y5
   unfold spec_TableOk.l0
   repeat' first
   | (with_reducible exact ih0 _ _ _ _ _ _)
   | (with_reducible exact ih1 _ _ _ _ _ _ _)
   | (with_reducible exact spec_l04Sized.mono _ _ _ _ _)
   | (with_reducible exact spec_l04Walk.mono _ _ _ _ _ _ _)
   | (with_reducible exact LeO.refl _)
   | (with_reducible exact LeO.none _)
   | (with_reducible refine LeO.ite ?_ ?_)
   | (with_reducible refine LeO.bind ?_ (fun _ => ?_))
   | exact ih0 _ _ _ _ _ _
   | exact ih1 _ _ _ _ _ _ _
   | exact spec_l04Sized.mono _ _ _ _ _
   | exact spec_l04Walk.mono _ _ _ _ _ _ _
   | exact LeO.none _
   | refine LeO.ite ?_ ?_
   | refine LeO.bind ?_ (fun _ => ?_)
  ·intro y0 y1 y2 y3 y4 y5 y6
   unfold spec_TableOk.l1
   repeat' first
   | (with_reducible exact ih0 _ _ _ _ _ _)
   | (with_reducible exact ih1 _ _ _ _ _ _ _)
   | (with_reducible exact spec_l04Sized.mono _ _ _ _ _)
   | (with_reducible exact spec_l04Walk.mono _ _ _ _ _ _ _)
   | (with_reducible exact LeO.refl _)
   | (with_reducible exact LeO.none _)
   | (with_reducible refine LeO.ite ?_ ?_)
   | (with_reducible refine LeO.bind ?_ (fun _ => ?_))
   | exact ih0 _ _ _ _ _ _
   | exact ih1 _ _ _ _ _ _ _
   | exact spec_l04Sized.mono _ _ _ _ _
   | exact spec_l04Walk.mono _ _ _ _ _ _ _
   | exact LeO.none _
   | refine LeO.ite ?_ ?_
   | refine LeO.bind ?_ (fun _ => ?_)
theorem spec_TableOk.mono : ∀ a0 a1 a2 a3 k, LeO (spec_TableOk.f k a0 a1 a2 a3) (spec_TableOk.f (k + 1) a0 a1 a2 a3) := by
 intro a0 a1 a2 a3 k
 obtain ⟨ih0, ih1⟩ := spec_TableOk.mono_l k
 unfold spec_TableOk.f
 repeat' first
   | (with_reducible exact ih0 _ _ _ _ _ _)
   | (with_reducible exact ih1 _ _ _ _ _ _ _)
   | (with_reducible exact spec_l04Sized.mono _ _ _ _ _)
   | (with_reducible exact spec_l04Walk.mono _ _ _ _ _ _ _)
   | (with_reducible exact LeO.refl _)
   | (with_reducible exact LeO.none _)
   | (with_reducible refine LeO.ite ?_ ?_)
   | (with_reducible refine LeO.bind ?_ (fun _ => ?_))
   | exact ih0 _ _ _ _ _ _
   | exact ih1 _ _ _ _ _ _ _
   | exact spec_l04Sized.mono _ _ _ _ _
   | exact spec_l04Walk.mono _ _ _ _ _ _ _
   | exact LeO.none _
   | refine LeO.ite ?_ ?_
   | refine LeO.bind ?_ (fun _ => ?_)
set_option maxHeartbeats 8000000 in
set_option maxRecDepth 100000 in
theorem spec_TableOk.calls (k : Nat) (a0_0 : Int) (a0_1 : Int) (A0_2 : Option Addr) (c0_2 : Nat) (l0_2 : List Int) (A1_0 : Option Addr) (c1_0 : Nat) (l1_0 : List Int) (r : Bool) (w : World) (hr0_2 : Kd.C (Kd.int .i64) w A0_2 l0_2.length l0_2) (hc0_2 : l0_2.length ≤ c0_2) (hr1_0 : Kd.C (Kd.int .i64) w A1_0 l1_0.length l1_0) (hc1_0 : l1_0.length ≤ c1_0) (h : spec_TableOk.f k a0_0 a0_1 l0_2 l1_0 = some r) :
  Calls Try.prog 41 #[.agg #[.int .i64 a0_0, .int .i64 a0_1, .slice A0_2 l0_2.length c0_2], .agg #[.slice A1_0 l1_0.length c1_0]] w fun e w' => e = .returned (.bool r) ∧ Below w.heap.size w w' := by
 have hu35 := Try.underlying35
 have hu36 := Try.underlying36
 have hu33 := Try.underlying33
 have HR0_2 := Aside0.mk hr0_2
 have HC0_2 := Aside0.mk hc0_2
 clear hr0_2 hc0_2
 have HR1_0 := Aside0.mk hr1_0
 have HC1_0 := Aside0.mk hc1_0
 clear hr1_0 hc1_0
 have HB := Aside0.mk (Below.refl w.heap.size w)
 have H : ((spec_l04Sized.f k a0_0 a0_1 l0_2 l1_0).bind fun t171 => (if t171 = true then ((spec_NodeCount.f a0_0 a0_1).bind fun t172 => (spec_TableOk.l0 k t172 0 a0_0 a0_1 l0_2 l1_0)) else (some false))) = some r := h
 clear h
 replace H := Option.bind_eq_some_iff.mp H
 obtain ⟨t171, A30, H⟩ := H
 try dsimp only at H
 have A3 := Aside0.mk A30
 clear A30
 by_cases c4 : t171 = true
 ·subst c4
  rw [if_pos rfl] at H
  replace H := Option.bind_eq_some_iff.mp H
  obtain ⟨t172, A50, H⟩ := H
  try dsimp only at H
  have A5 := Aside0.mk A50
  clear A50
  have H' := Aside0.mk H
  clear H
  go_enter Try.func41, Try.ntmps41
  go_wp2_with (first | ((with_reducible refine gate_dst (N := 2) rfl ?_); (try (refine gate_guard (by rfl) ?_; dsimp only)); refine box_event ?hg (N := 2) ?hd (cs := #[.int .i64 a0_0, .int .i64 a0_1, .slice A0_2 l0_2.length c0_2]) (t := 35) ?hr ?_; (case hd => rfl); (case hg => rfl); (case hr => first | (go_simp; done) | (go_simp; rfl)); intro gb169 hg w6 hbox hb; have BK169 := Aside0.mk (hbox); have GW169 := Aside0.mk ((by rw [hg]; exact (bz_ HB.out) : w.heap.size ≤ gb169)); have GE169 := Aside0.mk ((by rw [hg]; exact (bz_ HB.out) : w.heap.size ≤ gb169)); replace HB := Aside0.mk (bs_ HB.out hb); clear hb hbox hg) | ((with_reducible refine gate_dst (N := 3) rfl ?_); (try (refine gate_guard (by rfl) ?_; dsimp only)); refine box_event ?hg (N := 3) ?hd (cs := #[.slice A1_0 l1_0.length c1_0]) (t := 36) ?hr ?_; (case hd => rfl); (case hg => rfl); (case hr => first | (go_simp; done) | (go_simp; rfl)); intro gb170 hg w7 hbox hb; have BK170 := Aside0.mk (hbox); have GW170 := Aside0.mk ((by rw [hg]; exact (bz_ HB.out) : w.heap.size ≤ gb170)); have GE170 := Aside0.mk ((by rw [hg]; exact (bz_ HB.out) : w.heap.size ≤ gb170)); replace HB := Aside0.mk (bs_ HB.out hb); have NB169_170 := Aside0.mk ((by rw [hg]; exact Nat.ne_of_lt (bl_ BK169.out) : gb169 ≠ gb170)); have NB170_169 := Aside0.mk ((by rw [hg]; exact Nat.ne_of_gt (bl_ BK169.out) : gb170 ≠ gb169)); replace BK169 := Aside0.mk (bk_ BK169.out hb); clear hb hbox hg; have hnb8 := NB169_170.out; have hnc8 := NB170_169.out; obtain ⟨hcz9_0, hcz9_1, hcz9_2, hfz9_0, hfz9_1, hfz9_2⟩ := cz3_ BK169.out; obtain ⟨hcz10_0, hfz10_0⟩ := cz1_ BK170.out) | ((with_reducible refine gate_callee (f := 51) rfl ?_); refine gm_ (some 10) Try.func51 #[.agg #[.int .i64 a0_0, .int .i64 a0_1, .slice A0_2 l0_2.length c0_2], .agg #[.slice A1_0 l1_0.length c1_0]] rfl ?_; (with_reducible refine (spec_l04Sized.calls k a0_0 a0_1 _ _ l0_2 _ _ l1_0 true _ ?side1 HC0_2.out ?side3 HC1_0.out A3.out).mono ?_); (case side1 => exact cb_ HR0_2.out HB.out); (case side3 => exact cb_ HR1_0.out HB.out); rintro e w11 ⟨rfl, hb⟩; refine ⟨_, rfl, ?_⟩; replace BK169 := Aside0.mk (bk_ BK169.out hb); replace BK170 := Aside0.mk (bk_ BK170.out hb); replace HB := Aside0.mk (bs_ HB.out hb); (try clear hb); obtain ⟨hcz12_0, hcz12_1, hcz12_2, hfz12_0, hfz12_1, hfz12_2⟩ := cz3_ BK169.out) | ((with_reducible refine gate_callee (f := 20) rfl ?_); refine gm_ (some 14) Try.func20 #[.agg #[.int .i64 a0_0, .int .i64 a0_1]] rfl ?_; (with_reducible refine (spec_NodeCount.calls a0_0 a0_1 t172 _ A5.out).mono ?_); rintro e w13 ⟨rfl, hb⟩; refine ⟨_, rfl, ?_⟩; replace BK169 := Aside0.mk (bk_ BK169.out hb); replace BK170 := Aside0.mk (bk_ BK170.out hb); replace HB := Aside0.mk (bs_ HB.out hb); (try clear hb)))
  go_loopg [6] k (fun kq v6 w' => ∃ (x6_1 : Int), v6 = .int .i64 x6_1 ∧ Aside0 (spec_TableOk.l0 kq t172 x6_1 a0_0 a0_1 l0_2 l1_0 = some r) ∧ Aside0 (kq ≤ k) ∧ Aside0 (w'.heap[gb169]? = some (.cells #[.int .i64 a0_0, .int .i64 a0_1, (.slice A0_2 l0_2.length c0_2)] 35 (0, 0))) ∧ Aside0 (w'.heap[gb170]? = some (.cells #[(.slice A1_0 l1_0.length c1_0)] 36 (0, 0))) ∧ Aside0 (Below w.heap.size w w'))
  case atStart => exact ⟨(0), ef_, H', ⟨Nat.le_refl _⟩, ⟨bq_ BK169.out⟩, ⟨bq_ BK170.out⟩, ⟨bb_ HB.out⟩⟩
  case round =>
   clear H'
   try clear c4
   try clear hcz10_0 hfz10_0
   try clear hcz12_0 hcz12_1 hcz12_2 hfz12_0 hfz12_1 hfz12_2
   try clear hcz9_0 hcz9_1 hcz9_2 hfz9_0 hfz9_1 hfz9_2
   obtain ⟨x6_1, rfl, HA, HK1, BK169, BK170, HB⟩ := hrel
   cases gk with
   | zero => exact absurd HA.out (by simp [spec_TableOk.l0])
   | succ k1 =>
    have H := HA.out
    clear HA
    simp only [spec_TableOk.l0] at H
    by_cases c14 : x6_1 < t172
    ·rw [if_pos c14] at H
     have c14b0 : decide (x6_1 < t172) = true := decide_eq_true c14
     clear c14
     have H' := Aside0.mk H
     clear H
     go_wp2
     go_loopg [7] k1 (fun kq v7 w' => ∃ (x7_2 : Int), v7 = .int .i64 x7_2 ∧ Aside0 (spec_TableOk.l1 kq t172 x6_1 x7_2 a0_0 a0_1 l0_2 l1_0 = some r) ∧ Aside0 (kq ≤ k1) ∧ Aside0 (w'.heap[gb169]? = some (.cells #[.int .i64 a0_0, .int .i64 a0_1, (.slice A0_2 l0_2.length c0_2)] 35 (0, 0))) ∧ Aside0 (w'.heap[gb170]? = some (.cells #[(.slice A1_0 l1_0.length c1_0)] 36 (0, 0))) ∧ Aside0 (Below w.heap.size w w'))
     case atStart => exact ⟨(0), ef_, H', ⟨Nat.le_refl _⟩, ⟨bq_ BK169.out⟩, ⟨bq_ BK170.out⟩, ⟨bb_ HB.out⟩⟩
     case round =>
      clear H'
      try clear c4
      try clear c14
      try clear c14b0
      try clear hcz10_0 hfz10_0
      try clear hcz12_0 hcz12_1 hcz12_2 hfz12_0 hfz12_1 hfz12_2
      try clear hcz9_0 hcz9_1 hcz9_2 hfz9_0 hfz9_1 hfz9_2
      obtain ⟨x7_2, rfl, HA, HK2, BK169, BK170, HB⟩ := hrel
      cases gk with
      | zero => exact absurd HA.out (by simp [spec_TableOk.l1])
      | succ k2 =>
       have H := HA.out
       clear HA
       simp only [spec_TableOk.l1] at H
       by_cases c15 : x7_2 < t172
       ·rw [if_pos c15] at H
        have c15b0 : decide (x7_2 < t172) = true := decide_eq_true c15
        clear c15
        by_cases c16 : x6_1 = x7_2
        ·rw [if_pos c16] at H
         have c16b0 : (x6_1 == x7_2) = true := beq_iff_eq.mpr c16
         have c16b1 : (x6_1 != x7_2) = false := bne_eq_false_iff_eq.mpr c16
         clear c16
         obtain ⟨ji17, hji17⟩ : ∃ j_ : Int, (wrap64 ((wrap64 (x6_1 * t172)) + x6_1)) = j_ := ⟨_, rfl⟩
         replace H : (if 0 ≤ (ji17) then (if (ji17) < (l1_0.length : Int) then (if (rd l1_0 (ji17)) = 4 then (spec_TableOk.l1 k2 t172 x6_1 (wrap64 (x7_2 + 1)) a0_0 a0_1 l0_2 l1_0) else (some false)) else (none)) else (none)) = some r := by first | (rw [hji17] at H; exact H) | (simp only [hji17] at H ⊢; exact H)
         have hji17w : (IntKind.i64.wrap ((wrap64 (x6_1 * t172)) + x6_1)) = ji17 := (i64_w _).trans hji17
         by_cases c18 : 0 ≤ (ji17)
         ·rw [if_pos c18] at H
          have c18b0 : decide (0 ≤ (ji17)) = true := decide_eq_true c18
          clear c18
          by_cases c19 : (ji17) < (l1_0.length : Int)
          ·rw [if_pos c19] at H
           have c19b0 : decide ((ji17) < (l1_0.length : Int)) = true := decide_eq_true c19
           clear c19
           by_cases c20 : (rd l1_0 (ji17)) = 4
           ·rw [if_pos c20] at H
            have c20b0 : ((rd l1_0 (ji17)) == 4) = true := beq_iff_eq.mpr c20
            have c20b1 : ((rd l1_0 (ji17)) != 4) = false := bne_eq_false_iff_eq.mpr c20
            clear c20
            have H' := Aside0.mk H
            clear H
            have hnb21 := NB170_169.out
            have hnc21 := NB169_170.out
            obtain ⟨hcz22_0, hfz22_0⟩ := cz1_ BK170.out
            have p173 : 0 ≤ ((ji17) : Int) := of_decide_eq_true dg_
            have q173 : (ji17) < (l1_0.length : Int) := of_decide_eq_true dg_
            obtain ⟨ad173, e173, hx173_0⟩ := Kd.at_int HR1_0.out (ji17) p173 q173
            cases e173
            replace hx173_0 := (HB.out.cell (World.block_lt_of_cell? w _ hx173_0)).trans hx173_0
            replace p173 := eq_true p173
            replace q173 := eq_true q173
            go_wp2
            go_roundg k2
            case measure => have := HK1.out; have := HK2.out; omega
            case rel => exact ⟨(wrap64 (x7_2 + 1)), ef_, H', ⟨by have := HK1.out; have := HK2.out; omega⟩, ⟨bq_ BK169.out⟩, ⟨bq_ BK170.out⟩, ⟨bb_ HB.out⟩⟩
           ·rw [if_neg c20] at H
            have c20b0 : ((rd l1_0 (ji17)) == 4) = false := beq_eq_false_iff_ne.mpr c20
            have c20b1 : ((rd l1_0 (ji17)) != 4) = true := bne_iff_ne.mpr c20
            obtain rfl := Option.some.inj H
            have hnb23 := NB170_169.out
            have hnc23 := NB169_170.out
            obtain ⟨hcz24_0, hfz24_0⟩ := cz1_ BK170.out
            have p173 : 0 ≤ ((ji17) : Int) := of_decide_eq_true dg_
            have q173 : (ji17) < (l1_0.length : Int) := of_decide_eq_true dg_
            obtain ⟨ad173, e173, hx173_0⟩ := Kd.at_int HR1_0.out (ji17) p173 q173
            cases e173
            replace hx173_0 := (HB.out.cell (World.block_lt_of_cell? w _ hx173_0)).trans hx173_0
            replace p173 := eq_true p173
            replace q173 := eq_true q173
            go_wp2
            go_ret
            exact ⟨by first | rfl | (simp [errW_none, errW_some] <;> rfl) | (simp only [← hji17]; first | rfl | (simp [errW_none, errW_some] <;> rfl)) | (simp [*, errW_none, errW_some] <;> rfl), bb_ HB.out⟩
          ·rw [if_neg c19] at H
           exact absurd H (by simp)
         ·rw [if_neg c18] at H
          exact absurd H (by simp)
        ·rw [if_neg c16] at H
         have c16b0 : (x6_1 == x7_2) = false := beq_eq_false_iff_ne.mpr c16
         have c16b1 : (x6_1 != x7_2) = true := bne_iff_ne.mpr c16
         replace H := Option.bind_eq_some_iff.mp H
         obtain ⟨t174, A250, H⟩ := H
         try dsimp only at H
         have A25 := Aside0.mk A250
         clear A250
         by_cases c26 : (t174.length : Int) = 0
         ·rw [if_pos c26] at H
          have c26b0 : ((t174.length : Int) == 0) = true := beq_iff_eq.mpr c26
          have c26b1 : ((t174.length : Int) != 0) = false := bne_eq_false_iff_eq.mpr c26
          clear c26
          obtain rfl := Option.some.inj H
          have hnb27 := NB169_170.out
          have hnc27 := NB170_169.out
          obtain ⟨hcz28_0, hcz28_1, hcz28_2, hfz28_0, hfz28_1, hfz28_2⟩ := cz3_ BK169.out
          obtain ⟨hcz29_0, hfz29_0⟩ := cz1_ BK170.out
          go_wp2_with (first | (go_at_call 52; (with_reducible refine (spec_l04Walk.calls k2 a0_0 a0_1 _ _ l0_2 _ _ l1_0 x6_1 x7_2 t174 _ ?side1 HC0_2.out ?side3 HC1_0.out A25.out).mono ?_); (case side1 => exact cb_ HR0_2.out HB.out); (case side3 => exact cb_ HR1_0.out HB.out); rintro e w30 ⟨v175, rfl, ho0, hb⟩; have HO176 := Aside0.mk (Kd.R_lower ho0 (bz_ HB.out)); replace BK169 := Aside0.mk (bk_ BK169.out hb); replace BK170 := Aside0.mk (bk_ BK170.out hb); replace HB := Aside0.mk (bs_ HB.out hb); (try clear hb); (try clear ho0); obtain ⟨Ao31, co31, eo31⟩ := Kd.R_slice HO176.out; subst eo31))
          go_ret
          exact ⟨fin_, bb_ HB.out⟩
         ·rw [if_neg c26] at H
          have c26b0 : ((t174.length : Int) == 0) = false := beq_eq_false_iff_ne.mpr c26
          have c26b1 : ((t174.length : Int) != 0) = true := bne_iff_ne.mpr c26
          have c26b2 : ¬ (t174 = []) := fun h_ => c26 (by rw [h_]; rfl)
          have H' := Aside0.mk H
          clear H
          have hnb32 := NB169_170.out
          have hnc32 := NB170_169.out
          obtain ⟨hcz33_0, hcz33_1, hcz33_2, hfz33_0, hfz33_1, hfz33_2⟩ := cz3_ BK169.out
          obtain ⟨hcz34_0, hfz34_0⟩ := cz1_ BK170.out
          go_wp2_with (first | (go_at_call 52; (with_reducible refine (spec_l04Walk.calls k2 a0_0 a0_1 _ _ l0_2 _ _ l1_0 x6_1 x7_2 t174 _ ?side1 HC0_2.out ?side3 HC1_0.out A25.out).mono ?_); (case side1 => exact cb_ HR0_2.out HB.out); (case side3 => exact cb_ HR1_0.out HB.out); rintro e w35 ⟨v175, rfl, ho0, hb⟩; have HO176 := Aside0.mk (Kd.R_lower ho0 (bz_ HB.out)); replace BK169 := Aside0.mk (bk_ BK169.out hb); replace BK170 := Aside0.mk (bk_ BK170.out hb); replace HB := Aside0.mk (bs_ HB.out hb); (try clear hb); (try clear ho0); obtain ⟨Ao36, co36, eo36⟩ := Kd.R_slice HO176.out; subst eo36))
          go_roundg k2
          case measure => have := HK1.out; have := HK2.out; omega
          case rel => exact ⟨(wrap64 (x7_2 + 1)), ef_, H', ⟨by have := HK1.out; have := HK2.out; omega⟩, ⟨bq_ BK169.out⟩, ⟨bq_ BK170.out⟩, ⟨bb_ HB.out⟩⟩
       ·rw [if_neg c15] at H
        have c15b0 : decide (x7_2 < t172) = false := decide_eq_false c15
        clear c15
        have H' := Aside0.mk H
        clear H
        go_wp2
        go_roundg k2
        case measure => have := HK1.out; have := HK2.out; omega
        case rel => exact ⟨(wrap64 (x6_1 + 1)), ef_, H', ⟨by have := HK1.out; have := HK2.out; omega⟩, ⟨bq_ BK169.out⟩, ⟨bq_ BK170.out⟩, ⟨bb_ HB.out⟩⟩
    ·rw [if_neg c14] at H
     have c14b0 : decide (x6_1 < t172) = false := decide_eq_false c14
     clear c14
     obtain rfl := Option.some.inj H
     go_wp2
     go_ret
     exact ⟨fin_, bb_ HB.out⟩
 ·replace c4 := Bool.eq_false_iff.mpr c4
  subst c4
  rw [if_neg (show ¬ (false = true) by decide)] at H
  obtain rfl := Option.some.inj H
  go_enter Try.func41, Try.ntmps41
  go_wp2_with (first | ((with_reducible refine gate_dst (N := 2) rfl ?_); (try (refine gate_guard (by rfl) ?_; dsimp only)); refine box_event ?hg (N := 2) ?hd (cs := #[.int .i64 a0_0, .int .i64 a0_1, .slice A0_2 l0_2.length c0_2]) (t := 35) ?hr ?_; (case hd => rfl); (case hg => rfl); (case hr => first | (go_simp; done) | (go_simp; rfl)); intro gb169 hg w37 hbox hb; have BK169 := Aside0.mk (hbox); have GW169 := Aside0.mk ((by rw [hg]; exact (bz_ HB.out) : w.heap.size ≤ gb169)); have GE169 := Aside0.mk ((by rw [hg]; exact (bz_ HB.out) : w.heap.size ≤ gb169)); replace HB := Aside0.mk (bs_ HB.out hb); clear hb hbox hg) | ((with_reducible refine gate_dst (N := 3) rfl ?_); (try (refine gate_guard (by rfl) ?_; dsimp only)); refine box_event ?hg (N := 3) ?hd (cs := #[.slice A1_0 l1_0.length c1_0]) (t := 36) ?hr ?_; (case hd => rfl); (case hg => rfl); (case hr => first | (go_simp; done) | (go_simp; rfl)); intro gb170 hg w38 hbox hb; have BK170 := Aside0.mk (hbox); have GW170 := Aside0.mk ((by rw [hg]; exact (bz_ HB.out) : w.heap.size ≤ gb170)); have GE170 := Aside0.mk ((by rw [hg]; exact (bz_ HB.out) : w.heap.size ≤ gb170)); replace HB := Aside0.mk (bs_ HB.out hb); have NB169_170 := Aside0.mk ((by rw [hg]; exact Nat.ne_of_lt (bl_ BK169.out) : gb169 ≠ gb170)); have NB170_169 := Aside0.mk ((by rw [hg]; exact Nat.ne_of_gt (bl_ BK169.out) : gb170 ≠ gb169)); replace BK169 := Aside0.mk (bk_ BK169.out hb); clear hb hbox hg; have hnb39 := NB169_170.out; have hnc39 := NB170_169.out; obtain ⟨hcz40_0, hcz40_1, hcz40_2, hfz40_0, hfz40_1, hfz40_2⟩ := cz3_ BK169.out; obtain ⟨hcz41_0, hfz41_0⟩ := cz1_ BK170.out) | ((with_reducible refine gate_callee (f := 51) rfl ?_); refine gm_ (some 10) Try.func51 #[.agg #[.int .i64 a0_0, .int .i64 a0_1, .slice A0_2 l0_2.length c0_2], .agg #[.slice A1_0 l1_0.length c1_0]] rfl ?_; (with_reducible refine (spec_l04Sized.calls k a0_0 a0_1 _ _ l0_2 _ _ l1_0 false _ ?side1 HC0_2.out ?side3 HC1_0.out A3.out).mono ?_); (case side1 => exact cb_ HR0_2.out HB.out); (case side3 => exact cb_ HR1_0.out HB.out); rintro e w42 ⟨rfl, hb⟩; refine ⟨_, rfl, ?_⟩; replace BK169 := Aside0.mk (bk_ BK169.out hb); replace BK170 := Aside0.mk (bk_ BK170.out hb); replace HB := Aside0.mk (bs_ HB.out hb); (try clear hb)))
  go_ret
  exact ⟨fin_, bb_ HB.out⟩

/-! ### spec_ClassesOk: function 19 -/
def spec_ClassesOk.f (k : Nat) (a0_0 : Int) (a0_1 : Int) (l0_2 : List Int) (l1_0 : List Int) (l1_1 : List Int) : Option (Bool) := (spec_TableOk.f k a0_0 a0_1 l0_2 l1_0).bind fun t179 => (if t179 = true then ((spec_TableOk.f k a0_0 a0_1 l0_2 l1_1).bind fun t180 => (some t180)) else (some false))
theorem spec_ClassesOk.mono : ∀ a0 a1 a2 a3 a4 k, LeO (spec_ClassesOk.f k a0 a1 a2 a3 a4) (spec_ClassesOk.f (k + 1) a0 a1 a2 a3 a4) := by
 intro a0 a1 a2 a3 a4 k
 unfold spec_ClassesOk.f
 repeat' first
   | (with_reducible exact spec_TableOk.mono _ _ _ _ _)
   | (with_reducible exact LeO.refl _)
   | (with_reducible exact LeO.none _)
   | (with_reducible refine LeO.ite ?_ ?_)
   | (with_reducible refine LeO.bind ?_ (fun _ => ?_))
   | exact spec_TableOk.mono _ _ _ _ _
   | exact LeO.none _
   | refine LeO.ite ?_ ?_
   | refine LeO.bind ?_ (fun _ => ?_)
theorem spec_ClassesOk.e0 {P : Prop} (h : P := by
 go_enter Try.func19, Try.ntmps19
 go_wp2_with (first | ((with_reducible refine gate_dst (N := 2) rfl ?_); refine box_event ?hg (N := 2) ?hd (cs := #[.int .i64 a0_0, .int .i64 a0_1, .slice A0_2 l0_2.length c0_2]) (t := 35) ?hr ?_; (case hd => rfl); (case hg => rfl); (case hr => first | (go_simp; done) | (go_simp; rfl)); intro gb177 hg w_0 hbox hb; have BK177 := Aside0.mk (hbox); have GW177 := Aside0.mk ((by rw [hg]; exact (bz_ HB.out) : w.heap.size ≤ gb177)); have GE177 := Aside0.mk ((by rw [hg]; exact (bz_ HB.out) : w.heap.size ≤ gb177)); replace HB := Aside0.mk (bs_ HB.out hb); clear hb hbox hg) | ((with_reducible refine gate_dst (N := 3) rfl ?_); refine box_event ?hg (N := 3) ?hd (cs := #[.slice A1_0 l1_0.length c1_0, .slice A1_1 l1_1.length c1_1]) (t := 38) ?hr ?_; (case hd => rfl); (case hg => rfl); (case hr => first | (go_simp; done) | (go_simp; rfl)); intro gb178 hg w_0 hbox hb; have BK178 := Aside0.mk (hbox); have GW178 := Aside0.mk ((by rw [hg]; exact (bz_ HB.out) : w.heap.size ≤ gb178)); have GE178 := Aside0.mk ((by rw [hg]; exact (bz_ HB.out) : w.heap.size ≤ gb178)); replace HB := Aside0.mk (bs_ HB.out hb); have NB177_178 := Aside0.mk ((by rw [hg]; exact Nat.ne_of_lt (bl_ BK177.out) : gb177 ≠ gb178)); have NB178_177 := Aside0.mk ((by rw [hg]; exact Nat.ne_of_gt (bl_ BK177.out) : gb178 ≠ gb177)); replace BK177 := Aside0.mk (bk_ BK177.out hb); clear hb hbox hg; have hnb_ := NB177_178.out; have hnc_ := NB178_177.out; obtain ⟨hcz_0, hcz_1, hcz_2, hfz_0, hfz_1, hfz_2⟩ := cz3_ BK177.out; obtain ⟨hcz__0, hcz__1, hfz__0, hfz__1⟩ := cz2_ BK178.out) | ((with_reducible refine gate_callee (f := 41) rfl ?_); refine gm_ (some 8) Try.func41 #[.agg #[.int .i64 a0_0, .int .i64 a0_1, .slice A0_2 l0_2.length c0_2], .agg #[.slice A1_0 l1_0.length c1_0]] rfl ?_; (with_reducible refine (spec_TableOk.calls k a0_0 a0_1 _ _ l0_2 _ _ l1_0 _ _ ?side1 HC0_2.out ?side3 HC1_0.out A3.out).mono ?_); (case side1 => exact cb_ HR0_2.out HB.out); (case side3 => exact cb_ HR1_0.out HB.out); rintro e w_0 ⟨rfl, hb⟩; refine ⟨_, rfl, ?_⟩; replace BK177 := Aside0.mk (bk_ BK177.out hb); replace BK178 := Aside0.mk (bk_ BK178.out hb); replace HB := Aside0.mk (bs_ HB.out hb); (try clear hb); obtain ⟨hcz_0, hcz_1, hcz_2, hfz_0, hfz_1, hfz_2⟩ := cz3_ BK177.out; obtain ⟨hcz__0, hcz__1, hfz__0, hfz__1⟩ := cz2_ BK178.out) | (go_at_call 41; (with_reducible refine (spec_TableOk.calls k a0_0 a0_1 _ _ l0_2 _ _ l1_1 t180 _ ?side1 HC0_2.out ?side3 HC1_1.out A5.out).mono ?_); (case side1 => exact cb_ HR0_2.out HB.out); (case side3 => exact cb_ HR1_1.out HB.out); rintro e w_0 ⟨rfl, hb⟩; replace BK177 := Aside0.mk (bk_ BK177.out hb); replace BK178 := Aside0.mk (bk_ BK178.out hb); replace HB := Aside0.mk (bs_ HB.out hb); (try clear hb)))
 go_ret
 exact ⟨fin_, bb_ HB.out⟩) : P := h
set_option maxHeartbeats 8000000 in
set_option maxRecDepth 100000 in
theorem spec_ClassesOk.calls (k : Nat) (a0_0 : Int) (a0_1 : Int) (A0_2 : Option Addr) (c0_2 : Nat) (l0_2 : List Int) (A1_0 : Option Addr) (c1_0 : Nat) (l1_0 : List Int) (A1_1 : Option Addr) (c1_1 : Nat) (l1_1 : List Int) (r : Bool) (w : World) (hr0_2 : Kd.C (Kd.int .i64) w A0_2 l0_2.length l0_2) (hc0_2 : l0_2.length ≤ c0_2) (hr1_0 : Kd.C (Kd.int .i64) w A1_0 l1_0.length l1_0) (hc1_0 : l1_0.length ≤ c1_0) (hr1_1 : Kd.C (Kd.int .i64) w A1_1 l1_1.length l1_1) (hc1_1 : l1_1.length ≤ c1_1) (h : spec_ClassesOk.f k a0_0 a0_1 l0_2 l1_0 l1_1 = some r) :
  Calls Try.prog 19 #[.agg #[.int .i64 a0_0, .int .i64 a0_1, .slice A0_2 l0_2.length c0_2], .agg #[.slice A1_0 l1_0.length c1_0, .slice A1_1 l1_1.length c1_1]] w fun e w' => e = .returned (.bool r) ∧ Below w.heap.size w w' := by
 have hu35 := Try.underlying35
 have hu38 := Try.underlying38
 have hu36 := Try.underlying36
 have HR0_2 := Aside0.mk hr0_2
 have HC0_2 := Aside0.mk hc0_2
 clear hr0_2 hc0_2
 have HR1_0 := Aside0.mk hr1_0
 have HC1_0 := Aside0.mk hc1_0
 clear hr1_0 hc1_0
 have HR1_1 := Aside0.mk hr1_1
 have HC1_1 := Aside0.mk hc1_1
 clear hr1_1 hc1_1
 have HB := Aside0.mk (Below.refl w.heap.size w)
 have H : ((spec_TableOk.f k a0_0 a0_1 l0_2 l1_0).bind fun t179 => (if t179 = true then ((spec_TableOk.f k a0_0 a0_1 l0_2 l1_1).bind fun t180 => (some t180)) else (some false))) = some r := h
 clear h
 replace H := Option.bind_eq_some_iff.mp H
 obtain ⟨t179, A30, H⟩ := H
 try dsimp only at H
 have A3 := Aside0.mk A30
 clear A30
 by_cases c4 : t179 = true
 ·subst c4
  rw [if_pos rfl] at H
  replace H := Option.bind_eq_some_iff.mp H
  obtain ⟨t180, A50, H⟩ := H
  try dsimp only at H
  have A5 := Aside0.mk A50
  clear A50
  obtain rfl := Option.some.inj H
  exact spec_ClassesOk.e0
 ·replace c4 := Bool.eq_false_iff.mpr c4
  subst c4
  rw [if_neg (show ¬ (false = true) by decide)] at H
  obtain rfl := Option.some.inj H
  exact spec_ClassesOk.e0

end Go.Proofs.Ytmdfcdhblflaaaa.PFnExactNetNew
-- thin
