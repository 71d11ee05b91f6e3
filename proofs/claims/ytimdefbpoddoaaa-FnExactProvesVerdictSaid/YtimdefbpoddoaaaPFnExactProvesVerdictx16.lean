/- Each function that the law comes to, as a plain function, with the proof that the call in the model gives what that function says (written by a program of this session out of the translation). No condition. -/
import Derived.Test.YtimdefbpoddoaaaPFnExactProvesVerdictx0
import Derived.Test.YtimdefbpoddoaaaPFnExactProvesVerdictx1
import Derived.Test.YtimdefbpoddoaaaPFnExactProvesVerdictx12
import Derived.Test.YtimdefbpoddoaaaPFnExactProvesVerdictx15
namespace Go.Proofs.Ytimdefbpoddoaaa.PFnExactProvesVerdict
open Go.RowKit Go.Proofs.YtimdefbpoddoaaaW.PrintWords Go.Proofs.YtimdefbpoddoaaaW.PrintLast Go.Proofs.YtimdefbpoddoaaaW.PrintMore
attribute [local go_sem] max2_int min2_int max_two min_two max_three min_three max_four min_four   -- for this text's walks alone
set_option linter.unusedVariables false
set_option linter.unusedSimpArgs false

attribute [local go_sem high] eqA94
/-! ### impl_IsOrder: function 85 -/
def impl_IsOrder.l0 : Nat → List Int → Int → Option Bool
 | 0, _, _ => none
 | k + 1, a, x => if x < 128 then ((slices_Contains_int_int.f k a x).bind fun t => (if t = true then (impl_IsOrder.l0 k a (wrap64 (x + 1))) else (some false))) else (some true)
def impl_IsOrder.l1 : Nat → List S94 → List Int → Int → Option Int
 | 0, _, _, _ => none
 | k + 1, l, a, x => if x < (l.length : Int) then (if 0 ≤ x then (if 0 ≤ (rd_T94 l x).f0 then (if (rd_T94 l x).f0 < (a.length : Int) then (if 0 ≤ (rd_T94 l x).f1 then (if (rd_T94 l x).f1 < (a.length : Int) then (if rd a (rd_T94 l x).f0 ≥ rd a (rd_T94 l x).f1 then (some x) else (impl_IsOrder.l1 k l a (wrap64 (x + 1)))) else none) else none) else none) else none) else none) else (some (-1))
def impl_IsOrder.f (k : Nat) (l0 : List S94) (l1 : List Int) : Option Bool := (impl_DependsOk.f k l0).bind fun b => (if b = true then (if (l1.length : Int) = 128 then ((impl_IsOrder.l0 k l1 0).bind fun t => (if t = true then ((impl_IsOrder.l1 k l0 l1 0).bind fun i => (some (!(decide (i ≥ 0))))) else (some false))) else (some false)) else (some false))
theorem impl_IsOrder.mono_l : ∀ k a x, LeO (impl_IsOrder.l0 k a x) (impl_IsOrder.l0 (k + 1) a x)
 | 0, _, _ => fun r h => by simp [impl_IsOrder.l0] at h
 | k + 1, a, x => by
  have ih := impl_IsOrder.mono_l k
  unfold impl_IsOrder.l0
  exact LeO.ite (LeO.bind (slices_Contains_int_int.mono _ _ _) (fun _ => LeO.ite (ih _ _) (LeO.refl _))) (LeO.refl _)
theorem impl_IsOrder.mono_l1 : ∀ k l a x, LeO (impl_IsOrder.l1 k l a x) (impl_IsOrder.l1 (k + 1) l a x)
 | 0, _, _, _ => fun r h => by simp [impl_IsOrder.l1] at h
 | k + 1, l, a, x => by
  have ih := impl_IsOrder.mono_l1 k
  unfold impl_IsOrder.l1
  exact LeO.ite (LeO.ite (LeO.ite (LeO.ite (LeO.ite (LeO.ite (LeO.ite (LeO.refl _) (ih _ _ _)) (LeO.refl _)) (LeO.refl _)) (LeO.refl _)) (LeO.refl _)) (LeO.refl _)) (LeO.refl _)
theorem impl_IsOrder.mono (l0 : List S94) (l1 : List Int) : ∀ k, LeO (impl_IsOrder.f k l0 l1) (impl_IsOrder.f (k + 1) l0 l1) := by
 intro k
 unfold impl_IsOrder.f
 exact LeO.bind (impl_DependsOk.mono _ _) (fun _ => LeO.ite (LeO.ite (LeO.bind (impl_IsOrder.mono_l _ _ _) (fun _ => LeO.ite (LeO.bind (impl_IsOrder.mono_l1 _ _ _ _) (fun _ => LeO.refl _)) (LeO.refl _))) (LeO.refl _)) (LeO.refl _))
theorem below_drawn0 {w V W : World} (h : Below w.heap.size w V) (d : Drawn0 V W) : Below w.heap.size w W := by
 obtain ⟨m, rfl⟩ := d
 exact pw_below_drewN h m
theorem bd0_ {w W : World} {g : Nat} {X} (h : w.heap[g]? = X) (d : Drawn0 w W) : W.heap[g]? = X := by
 obtain ⟨m, rfl⟩ := d
 exact h
set_option maxHeartbeats 4000000 in
set_option maxRecDepth 100000 in
theorem impl_IsOrder.gt (gb : Nat) (A1 : Option Addr) (c1 : Nat) (a : List Int) (f0 f1 : Int) (w : World) (hb : w.heap[gb]? = some (.cells #[.slice A1 a.length c1] 29 (0, 0))) (hr : Kd.C (Kd.int .i64) w A1 a.length a) (h0 : 0 ≤ f0) (h1 : f0 < (a.length : Int)) (h2 : 0 ≤ f1) (h3 : f1 < (a.length : Int)) :
  Calls Try.prog 127 #[.agg #[.int .i64 f0, .int .i64 f1], .pointer (some ⟨gb, 0, none⟩)] w fun e w' => e = .returned (.bool (decide (rd a f0 ≥ rd a f1))) ∧ Below w.heap.size w w' := by
 have HR := Aside0.mk hr
 have BK := Aside0.mk hb
 clear hr hb
 have HB := Aside0.mk (Below.refl w.heap.size w)
 have p0 := eq_true h0
 have p1 := eq_true h1
 have p2 := eq_true h2
 have p3 := eq_true h3
 have b0 : decide (0 ≤ f0) = true := decide_eq_true h0
 have b1 : decide (f0 < (a.length : Int)) = true := decide_eq_true h1
 have b2 : decide (0 ≤ f1) = true := decide_eq_true h2
 have b3 : decide (f1 < (a.length : Int)) = true := decide_eq_true h3
 go_enter Try.func127, Try.ntmps127
 go_wp2_with (first | ((with_reducible refine gate_dst (N := 2) rfl ?_); refine box_event ?hg (N := 2) ?hd (cs := #[.int .i64 f0, .int .i64 f1]) (t := 94) ?hr ?_; (case hd => rfl); (case hg => rfl); (case hr => first | (go_simp; done) | (go_simp; rfl)); intro gd hg w_0 hbox hb; have BD := Aside0.mk hbox; replace BK := Aside0.mk (bk_ BK.out hb); replace HR := Aside0.mk (Kd.C_below HR.out hb); replace HB := Aside0.mk (bs_ HB.out hb); clear hb hbox hg))
 obtain ⟨hcz_0, hfz_0⟩ := cz1_ BK.out
 obtain ⟨hcd_0, hcd_1, hfd_0, hfd_1⟩ := cz2_ BD.out
 obtain ⟨ad0, e0, hx0⟩ := Kd.at_int HR.out f0 h0 h1
 obtain ⟨ad1, e1, hx1⟩ := Kd.at_int HR.out f1 h2 h3
 cases e0
 cases e1
 repeat (go_quiet (fail); try go_wp2)
 go_ret
 exact ⟨by first | rfl | (simp; done) | (simp [*]; done), bb_ HB.out⟩
set_option maxHeartbeats 4000000 in
set_option maxRecDepth 100000 in
theorem impl_IsOrder.idx (k gb : Nat) (A0 : Option Addr) (c0 : Nat) (l0 : List S94) (A1 : Option Addr) (c1 : Nat) (a : List Int) (r : Int) (w : World) (hb : w.heap[gb]? = some (.cells #[.slice A1 a.length c1] 29 (0, 0))) (hr0 : Kd.C k94 w A0 l0.length l0) (hr1 : Kd.C (Kd.int .i64) w A1 a.length a) (h : impl_IsOrder.l1 k l0 a 0 = some r) :
  Calls Try.prog 151 #[.slice A0 l0.length c0, .func (.func 127) #[] #[.pointer (some ⟨gb, 0, none⟩)]] w fun e w' => e = .returned (.int .i64 r) ∧ Below w.heap.size w w' := by
 have HR0 := Aside0.mk hr0
 have HR1 := Aside0.mk hr1
 have BK := Aside0.mk hb
 have H' := Aside0.mk h
 have HB := Aside0.mk (Below.refl w.heap.size w)
 clear hr0 hr1 hb h
 go_enter Try.func151, Try.ntmps151
 go_wp2
 go_loopg [8] k (fun kq v8 w' => ∃ (x : Int), v8 = .int .i64 x ∧ Aside0 (impl_IsOrder.l1 kq l0 a x = some r) ∧ Aside0 (kq ≤ k) ∧ Aside0 (Below w.heap.size w w'))
 case atStart => exact ⟨(0), ef_, H', ⟨Nat.le_refl _⟩, ⟨bb_ HB.out⟩⟩
 case round =>
  clear H' HB
  obtain ⟨x, rfl, HA, HK1, HB⟩ := hrel
  cases gk with
  | zero => exact absurd HA.out (by simp [impl_IsOrder.l1])
  | succ k1 =>
   have H := HA.out
   clear HA
   simp only [impl_IsOrder.l1] at H
   by_cases q1 : x < (l0.length : Int)
   ·rw [if_pos q1] at H
    have q1b : decide (x < (l0.length : Int)) = true := decide_eq_true q1
    by_cases q2 : 0 ≤ x
    ·rw [if_pos q2] at H
     have q2b : decide (0 ≤ x) = true := decide_eq_true q2
     by_cases q3 : 0 ≤ (rd_T94 l0 x).f0
     ·rw [if_pos q3] at H
      by_cases q4 : (rd_T94 l0 x).f0 < (a.length : Int)
      ·rw [if_pos q4] at H
       by_cases q5 : 0 ≤ (rd_T94 l0 x).f1
       ·rw [if_pos q5] at H
        by_cases q6 : (rd_T94 l0 x).f1 < (a.length : Int)
        ·rw [if_pos q6] at H
         have A3 := Aside0.mk (And.intro (And.intro q3 q4) (And.intro q5 q6))
         clear q3 q4 q5 q6
         obtain ⟨ad1, e1, hx0, hx1⟩ := at_T94 (cb_ HR0.out HB.out) x q2 q1
         cases e1
         replace q1 := eq_true q1
         replace q2 := eq_true q2
         by_cases q7 : rd a (rd_T94 l0 x).f0 ≥ rd a (rd_T94 l0 x).f1
         ·rw [if_pos q7] at H
          have q7b : decide (rd a (rd_T94 l0 x).f0 ≥ rd a (rd_T94 l0 x).f1) = true := decide_eq_true q7
          clear q7
          obtain rfl := Option.some.inj H
          go_wp2_with (first | (go_at_call 127; (with_reducible refine (impl_IsOrder.gt gb A1 c1 a _ _ _ (bk_ BK.out HB.out) ?side1 A3.out.1.1 A3.out.1.2 A3.out.2.1 A3.out.2.2).mono ?_); (case side1 => exact cb_ HR1.out HB.out); rw [q7b]; rintro e w1 ⟨rfl, hb⟩; replace HB := Aside0.mk (bs_ HB.out hb); clear hb))
          go_ret
          exact ⟨by first | rfl | (simp; done) | (simp [*]; done), bb_ HB.out⟩
         ·rw [if_neg q7] at H
          have q7b : decide (rd a (rd_T94 l0 x).f0 ≥ rd a (rd_T94 l0 x).f1) = false := decide_eq_false q7
          clear q7
          have H' := Aside0.mk H
          clear H
          go_wp2_with (first | (go_at_call 127; (with_reducible refine (impl_IsOrder.gt gb A1 c1 a _ _ _ (bk_ BK.out HB.out) ?side1 A3.out.1.1 A3.out.1.2 A3.out.2.1 A3.out.2.2).mono ?_); (case side1 => exact cb_ HR1.out HB.out); rw [q7b]; rintro e w1 ⟨rfl, hb⟩; replace HB := Aside0.mk (bs_ HB.out hb); clear hb))
          go_roundg k1
          case measure => have := HK1.out; omega
          case rel => exact ⟨(wrap64 (x + 1)), ef_, H', ⟨by have := HK1.out; omega⟩, ⟨bb_ HB.out⟩⟩
        ·rw [if_neg q6] at H
         exact absurd H (by simp)
       ·rw [if_neg q5] at H
        exact absurd H (by simp)
      ·rw [if_neg q4] at H
       exact absurd H (by simp)
     ·rw [if_neg q3] at H
      exact absurd H (by simp)
    ·rw [if_neg q2] at H
     exact absurd H (by simp)
   ·rw [if_neg q1] at H
    have q1b : decide (x < (l0.length : Int)) = false := decide_eq_false q1
    clear q1
    obtain rfl := Option.some.inj H
    go_wp2
    go_ret
    exact ⟨by first | rfl | (simp; done) | (simp [*]; done), bb_ HB.out⟩
set_option maxHeartbeats 4000000 in
set_option maxRecDepth 100000 in
theorem impl_IsOrder.cont (k gb : Nat) (A0 : Option Addr) (c0 : Nat) (l0 : List S94) (A1 : Option Addr) (c1 : Nat) (a : List Int) (r : Int) (w : World) (hb : w.heap[gb]? = some (.cells #[.slice A1 a.length c1] 29 (0, 0))) (hr0 : Kd.C k94 w A0 l0.length l0) (hr1 : Kd.C (Kd.int .i64) w A1 a.length a) (h : impl_IsOrder.l1 k l0 a 0 = some r) :
  Calls Try.prog 126 #[.slice A0 l0.length c0, .func (.func 127) #[] #[.pointer (some ⟨gb, 0, none⟩)]] w fun e w' => e = .returned (.bool (decide (r ≥ 0))) ∧ Below w.heap.size w w' := by
 have hq := Aside0.mk (impl_IsOrder.idx k gb A0 c0 l0 A1 c1 a r w hb hr0 hr1 h)
 have HB := Aside0.mk (Below.refl w.heap.size w)
 clear hb hr0 hr1 h
 go_enter Try.func126, Try.ntmps126
 go_wp2_with (first | (go_at_call 151; (with_reducible refine hq.out.mono ?_); rintro e w1 ⟨rfl, hb⟩; replace HB := Aside0.mk (bs_ HB.out hb); clear hb))
 go_ret
 exact ⟨by first | rfl | (simp; done) | (simp [*]; done), bb_ HB.out⟩
theorem impl_IsOrder.e0 {P : Prop} (h : P := by
 go_enter Try.func85, Try.ntmps85
 go_wp2_with (first | ((with_reducible refine gate_dst (N := 3) rfl ?_); refine box_event ?hg (N := 3) ?hd (cs := #[.slice A1 l1.length c1]) (t := 29) ?hr ?_; (case hd => rfl); (case hg => rfl); (case hr => first | (go_simp; done) | (go_simp; rfl)); intro gb hg w_0 hbox hb; have BK := Aside0.mk hbox; replace HB := Aside0.mk (bs_ HB.out hb); clear hb hbox hg; obtain ⟨hcz_0, hfz_0⟩ := cz1_ BK.out) | (go_at_call 124; (with_reducible refine (impl_DependsOk.calls k A0 c0 l0 _ _ ?side1 HC0.out A1_.out).mono ?_); (case side1 => exact cb_ HR0.out HB.out); rintro e w_0 ⟨rfl, hb⟩; replace BK := Aside0.mk (bk_ BK.out hb); replace HB := Aside0.mk (bs_ HB.out hb); (try clear hb); obtain ⟨hcz_0, hfz_0⟩ := cz1_ BK.out))
 go_ret
 exact ⟨by first | rfl | (simp; done) | (simp [*]; done), bb_ HB.out⟩) : P := h
set_option maxHeartbeats 4000000 in
set_option maxRecDepth 100000 in
theorem impl_IsOrder.calls (k : Nat) (A0 : Option Addr) (c0 : Nat) (l0 : List S94) (A1 : Option Addr) (c1 : Nat) (l1 : List Int) (r : Bool) (w : World) (hr0 : Kd.C k94 w A0 l0.length l0) (hc0 : l0.length ≤ c0) (hr1 : Kd.C (Kd.int .i64) w A1 l1.length l1) (hc1 : l1.length ≤ c1) (h : impl_IsOrder.f k l0 l1 = some r) :
  Calls Try.prog 85 #[.slice A0 l0.length c0, .slice A1 l1.length c1] w fun e w' => e = .returned (.bool r) ∧ Below w.heap.size w w' := by
 have HR0 := Aside0.mk hr0
 have HC0 := Aside0.mk hc0
 have HR1 := Aside0.mk hr1
 have HC1 := Aside0.mk hc1
 have HB := Aside0.mk (Below.refl w.heap.size w)
 clear hr0 hc0 hr1 hc1
 unfold impl_IsOrder.f at h
 obtain ⟨b1, A10, h⟩ := Option.bind_eq_some_iff.1 h
 have A1_ := Aside0.mk A10
 clear A10
 cases b1 with
 | false =>
  have h1 : some false = some r := h
  obtain rfl := Option.some.inj h1
  clear h h1
  exact impl_IsOrder.e0
 | true =>
  rw [if_pos rfl] at h
  by_cases q0 : (l1.length : Int) = 128
  ·rw [if_pos q0] at h
   have q0b : ((l1.length : Int) != 128) = false := bne_eq_false_iff_eq.mpr q0
   have q0c : ((l1.length : Int) == 128) = true := beq_iff_eq.mpr q0
   clear q0
   obtain ⟨t, A20, h⟩ := Option.bind_eq_some_iff.1 h
   have A2_ := Aside0.mk A20
   have HT := Aside0.mk h
   clear A20 h
   go_enter Try.func85, Try.ntmps85
   go_wp2_with (first | ((with_reducible refine gate_dst (N := 3) rfl ?_); refine box_event ?hg (N := 3) ?hd (cs := #[.slice A1 l1.length c1]) (t := 29) ?hr ?_; (case hd => rfl); (case hg => rfl); (case hr => first | (go_simp; done) | (go_simp; rfl)); intro gb hg w1 hbox hb; have BK := Aside0.mk hbox; replace HB := Aside0.mk (bs_ HB.out hb); clear hb hbox hg; obtain ⟨hcz_0, hfz_0⟩ := cz1_ BK.out) | (go_at_call 124; (with_reducible refine (impl_DependsOk.calls k A0 c0 l0 _ _ ?side1 HC0.out A1_.out).mono ?_); (case side1 => exact cb_ HR0.out HB.out); rintro e w2 ⟨rfl, hb⟩; replace BK := Aside0.mk (bk_ BK.out hb); replace HB := Aside0.mk (bs_ HB.out hb); (try clear hb); obtain ⟨hcz_0, hfz_0⟩ := cz1_ BK.out))
   go_loopg [14] k (fun kq v14 w' => ∃ (x : Int), v14 = .int .i64 x ∧ Aside0 (impl_IsOrder.l0 kq l1 x = some t) ∧ Aside0 (kq ≤ k) ∧ Aside0 (w'.heap[gb]? = some (.cells #[.slice A1 l1.length c1] 29 (0, 0))) ∧ Aside0 (Below w.heap.size w w'))
   case atStart => exact ⟨(0), ef_, A2_, ⟨Nat.le_refl _⟩, ⟨bq_ BK.out⟩, ⟨bb_ HB.out⟩⟩
   case round =>
    clear A2_ HB BK
    try clear hcz_0
    try clear hfz_0
    obtain ⟨x, rfl, HA, HK1, BK, HB⟩ := hrel
    obtain ⟨hcy_0, hfy_0⟩ := cz1_ BK.out
    cases gk with
    | zero => exact absurd HA.out (by simp [impl_IsOrder.l0])
    | succ k1 =>
     have H := HA.out
     clear HA
     simp only [impl_IsOrder.l0] at H
     by_cases q1 : x < 128
     ·rw [if_pos q1] at H
      have q1b : decide (x < 128) = true := decide_eq_true q1
      clear q1
      obtain ⟨u, A30, H⟩ := Option.bind_eq_some_iff.1 H
      have A3 := Aside0.mk A30
      clear A30
      cases u with
      | true =>
       rw [if_pos rfl] at H
       have H' := Aside0.mk H
       clear H
       go_wp2_with (first | (go_at_call 125; (with_reducible refine (slices_Contains_int_int.calls k1 A1 c1 l1 x _ _ ?side1 HC1.out A3.out).mono ?_); (case side1 => exact cb_ HR1.out HB.out); rintro e w3 ⟨rfl, hd⟩; replace BK := Aside0.mk (bd0_ BK.out hd); replace HB := Aside0.mk (below_drawn0 HB.out hd); clear hd))
       go_roundg k1
       case measure => omega
       case rel => exact ⟨(wrap64 (x + 1)), ef_, H', ⟨by have := HK1.out; omega⟩, ⟨bq_ BK.out⟩, ⟨bb_ HB.out⟩⟩
      | false =>
       have H1 : some false = some t := H
       obtain rfl := Option.some.inj H1
       clear H H1
       have h1 : some false = some r := HT.out
       obtain rfl := Option.some.inj h1
       clear h1 HT
       go_wp2_with (first | (go_at_call 125; (with_reducible refine (slices_Contains_int_int.calls k1 A1 c1 l1 x _ _ ?side1 HC1.out A3.out).mono ?_); (case side1 => exact cb_ HR1.out HB.out); rintro e w3 ⟨rfl, hd⟩; replace BK := Aside0.mk (bd0_ BK.out hd); replace HB := Aside0.mk (below_drawn0 HB.out hd); clear hd))
       go_ret
       exact ⟨by first | rfl | (simp; done) | (simp [*]; done), bb_ HB.out⟩
     ·rw [if_neg q1] at H
      have q1b : decide (x < 128) = false := decide_eq_false q1
      clear q1
      obtain rfl := Option.some.inj H
      have h := HT.out
      rw [if_pos rfl] at h
      obtain ⟨i, A40, h⟩ := Option.bind_eq_some_iff.1 h
      have A4 := Aside0.mk A40
      obtain rfl := Option.some.inj h
      clear A40 h HT
      go_wp2_with (first | (go_at_call 126; (with_reducible refine (impl_IsOrder.cont k gb A0 c0 l0 A1 c1 l1 i _ (bq_ BK.out) ?side1 ?side2 A4.out).mono ?_); (case side1 => exact cb_ HR0.out HB.out); (case side2 => exact cb_ HR1.out HB.out); rintro e w3 ⟨rfl, hb⟩; replace HB := Aside0.mk (bs_ HB.out hb); clear hb))
      go_ret
      exact ⟨by first | rfl | (simp; done) | (simp [*]; done), bb_ HB.out⟩
  ·rw [if_neg q0] at h
   have h1 : some false = some r := h
   obtain rfl := Option.some.inj h1
   have q0b : ((l1.length : Int) != 128) = true := bne_iff_ne.mpr q0
   have q0c : ((l1.length : Int) == 128) = false := beq_eq_false_iff_ne.mpr q0
   clear q0 h h1
   exact impl_IsOrder.e0

/-! ### impl_Depend_152: function 152 -/
def impl_Depend_152.l0 : Nat → List (S94) → Int → Int → Int → Int → Option (Int)
 | 0, _, _, _, _, _ => none
 | k + 1, x0, x7, x8, x383000, x383001 => if x8 < x7 then (if 0 ≤ x8 then (if x8 < (x0.length : Int) then (if (x383000 == ((rd_T94 x0 x8).f0) && (x383001 == ((rd_T94 x0 x8).f1))) = true then (some x8) else (impl_Depend_152.l0 k x0 x7 (wrap64 (x8 + 1)) x383000 x383001)) else (none)) else (none)) else (some (-1))
def impl_Depend_152.f (k : Nat) (l0 : List (S94)) (a1_0 : Int) (a1_1 : Int) : Option (Int) := impl_Depend_152.l0 k l0 (l0.length : Int) 0 a1_0 a1_1
theorem impl_Depend_152.mono_l : ∀ k, (∀ y0 y1 y2 y3 y4, LeO (impl_Depend_152.l0 k y0 y1 y2 y3 y4) (impl_Depend_152.l0 (k + 1) y0 y1 y2 y3 y4))
 | 0 => fun _ _ _ _ _ r h => by simp [impl_Depend_152.l0] at h
 | k + 1 => by
  have ih0 := impl_Depend_152.mono_l k
  ·intro y0 y1 y2 y3 y4
   unfold impl_Depend_152.l0
   repeat' first
   | (with_reducible exact ih0 _ _ _ _ _)
   | (with_reducible exact LeO.refl _)
   | (with_reducible exact LeO.none _)
   | (with_reducible refine LeO.ite ?_ ?_)
   | (with_reducible refine LeO.bind ?_ (fun _ => ?_))
   | exact ih0 _ _ _ _ _
   | exact LeO.none _
   | refine LeO.ite ?_ ?_
   | refine LeO.bind ?_ (fun _ => ?_)
theorem impl_Depend_152.mono : ∀ a0 a1 a2 k, LeO (impl_Depend_152.f k a0 a1 a2) (impl_Depend_152.f (k + 1) a0 a1 a2) := by
 intro a0 a1 a2 k
 have ih0 := impl_Depend_152.mono_l k
 unfold impl_Depend_152.f
 repeat' first
   | (with_reducible exact ih0 _ _ _ _ _)
   | (with_reducible exact LeO.refl _)
   | (with_reducible exact LeO.none _)
   | (with_reducible refine LeO.ite ?_ ?_)
   | (with_reducible refine LeO.bind ?_ (fun _ => ?_))
   | exact ih0 _ _ _ _ _
   | exact LeO.none _
   | refine LeO.ite ?_ ?_
   | refine LeO.bind ?_ (fun _ => ?_)
set_option maxHeartbeats 8000000 in
set_option maxRecDepth 100000 in
theorem impl_Depend_152.calls (k : Nat) (A0 : Option Addr) (c0 : Nat) (l0 : List (S94)) (a1_0 : Int) (a1_1 : Int) (r : Int) (w : World) (hr0 : Kd.C k94 w A0 l0.length l0) (hc0 : l0.length ≤ c0) (h : impl_Depend_152.f k l0 a1_0 a1_1 = some r) :
  Calls Try.prog 152 #[.slice A0 l0.length c0, .agg #[.int .i64 a1_0, .int .i64 a1_1]] w fun e w' => e = .returned (.int .i64 r) ∧ Below w.heap.size w w' := by
 have hu94 := Try.underlying94
 have HR0 := Aside0.mk hr0
 have HC0 := Aside0.mk hc0
 clear hr0 hc0
 have HB := Aside0.mk (Below.refl w.heap.size w)
 have H : (impl_Depend_152.l0 k l0 (l0.length : Int) 0 a1_0 a1_1) = some r := h
 clear h
 have H' := Aside0.mk H
 clear H
 go_enter Try.func152, Try.ntmps152
 go_wp2_with (first | ((with_reducible refine gate_dst (N := 3) rfl ?_); refine box_event ?hg (N := 3) ?hd (cs := #[.int .i64 a1_0, .int .i64 a1_1]) (t := 94) ?hr ?_; (case hd => rfl); (case hg => rfl); (case hr => first | (go_simp; done) | (go_simp; rfl)); intro gb382 hg w3 hbox hb; have BK382 := Aside0.mk (hbox); have GW382 := Aside0.mk ((by rw [hg]; exact (bz_ HB.out) : w.heap.size ≤ gb382)); have GE382 := Aside0.mk ((by rw [hg]; exact (bz_ HB.out) : w.heap.size ≤ gb382)); replace HB := Aside0.mk (bs_ HB.out hb); clear hb hbox hg))
 repeat (go_quiet (first | ((with_reducible refine gate_dst (N := 3) rfl ?_); refine box_event ?hg (N := 3) ?hd (cs := #[.int .i64 a1_0, .int .i64 a1_1]) (t := 94) ?hr ?_; (case hd => rfl); (case hg => rfl); (case hr => first | (go_simp; done) | (go_simp; rfl)); intro gb382 hg w3 hbox hb; have BK382 := Aside0.mk (hbox); have GW382 := Aside0.mk ((by rw [hg]; exact (bz_ HB.out) : w.heap.size ≤ gb382)); have GE382 := Aside0.mk ((by rw [hg]; exact (bz_ HB.out) : w.heap.size ≤ gb382)); replace HB := Aside0.mk (bs_ HB.out hb); clear hb hbox hg)); try go_wp2_with (first | ((with_reducible refine gate_dst (N := 3) rfl ?_); refine box_event ?hg (N := 3) ?hd (cs := #[.int .i64 a1_0, .int .i64 a1_1]) (t := 94) ?hr ?_; (case hd => rfl); (case hg => rfl); (case hr => first | (go_simp; done) | (go_simp; rfl)); intro gb382 hg w3 hbox hb; have BK382 := Aside0.mk (hbox); have GW382 := Aside0.mk ((by rw [hg]; exact (bz_ HB.out) : w.heap.size ≤ gb382)); have GE382 := Aside0.mk ((by rw [hg]; exact (bz_ HB.out) : w.heap.size ≤ gb382)); replace HB := Aside0.mk (bs_ HB.out hb); clear hb hbox hg)))
 go_loopg [8] k (fun kq v8 w' => ∃ (x8_1 : Int), v8 = .int .i64 x8_1 ∧ Aside0 (impl_Depend_152.l0 kq l0 (l0.length : Int) x8_1 a1_0 a1_1 = some r) ∧ Aside0 (kq ≤ k) ∧ Aside0 (w'.heap[gb382]? = some (.cells #[.int .i64 a1_0, .int .i64 a1_1] 94 (0, 0))) ∧ Aside0 (Below w.heap.size w w'))
 case atStart => exact ⟨(0), ef_, H', ⟨Nat.le_refl _⟩, ⟨bq_ BK382.out⟩, ⟨bb_ HB.out⟩⟩
 case round =>
  clear H'
  obtain ⟨x8_1, rfl, HA, HK1, BK382, HB⟩ := hrel
  cases gk with
  | zero => exact absurd HA.out (by simp [impl_Depend_152.l0])
  | succ k1 =>
   have H := HA.out
   clear HA
   simp only [impl_Depend_152.l0] at H
   by_cases c4 : x8_1 < (l0.length : Int)
   ·rw [if_pos c4] at H
    have c4b0 : decide (x8_1 < (l0.length : Int)) = true := decide_eq_true c4
    clear c4
    by_cases c5 : 0 ≤ x8_1
    ·rw [if_pos c5] at H
     have c5b0 : decide (0 ≤ x8_1) = true := decide_eq_true c5
     clear c5
     by_cases c6 : x8_1 < (l0.length : Int)
     ·rw [if_pos c6] at H
      have c6b0 : decide (x8_1 < (l0.length : Int)) = true := decide_eq_true c6
      clear c6
      by_cases c7 : (a1_0 == ((rd_T94 l0 x8_1).f0) && (a1_1 == ((rd_T94 l0 x8_1).f1))) = true
      ·rw [if_pos c7] at H
       have c7b0 : (a1_0 == ((rd_T94 l0 x8_1).f0) && (a1_1 == ((rd_T94 l0 x8_1).f1))) = true := c7
       (try (have c7b1 : decide (a1_0 = ((rd_T94 l0 x8_1).f0) && (a1_1 == ((rd_T94 l0 x8_1).f1))) = true := by simpa using c7))
       (try (have c7b2 : (a1_0 == ((rd_T94 l0 x8_1).f0) && (a1_1 == ((rd_T94 l0 x8_1).f1))) = true := by simpa using c7))
       clear c7
       obtain rfl := Option.some.inj H
       obtain ⟨hcz8_0, hcz8_1, hfz8_0, hfz8_1⟩ := cz2_ BK382.out
       have p383 : 0 ≤ (x8_1 : Int) := of_decide_eq_true dg_
       have q383 : x8_1 < (l0.length : Int) := of_decide_eq_true dg_
       obtain ⟨ad383, e383, hx383_0, hx383_1⟩ := at_T94 HR0.out x8_1 p383 q383
       cases e383
       replace hx383_0 := (HB.out.cell (World.block_lt_of_cell? w _ hx383_0)).trans hx383_0
       replace hx383_1 := (HB.out.cell (World.block_lt_of_cell? w _ hx383_1)).trans hx383_1
       replace p383 := eq_true p383
       replace q383 := eq_true q383
       go_wp2
       repeat (go_quiet (fail); try go_wp2)
       go_ret
       exact ⟨fin_, bb_ HB.out⟩
      ·rw [if_neg c7] at H
       have c7b0 : (a1_0 == ((rd_T94 l0 x8_1).f0) && (a1_1 == ((rd_T94 l0 x8_1).f1))) = false := by simpa using c7
       (try (have c7b1 : decide (a1_0 = ((rd_T94 l0 x8_1).f0) && (a1_1 == ((rd_T94 l0 x8_1).f1))) = false := by simpa using c7))
       (try (have c7b2 : (a1_0 == ((rd_T94 l0 x8_1).f0) && (a1_1 == ((rd_T94 l0 x8_1).f1))) = false := by simpa using c7))
       (try (have c7b3 : ¬ (a1_0 = ((rd_T94 l0 x8_1).f0) && (a1_1 == ((rd_T94 l0 x8_1).f1))) := by simpa using c7))
       clear c7
       have H' := Aside0.mk H
       clear H
       obtain ⟨hcz9_0, hcz9_1, hfz9_0, hfz9_1⟩ := cz2_ BK382.out
       have p383 : 0 ≤ (x8_1 : Int) := of_decide_eq_true dg_
       have q383 : x8_1 < (l0.length : Int) := of_decide_eq_true dg_
       obtain ⟨ad383, e383, hx383_0, hx383_1⟩ := at_T94 HR0.out x8_1 p383 q383
       cases e383
       replace hx383_0 := (HB.out.cell (World.block_lt_of_cell? w _ hx383_0)).trans hx383_0
       replace hx383_1 := (HB.out.cell (World.block_lt_of_cell? w _ hx383_1)).trans hx383_1
       replace p383 := eq_true p383
       replace q383 := eq_true q383
       go_wp2
       repeat (go_quiet (fail); try go_wp2)
       go_roundg k1
       case measure => have := HK1.out; omega
       case rel => exact ⟨(wrap64 (x8_1 + 1)), ef_, H', ⟨by have := HK1.out; omega⟩, ⟨bq_ BK382.out⟩, ⟨bb_ HB.out⟩⟩
     ·rw [if_neg c6] at H
      exact absurd H (by simp)
    ·rw [if_neg c5] at H
     exact absurd H (by simp)
   ·rw [if_neg c4] at H
    have c4b0 : decide (x8_1 < (l0.length : Int)) = false := decide_eq_false c4
    clear c4
    obtain rfl := Option.some.inj H
    go_wp2
    repeat (go_quiet (fail); try go_wp2)
    go_ret
    exact ⟨fin_, bb_ HB.out⟩

/-! ### impl_Depend_128: function 128 -/
def impl_Depend_128.f (k : Nat) (l0 : List (S94)) (a1_0 : Int) (a1_1 : Int) : Option (Bool) := (impl_Depend_152.f k l0 a1_0 a1_1).bind fun t385 => (some (decide (t385 ≥ 0)))
theorem impl_Depend_128.mono : ∀ a0 a1 a2 k, LeO (impl_Depend_128.f k a0 a1 a2) (impl_Depend_128.f (k + 1) a0 a1 a2) := by
 intro a0 a1 a2 k
 unfold impl_Depend_128.f
 repeat' first
   | (with_reducible exact impl_Depend_152.mono _ _ _ _)
   | (with_reducible exact LeO.refl _)
   | (with_reducible exact LeO.none _)
   | (with_reducible refine LeO.ite ?_ ?_)
   | (with_reducible refine LeO.bind ?_ (fun _ => ?_))
   | exact impl_Depend_152.mono _ _ _ _
   | exact LeO.none _
   | refine LeO.ite ?_ ?_
   | refine LeO.bind ?_ (fun _ => ?_)
set_option maxHeartbeats 8000000 in
set_option maxRecDepth 100000 in
theorem impl_Depend_128.calls (k : Nat) (A0 : Option Addr) (c0 : Nat) (l0 : List (S94)) (a1_0 : Int) (a1_1 : Int) (r : Bool) (w : World) (hr0 : Kd.C k94 w A0 l0.length l0) (hc0 : l0.length ≤ c0) (h : impl_Depend_128.f k l0 a1_0 a1_1 = some r) :
  Calls Try.prog 128 #[.slice A0 l0.length c0, .agg #[.int .i64 a1_0, .int .i64 a1_1]] w fun e w' => e = .returned (.bool r) ∧ Below w.heap.size w w' := by
 have hu94 := Try.underlying94
 have HR0 := Aside0.mk hr0
 have HC0 := Aside0.mk hc0
 clear hr0 hc0
 have HB := Aside0.mk (Below.refl w.heap.size w)
 have H : ((impl_Depend_152.f k l0 a1_0 a1_1).bind fun t385 => (some (decide (t385 ≥ 0)))) = some r := h
 clear h
 replace H := Option.bind_eq_some_iff.mp H
 obtain ⟨t385, A30, H⟩ := H
 try dsimp only at H
 have A3 := Aside0.mk A30
 clear A30
 obtain rfl := Option.some.inj H
 go_enter Try.func128, Try.ntmps128
 go_wp2_with (first | ((with_reducible refine gate_dst (N := 3) rfl ?_); refine box_event ?hg (N := 3) ?hd (cs := #[.int .i64 a1_0, .int .i64 a1_1]) (t := 94) ?hr ?_; (case hd => rfl); (case hg => rfl); (case hr => first | (go_simp; done) | (go_simp; rfl)); intro gb384 hg w4 hbox hb; have BK384 := Aside0.mk (hbox); have GW384 := Aside0.mk ((by rw [hg]; exact (bz_ HB.out) : w.heap.size ≤ gb384)); have GE384 := Aside0.mk ((by rw [hg]; exact (bz_ HB.out) : w.heap.size ≤ gb384)); replace HB := Aside0.mk (bs_ HB.out hb); clear hb hbox hg; obtain ⟨hcz5_0, hcz5_1, hfz5_0, hfz5_1⟩ := cz2_ BK384.out) | ((with_reducible refine gate_callee (f := 152) rfl ?_); refine gm_ (some 7) Try.func152 #[.slice A0 l0.length c0, .agg #[.int .i64 a1_0, .int .i64 a1_1]] rfl ?_; (with_reducible refine (impl_Depend_152.calls k _ _ l0 a1_0 a1_1 t385 _ ?side1 HC0.out A3.out).mono ?_); (case side1 => exact cb_ HR0.out HB.out); rintro e w6 ⟨rfl, hb⟩; refine ⟨_, rfl, ?_⟩; replace BK384 := Aside0.mk (bk_ BK384.out hb); replace HB := Aside0.mk (bs_ HB.out hb); (try clear hb)))
 go_ret
 exact ⟨fin_, bb_ HB.out⟩

/-! ### impl_IsCycle: function 86 -/
mutual
def impl_IsCycle.j0 : Nat → List (S94) → List Int → Bool → Option (Bool)
 | 0, _, _, _ => none
 | k + 1, x0, x1, x15 => if x15 = true then (some false) else (impl_IsCycle.l0 k x0 x1 x1 (x1.length : Int) 0)
def impl_IsCycle.l0 : Nat → List (S94) → List Int → List Int → Int → Int → Option (Bool)
 | 0, _, _, _, _, _ => none
 | k + 1, x0, x1, x16, x17, x18 => if x18 < x17 then (if 0 ≤ x18 then (if x18 < (x16.length : Int) then (if (x1.length : Int) = 0 then (none) else (if 0 ≤ (Int.tmod (wrap64 (x18 + 1)) (x1.length : Int)) then (if (Int.tmod (wrap64 (x18 + 1)) (x1.length : Int)) < (x1.length : Int) then (if x18 ≤ (x1.length : Int) then ((slices_Contains_int_int.f k (x1.take (x18 : Int).toNat) (rd x16 x18)).bind fun t390 => (if t390 = true then (some false) else ((impl_Depend_128.f k x0 (rd x16 x18) (rd x1 (Int.tmod (wrap64 (x18 + 1)) (x1.length : Int)))).bind fun t391 => (if t391 = true then (impl_IsCycle.l0 k x0 x1 x16 x17 (wrap64 (x18 + 1))) else (some false))))) else (none)) else (none)) else (none))) else (none)) else (none)) else (some true)
end
def impl_IsCycle.f (k : Nat) (l0 : List (S94)) (l1 : List Int) : Option (Bool) := (impl_DependsOk.f k l0).bind fun t386 => (if t386 = true then (impl_IsCycle.j0 k l0 l1 ((l1.length : Int) == 0)) else (impl_IsCycle.j0 k l0 l1 true))
theorem impl_IsCycle.mono_l : ∀ k, (∀ y0 y1 y2, LeO (impl_IsCycle.j0 k y0 y1 y2) (impl_IsCycle.j0 (k + 1) y0 y1 y2)) ∧ (∀ y0 y1 y2 y3 y4, LeO (impl_IsCycle.l0 k y0 y1 y2 y3 y4) (impl_IsCycle.l0 (k + 1) y0 y1 y2 y3 y4))
 | 0 => ⟨fun _ _ _ r h => by simp [impl_IsCycle.j0] at h, fun _ _ _ _ _ r h => by simp [impl_IsCycle.l0] at h⟩
 | k + 1 => by
  obtain ⟨ih0, ih1⟩ := impl_IsCycle.mono_l k
  refine ⟨?_, ?_⟩
  ·intro y0 y1 y2
   unfold impl_IsCycle.j0
   repeat' first
   | (with_reducible exact ih0 _ _ _)
   | (with_reducible exact ih1 _ _ _ _ _)
   | (with_reducible exact impl_Depend_128.mono _ _ _ _)
   | (with_reducible exact impl_DependsOk.mono _ _)
   | (with_reducible exact slices_Contains_int_int.mono _ _ _)
   | (with_reducible exact LeO.refl _)
   | (with_reducible exact LeO.none _)
   | (with_reducible refine LeO.ite ?_ ?_)
   | (with_reducible refine LeO.bind ?_ (fun _ => ?_))
   | exact ih0 _ _ _
   | exact ih1 _ _ _ _ _
   | exact impl_Depend_128.mono _ _ _ _
   | exact impl_DependsOk.mono _ _
   | exact slices_Contains_int_int.mono _ _ _
   | exact LeO.none _
   | refine LeO.ite ?_ ?_
   | refine LeO.bind ?_ (fun _ => ?_)
  ·intro y0 y1 y2 y3 y4
   unfold impl_IsCycle.l0
   repeat' first
   | (with_reducible exact ih0 _ _ _)
   | (with_reducible exact ih1 _ _ _ _ _)
   | (with_reducible exact impl_Depend_128.mono _ _ _ _)
   | (with_reducible exact impl_DependsOk.mono _ _)
   | (with_reducible exact slices_Contains_int_int.mono _ _ _)
   | (with_reducible exact LeO.refl _)
   | (with_reducible exact LeO.none _)
   | (with_reducible refine LeO.ite ?_ ?_)
   | (with_reducible refine LeO.bind ?_ (fun _ => ?_))
   | exact ih0 _ _ _
   | exact ih1 _ _ _ _ _
   | exact impl_Depend_128.mono _ _ _ _
   | exact impl_DependsOk.mono _ _
   | exact slices_Contains_int_int.mono _ _ _
   | exact LeO.none _
   | refine LeO.ite ?_ ?_
   | refine LeO.bind ?_ (fun _ => ?_)
theorem impl_IsCycle.mono : ∀ a0 a1 k, LeO (impl_IsCycle.f k a0 a1) (impl_IsCycle.f (k + 1) a0 a1) := by
 intro a0 a1 k
 obtain ⟨ih0, ih1⟩ := impl_IsCycle.mono_l k
 unfold impl_IsCycle.f
 repeat' first
   | (with_reducible exact ih0 _ _ _)
   | (with_reducible exact ih1 _ _ _ _ _)
   | (with_reducible exact impl_Depend_128.mono _ _ _ _)
   | (with_reducible exact impl_DependsOk.mono _ _)
   | (with_reducible exact slices_Contains_int_int.mono _ _ _)
   | (with_reducible exact LeO.refl _)
   | (with_reducible exact LeO.none _)
   | (with_reducible refine LeO.ite ?_ ?_)
   | (with_reducible refine LeO.bind ?_ (fun _ => ?_))
   | exact ih0 _ _ _
   | exact ih1 _ _ _ _ _
   | exact impl_Depend_128.mono _ _ _ _
   | exact impl_DependsOk.mono _ _
   | exact slices_Contains_int_int.mono _ _ _
   | exact LeO.none _
   | refine LeO.ite ?_ ?_
   | refine LeO.bind ?_ (fun _ => ?_)
theorem impl_IsCycle.e0 {P : Prop} (h : P := by
 go_wp2_with (first | ((with_reducible refine gate_callee (f := 125) rfl ?_); refine goesL_ (some 35) rfl rfl Try.func125 (by kernel_rfl) rfl #[.slice (some ad387) (l1.take (x18_2 : Int).toNat).length c1, .int .i64 (rd l1 x18_2)] rfl (by (try simp only [List.map_toArray, List.map_cons, List.map_nil]); first | done | (rw [show (l1.take (x18_2 : Int).toNat).length = x18_2.toNat from (by rw [List.length_take]; have h_ : (x18_2 : Int) ≤ (l1.length : Int) := of_decide_eq_true dg_; omega)] <;> rfl) | rfl | (simp only [List.length_drop, List.length_take]; rfl)) ?_; (with_reducible refine (slices_Contains_int_int.calls k2 _ _ (l1.take (x18_2 : Int).toNat) (rd l1 x18_2) _ _ ?side1 HC389.out A18.out).mono ?_); (case side1 => exact cb_ HR389.out HB.out); rintro e w' ⟨rfl, ⟨nd, rfl⟩⟩; refine ⟨_, rfl, ?_⟩) | (go_at_call 128; (with_reducible refine (impl_Depend_128.calls k2 _ _ l0 (rd l1 x18_2) (rd l1 (ji13)) _ _ ?side1 HC0.out A21.out).mono ?_); (case side1 => exact cb_ HR0.out HB.out); rintro e w_0 ⟨rfl, hb⟩; replace HB := Aside0.mk (bs_ HB.out hb); (try clear hb)))
 go_ret
 exact ⟨by first | rfl | (simp [errW_none, errW_some] <;> rfl) | (simp only [← hji13]; first | rfl | (simp [errW_none, errW_some] <;> rfl)) | (simp [*, errW_none, errW_some] <;> rfl), bb_ HB.out⟩) : P := h
set_option maxHeartbeats 8000000 in
set_option maxRecDepth 100000 in
theorem impl_IsCycle.calls (k : Nat) (A0 : Option Addr) (c0 : Nat) (l0 : List (S94)) (A1 : Option Addr) (c1 : Nat) (l1 : List Int) (r : Bool) (w : World) (hr0 : Kd.C k94 w A0 l0.length l0) (hc0 : l0.length ≤ c0) (hr1 : Kd.C (Kd.int .i64) w A1 l1.length l1) (hc1 : l1.length ≤ c1) (h : impl_IsCycle.f k l0 l1 = some r) :
  Calls Try.prog 86 #[.slice A0 l0.length c0, .slice A1 l1.length c1] w fun e w' => e = .returned (.bool r) ∧ Below w.heap.size w w' := by
 have hu94 := Try.underlying94
 have HR0 := Aside0.mk hr0
 have HC0 := Aside0.mk hc0
 clear hr0 hc0
 have HR1 := Aside0.mk hr1
 have HC1 := Aside0.mk hc1
 clear hr1 hc1
 have HB := Aside0.mk (Below.refl w.heap.size w)
 have H : ((impl_DependsOk.f k l0).bind fun t386 => (if t386 = true then (impl_IsCycle.j0 k l0 l1 ((l1.length : Int) == 0)) else (impl_IsCycle.j0 k l0 l1 true))) = some r := h
 clear h
 have HC3 := Aside0.mk H
 clear H
 go_enter Try.func86, Try.ntmps86
 go_upto_region 1 with (fail)
 go_cut [15] (fun v15 wc => ∃ (kq : Nat) (x15_2 : Bool), v15 = .bool x15_2 ∧ Aside0 (impl_IsCycle.j0 kq l0 l1 x15_2 = some r) ∧ Aside0 (kq ≤ k) ∧ Aside0 (Below w.heap.size w wc))
 case first =>
  have H := HC3.out
  clear HC3
  replace H := Option.bind_eq_some_iff.mp H
  obtain ⟨t386, A40, H⟩ := H
  try dsimp only at H
  have A4 := Aside0.mk A40
  clear A40
  by_cases c5 : t386 = true
  ·subst c5
   rw [if_pos rfl] at H
   have H' := Aside0.mk H
   clear H
   go_wp2_with (first | ((with_reducible refine gate_callee (f := 124) rfl ?_); refine gm_ (some 9) Try.func124 #[.slice A0 l0.length c0] rfl ?_; (with_reducible refine (impl_DependsOk.calls k _ _ l0 true _ ?side1 HC0.out A4.out).mono ?_); (case side1 => exact cb_ HR0.out HB.out); rintro e w6 ⟨rfl, hb⟩; refine ⟨_, rfl, ?_⟩; replace HB := Aside0.mk (bs_ HB.out hb); (try clear hb)))
   go_meet
   case rel => exact ⟨_, (((l1.length : Int) == 0)), ef_, H', ⟨kq_⟩, ⟨bb_ HB.out⟩⟩
  ·replace c5 := Bool.eq_false_iff.mpr c5
   subst c5
   rw [if_neg (show ¬ (false = true) by decide)] at H
   have H' := Aside0.mk H
   clear H
   go_wp2_with (first | ((with_reducible refine gate_callee (f := 124) rfl ?_); refine gm_ (some 9) Try.func124 #[.slice A0 l0.length c0] rfl ?_; (with_reducible refine (impl_DependsOk.calls k _ _ l0 false _ ?side1 HC0.out A4.out).mono ?_); (case side1 => exact cb_ HR0.out HB.out); rintro e w7 ⟨rfl, hb⟩; refine ⟨_, rfl, ?_⟩; replace HB := Aside0.mk (bs_ HB.out hb); (try clear hb)))
   go_meet
   case rel => exact ⟨_, (true), ef_, H', ⟨kq_⟩, ⟨bb_ HB.out⟩⟩
 case rest =>
  clear HC3
  obtain ⟨kq, x15_2, rfl, HA, HJ2, HB⟩ := hcut
  cases kq with
  | zero => exact absurd HA.out (by simp [impl_IsCycle.j0])
  | succ kj2 =>
   have H := HA.out
   clear HA
   simp only [impl_IsCycle.j0] at H
   by_cases c8 : x15_2 = true
   ·subst c8
    rw [if_pos rfl] at H
    obtain rfl := Option.some.inj H
    go_wp2
    go_ret
    exact ⟨fin_, bb_ HB.out⟩
   ·replace c8 := Bool.eq_false_iff.mpr c8
    subst c8
    rw [if_neg (show ¬ (false = true) by decide)] at H
    have H' := Aside0.mk H
    clear H
    go_wp2
    go_loopg [18] kj2 (fun kq v18 w' => ∃ (x18_2 : Int), v18 = .int .i64 x18_2 ∧ Aside0 (impl_IsCycle.l0 kq l0 l1 l1 (l1.length : Int) x18_2 = some r) ∧ Aside0 (kq ≤ kj2) ∧ Aside0 (Below w.heap.size w w'))
    case atStart => exact ⟨(0), ef_, H', ⟨Nat.le_refl _⟩, ⟨bb_ HB.out⟩⟩
    case round =>
     clear H'
     try clear c8
     obtain ⟨x18_2, rfl, HA, HK2, HB⟩ := hrel
     cases gk with
     | zero => exact absurd HA.out (by simp [impl_IsCycle.l0])
     | succ k2 =>
      have H := HA.out
      clear HA
      simp only [impl_IsCycle.l0] at H
      by_cases c9 : x18_2 < (l1.length : Int)
      ·rw [if_pos c9] at H
       have c9b0 : decide (x18_2 < (l1.length : Int)) = true := decide_eq_true c9
       clear c9
       by_cases c10 : 0 ≤ x18_2
       ·rw [if_pos c10] at H
        have c10b0 : decide (0 ≤ x18_2) = true := decide_eq_true c10
        clear c10
        by_cases c11 : x18_2 < (l1.length : Int)
        ·rw [if_pos c11] at H
         have c11b0 : decide (x18_2 < (l1.length : Int)) = true := decide_eq_true c11
         clear c11
         by_cases c12 : (l1.length : Int) = 0
         ·rw [if_pos c12] at H
          exact absurd H (by simp)
         ·rw [if_neg c12] at H
          have c12b0 : ((l1.length : Int) == 0) = false := beq_eq_false_iff_ne.mpr c12
          have c12b1 : ((l1.length : Int) != 0) = true := bne_iff_ne.mpr c12
          have c12b2 : ¬ (l1 = []) := fun h_ => c12 (by rw [h_]; rfl)
          obtain ⟨ji13, hji13⟩ : ∃ j_ : Int, (Int.tmod (wrap64 (x18_2 + 1)) (l1.length : Int)) = j_ := ⟨_, rfl⟩
          replace H : (if 0 ≤ (ji13) then (if (ji13) < (l1.length : Int) then (if x18_2 ≤ (l1.length : Int) then ((slices_Contains_int_int.f k2 (l1.take (x18_2 : Int).toNat) (rd l1 x18_2)).bind fun t390 => (if t390 = true then (some false) else ((impl_Depend_128.f k2 l0 (rd l1 x18_2) (rd l1 (ji13))).bind fun t391 => (if t391 = true then (impl_IsCycle.l0 k2 l0 l1 l1 (l1.length : Int) (wrap64 (x18_2 + 1))) else (some false))))) else (none)) else (none)) else (none)) = some r := by first | (rw [hji13] at H; exact H) | (simp only [hji13] at H ⊢; exact H)
          by_cases c14 : 0 ≤ (ji13)
          ·rw [if_pos c14] at H
           have c14b0 : decide (0 ≤ (ji13)) = true := decide_eq_true c14
           clear c14
           by_cases c15 : (ji13) < (l1.length : Int)
           ·rw [if_pos c15] at H
            have c15b0 : decide ((ji13) < (l1.length : Int)) = true := decide_eq_true c15
            clear c15
            have c16b0 := eq_true (of_decide_eq_true dg_ : 0 ≤ x18_2)
            by_cases c17 : x18_2 ≤ (l1.length : Int)
            ·rw [if_pos c17] at H
             have c17b0 := eq_true c17
             have c17b1 : decide (x18_2 ≤ (l1.length : Int)) = true := decide_eq_true c17
             clear c17
             replace H := Option.bind_eq_some_iff.mp H
             obtain ⟨t390, A180, H⟩ := H
             try dsimp only at H
             have A18 := Aside0.mk A180
             clear A180
             by_cases c19 : t390 = true
             ·subst c19
              rw [if_pos rfl] at H
              obtain rfl := Option.some.inj H
              have p387 : 0 ≤ (x18_2 : Int) := of_decide_eq_true dg_
              have q387 : x18_2 < (l1.length : Int) := of_decide_eq_true dg_
              obtain ⟨ad387, e387, hx387_0⟩ := Kd.at_int HR1.out x18_2 p387 q387
              cases e387
              replace hx387_0 := (HB.out.cell (World.block_lt_of_cell? w _ hx387_0)).trans hx387_0
              replace p387 := eq_true p387
              replace q387 := eq_true q387
              have p388 : 0 ≤ ((ji13) : Int) := of_decide_eq_true dg_
              have q388 : (ji13) < (l1.length : Int) := of_decide_eq_true dg_
              obtain ⟨ad388, e388, hx388_0⟩ := Kd.at_int HR1.out (ji13) p388 q388
              obtain rfl : ad387 = ad388 := (by injection e388)
              replace hx388_0 := (HB.out.cell (World.block_lt_of_cell? w _ hx388_0)).trans hx388_0
              replace p388 := eq_true p388
              replace q388 := eq_true q388
              obtain ⟨i020, hi020, _, hsz20, _⟩ := info_parts info3
              obtain ⟨hcut20, hA20, hC20⟩ := print_take_of (P := Try.prog) (Value.int .i64) 0 29 3 .i64 Try.underlying29 hi020 hsz20 (some ad387) c1 l1 x18_2 (of_decide_eq_true dg_) (of_decide_eq_true dg_) HC1.out
              have HR389 := Aside0.mk (Kd.C_of_reads (h1 := fun _ => rfl) (hA20 _ (Kd.reads_of_C HR1.out)))
              have HC389 := Aside0.mk hC20
              clear hA20 hC20 hi020 hsz20
              exact impl_IsCycle.e0
             ·replace c19 := Bool.eq_false_iff.mpr c19
              subst c19
              rw [if_neg (show ¬ (false = true) by decide)] at H
              replace H := Option.bind_eq_some_iff.mp H
              obtain ⟨t391, A210, H⟩ := H
              try dsimp only at H
              have A21 := Aside0.mk A210
              clear A210
              by_cases c22 : t391 = true
              ·subst c22
               rw [if_pos rfl] at H
               have H' := Aside0.mk H
               clear H
               have p387 : 0 ≤ (x18_2 : Int) := of_decide_eq_true dg_
               have q387 : x18_2 < (l1.length : Int) := of_decide_eq_true dg_
               obtain ⟨ad387, e387, hx387_0⟩ := Kd.at_int HR1.out x18_2 p387 q387
               cases e387
               replace hx387_0 := (HB.out.cell (World.block_lt_of_cell? w _ hx387_0)).trans hx387_0
               replace p387 := eq_true p387
               replace q387 := eq_true q387
               have p388 : 0 ≤ ((ji13) : Int) := of_decide_eq_true dg_
               have q388 : (ji13) < (l1.length : Int) := of_decide_eq_true dg_
               obtain ⟨ad388, e388, hx388_0⟩ := Kd.at_int HR1.out (ji13) p388 q388
               obtain rfl : ad387 = ad388 := (by injection e388)
               replace hx388_0 := (HB.out.cell (World.block_lt_of_cell? w _ hx388_0)).trans hx388_0
               replace p388 := eq_true p388
               replace q388 := eq_true q388
               obtain ⟨i023, hi023, _, hsz23, _⟩ := info_parts info3
               obtain ⟨hcut23, hA23, hC23⟩ := print_take_of (P := Try.prog) (Value.int .i64) 0 29 3 .i64 Try.underlying29 hi023 hsz23 (some ad387) c1 l1 x18_2 (of_decide_eq_true dg_) (of_decide_eq_true dg_) HC1.out
               have HR389 := Aside0.mk (Kd.C_of_reads (h1 := fun _ => rfl) (hA23 _ (Kd.reads_of_C HR1.out)))
               have HC389 := Aside0.mk hC23
               clear hA23 hC23 hi023 hsz23
               go_wp2_with (first | ((with_reducible refine gate_callee (f := 125) rfl ?_); refine goesL_ (some 35) rfl rfl Try.func125 (by kernel_rfl) rfl #[.slice (some ad387) (l1.take (x18_2 : Int).toNat).length c1, .int .i64 (rd l1 x18_2)] rfl (by (try simp only [List.map_toArray, List.map_cons, List.map_nil]); first | done | (rw [show (l1.take (x18_2 : Int).toNat).length = x18_2.toNat from (by rw [List.length_take]; have h_ : (x18_2 : Int) ≤ (l1.length : Int) := of_decide_eq_true dg_; omega)] <;> rfl) | rfl | (simp only [List.length_drop, List.length_take]; rfl)) ?_; (with_reducible refine (slices_Contains_int_int.calls k2 _ _ (l1.take (x18_2 : Int).toNat) (rd l1 x18_2) false _ ?side1 HC389.out A18.out).mono ?_); (case side1 => exact cb_ HR389.out HB.out); rintro e w' ⟨rfl, ⟨nd, rfl⟩⟩; refine ⟨_, rfl, ?_⟩) | (go_at_call 128; (with_reducible refine (impl_Depend_128.calls k2 _ _ l0 (rd l1 x18_2) (rd l1 (ji13)) true _ ?side1 HC0.out A21.out).mono ?_); (case side1 => exact cb_ HR0.out HB.out); rintro e w24 ⟨rfl, hb⟩; replace HB := Aside0.mk (bs_ HB.out hb); (try clear hb)))
               go_roundg k2
               case measure => have := HJ2.out; have := HK2.out; omega
               case rel => exact ⟨(wrap64 (x18_2 + 1)), ef_, H', ⟨by have := HJ2.out; have := HK2.out; omega⟩, ⟨bb_ HB.out⟩⟩
              ·replace c22 := Bool.eq_false_iff.mpr c22
               subst c22
               rw [if_neg (show ¬ (false = true) by decide)] at H
               obtain rfl := Option.some.inj H
               have p387 : 0 ≤ (x18_2 : Int) := of_decide_eq_true dg_
               have q387 : x18_2 < (l1.length : Int) := of_decide_eq_true dg_
               obtain ⟨ad387, e387, hx387_0⟩ := Kd.at_int HR1.out x18_2 p387 q387
               cases e387
               replace hx387_0 := (HB.out.cell (World.block_lt_of_cell? w _ hx387_0)).trans hx387_0
               replace p387 := eq_true p387
               replace q387 := eq_true q387
               have p388 : 0 ≤ ((ji13) : Int) := of_decide_eq_true dg_
               have q388 : (ji13) < (l1.length : Int) := of_decide_eq_true dg_
               obtain ⟨ad388, e388, hx388_0⟩ := Kd.at_int HR1.out (ji13) p388 q388
               obtain rfl : ad387 = ad388 := (by injection e388)
               replace hx388_0 := (HB.out.cell (World.block_lt_of_cell? w _ hx388_0)).trans hx388_0
               replace p388 := eq_true p388
               replace q388 := eq_true q388
               obtain ⟨i025, hi025, _, hsz25, _⟩ := info_parts info3
               obtain ⟨hcut25, hA25, hC25⟩ := print_take_of (P := Try.prog) (Value.int .i64) 0 29 3 .i64 Try.underlying29 hi025 hsz25 (some ad387) c1 l1 x18_2 (of_decide_eq_true dg_) (of_decide_eq_true dg_) HC1.out
               have HR389 := Aside0.mk (Kd.C_of_reads (h1 := fun _ => rfl) (hA25 _ (Kd.reads_of_C HR1.out)))
               have HC389 := Aside0.mk hC25
               clear hA25 hC25 hi025 hsz25
               exact impl_IsCycle.e0
            ·rw [if_neg c17] at H
             exact absurd H (by simp)
           ·rw [if_neg c15] at H
            exact absurd H (by simp)
          ·rw [if_neg c14] at H
           exact absurd H (by simp)
        ·rw [if_neg c11] at H
         exact absurd H (by simp)
       ·rw [if_neg c10] at H
        exact absurd H (by simp)
      ·rw [if_neg c9] at H
       have c9b0 : decide (x18_2 < (l1.length : Int)) = false := decide_eq_false c9
       clear c9
       obtain rfl := Option.some.inj H
       go_wp2
       go_ret
       exact ⟨fin_, bb_ HB.out⟩

end Go.Proofs.Ytimdefbpoddoaaa.PFnExactProvesVerdict
-- thin
