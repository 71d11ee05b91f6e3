/- Each function that the law comes to, as a plain function, with the proof that the call in the model gives what that function says (written by a program of this session out of the translation). No condition. -/
import Derived.Test.YtagmogkdlimofaaPFnOrdersx0
import Derived.Test.YtagmogkdlimofaaPFnOrdersx2
import Derived.Test.YtagmogkdlimofaaPFnOrdersx4
import Derived.Test.YtagmogkdlimofaaPFnOrdersx5
import Derived.Test.YtagmogkdlimofaaPFnOrdersx6
import Derived.Test.YtagmogkdlimofaaPFnOrdersx8
namespace Go.Proofs.Ytagmogkdlimofaa.PFnOrders
open Go.RowKit Go.Proofs.YtagmogkdlimofaaW.PrintWords Go.Proofs.YtagmogkdlimofaaW.PrintLast Go.Proofs.YtagmogkdlimofaaW.PrintMore
attribute [local go_sem] max2_int min2_int max_two min_two max_three min_three max_four min_four   -- for this text's walks alone
set_option linter.unusedVariables false
set_option linter.unusedSimpArgs false

/-! ### impl_IsOrder: function 29 -/
def impl_IsOrder.l0 : Nat → List Int → Int → Option Bool
 | 0, _, _ => none
 | k + 1, a, x => if x < 128 then ((slices_Contains_int_int.f k a x).bind fun t => (if t = true then (impl_IsOrder.l0 k a (wrap64 (x + 1))) else (some false))) else (some true)
def impl_IsOrder.l1 : Nat → List S44 → List Int → Int → Option Int
 | 0, _, _, _ => none
 | k + 1, l, a, x => if x < (l.length : Int) then (if 0 ≤ x then (if 0 ≤ (rd_T44 l x).f0 then (if (rd_T44 l x).f0 < (a.length : Int) then (if 0 ≤ (rd_T44 l x).f1 then (if (rd_T44 l x).f1 < (a.length : Int) then (if rd a (rd_T44 l x).f0 ≥ rd a (rd_T44 l x).f1 then (some x) else (impl_IsOrder.l1 k l a (wrap64 (x + 1)))) else none) else none) else none) else none) else none) else (some (-1))
def impl_IsOrder.f (k : Nat) (l0 : List S44) (l1 : List Int) : Option Bool := (impl_DependsOk.f k l0).bind fun b => (if b = true then (if (l1.length : Int) = 128 then ((impl_IsOrder.l0 k l1 0).bind fun t => (if t = true then ((impl_IsOrder.l1 k l0 l1 0).bind fun i => (some (!(decide (i ≥ 0))))) else (some false))) else (some false)) else (some false))
theorem impl_IsOrder.mono_l : ∀ k a x, LeO (impl_IsOrder.l0 k a x) (impl_IsOrder.l0 (k + 1) a x)
 | 0, _, _ => fun r h => by simp [impl_IsOrder.l0] at h
 | k + 1, a, x => by
  have ih := impl_IsOrder.mono_l k
  unfold impl_IsOrder.l0
  exact LeO.ite (LeO.bind (slices_Contains_int_int.mono _ _ _) (fun _ => LeO.ite (ih _ _) (LeO.refl _))) (LeO.refl _)
theorem impl_IsOrder.mono_l1 : ∀ k l a x, LeO (impl_IsOrder.l1 k l a x) (impl_IsOrder.l1 (k + 1) l a x)
 | 0, _, _, _ => fun r h => by simp [impl_IsOrder.l1] at h
 | k + 1, l, a, x => by
  have ih := impl_IsOrder.mono_l1 k
  unfold impl_IsOrder.l1
  exact LeO.ite (LeO.ite (LeO.ite (LeO.ite (LeO.ite (LeO.ite (LeO.ite (LeO.refl _) (ih _ _ _)) (LeO.refl _)) (LeO.refl _)) (LeO.refl _)) (LeO.refl _)) (LeO.refl _)) (LeO.refl _)
theorem impl_IsOrder.mono (l0 : List S44) (l1 : List Int) : ∀ k, LeO (impl_IsOrder.f k l0 l1) (impl_IsOrder.f (k + 1) l0 l1) := by
 intro k
 unfold impl_IsOrder.f
 exact LeO.bind (impl_DependsOk.mono _ _) (fun _ => LeO.ite (LeO.ite (LeO.bind (impl_IsOrder.mono_l _ _ _) (fun _ => LeO.ite (LeO.bind (impl_IsOrder.mono_l1 _ _ _ _) (fun _ => LeO.refl _)) (LeO.refl _))) (LeO.refl _)) (LeO.refl _))
theorem below_drawn0 {w V W : World} (h : Below w.heap.size w V) (d : Drawn0 V W) : Below w.heap.size w W := by
 obtain ⟨m, rfl⟩ := d
 exact pw_below_drewN h m
theorem bd0_ {w W : World} {g : Nat} {X} (h : w.heap[g]? = X) (d : Drawn0 w W) : W.heap[g]? = X := by
 obtain ⟨m, rfl⟩ := d
 exact h
set_option maxHeartbeats 4000000 in
set_option maxRecDepth 100000 in
theorem impl_IsOrder.gt (gb : Nat) (A1 : Option Addr) (c1 : Nat) (a : List Int) (f0 f1 : Int) (w : World) (hb : w.heap[gb]? = some (.cells #[.slice A1 a.length c1] 26 (0, 0))) (hr : Kd.C (Kd.int .i64) w A1 a.length a) (h0 : 0 ≤ f0) (h1 : f0 < (a.length : Int)) (h2 : 0 ≤ f1) (h3 : f1 < (a.length : Int)) :
  Calls Try.prog 51 #[.agg #[.int .i64 f0, .int .i64 f1], .pointer (some ⟨gb, 0, none⟩)] w fun e w' => e = .returned (.bool (decide (rd a f0 ≥ rd a f1))) ∧ Below w.heap.size w w' := by
 have HR := Aside0.mk hr
 have BK := Aside0.mk hb
 clear hr hb
 have HB := Aside0.mk (Below.refl w.heap.size w)
 have p0 := eq_true h0
 have p1 := eq_true h1
 have p2 := eq_true h2
 have p3 := eq_true h3
 have b0 : decide (0 ≤ f0) = true := decide_eq_true h0
 have b1 : decide (f0 < (a.length : Int)) = true := decide_eq_true h1
 have b2 : decide (0 ≤ f1) = true := decide_eq_true h2
 have b3 : decide (f1 < (a.length : Int)) = true := decide_eq_true h3
 go_enter Try.func51, Try.ntmps51
 go_wp2_with (first | ((with_reducible refine gate_dst (N := 2) rfl ?_); refine box_event ?hg (N := 2) ?hd (cs := #[.int .i64 f0, .int .i64 f1]) (t := 44) ?hr ?_; (case hd => rfl); (case hg => rfl); (case hr => first | (go_simp; done) | (go_simp; rfl)); intro gd hg w_0 hbox hb; have BD := Aside0.mk hbox; replace BK := Aside0.mk (bk_ BK.out hb); replace HR := Aside0.mk (Kd.C_below HR.out hb); replace HB := Aside0.mk (bs_ HB.out hb); clear hb hbox hg))
 obtain ⟨hcz_0, hfz_0⟩ := cz1_ BK.out
 obtain ⟨hcd_0, hcd_1, hfd_0, hfd_1⟩ := cz2_ BD.out
 obtain ⟨ad0, e0, hx0⟩ := Kd.at_int HR.out f0 h0 h1
 obtain ⟨ad1, e1, hx1⟩ := Kd.at_int HR.out f1 h2 h3
 cases e0
 cases e1
 repeat (go_quiet (fail); try go_wp2)
 go_ret
 exact ⟨by first | rfl | (simp; done) | (simp [*]; done), bb_ HB.out⟩
set_option maxHeartbeats 4000000 in
set_option maxRecDepth 100000 in
theorem impl_IsOrder.idx (k gb : Nat) (A0 : Option Addr) (c0 : Nat) (l0 : List S44) (A1 : Option Addr) (c1 : Nat) (a : List Int) (r : Int) (w : World) (hb : w.heap[gb]? = some (.cells #[.slice A1 a.length c1] 26 (0, 0))) (hr0 : Kd.C k44 w A0 l0.length l0) (hr1 : Kd.C (Kd.int .i64) w A1 a.length a) (h : impl_IsOrder.l1 k l0 a 0 = some r) :
  Calls Try.prog 61 #[.slice A0 l0.length c0, .func (.func 51) #[] #[.pointer (some ⟨gb, 0, none⟩)]] w fun e w' => e = .returned (.int .i64 r) ∧ Below w.heap.size w w' := by
 have HR0 := Aside0.mk hr0
 have HR1 := Aside0.mk hr1
 have BK := Aside0.mk hb
 have H' := Aside0.mk h
 have HB := Aside0.mk (Below.refl w.heap.size w)
 clear hr0 hr1 hb h
 go_enter Try.func61, Try.ntmps61
 go_wp2
 go_loopg [8] k (fun kq v8 w' => ∃ (x : Int), v8 = .int .i64 x ∧ Aside0 (impl_IsOrder.l1 kq l0 a x = some r) ∧ Aside0 (kq ≤ k) ∧ Aside0 (Below w.heap.size w w'))
 case atStart => exact ⟨(0), ef_, H', ⟨Nat.le_refl _⟩, ⟨bb_ HB.out⟩⟩
 case round =>
  clear H' HB
  obtain ⟨x, rfl, HA, HK1, HB⟩ := hrel
  cases gk with
  | zero => exact absurd HA.out (by simp [impl_IsOrder.l1])
  | succ k1 =>
   have H := HA.out
   clear HA
   simp only [impl_IsOrder.l1] at H
   by_cases q1 : x < (l0.length : Int)
   ·rw [if_pos q1] at H
    have q1b : decide (x < (l0.length : Int)) = true := decide_eq_true q1
    by_cases q2 : 0 ≤ x
    ·rw [if_pos q2] at H
     have q2b : decide (0 ≤ x) = true := decide_eq_true q2
     by_cases q3 : 0 ≤ (rd_T44 l0 x).f0
     ·rw [if_pos q3] at H
      by_cases q4 : (rd_T44 l0 x).f0 < (a.length : Int)
      ·rw [if_pos q4] at H
       by_cases q5 : 0 ≤ (rd_T44 l0 x).f1
       ·rw [if_pos q5] at H
        by_cases q6 : (rd_T44 l0 x).f1 < (a.length : Int)
        ·rw [if_pos q6] at H
         have A3 := Aside0.mk (And.intro (And.intro q3 q4) (And.intro q5 q6))
         clear q3 q4 q5 q6
         obtain ⟨ad1, e1, hx0, hx1⟩ := at_T44 (cb_ HR0.out HB.out) x q2 q1
         cases e1
         replace q1 := eq_true q1
         replace q2 := eq_true q2
         by_cases q7 : rd a (rd_T44 l0 x).f0 ≥ rd a (rd_T44 l0 x).f1
         ·rw [if_pos q7] at H
          have q7b : decide (rd a (rd_T44 l0 x).f0 ≥ rd a (rd_T44 l0 x).f1) = true := decide_eq_true q7
          clear q7
          obtain rfl := Option.some.inj H
          go_wp2_with (first | (go_at_call 51; (with_reducible refine (impl_IsOrder.gt gb A1 c1 a _ _ _ (bk_ BK.out HB.out) ?side1 A3.out.1.1 A3.out.1.2 A3.out.2.1 A3.out.2.2).mono ?_); (case side1 => exact cb_ HR1.out HB.out); rw [q7b]; rintro e w1 ⟨rfl, hb⟩; replace HB := Aside0.mk (bs_ HB.out hb); clear hb))
          go_ret
          exact ⟨by first | rfl | (simp; done) | (simp [*]; done), bb_ HB.out⟩
         ·rw [if_neg q7] at H
          have q7b : decide (rd a (rd_T44 l0 x).f0 ≥ rd a (rd_T44 l0 x).f1) = false := decide_eq_false q7
          clear q7
          have H' := Aside0.mk H
          clear H
          go_wp2_with (first | (go_at_call 51; (with_reducible refine (impl_IsOrder.gt gb A1 c1 a _ _ _ (bk_ BK.out HB.out) ?side1 A3.out.1.1 A3.out.1.2 A3.out.2.1 A3.out.2.2).mono ?_); (case side1 => exact cb_ HR1.out HB.out); rw [q7b]; rintro e w1 ⟨rfl, hb⟩; replace HB := Aside0.mk (bs_ HB.out hb); clear hb))
          go_roundg k1
          case measure => have := HK1.out; omega
          case rel => exact ⟨(wrap64 (x + 1)), ef_, H', ⟨by have := HK1.out; omega⟩, ⟨bb_ HB.out⟩⟩
        ·rw [if_neg q6] at H
         exact absurd H (by simp)
       ·rw [if_neg q5] at H
        exact absurd H (by simp)
      ·rw [if_neg q4] at H
       exact absurd H (by simp)
     ·rw [if_neg q3] at H
      exact absurd H (by simp)
    ·rw [if_neg q2] at H
     exact absurd H (by simp)
   ·rw [if_neg q1] at H
    have q1b : decide (x < (l0.length : Int)) = false := decide_eq_false q1
    clear q1
    obtain rfl := Option.some.inj H
    go_wp2
    go_ret
    exact ⟨by first | rfl | (simp; done) | (simp [*]; done), bb_ HB.out⟩
set_option maxHeartbeats 4000000 in
set_option maxRecDepth 100000 in
theorem impl_IsOrder.cont (k gb : Nat) (A0 : Option Addr) (c0 : Nat) (l0 : List S44) (A1 : Option Addr) (c1 : Nat) (a : List Int) (r : Int) (w : World) (hb : w.heap[gb]? = some (.cells #[.slice A1 a.length c1] 26 (0, 0))) (hr0 : Kd.C k44 w A0 l0.length l0) (hr1 : Kd.C (Kd.int .i64) w A1 a.length a) (h : impl_IsOrder.l1 k l0 a 0 = some r) :
  Calls Try.prog 50 #[.slice A0 l0.length c0, .func (.func 51) #[] #[.pointer (some ⟨gb, 0, none⟩)]] w fun e w' => e = .returned (.bool (decide (r ≥ 0))) ∧ Below w.heap.size w w' := by
 have hq := Aside0.mk (impl_IsOrder.idx k gb A0 c0 l0 A1 c1 a r w hb hr0 hr1 h)
 have HB := Aside0.mk (Below.refl w.heap.size w)
 clear hb hr0 hr1 h
 go_enter Try.func50, Try.ntmps50
 go_wp2_with (first | (go_at_call 61; (with_reducible refine hq.out.mono ?_); rintro e w1 ⟨rfl, hb⟩; replace HB := Aside0.mk (bs_ HB.out hb); clear hb))
 go_ret
 exact ⟨by first | rfl | (simp; done) | (simp [*]; done), bb_ HB.out⟩
theorem impl_IsOrder.e0 {P : Prop} (h : P := by
 go_enter Try.func29, Try.ntmps29
 go_wp2_with (first | ((with_reducible refine gate_dst (N := 3) rfl ?_); refine box_event ?hg (N := 3) ?hd (cs := #[.slice A1 l1.length c1]) (t := 26) ?hr ?_; (case hd => rfl); (case hg => rfl); (case hr => first | (go_simp; done) | (go_simp; rfl)); intro gb hg w_0 hbox hb; have BK := Aside0.mk hbox; replace HB := Aside0.mk (bs_ HB.out hb); clear hb hbox hg; obtain ⟨hcz_0, hfz_0⟩ := cz1_ BK.out) | (go_at_call 33; (with_reducible refine (impl_DependsOk.calls k A0 c0 l0 _ _ ?side1 HC0.out A1_.out).mono ?_); (case side1 => exact cb_ HR0.out HB.out); rintro e w_0 ⟨rfl, hb⟩; replace BK := Aside0.mk (bk_ BK.out hb); replace HB := Aside0.mk (bs_ HB.out hb); (try clear hb); obtain ⟨hcz_0, hfz_0⟩ := cz1_ BK.out))
 go_ret
 exact ⟨by first | rfl | (simp; done) | (simp [*]; done), bb_ HB.out⟩) : P := h
set_option maxHeartbeats 4000000 in
set_option maxRecDepth 100000 in
theorem impl_IsOrder.calls (k : Nat) (A0 : Option Addr) (c0 : Nat) (l0 : List S44) (A1 : Option Addr) (c1 : Nat) (l1 : List Int) (r : Bool) (w : World) (hr0 : Kd.C k44 w A0 l0.length l0) (hc0 : l0.length ≤ c0) (hr1 : Kd.C (Kd.int .i64) w A1 l1.length l1) (hc1 : l1.length ≤ c1) (h : impl_IsOrder.f k l0 l1 = some r) :
  Calls Try.prog 29 #[.slice A0 l0.length c0, .slice A1 l1.length c1] w fun e w' => e = .returned (.bool r) ∧ Below w.heap.size w w' := by
 have HR0 := Aside0.mk hr0
 have HC0 := Aside0.mk hc0
 have HR1 := Aside0.mk hr1
 have HC1 := Aside0.mk hc1
 have HB := Aside0.mk (Below.refl w.heap.size w)
 clear hr0 hc0 hr1 hc1
 unfold impl_IsOrder.f at h
 obtain ⟨b1, A10, h⟩ := Option.bind_eq_some_iff.1 h
 have A1_ := Aside0.mk A10
 clear A10
 cases b1 with
 | false =>
  have h1 : some false = some r := h
  obtain rfl := Option.some.inj h1
  clear h h1
  exact impl_IsOrder.e0
 | true =>
  rw [if_pos rfl] at h
  by_cases q0 : (l1.length : Int) = 128
  ·rw [if_pos q0] at h
   have q0b : ((l1.length : Int) != 128) = false := bne_eq_false_iff_eq.mpr q0
   have q0c : ((l1.length : Int) == 128) = true := beq_iff_eq.mpr q0
   clear q0
   obtain ⟨t, A20, h⟩ := Option.bind_eq_some_iff.1 h
   have A2_ := Aside0.mk A20
   have HT := Aside0.mk h
   clear A20 h
   go_enter Try.func29, Try.ntmps29
   go_wp2_with (first | ((with_reducible refine gate_dst (N := 3) rfl ?_); refine box_event ?hg (N := 3) ?hd (cs := #[.slice A1 l1.length c1]) (t := 26) ?hr ?_; (case hd => rfl); (case hg => rfl); (case hr => first | (go_simp; done) | (go_simp; rfl)); intro gb hg w1 hbox hb; have BK := Aside0.mk hbox; replace HB := Aside0.mk (bs_ HB.out hb); clear hb hbox hg; obtain ⟨hcz_0, hfz_0⟩ := cz1_ BK.out) | (go_at_call 33; (with_reducible refine (impl_DependsOk.calls k A0 c0 l0 _ _ ?side1 HC0.out A1_.out).mono ?_); (case side1 => exact cb_ HR0.out HB.out); rintro e w2 ⟨rfl, hb⟩; replace BK := Aside0.mk (bk_ BK.out hb); replace HB := Aside0.mk (bs_ HB.out hb); (try clear hb); obtain ⟨hcz_0, hfz_0⟩ := cz1_ BK.out))
   go_loopg [14] k (fun kq v14 w' => ∃ (x : Int), v14 = .int .i64 x ∧ Aside0 (impl_IsOrder.l0 kq l1 x = some t) ∧ Aside0 (kq ≤ k) ∧ Aside0 (w'.heap[gb]? = some (.cells #[.slice A1 l1.length c1] 26 (0, 0))) ∧ Aside0 (Below w.heap.size w w'))
   case atStart => exact ⟨(0), ef_, A2_, ⟨Nat.le_refl _⟩, ⟨bq_ BK.out⟩, ⟨bb_ HB.out⟩⟩
   case round =>
    clear A2_ HB BK
    try clear hcz_0
    try clear hfz_0
    obtain ⟨x, rfl, HA, HK1, BK, HB⟩ := hrel
    obtain ⟨hcy_0, hfy_0⟩ := cz1_ BK.out
    cases gk with
    | zero => exact absurd HA.out (by simp [impl_IsOrder.l0])
    | succ k1 =>
     have H := HA.out
     clear HA
     simp only [impl_IsOrder.l0] at H
     by_cases q1 : x < 128
     ·rw [if_pos q1] at H
      have q1b : decide (x < 128) = true := decide_eq_true q1
      clear q1
      obtain ⟨u, A30, H⟩ := Option.bind_eq_some_iff.1 H
      have A3 := Aside0.mk A30
      clear A30
      cases u with
      | true =>
       rw [if_pos rfl] at H
       have H' := Aside0.mk H
       clear H
       go_wp2_with (first | (go_at_call 46; (with_reducible refine (slices_Contains_int_int.calls k1 A1 c1 l1 x _ _ ?side1 HC1.out A3.out).mono ?_); (case side1 => exact cb_ HR1.out HB.out); rintro e w3 ⟨rfl, hd⟩; replace BK := Aside0.mk (bd0_ BK.out hd); replace HB := Aside0.mk (below_drawn0 HB.out hd); clear hd))
       go_roundg k1
       case measure => omega
       case rel => exact ⟨(wrap64 (x + 1)), ef_, H', ⟨by have := HK1.out; omega⟩, ⟨bq_ BK.out⟩, ⟨bb_ HB.out⟩⟩
      | false =>
       have H1 : some false = some t := H
       obtain rfl := Option.some.inj H1
       clear H H1
       have h1 : some false = some r := HT.out
       obtain rfl := Option.some.inj h1
       clear h1 HT
       go_wp2_with (first | (go_at_call 46; (with_reducible refine (slices_Contains_int_int.calls k1 A1 c1 l1 x _ _ ?side1 HC1.out A3.out).mono ?_); (case side1 => exact cb_ HR1.out HB.out); rintro e w3 ⟨rfl, hd⟩; replace BK := Aside0.mk (bd0_ BK.out hd); replace HB := Aside0.mk (below_drawn0 HB.out hd); clear hd))
       go_ret
       exact ⟨by first | rfl | (simp; done) | (simp [*]; done), bb_ HB.out⟩
     ·rw [if_neg q1] at H
      have q1b : decide (x < 128) = false := decide_eq_false q1
      clear q1
      obtain rfl := Option.some.inj H
      have h := HT.out
      rw [if_pos rfl] at h
      obtain ⟨i, A40, h⟩ := Option.bind_eq_some_iff.1 h
      have A4 := Aside0.mk A40
      obtain rfl := Option.some.inj h
      clear A40 h HT
      go_wp2_with (first | (go_at_call 50; (with_reducible refine (impl_IsOrder.cont k gb A0 c0 l0 A1 c1 l1 i _ (bq_ BK.out) ?side1 ?side2 A4.out).mono ?_); (case side1 => exact cb_ HR0.out HB.out); (case side2 => exact cb_ HR1.out HB.out); rintro e w3 ⟨rfl, hb⟩; replace HB := Aside0.mk (bs_ HB.out hb); clear hb))
      go_ret
      exact ⟨by first | rfl | (simp; done) | (simp [*]; done), bb_ HB.out⟩
  ·rw [if_neg q0] at h
   have h1 : some false = some r := h
   obtain rfl := Option.some.inj h1
   have q0b : ((l1.length : Int) != 128) = true := bne_iff_ne.mpr q0
   have q0c : ((l1.length : Int) == 128) = false := beq_eq_false_iff_ne.mpr q0
   clear q0 h h1
   exact impl_IsOrder.e0

/-! ### laws_FnOrders: function 9 -/
mutual
def laws_FnOrders.l0 : Nat → List (S44) → List Int → Int → Int → Option (Bool)
 | 0, _, _, _, _ => none
 | k + 1, x3, x4, x8, x9 => if x9 ≥ 0 then (laws_FnOrders.l1 k x3 x4 x8 x9 true 0) else ((impl_IsOrder.f k x3 x4).bind fun t256 => (if t256 = true then (if x8 ≥ 0 then (if 0 ≤ x8 then (if x8 < (x4.length : Int) then (some ((rd x4 x8) == 0)) else (none)) else (none)) else (none)) else (none)))
def laws_FnOrders.l1 : Nat → List (S44) → List Int → Int → Int → Bool → Int → Option (Bool)
 | 0, _, _, _, _, _, _ => none
 | k + 1, x3, x4, x8, x9, x10, x11 => if x11 < (x3.length : Int) then (if x10 = true then (if 0 ≤ x11 then (laws_FnOrders.l1 k x3 x4 x8 x9 (((rd_T44 x3 x11).f1) != x9) (wrap64 (x11 + 1))) else (none)) else (laws_FnOrders.l1 k x3 x4 x8 x9 false (wrap64 (x11 + 1)))) else (if x10 = true then (laws_FnOrders.l0 k x3 x4 x9 (wrap64 (x9 - 1))) else (laws_FnOrders.l0 k x3 x4 x8 (wrap64 (x9 - 1))))
end
def laws_FnOrders.f (k : Nat) (l0 : List Int) : Option (Bool) := (laws_big.f l0).bind fun t244 => (if t244 = true then (some true) else ((spec_DrawDepends.f k l0).bind fun t245 => ((impl_OrderOf.f k t245).bind fun bt248 => ((spec_OrderOf.f k t245).bind fun bt252 => (if bt248.2 = true then (if (bt248.1.length : Int) = 128 then (laws_FnOrders.l0 k t245 bt248.1 (-1) 127) else (none)) else (if bt252.2 = true then (none) else (some ((bt248.1.length : Int) == 0))))))))
theorem laws_FnOrders.mono_l : ∀ k, (∀ y0 y1 y2 y3, LeO (laws_FnOrders.l0 k y0 y1 y2 y3) (laws_FnOrders.l0 (k + 1) y0 y1 y2 y3)) ∧ (∀ y0 y1 y2 y3 y4 y5, LeO (laws_FnOrders.l1 k y0 y1 y2 y3 y4 y5) (laws_FnOrders.l1 (k + 1) y0 y1 y2 y3 y4 y5))
 | 0 => ⟨fun _ _ _ _ r h => by simp [laws_FnOrders.l0] at h, fun _ _ _ _ _ _ r h => by simp [laws_FnOrders.l1] at h⟩
 | k + 1 => by
  obtain ⟨ih0, ih1⟩ := laws_FnOrders.mono_l k
  refine ⟨?_, ?_⟩
  ·intro y0 y1 y2 y3
   unfold laws_FnOrders.l0
   repeat' first
   | (with_reducible exact ih0 _ _ _ _)
   | (with_reducible exact ih1 _ _ _ _ _ _)
   | (with_reducible exact impl_IsOrder.mono _ _ _)
   | (with_reducible exact impl_OrderOf.mono _ _)
   | (with_reducible exact spec_DrawDepends.mono _ _)
   | (with_reducible exact spec_OrderOf.mono _ _)
   | (with_reducible exact LeO.refl _)
   | (with_reducible exact LeO.none _)
   | (with_reducible refine LeO.ite ?_ ?_)
   | (with_reducible refine LeO.bind ?_ (fun _ => ?_))
   | exact ih0 _ _ _ _
   | exact ih1 _ _ _ _ _ _
   | exact impl_IsOrder.mono _ _ _
   | exact impl_OrderOf.mono _ _
   | exact spec_DrawDepends.mono _ _
   | exact spec_OrderOf.mono _ _
   | exact LeO.none _
   | refine LeO.ite ?_ ?_
   | refine LeO.bind ?_ (fun _ => ?_)
  ·intro y0 y1 y2 y3 y4 y5
   unfold laws_FnOrders.l1
   repeat' first
   | (with_reducible exact ih0 _ _ _ _)
   | (with_reducible exact ih1 _ _ _ _ _ _)
   | (with_reducible exact impl_IsOrder.mono _ _ _)
   | (with_reducible exact impl_OrderOf.mono _ _)
   | (with_reducible exact spec_DrawDepends.mono _ _)
   | (with_reducible exact spec_OrderOf.mono _ _)
   | (with_reducible exact LeO.refl _)
   | (with_reducible exact LeO.none _)
   | (with_reducible refine LeO.ite ?_ ?_)
   | (with_reducible refine LeO.bind ?_ (fun _ => ?_))
   | exact ih0 _ _ _ _
   | exact ih1 _ _ _ _ _ _
   | exact impl_IsOrder.mono _ _ _
   | exact impl_OrderOf.mono _ _
   | exact spec_DrawDepends.mono _ _
   | exact spec_OrderOf.mono _ _
   | exact LeO.none _
   | refine LeO.ite ?_ ?_
   | refine LeO.bind ?_ (fun _ => ?_)
theorem laws_FnOrders.mono : ∀ a0 k, LeO (laws_FnOrders.f k a0) (laws_FnOrders.f (k + 1) a0) := by
 intro a0 k
 obtain ⟨ih0, ih1⟩ := laws_FnOrders.mono_l k
 unfold laws_FnOrders.f
 repeat' first
   | (with_reducible exact ih0 _ _ _ _)
   | (with_reducible exact ih1 _ _ _ _ _ _)
   | (with_reducible exact impl_IsOrder.mono _ _ _)
   | (with_reducible exact impl_OrderOf.mono _ _)
   | (with_reducible exact spec_DrawDepends.mono _ _)
   | (with_reducible exact spec_OrderOf.mono _ _)
   | (with_reducible exact LeO.refl _)
   | (with_reducible exact LeO.none _)
   | (with_reducible refine LeO.ite ?_ ?_)
   | (with_reducible refine LeO.bind ?_ (fun _ => ?_))
   | exact ih0 _ _ _ _
   | exact ih1 _ _ _ _ _ _
   | exact impl_IsOrder.mono _ _ _
   | exact impl_OrderOf.mono _ _
   | exact spec_DrawDepends.mono _ _
   | exact spec_OrderOf.mono _ _
   | exact LeO.none _
   | refine LeO.ite ?_ ?_
   | refine LeO.bind ?_ (fun _ => ?_)
theorem laws_FnOrders.e0 {P : Prop} (h : P := by
 go_enter Try.func9, Try.ntmps9
 go_wp2_with (first | ((with_reducible refine gate_callee (f := 10) rfl ?_); refine gm_ (some 13) Try.func10 #[.slice A0 l0.length c0] rfl ?_; (with_reducible refine (laws_big.calls _ _ l0 _ _ ?side1 HC0.out A2.out).mono ?_); (case side1 => repeat (first | exact HR0.out | (with_reducible refine Kd.C_alloc ?_ _) | (with_reducible refine Kd.C_drewN ?_ _) | (with_reducible refine Kd.C_drew ?_))); rintro e w' ⟨rfl, ⟨nd, rfl⟩⟩; refine ⟨_, rfl, ?_⟩) | ((with_reducible refine gate_callee (f := 11) rfl ?_); refine gm_ (some 15) Try.func11 #[.slice A0 l0.length c0] rfl ?_; (with_reducible refine (spec_DrawDepends.calls k _ _ l0 t245 _ ?side1 HC0.out A4.out).mono ?_); (case side1 => repeat (first | exact HR0.out | (with_reducible refine Kd.C_alloc ?_ _) | (with_reducible refine Kd.C_drewN ?_ _) | (with_reducible refine Kd.C_drew ?_))); rintro e w_0 ⟨v246, rfl, ho0, hb⟩; refine ⟨_, rfl, ?_⟩; have HO247 := Aside0.mk (Kd.R_lower ho0 (bz_ HB.out)); replace HB := Aside0.mk (bs_ HB.out hb); (try clear hb); (try clear ho0); obtain ⟨Ao27, co27, eo27⟩ := Kd.R_slice HO247.out; subst eo27) | ((with_reducible refine gate_callee (f := 20) rfl ?_); refine gm_ (some 18) Try.func20 #[.slice Ao27 t245.length co27] rfl ?_; (with_reducible refine (impl_OrderOf.calls k _ _ t245 t248 _ _ ?side1 ?side2 A5.out).mono ?_); (case side1 => repeat (first | exact (Kd.R_reads' HO247.out).2.2 | (with_reducible refine Kd.C_alloc ?_ _) | (with_reducible refine Kd.C_drewN ?_ _) | (with_reducible refine Kd.C_drew ?_))); (case side2 => exact (Kd.R_reads' HO247.out).2.1); rintro e w_0 ⟨v250, rfl, ho0, hb⟩; refine ⟨_, rfl, ?_⟩; replace HO247 := Aside0.mk (Kd.R_below (ra_ HO247.out) hb); have HO251 := Aside0.mk (Kd.R_lower ho0 (bz_ HB.out)); replace HB := Aside0.mk (bs_ HB.out hb); (try clear hb); (try clear ho0)) | ((with_reducible refine gate_callee (f := 28) rfl ?_); refine gm_ (some 23) Try.func28 #[.slice Ao27 t245.length co27] rfl ?_; (with_reducible refine (spec_OrderOf.calls k _ _ t245 t252 _ _ ?side1 ?side2 A6.out).mono ?_); (case side1 => repeat (first | exact (Kd.R_reads' HO247.out).2.2 | (with_reducible refine Kd.C_alloc ?_ _) | (with_reducible refine Kd.C_drewN ?_ _) | (with_reducible refine Kd.C_drew ?_))); (case side2 => exact (Kd.R_reads' HO247.out).2.1); rintro e w_0 ⟨v254, rfl, ho0, hb⟩; refine ⟨_, rfl, ?_⟩; replace HO247 := Aside0.mk (Kd.R_below (ra_ HO247.out) hb); have HO255 := Aside0.mk (Kd.R_lower (Kd.R_new' ho0 (rl_ HO251.out)) (bz_ HB.out)); replace HO251 := Aside0.mk (Kd.R_elder' (ra_ HO251.out) (Kd.R_base ho0) hb); replace HB := Aside0.mk (bs_ HB.out hb); (try clear hb); (try clear ho0); obtain ⟨Ao30, co30, eo30⟩ := Kd.R_slice HO251.out; subst eo30))
 go_ret
 exact ⟨fin_, bb_ HB.out⟩) : P := h
set_option maxHeartbeats 8000000 in
set_option maxRecDepth 100000 in
theorem laws_FnOrders.calls (k : Nat) (A0 : Option Addr) (c0 : Nat) (l0 : List Int) (r : Bool) (w : World) (hr0 : Kd.C (Kd.int .u8) w A0 l0.length l0) (hc0 : l0.length ≤ c0) (h : laws_FnOrders.f k l0 = some r) :
  Calls Try.prog 9 #[.slice A0 l0.length c0] w fun e w' => e = .returned (.bool r) ∧ Below w.heap.size w w' := by
 have HR0 := Aside0.mk hr0
 have HC0 := Aside0.mk hc0
 clear hr0 hc0
 have HB := Aside0.mk (Below.refl w.heap.size w)
 have H : ((laws_big.f l0).bind fun t244 => (if t244 = true then (some true) else ((spec_DrawDepends.f k l0).bind fun t245 => ((impl_OrderOf.f k t245).bind fun bt248 => ((spec_OrderOf.f k t245).bind fun bt252 => (if bt248.2 = true then (if (bt248.1.length : Int) = 128 then (laws_FnOrders.l0 k t245 bt248.1 (-1) 127) else (none)) else (if bt252.2 = true then (none) else (some ((bt248.1.length : Int) == 0))))))))) = some r := h
 clear h
 replace H := Option.bind_eq_some_iff.mp H
 obtain ⟨t244, A20, H⟩ := H
 try dsimp only at H
 have A2 := Aside0.mk A20
 clear A20
 by_cases c3 : t244 = true
 ·subst c3
  rw [if_pos rfl] at H
  obtain rfl := Option.some.inj H
  exact laws_FnOrders.e0
 ·replace c3 := Bool.eq_false_iff.mpr c3
  subst c3
  rw [if_neg (show ¬ (false = true) by decide)] at H
  replace H := Option.bind_eq_some_iff.mp H
  obtain ⟨t245, A40, H⟩ := H
  try dsimp only at H
  have A4 := Aside0.mk A40
  clear A40
  replace H := Option.bind_eq_some_iff.mp H
  obtain ⟨⟨t248, t249⟩, A50, H⟩ := H
  try dsimp only at H
  have A5 := Aside0.mk A50
  clear A50
  replace H := Option.bind_eq_some_iff.mp H
  obtain ⟨⟨t252, t253⟩, A60, H⟩ := H
  try dsimp only at H
  have A6 := Aside0.mk A60
  clear A60
  by_cases c7 : t249 = true
  ·subst c7
   rw [if_pos rfl] at H
   by_cases c8 : (t248.length : Int) = 128
   ·rw [if_pos c8] at H
    have c8b0 : ((t248.length : Int) == 128) = true := beq_iff_eq.mpr c8
    have c8b1 : ((t248.length : Int) != 128) = false := bne_eq_false_iff_eq.mpr c8
    clear c8
    have H' := Aside0.mk H
    clear H
    go_enter Try.func9, Try.ntmps9
    go_wp2_with (first | ((with_reducible refine gate_callee (f := 10) rfl ?_); refine gm_ (some 13) Try.func10 #[.slice A0 l0.length c0] rfl ?_; (with_reducible refine (laws_big.calls _ _ l0 false _ ?side1 HC0.out A2.out).mono ?_); (case side1 => repeat (first | exact HR0.out | (with_reducible refine Kd.C_alloc ?_ _) | (with_reducible refine Kd.C_drewN ?_ _) | (with_reducible refine Kd.C_drew ?_))); rintro e w' ⟨rfl, ⟨nd, rfl⟩⟩; refine ⟨_, rfl, ?_⟩) | ((with_reducible refine gate_callee (f := 11) rfl ?_); refine gm_ (some 15) Try.func11 #[.slice A0 l0.length c0] rfl ?_; (with_reducible refine (spec_DrawDepends.calls k _ _ l0 t245 _ ?side1 HC0.out A4.out).mono ?_); (case side1 => repeat (first | exact HR0.out | (with_reducible refine Kd.C_alloc ?_ _) | (with_reducible refine Kd.C_drewN ?_ _) | (with_reducible refine Kd.C_drew ?_))); rintro e w9 ⟨v246, rfl, ho0, hb⟩; refine ⟨_, rfl, ?_⟩; have HO247 := Aside0.mk (Kd.R_lower ho0 (bz_ HB.out)); replace HB := Aside0.mk (bs_ HB.out hb); (try clear hb); (try clear ho0); obtain ⟨Ao10, co10, eo10⟩ := Kd.R_slice HO247.out; subst eo10) | ((with_reducible refine gate_callee (f := 20) rfl ?_); refine gm_ (some 18) Try.func20 #[.slice Ao10 t245.length co10] rfl ?_; (with_reducible refine (impl_OrderOf.calls k _ _ t245 t248 true _ ?side1 ?side2 A5.out).mono ?_); (case side1 => repeat (first | exact (Kd.R_reads' HO247.out).2.2 | (with_reducible refine Kd.C_alloc ?_ _) | (with_reducible refine Kd.C_drewN ?_ _) | (with_reducible refine Kd.C_drew ?_))); (case side2 => exact (Kd.R_reads' HO247.out).2.1); rintro e w11 ⟨v250, rfl, ho0, hb⟩; refine ⟨_, rfl, ?_⟩; replace HO247 := Aside0.mk (Kd.R_below (ra_ HO247.out) hb); have HO251 := Aside0.mk (Kd.R_lower ho0 (bz_ HB.out)); replace HB := Aside0.mk (bs_ HB.out hb); (try clear hb); (try clear ho0)) | ((with_reducible refine gate_callee (f := 28) rfl ?_); refine gm_ (some 23) Try.func28 #[.slice Ao10 t245.length co10] rfl ?_; (with_reducible refine (spec_OrderOf.calls k _ _ t245 t252 t253 _ ?side1 ?side2 A6.out).mono ?_); (case side1 => repeat (first | exact (Kd.R_reads' HO247.out).2.2 | (with_reducible refine Kd.C_alloc ?_ _) | (with_reducible refine Kd.C_drewN ?_ _) | (with_reducible refine Kd.C_drew ?_))); (case side2 => exact (Kd.R_reads' HO247.out).2.1); rintro e w12 ⟨v254, rfl, ho0, hb⟩; refine ⟨_, rfl, ?_⟩; replace HO247 := Aside0.mk (Kd.R_below (ra_ HO247.out) hb); have HO255 := Aside0.mk (Kd.R_lower (Kd.R_new' ho0 (rl_ HO251.out)) (bz_ HB.out)); replace HO251 := Aside0.mk (Kd.R_elder' (ra_ HO251.out) (Kd.R_base ho0) hb); replace HB := Aside0.mk (bs_ HB.out hb); (try clear hb); (try clear ho0); obtain ⟨Ao13, co13, eo13⟩ := Kd.R_slice HO251.out; subst eo13))
    go_loopg [8, 9] k (fun kq v8 v9 w' => ∃ (x8_1 : Int) (x9_1 : Int), v8 = .int .i64 x8_1 ∧ v9 = .int .i64 x9_1 ∧ Aside0 (laws_FnOrders.l0 kq t245 t248 x8_1 x9_1 = some r) ∧ Aside0 (kq ≤ k) ∧ Aside0 (Kd.R k44 44 w' w.heap.size (fun _ => True) (.slice Ao10 t245.length co10) t245) ∧ Aside0 (Kd.R (Kd.int .i64) 3 w' w.heap.size (fun _ => True) (.slice Ao13 t248.length co13) t248) ∧ Aside0 (Below w.heap.size w w'))
    case atStart => exact ⟨((-1)), (127), ef_, ef_, H', ⟨Nat.le_refl _⟩, ⟨by (with_reducible repeat (first | apply Kd.R_alloc | apply Kd.R_drewN | apply Kd.R_drew)); exact HO247.out⟩, ⟨by (with_reducible repeat (first | apply Kd.R_alloc | apply Kd.R_drewN | apply Kd.R_drew)); exact Kd.R_mono HO251.out (fun _ hk => trivial)⟩, ⟨bb_ HB.out⟩⟩
    case round =>
     clear H'
     try clear c3
     try clear c7
     try clear c8
     try clear c8b0
     try clear c8b1
     obtain ⟨x8_1, x9_1, rfl, rfl, HA, HK1, HO_3, HO_4, HB⟩ := hrel
     cases gk with
     | zero => exact absurd HA.out (by simp [laws_FnOrders.l0])
     | succ k1 =>
      have H := HA.out
      clear HA
      simp only [laws_FnOrders.l0] at H
      by_cases c14 : x9_1 ≥ 0
      ·rw [if_pos c14] at H
       have c14b0 : decide (0 ≤ x9_1) = true := decide_eq_true c14
       clear c14
       have H' := Aside0.mk H
       clear H
       go_wp2
       go_loopg [10, 11] k1 (fun kq v10 v11 w' => ∃ (x10_2 : Bool) (x11_2 : Int), v10 = .bool x10_2 ∧ v11 = .int .i64 x11_2 ∧ Aside0 (laws_FnOrders.l1 kq t245 t248 x8_1 x9_1 x10_2 x11_2 = some r) ∧ Aside0 (kq ≤ k1) ∧ Aside0 (Kd.R k44 44 w' w.heap.size (fun _ => True) (.slice Ao10 t245.length co10) t245) ∧ Aside0 (Kd.R (Kd.int .i64) 3 w' w.heap.size (fun _ => True) (.slice Ao13 t248.length co13) t248) ∧ Aside0 (Below w.heap.size w w'))
       case atStart => exact ⟨(true), (0), ef_, ef_, H', ⟨Nat.le_refl _⟩, ⟨by (with_reducible repeat (first | apply Kd.R_alloc | apply Kd.R_drewN | apply Kd.R_drew)); exact HO_3.out⟩, ⟨by (with_reducible repeat (first | apply Kd.R_alloc | apply Kd.R_drewN | apply Kd.R_drew)); exact HO_4.out⟩, ⟨bb_ HB.out⟩⟩
       case round =>
        clear H'
        try clear c3
        try clear c7
        try clear c8
        try clear c8b0
        try clear c8b1
        try clear c14
        try clear c14b0
        obtain ⟨x10_2, x11_2, rfl, rfl, HA, HK2, HO_3, HO_4, HB⟩ := hrel
        cases gk with
        | zero => exact absurd HA.out (by simp [laws_FnOrders.l1])
        | succ k2 =>
         have H := HA.out
         clear HA
         simp only [laws_FnOrders.l1] at H
         by_cases c15 : x11_2 < (t245.length : Int)
         ·rw [if_pos c15] at H
          have c15b0 : decide (x11_2 < (t245.length : Int)) = true := decide_eq_true c15
          clear c15
          by_cases c16 : x10_2 = true
          ·subst c16
           rw [if_pos rfl] at H
           by_cases c17 : 0 ≤ x11_2
           ·rw [if_pos c17] at H
            have c17b0 : decide (0 ≤ x11_2) = true := decide_eq_true c17
            clear c17
            have H' := Aside0.mk H
            clear H
            have p258 : 0 ≤ (x11_2 : Int) := of_decide_eq_true dg_
            have q258 : x11_2 < (t245.length : Int) := of_decide_eq_true dg_
            obtain ⟨ad258, e258, hx258_0, hx258_1⟩ := at_T44 (Kd.R_reads' HO_3.out).2.2 x11_2 p258 q258
            cases e258
            replace p258 := eq_true p258
            replace q258 := eq_true q258
            go_wp2
            go_roundg k2
            case measure => have := HK1.out; have := HK2.out; omega
            case rel => exact ⟨((((rd_T44 t245 x11_2).f1) != x9_1)), (wrap64 (x11_2 + 1)), ef_, ef_, H', ⟨by have := HK1.out; have := HK2.out; omega⟩, ⟨by (with_reducible repeat (first | apply Kd.R_alloc | apply Kd.R_drewN | apply Kd.R_drew)); exact HO_3.out⟩, ⟨by (with_reducible repeat (first | apply Kd.R_alloc | apply Kd.R_drewN | apply Kd.R_drew)); exact HO_4.out⟩, ⟨bb_ HB.out⟩⟩
           ·rw [if_neg c17] at H
            exact absurd H (by simp)
          ·replace c16 := Bool.eq_false_iff.mpr c16
           subst c16
           rw [if_neg (show ¬ (false = true) by decide)] at H
           have H' := Aside0.mk H
           clear H
           go_wp2
           go_roundg k2
           case measure => have := HK1.out; have := HK2.out; omega
           case rel => exact ⟨(false), (wrap64 (x11_2 + 1)), ef_, ef_, H', ⟨by have := HK1.out; have := HK2.out; omega⟩, ⟨by (with_reducible repeat (first | apply Kd.R_alloc | apply Kd.R_drewN | apply Kd.R_drew)); exact HO_3.out⟩, ⟨by (with_reducible repeat (first | apply Kd.R_alloc | apply Kd.R_drewN | apply Kd.R_drew)); exact HO_4.out⟩, ⟨bb_ HB.out⟩⟩
         ·rw [if_neg c15] at H
          have c15b0 : decide (x11_2 < (t245.length : Int)) = false := decide_eq_false c15
          clear c15
          by_cases c18 : x10_2 = true
          ·subst c18
           rw [if_pos rfl] at H
           have H' := Aside0.mk H
           clear H
           go_wp2
           go_roundg k2
           case measure => have := HK1.out; have := HK2.out; omega
           case rel => exact ⟨(x9_1), (wrap64 (x9_1 - 1)), ef_, ef_, H', ⟨by have := HK1.out; have := HK2.out; omega⟩, ⟨by (with_reducible repeat (first | apply Kd.R_alloc | apply Kd.R_drewN | apply Kd.R_drew)); exact HO_3.out⟩, ⟨by (with_reducible repeat (first | apply Kd.R_alloc | apply Kd.R_drewN | apply Kd.R_drew)); exact HO_4.out⟩, ⟨bb_ HB.out⟩⟩
          ·replace c18 := Bool.eq_false_iff.mpr c18
           subst c18
           rw [if_neg (show ¬ (false = true) by decide)] at H
           have H' := Aside0.mk H
           clear H
           go_wp2
           go_roundg k2
           case measure => have := HK1.out; have := HK2.out; omega
           case rel => exact ⟨(x8_1), (wrap64 (x9_1 - 1)), ef_, ef_, H', ⟨by have := HK1.out; have := HK2.out; omega⟩, ⟨by (with_reducible repeat (first | apply Kd.R_alloc | apply Kd.R_drewN | apply Kd.R_drew)); exact HO_3.out⟩, ⟨by (with_reducible repeat (first | apply Kd.R_alloc | apply Kd.R_drewN | apply Kd.R_drew)); exact HO_4.out⟩, ⟨bb_ HB.out⟩⟩
      ·rw [if_neg c14] at H
       have c14b0 : decide (0 ≤ x9_1) = false := decide_eq_false c14
       clear c14
       replace H := Option.bind_eq_some_iff.mp H
       obtain ⟨t256, A190, H⟩ := H
       try dsimp only at H
       have A19 := Aside0.mk A190
       clear A190
       by_cases c20 : t256 = true
       ·subst c20
        rw [if_pos rfl] at H
        by_cases c21 : x8_1 ≥ 0
        ·rw [if_pos c21] at H
         have c21b0 : decide (0 ≤ x8_1) = true := decide_eq_true c21
         clear c21
         by_cases c22 : 0 ≤ x8_1
         ·rw [if_pos c22] at H
          have c22b0 : decide (0 ≤ x8_1) = true := decide_eq_true c22
          clear c22
          by_cases c23 : x8_1 < (t248.length : Int)
          ·rw [if_pos c23] at H
           have c23b0 : decide (x8_1 < (t248.length : Int)) = true := decide_eq_true c23
           clear c23
           obtain rfl := Option.some.inj H
           go_wp2_with (first | ((with_reducible refine gate_callee (f := 29) rfl ?_); refine gm_ (some 62) Try.func29 #[.slice Ao10 t245.length co10, .slice Ao13 t248.length co13] rfl ?_; (with_reducible refine (impl_IsOrder.calls k1 _ _ t245 _ _ t248 true _ ?side1 ?side2 ?side3 ?side4 A19.out).mono ?_); (case side1 => repeat (first | exact (Kd.R_reads' HO_3.out).2.2 | (with_reducible refine Kd.C_alloc ?_ _) | (with_reducible refine Kd.C_drewN ?_ _) | (with_reducible refine Kd.C_drew ?_))); (case side2 => exact (Kd.R_reads' HO_3.out).2.1); (case side3 => repeat (first | exact (Kd.R_reads' HO_4.out).2.2 | (with_reducible refine Kd.C_alloc ?_ _) | (with_reducible refine Kd.C_drewN ?_ _) | (with_reducible refine Kd.C_drew ?_))); (case side4 => exact (Kd.R_reads' HO_4.out).2.1); rintro e w24 ⟨rfl, hb⟩; refine ⟨_, rfl, ?_⟩; replace HO_3 := Aside0.mk (Kd.R_below (ra_ HO_3.out) hb); replace HO_4 := Aside0.mk (Kd.R_below (ra_ HO_4.out) hb); replace HB := Aside0.mk (bs_ HB.out hb); (try clear hb); have p257 : 0 ≤ (x8_1 : Int) := of_decide_eq_true dg_; have q257 : x8_1 < (t248.length : Int) := of_decide_eq_true dg_; obtain ⟨ad257, e257, hx257_0⟩ := Kd.at_int (Kd.R_reads' HO_4.out).2.2 x8_1 p257 q257; cases e257; replace p257 := eq_true p257; replace q257 := eq_true q257))
           go_ret
           exact ⟨fin_, bb_ HB.out⟩
          ·rw [if_neg c23] at H
           exact absurd H (by simp)
         ·rw [if_neg c22] at H
          exact absurd H (by simp)
        ·rw [if_neg c21] at H
         exact absurd H (by simp)
       ·replace c20 := Bool.eq_false_iff.mpr c20
        subst c20
        rw [if_neg (show ¬ (false = true) by decide)] at H
        exact absurd H (by simp)
   ·rw [if_neg c8] at H
    exact absurd H (by simp)
  ·replace c7 := Bool.eq_false_iff.mpr c7
   subst c7
   rw [if_neg (show ¬ (false = true) by decide)] at H
   by_cases c25 : t253 = true
   ·subst c25
    rw [if_pos rfl] at H
    exact absurd H (by simp)
   ·replace c25 := Bool.eq_false_iff.mpr c25
    subst c25
    rw [if_neg (show ¬ (false = true) by decide)] at H
    obtain rfl := Option.some.inj H
    exact laws_FnOrders.e0

/-- THE ONE PURE STATEMENT of laws_FnOrders: yours. -/
def laws_FnOrders.Pure : Prop := ∀ (l0 : List Int), l0.length ≤ maxLen → l0.length * 1 ≤ 140737488351232 → (∀ x ∈ l0, (Lit.int .u8 x).wf = true) → ∃ k, laws_FnOrders.f k l0 = some true
theorem laws_FnOrders.walk (P : laws_FnOrders.Pure) (a0 : Option Addr) (len0 cap0 : Nat) (z0 : List Int) (w : World) (w0 : (a0 = none ∧ len0 = 0 ∧ cap0 = 0 ∧ z0 = []) ∨ ∃ x, a0 = some x ∧ len0 ≤ cap0 ∧ cap0 ≤ maxLen ∧ z0.length = cap0 ∧ (∀ i, i < z0.length → w.cell? (x.add i) = some (.int .u8 (z0.getD i 0))) ∧ ∀ n ∈ z0, (Lit.int .u8 n).wf = true) (y0 : len0 * 1 ≤ 140737488351232) :
  Calls Try.prog 9 #[.slice a0 len0 cap0] w fun e w' => e = .returned (.bool true) ∧ Below w.heap.size w w' := by
 obtain ⟨l0, rfl, hr0, hm0, hw0, hc0⟩ := ReadsInt.ofRowC w0
 obtain ⟨k, h⟩ := P l0 hm0 y0 hw0
 refine (laws_FnOrders.calls k _ _ l0 true w (Kd.C_of_reads (d := (0 : Int)) (h1 := fun _ => rfl) hr0) hc0 h).mono ?_
 rintro e w' ⟨rfl, hd⟩
 exact ⟨rfl, hd⟩

end Go.Proofs.Ytagmogkdlimofaa.PFnOrders
-- thin
