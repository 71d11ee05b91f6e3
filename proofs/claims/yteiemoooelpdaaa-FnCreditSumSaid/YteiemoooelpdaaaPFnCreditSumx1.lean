
import Derived.Test.YteiemoooelpdaaaPFnCreditSumx0
namespace Go.Proofs.Yteiemoooelpdaaa.PFnCreditSum
open Go.RowKit Go.Proofs.YteiemoooelpdaaaW.PrintWords Go.Proofs.YteiemoooelpdaaaW.PrintLast Go.Proofs.YteiemoooelpdaaaW.PrintMore
attribute [local go_sem] max2_int min2_int max_two min_two max_three min_three max_four min_four
set_option linter.unusedVariables false
set_option maxHeartbeats 8000000
set_option maxRecDepth 100000
set_option linter.unusedSimpArgs false
def laws_big.f (l0 : List Int) : Option (Bool) := some (decide ((l0.length : Int) > 1048576))
theorem laws_big.calls (A0 : Option Addr) (c0 : Nat) (l0 : List Int) (r : Bool) (w : World) (hr0 : Kd.C (Kd.int .u8) w A0 l0.length l0) (hc0 : l0.length ≤ c0) (h : laws_big.f l0 = some r) :
  Calls Try.prog 5 #[.slice A0 l0.length c0] w fun e w' => e = .returned (.bool r) ∧ Drawn0 w w' := by
 have HR0 := am hr0
 have HC0 := am hc0
 clear hr0 hc0
 have H : (some (decide ((l0.length : Int) > 1048576))) = some r := h
 clear h
 obtain rfl := Option.some.inj H
 go_enter Try.func5, Try.ntmps5
 go_wp2
 go_ret
 exact ⟨by first | rfl | (simp; done) | (simp [*]; done), by repeat (first | exact Drawn0.refl _ | apply Drawn0.step)⟩
def IsS67 (w0 W : World) (g : Nat) (f0 : List Int) (f1 : Int) (f2 : Int) : Prop := ∃ A0 c0, W.heap[g]? = some (.cells #[.slice A0 f0.length c0, .int .i64 f1, .int .i64 f2] 67 (0, 0)) ∧ w0.heap.size ≤ g ∧ Kd.C (Kd.int .u8) w0 A0 f0.length f0
theorem IsS67.grown {w0 W : World} {g : Nat} {f0 : List Int} {f1 : Int} {f2 : Int} {W1 : World} {row : Option Nat} (h : IsS67 w0 W g f0 f1 f2) (hw : W.grownBy W1 row) (hne : some g ≠ row) : IsS67 w0 W1 g f0 f1 f2 := by
 obtain ⟨A0, c0, hb, hg, hr0⟩ := h
 exact ⟨A0, c0, blk_grown hb hw hne, hg, hr0⟩
theorem IsS67.below {w0 W : World} {g : Nat} {f0 : List Int} {f1 : Int} {f2 : Int} {W1 : World} (h : IsS67 w0 W g f0 f1 f2) (hw : Below W.heap.size W W1) : IsS67 w0 W1 g f0 f1 f2 := h.grown (grown_of_below hw none) (by simp)
theorem IsS67.alloc {w0 W : World} {g : Nat} {f0 : List Int} {f1 : Int} {f2 : Int} (h : IsS67 w0 W g f0 f1 f2) (o : Obj) : IsS67 w0 (W.alloc o) g f0 f1 f2 := h.below (below_alloc (Below.refl _ _) o)
theorem IsS67.drewN {w0 W : World} {g : Nat} {f0 : List Int} {f1 : Int} {f2 : Int} (h : IsS67 w0 W g f0 f1 f2) (m : Nat) : IsS67 w0 (W.drewN m) g f0 f1 f2 := h
theorem IsS67.drew {w0 W : World} {g : Nat} {f0 : List Int} {f1 : Int} {f2 : Int} (h : IsS67 w0 W g f0 f1 f2) : IsS67 w0 W.drew g f0 f1 f2 := h
theorem IsS67.at_ {w0 W : World} {g : Nat} {f0 : List Int} {f1 : Int} {f2 : Int} {w' : World} {m : Nat} (hq : W.drewN m = w') (h : IsS67 w0 W g f0 f1 f2) : IsS67 w0 w' g f0 f1 f2 := by subst hq; exact IsS67.drewN h m
theorem IsS67.apart {w0 W : World} {g : Nat} {f0 : List Int} {f1 : Int} {f2 : Int} {α : Type} {d : Kd α} {e : Nat} {base : Nat} {ok : Nat → Prop} {v : Value} {xs : List α} (h : IsS67 w0 W g f0 f1 f2) (ho : d.R e W base ok v xs) (ht : ∀ q, q ∈ e :: d.E → q ≠ 67) : d.R e W base (fun k => ok k ∧ k ≠ g) v xs := by
 obtain ⟨A0, c0, hb, hg, hr0⟩ := h
 exact Kd.R_types ho hb ht
theorem IsS67.own_ne {w0 W : World} {g : Nat} {f0 : List Int} {f1 : Int} {f2 : Int} {α : Type} {d : Kd α} {e : Nat} {base : Nat} {ok : Nat → Prop} {v : Value} {xs : List α} (h : IsS67 w0 W g f0 f1 f2) (ho : d.R e W base ok v xs) (ht : e ≠ 67) : some g ≠ v.ownBlock := by
 obtain ⟨A0, c0, hb, hg, hr0⟩ := h
 exact Kd.R_ne ho hb ht
theorem IsS67.lt {w0 W : World} {g : Nat} {f0 : List Int} {f1 : Int} {f2 : Int} (h : IsS67 w0 W g f0 f1 f2) : g < W.heap.size := by
 obtain ⟨A0, c0, hb, hg, hr0⟩ := h
 exact blk_lt hb
theorem IsS67.ge {w0 W : World} {g : Nat} {f0 : List Int} {f1 : Int} {f2 : Int} (h : IsS67 w0 W g f0 f1 f2) : w0.heap.size ≤ g := by
 obtain ⟨A0, c0, hb, hg, hr0⟩ := h
 exact hg
theorem IsS67.ne_blk {w0 W : World} {g : Nat} {f0 : List Int} {f1 : Int} {f2 : Int} {a : Nat} {cs : Array Value} {t : TypeId} {fr : Nat × Nat} (h : IsS67 w0 W g f0 f1 f2) (hb2 : W.heap[a]? = some (.cells cs t fr)) (ht : t ≠ 67) : g ≠ a := by
 obtain ⟨A0, c0, hb, hg, hr0⟩ := h
 rintro rfl
 rw [hb] at hb2
 injection hb2 with hb2
 injection hb2 with _ ht2
 exact ht ht2.symm
theorem IsS67.far {w0 W : World} {g : Nat} {f0 : List Int} {f1 : Int} {f2 : Int} {p : Addr} (h : IsS67 w0 W g f0 f1 f2) (hne : g ≠ p.block) (u : Value) : IsS67 w0 (W.setCell p u) g f0 f1 f2 := by
 obtain ⟨A0, c0, hb, hg, hr0⟩ := h
 exact ⟨A0, c0, blk_far hb hne u, hg, hr0⟩
theorem cellS67_0 {W : World} {g : Nat} {A0 : Option Addr} {c0 : Nat} {f0 : List Int} {f1 : Int} {f2 : Int} (h : W.heap[g]? = some (.cells #[.slice A0 f0.length c0, .int .i64 f1, .int .i64 f2] 67 (0, 0))) : W.cell? ⟨g, 0, none⟩ = some (.slice A0 f0.length c0) := (blk_cell h 0).trans rfl
theorem cellS67_1 {W : World} {g : Nat} {A0 : Option Addr} {c0 : Nat} {f0 : List Int} {f1 : Int} {f2 : Int} (h : W.heap[g]? = some (.cells #[.slice A0 f0.length c0, .int .i64 f1, .int .i64 f2] 67 (0, 0))) : W.cell? ⟨g, 1, none⟩ = some (.int .i64 f1) := (blk_cell h 1).trans rfl
theorem IsS67.set_1 {w0 W : World} {g : Nat} {f0 : List Int} {f1 : Int} {f2 : Int} (h : IsS67 w0 W g f0 f1 f2) (x : Int) : IsS67 w0 (W.setCell ⟨g, 1, none⟩ (.int .i64 x)) g f0 x f2 := by
 obtain ⟨A0, c0, hb, hg, hr0⟩ := h
 exact ⟨A0, c0, by simpa using blk_set hb 1 (.int .i64 x), hg, hr0⟩
theorem cellS67_2 {W : World} {g : Nat} {A0 : Option Addr} {c0 : Nat} {f0 : List Int} {f1 : Int} {f2 : Int} (h : W.heap[g]? = some (.cells #[.slice A0 f0.length c0, .int .i64 f1, .int .i64 f2] 67 (0, 0))) : W.cell? ⟨g, 2, none⟩ = some (.int .i64 f2) := (blk_cell h 2).trans rfl
theorem IsS67.set_2 {w0 W : World} {g : Nat} {f0 : List Int} {f1 : Int} {f2 : Int} (h : IsS67 w0 W g f0 f1 f2) (x : Int) : IsS67 w0 (W.setCell ⟨g, 2, none⟩ (.int .i64 x)) g f0 f1 x := by
 obtain ⟨A0, c0, hb, hg, hr0⟩ := h
 exact ⟨A0, c0, by simpa using blk_set hb 2 (.int .i64 x), hg, hr0⟩
theorem IsS67.new (w0 W : World) (A0 : Option Addr) (c0 : Nat) (f0 : List Int) (f1 : Int) (f2 : Int) (hB : Below w0.heap.size w0 W) (hr0 : Kd.C (Kd.int .u8) w0 A0 f0.length f0) : IsS67 w0 (W.alloc (.cells #[.slice A0 f0.length c0, .int .i64 f1, .int .i64 f2] 67)) W.heap.size f0 f1 f2 := ⟨A0, c0, by simpa using heap_alloc_new W _, hB.size, hr0⟩
theorem i67_ {w0 W V : World} {g : Nat} {f0 : List Int} {f1 : Int} {f2 : Int} {f0' : List Int} {f1' : Int} {f2' : Int} (h : IsS67 w0 V g f0 f1 f2) (k : IsS67 w0 V g f0 f1 f2 → IsS67 w0 W g f0' f1' f2' := by (intro h_; repeat (first | (with_reducible first | exact h_ | apply IsS67.alloc | apply IsS67.drewN | apply IsS67.drew | apply IsS67.set_1 | apply IsS67.set_2 | refine IsS67.far ?_ (Aside0.out (by assumption)) _) | exact h_))) : IsS67 w0 W g f0' f1' f2' := k h
theorem hb_ {w W V : World} (h : Below w.heap.size w V) (k : Below w.heap.size w V → Below w.heap.size w W := by (intro h_; repeat (first | (with_reducible first | exact h_ | apply below_alloc | apply pw_below_drewN | apply below_drew1 | refine below_set ?_ (Aside0.out (by assumption)) | refine below_set ?_ (IsS67.ge (Aside0.out (by assumption)))) | exact h_))) : Below w.heap.size w W := k h
def spec_l01Byte.f (s0_0 : List Int) (s0_1 : Int) (s0_2 : Int) : Option (Int × Int × Int) := if s0_1 < (s0_0.length : Int) then (if 0 ≤ s0_1 then (some (Go.bits .and .i64 (wrap64 ((Go.bits .and .i64 (Go.bits .xor .i64 ((wrap64 ((wrap64 (s0_2 * 6364136223846793005)) + 1442695040888963407)) / 8589934592) ((wrap64 ((wrap64 (s0_2 * 6364136223846793005)) + 1442695040888963407)) / 35184372088832)) 255) + (wrap64 (rd s0_0 s0_1)))) 255, wrap64 (s0_1 + 1), wrap64 ((wrap64 (s0_2 * 6364136223846793005)) + 1442695040888963407))) else (none)) else (some (Go.bits .and .i64 (Go.bits .xor .i64 ((wrap64 ((wrap64 (s0_2 * 6364136223846793005)) + 1442695040888963407)) / 8589934592) ((wrap64 ((wrap64 (s0_2 * 6364136223846793005)) + 1442695040888963407)) / 35184372088832)) 255, s0_1, wrap64 ((wrap64 (s0_2 * 6364136223846793005)) + 1442695040888963407)))
theorem spec_l01Byte.calls (g : Nat) (s0_0 : List Int) (s0_1 : Int) (s0_2 : Int) (r1 : Int) (r2 : Int) (r3 : Int) (w0 w : World) (hI : IsS67 w0 w g s0_0 s0_1 s0_2) (hB : Below w0.heap.size w0 w) (h : spec_l01Byte.f s0_0 s0_1 s0_2 = some (r1, r2, r3)) :
  Calls Try.prog 36 #[.pointer (some ⟨g, 0, none⟩)] w fun e w' => e = .returned (.int .i64 r1) ∧ IsS67 w0 w' g s0_0 r2 r3 ∧ Below w0.heap.size w0 w' ∧ KeepBut w w' g none := by
 have HI0 := am hI
 have HK := am (KeepBut.refl w g none)
 have HL := am hB.size
 clear hI
 have HW0 := am hB.size
 have HB := am hB
 clear hB
 have H : (if s0_1 < (s0_0.length : Int) then (if 0 ≤ s0_1 then (some (Go.bits .and .i64 (wrap64 ((Go.bits .and .i64 (Go.bits .xor .i64 ((wrap64 ((wrap64 (s0_2 * 6364136223846793005)) + 1442695040888963407)) / 8589934592) ((wrap64 ((wrap64 (s0_2 * 6364136223846793005)) + 1442695040888963407)) / 35184372088832)) 255) + (wrap64 (rd s0_0 s0_1)))) 255, wrap64 (s0_1 + 1), wrap64 ((wrap64 (s0_2 * 6364136223846793005)) + 1442695040888963407))) else (none)) else (some (Go.bits .and .i64 (Go.bits .xor .i64 ((wrap64 ((wrap64 (s0_2 * 6364136223846793005)) + 1442695040888963407)) / 8589934592) ((wrap64 ((wrap64 (s0_2 * 6364136223846793005)) + 1442695040888963407)) / 35184372088832)) 255, s0_1, wrap64 ((wrap64 (s0_2 * 6364136223846793005)) + 1442695040888963407)))) = some (r1, r2, r3) := h
 clear h
 by_cases c2 : s0_1 < (s0_0.length : Int)
 ·rw [if_pos c2] at H
  have c2b0 : decide (s0_1 < (s0_0.length : Int)) = true := decide_eq_true c2
  clear c2
  by_cases c3 : 0 ≤ s0_1
  rotate_left
  ·rw [if_neg c3] at H
   exact absurd H (by simp)
  rw [if_pos c3] at H
  have c3b0 : decide (0 ≤ s0_1) = true := decide_eq_true c3
  clear c3
  simp only [Option.some.injEq, Prod.mk.injEq] at H
  obtain ⟨rfl, rfl, rfl⟩ := H
  obtain ⟨ASz4_0, cSz4_0, HGz4, hgz4, HSz4_0⟩ := HI0.out
  have hcz4_0 := cellS67_0 HGz4
  have hcz4_1 := cellS67_1 HGz4
  have hcz4_2 := cellS67_2 HGz4
  have hfz4_1 := blk_frozen HGz4 1
  have hfz4_2 := blk_frozen HGz4 2
  clear HGz4 hgz4
  have p101 : 0 ≤ (s0_1 : Int) := of_decide_eq_true dg_
  have q101 : s0_1 < (s0_0.length : Int) := of_decide_eq_true dg_
  obtain ⟨ad101, e101, hx101_0⟩ := Kd.at_int HSz4_0 s0_1 p101 q101
  cases e101
  have hn101_0 : ad101.block ≠ g := Nat.ne_of_lt (Nat.lt_of_lt_of_le (by have := World.block_lt_of_cell? _ _ hx101_0; first | rwa [add_block] at this | exact this) (IsS67.ge HI0.out))
  replace hx101_0 := pw_cell_below HB.out hx101_0
  replace hx101_0 := (cell_far (p := ⟨g, 2, none⟩) (by first | (rw [add_block]; exact hn101_0) | (show (Addr.add _ _).block ≠ _; rw [add_block]; exact hn101_0) | exact hn101_0) (.int .i64 (wrap64 ((wrap64 (s0_2 * 6364136223846793005)) + 1442695040888963407)))).trans hx101_0
  (try have hy101_0 := fun (n_ : Nat) => (show (((w.drewN n_).setCell ⟨g, 2, none⟩ (.int .i64 (wrap64 ((wrap64 (s0_2 * 6364136223846793005)) + 1442695040888963407))))).cell? _ = some _ from hx101_0))
  clear hn101_0
  replace p101 := eq_true p101
  replace q101 := eq_true q101
  go_enter Try.func36, Try.ntmps36
  go_wp2
  repeat (go_quiet (fail); try go_wp2)
  go_ret
  exact ⟨fin_, i67_ HI0.out, hb_ HB.out, kh_ HK.out⟩
 ·rw [if_neg c2] at H
  have c2b0 : decide (s0_1 < (s0_0.length : Int)) = false := decide_eq_false c2
  clear c2
  simp only [Option.some.injEq, Prod.mk.injEq] at H
  obtain ⟨rfl, rfl, rfl⟩ := H
  obtain ⟨ASz5_0, cSz5_0, HGz5, hgz5, HSz5_0⟩ := HI0.out
  have hcz5_0 := cellS67_0 HGz5
  have hcz5_1 := cellS67_1 HGz5
  have hcz5_2 := cellS67_2 HGz5
  have hfz5_1 := blk_frozen HGz5 1
  have hfz5_2 := blk_frozen HGz5 2
  clear HGz5 hgz5
  go_enter Try.func36, Try.ntmps36
  go_wp2
  repeat (go_quiet (fail); try go_wp2)
  go_ret
  exact ⟨fin_, i67_ HI0.out, hb_ HB.out, kh_ HK.out⟩
def spec_l01Below.f (s0_0 : List Int) (s0_1 : Int) (s0_2 : Int) (a1 : Int) : Option (Int × Int × Int) := if a1 ≤ 0 then (some (0, s0_1, s0_2)) else (if a1 ≤ 256 then ((spec_l01Byte.f s0_0 s0_1 s0_2).bind fun bt102 => (if a1 = 0 then (none) else (some (Int.tmod bt102.1 a1, bt102.2.1, bt102.2.2)))) else ((spec_l01Byte.f s0_0 s0_1 s0_2).bind fun bt105 => ((spec_l01Byte.f s0_0 bt105.2.1 bt105.2.2).bind fun bt108 => ((spec_l01Byte.f s0_0 bt108.2.1 bt108.2.2).bind fun bt111 => ((spec_l01Byte.f s0_0 bt111.2.1 bt111.2.2).bind fun bt114 => (if a1 = 0 then (none) else (some (Int.tmod (wrap64 ((wrap64 ((wrap64 ((wrap64 (bt105.1 * 16777216)) + (wrap64 (bt108.1 * 65536)))) + (wrap64 (bt111.1 * 256)))) + bt114.1)) a1, bt114.2.1, bt114.2.2))))))))
theorem spec_l01Below.e0 {P : Prop} (h : P := by
 go_enter Try.func17, Try.ntmps17
 go_wp2_with (first | ((with_reducible refine gate_callee (f := 36) rfl ?_); refine gm_ (some 14) Try.func36 #[.pointer (some ⟨g, 0, none⟩)] rfl ?_; (with_reducible refine (spec_l01Byte.calls g s0_0 s0_1 s0_2 t102 t103 t104 w0 _ ?side1 ?side2 A5.out).mono ?_); (case side1 => exact i67_ HI0.out); (case side2 => exact hb_ HB.out); rintro e w_0 ⟨rfl, hi, hb, hk⟩; refine ⟨_, rfl, ?_⟩; replace HK := am (KeepBut.trans (kh_ HK.out) hk (.inl rfl)); replace HB := am (hb); replace HI0 := am (hi); (try clear hb)) | ((with_reducible refine gate_callee (f := 36) rfl ?_); refine gm_ (some 18) Try.func36 #[.pointer (some ⟨g, 0, none⟩)] rfl ?_; (with_reducible refine (spec_l01Byte.calls g s0_0 s0_1 s0_2 t105 t106 t107 w0 _ ?side1 ?side2 A8.out).mono ?_); (case side1 => exact i67_ HI0.out); (case side2 => exact hb_ HB.out); rintro e w_0 ⟨rfl, hi, hb, hk⟩; refine ⟨_, rfl, ?_⟩; replace HK := am (KeepBut.trans (kh_ HK.out) hk (.inl rfl)); replace HB := am (hb); replace HI0 := am (hi); (try clear hb)) | ((with_reducible refine gate_callee (f := 36) rfl ?_); refine gm_ (some 20) Try.func36 #[.pointer (some ⟨g, 0, none⟩)] rfl ?_; (with_reducible refine (spec_l01Byte.calls g s0_0 t106 t107 t108 t109 t110 w0 _ ?side1 ?side2 A9.out).mono ?_); (case side1 => exact i67_ HI0.out); (case side2 => exact hb_ HB.out); rintro e w_0 ⟨rfl, hi, hb, hk⟩; refine ⟨_, rfl, ?_⟩; replace HK := am (KeepBut.trans (kh_ HK.out) hk (.inl rfl)); replace HB := am (hb); replace HI0 := am (hi); (try clear hb)) | ((with_reducible refine gate_callee (f := 36) rfl ?_); refine gm_ (some 22) Try.func36 #[.pointer (some ⟨g, 0, none⟩)] rfl ?_; (with_reducible refine (spec_l01Byte.calls g s0_0 t109 t110 t111 t112 t113 w0 _ ?side1 ?side2 A10.out).mono ?_); (case side1 => exact i67_ HI0.out); (case side2 => exact hb_ HB.out); rintro e w_0 ⟨rfl, hi, hb, hk⟩; refine ⟨_, rfl, ?_⟩; replace HK := am (KeepBut.trans (kh_ HK.out) hk (.inl rfl)); replace HB := am (hb); replace HI0 := am (hi); (try clear hb)) | ((with_reducible refine gate_callee (f := 36) rfl ?_); refine gm_ (some 24) Try.func36 #[.pointer (some ⟨g, 0, none⟩)] rfl ?_; (with_reducible refine (spec_l01Byte.calls g s0_0 t112 t113 t114 t115 t116 w0 _ ?side1 ?side2 A11.out).mono ?_); (case side1 => exact i67_ HI0.out); (case side2 => exact hb_ HB.out); rintro e w_0 ⟨rfl, hi, hb, hk⟩; refine ⟨_, rfl, ?_⟩; replace HK := am (KeepBut.trans (kh_ HK.out) hk (.inl rfl)); replace HB := am (hb); replace HI0 := am (hi); (try clear hb)))
 go_ret
 exact ⟨fin_, i67_ HI0.out, hb_ HB.out, kh_ HK.out⟩) : P := h
theorem spec_l01Below.calls (g : Nat) (s0_0 : List Int) (s0_1 : Int) (s0_2 : Int) (a1 : Int) (r1 : Int) (r2 : Int) (r3 : Int) (w0 w : World) (hI : IsS67 w0 w g s0_0 s0_1 s0_2) (hB : Below w0.heap.size w0 w) (h : spec_l01Below.f s0_0 s0_1 s0_2 a1 = some (r1, r2, r3)) :
  Calls Try.prog 17 #[.pointer (some ⟨g, 0, none⟩), .int .i64 a1] w fun e w' => e = .returned (.int .i64 r1) ∧ IsS67 w0 w' g s0_0 r2 r3 ∧ Below w0.heap.size w0 w' ∧ KeepBut w w' g none := by
 have HI0 := am hI
 have HK := am (KeepBut.refl w g none)
 have HL := am hB.size
 clear hI
 have HW0 := am hB.size
 have HB := am hB
 clear hB
 have H : (if a1 ≤ 0 then (some (0, s0_1, s0_2)) else (if a1 ≤ 256 then ((spec_l01Byte.f s0_0 s0_1 s0_2).bind fun bt102 => (if a1 = 0 then (none) else (some (Int.tmod bt102.1 a1, bt102.2.1, bt102.2.2)))) else ((spec_l01Byte.f s0_0 s0_1 s0_2).bind fun bt105 => ((spec_l01Byte.f s0_0 bt105.2.1 bt105.2.2).bind fun bt108 => ((spec_l01Byte.f s0_0 bt108.2.1 bt108.2.2).bind fun bt111 => ((spec_l01Byte.f s0_0 bt111.2.1 bt111.2.2).bind fun bt114 => (if a1 = 0 then (none) else (some (Int.tmod (wrap64 ((wrap64 ((wrap64 ((wrap64 (bt105.1 * 16777216)) + (wrap64 (bt108.1 * 65536)))) + (wrap64 (bt111.1 * 256)))) + bt114.1)) a1, bt114.2.1, bt114.2.2))))))))) = some (r1, r2, r3) := h
 clear h
 by_cases c3 : a1 ≤ 0
 ·rw [if_pos c3] at H
  have c3b0 : decide (a1 ≤ 0) = true := decide_eq_true c3
  clear c3
  simp only [Option.some.injEq, Prod.mk.injEq] at H
  obtain ⟨rfl, rfl, rfl⟩ := H
  exact spec_l01Below.e0
 ·rw [if_neg c3] at H
  have c3b0 : decide (a1 ≤ 0) = false := decide_eq_false c3
  clear c3
  by_cases c4 : a1 ≤ 256
  ·rw [if_pos c4] at H
   have c4b0 : decide (a1 ≤ 256) = true := decide_eq_true c4
   clear c4
   obtain ⟨⟨t102, t103, t104⟩, A5, H⟩ := bi_ H
   try dsimp only at H
   by_cases c6 : a1 = 0
   ·rw [if_pos c6] at H
    exact absurd H (by simp)
   rw [if_neg c6] at H
   have c6b0 : (a1 == 0) = false := beq_eq_false_iff_ne.mpr c6
   have c6b1 : (a1 != 0) = true := bne_iff_ne.mpr c6
   simp only [Option.some.injEq, Prod.mk.injEq] at H
   obtain ⟨rfl, rfl, rfl⟩ := H
   exact spec_l01Below.e0
  ·rw [if_neg c4] at H
   have c4b0 : decide (a1 ≤ 256) = false := decide_eq_false c4
   clear c4
   obtain ⟨⟨t105, t106, t107⟩, A8, H⟩ := bi_ H
   try dsimp only at H
   obtain ⟨⟨t108, t109, t110⟩, A9, H⟩ := bi_ H
   try dsimp only at H
   obtain ⟨⟨t111, t112, t113⟩, A10, H⟩ := bi_ H
   try dsimp only at H
   obtain ⟨⟨t114, t115, t116⟩, A11, H⟩ := bi_ H
   try dsimp only at H
   by_cases c12 : a1 = 0
   ·rw [if_pos c12] at H
    exact absurd H (by simp)
   ·rw [if_neg c12] at H
    have c12b0 : (a1 == 0) = false := beq_eq_false_iff_ne.mpr c12
    have c12b1 : (a1 != 0) = true := bne_iff_ne.mpr c12
    simp only [Option.some.injEq, Prod.mk.injEq] at H
    obtain ⟨rfl, rfl, rfl⟩ := H
    exact spec_l01Below.e0
def spec_l01PickInt.f (s0_0 : List Int) (s0_1 : Int) (s0_2 : Int) (l1 : List Int) : Option (Int × Int × Int) := (spec_l01Below.f s0_0 s0_1 s0_2 (l1.length : Int)).bind fun bt117 => (if 0 ≤ bt117.1 then (if bt117.1 < (l1.length : Int) then (some (rd l1 bt117.1, bt117.2.1, bt117.2.2)) else (none)) else (none))
theorem spec_l01PickInt.calls (g : Nat) (s0_0 : List Int) (s0_1 : Int) (s0_2 : Int) (A1 : Option Addr) (c1 : Nat) (l1 : List Int) (r1 : Int) (r2 : Int) (r3 : Int) (w0 w : World) (hI : IsS67 w0 w g s0_0 s0_1 s0_2) (hB : Below w0.heap.size w0 w) (hr1 : Kd.C (Kd.int .i64) w A1 l1.length l1) (hc1 : l1.length ≤ c1) (hf1 : ∀ ad, A1 = some ad → 0 < l1.length → ad.block ≠ g) (h : spec_l01PickInt.f s0_0 s0_1 s0_2 l1 = some (r1, r2, r3)) :
  Calls Try.prog 78 #[.pointer (some ⟨g, 0, none⟩), .slice A1 l1.length c1] w fun e w' => e = .returned (.int .i64 r1) ∧ IsS67 w0 w' g s0_0 r2 r3 ∧ Below w0.heap.size w0 w' ∧ KeepBut w w' g none := by
 have HR1 := am hr1
 have HC1 := am hc1
 clear hr1 hc1
 have HI0 := am hI
 have HK := am (KeepBut.refl w g none)
 have HL := am hB.size
 clear hI
 have HW0 := am hB.size
 have HB := am hB
 clear hB
 have H : ((spec_l01Below.f s0_0 s0_1 s0_2 (l1.length : Int)).bind fun bt117 => (if 0 ≤ bt117.1 then (if bt117.1 < (l1.length : Int) then (some (rd l1 bt117.1, bt117.2.1, bt117.2.2)) else (none)) else (none))) = some (r1, r2, r3) := h
 clear h
 obtain ⟨⟨t117, t118, t119⟩, A3, H⟩ := bi_ H
 try dsimp only at H
 by_cases c4 : 0 ≤ t117
 ·rw [if_pos c4] at H
  have c4b0 : decide (0 ≤ t117) = true := decide_eq_true c4
  clear c4
  by_cases c5 : t117 < (l1.length : Int)
  rotate_left
  ·rw [if_neg c5] at H
   exact absurd H (by simp)
  rw [if_pos c5] at H
  have c5b0 : decide (t117 < (l1.length : Int)) = true := decide_eq_true c5
  clear c5
  simp only [Option.some.injEq, Prod.mk.injEq] at H
  obtain ⟨rfl, rfl, rfl⟩ := H
  go_enter Try.func78, Try.ntmps78
  go_wp2_with (first | ((with_reducible refine gate_callee (f := 17) rfl ?_); refine gm_ (some 9) Try.func17 #[.pointer (some ⟨g, 0, none⟩), .int .i64 (l1.length : Int)] rfl ?_; (with_reducible refine (spec_l01Below.calls g s0_0 s0_1 s0_2 (l1.length : Int) t117 t118 t119 w0 _ ?side1 ?side2 A3.out).mono ?_); (case side1 => exact i67_ HI0.out); (case side2 => exact hb_ HB.out); rintro e w6 ⟨rfl, hi, hb, hk⟩; refine ⟨_, rfl, ?_⟩; replace HK := am (KeepBut.trans (kh_ HK.out) hk (.inl rfl)); replace HB := am (hb); replace HI0 := am (hi); (try clear hb); have p120 : 0 ≤ (t117 : Int) := of_decide_eq_true dg_; have q120 : t117 < (l1.length : Int) := of_decide_eq_true dg_; obtain ⟨ad120, e120, hx120_0⟩ := Kd.at_int HR1.out t117 p120 q120; cases e120; replace hx120_0 := keep_cell HK.out hx120_0 (by first | (rw [add_block]; exact hf1 _ rfl (by omega)) | exact hf1 _ rfl (by omega) | exact hf1 ad120 rfl (by omega)); replace p120 := eq_true p120; replace q120 := eq_true q120))
  go_ret
  exact ⟨fin_, i67_ HI0.out, hb_ HB.out, kh_ HK.out⟩
 ·rw [if_neg c4] at H
  exact absurd H (by simp)
def spec_l02Grid.f (s0_0 : List Int) (s0_1 : Int) (s0_2 : Int) : Option (Int × Int × Int × Int) := (spec_l01PickInt.f s0_0 s0_1 s0_2 (([1, 2, 2, 3, 3, 4] : List Int))).bind fun bt125 => ((spec_l01PickInt.f s0_0 bt125.2.1 bt125.2.2 (([1, 2, 2, 3, 3, 4] : List Int))).bind fun bt131 => (some (bt125.1, bt131.1, bt131.2.1, bt131.2.2)))
theorem spec_l02Grid.calls (g : Nat) (s0_0 : List Int) (s0_1 : Int) (s0_2 : Int) (r1 : Int) (r2 : Int) (r3 : Int) (r4 : Int) (w0 w : World) (hI : IsS67 w0 w g s0_0 s0_1 s0_2) (hB : Below w0.heap.size w0 w) (h : spec_l02Grid.f s0_0 s0_1 s0_2 = some (r1, r2, r3, r4)) :
  Calls Try.prog 56 #[.pointer (some ⟨g, 0, none⟩)] w fun e w' => e = .returned (.agg #[.int .i64 r1, .int .i64 r2]) ∧ IsS67 w0 w' g s0_0 r3 r4 ∧ Below w0.heap.size w0 w' ∧ KeepBut w w' g none := by
 have hu25 := Try.underlying25
 have HI0 := am hI
 have HK := am (KeepBut.refl w g none)
 have HL := am hB.size
 clear hI
 have HW0 := am hB.size
 have HB := am hB
 clear hB
 have H : ((spec_l01PickInt.f s0_0 s0_1 s0_2 (([1, 2, 2, 3, 3, 4] : List Int))).bind fun bt125 => ((spec_l01PickInt.f s0_0 bt125.2.1 bt125.2.2 (([1, 2, 2, 3, 3, 4] : List Int))).bind fun bt131 => (some (bt125.1, bt131.1, bt131.2.1, bt131.2.2)))) = some (r1, r2, r3, r4) := h
 clear h
 obtain ⟨y122, hy122⟩ : ∃ y_ : List Int, y_ = (([1, 2, 2, 3, 3, 4] : List Int)) := ⟨_, rfl⟩
 replace H : ((spec_l01PickInt.f s0_0 s0_1 s0_2 y122).bind fun bt125 => ((spec_l01PickInt.f s0_0 bt125.2.1 bt125.2.2 (([1, 2, 2, 3, 3, 4] : List Int))).bind fun bt131 => (some (bt125.1, bt131.1, bt131.2.1, bt131.2.2)))) = some (r1, r2, r3, r4) := ry_ hy122 H
 have Ny122 := am hy122
 clear hy122
 obtain ⟨⟨t125, t126, t127⟩, A2, H⟩ := bi_ H
 try dsimp only at H
 obtain ⟨y128, hy128⟩ : ∃ y_ : List Int, y_ = (([1, 2, 2, 3, 3, 4] : List Int)) := ⟨_, rfl⟩
 replace H : ((spec_l01PickInt.f s0_0 t126 t127 y128).bind fun bt131 => (some (t125, bt131.1, bt131.2.1, bt131.2.2))) = some (r1, r2, r3, r4) := ry_ hy128 H
 have Ny128 := am hy128
 clear hy128
 obtain ⟨⟨t131, t132, t133⟩, A3, H⟩ := bi_ H
 try dsimp only at H
 simp only [Option.some.injEq, Prod.mk.injEq] at H
 obtain ⟨rfl, rfl, rfl, rfl⟩ := H
 go_enter Try.func56, Try.ntmps56
 go_wp2_with (first | ((with_reducible refine gate_dst (N := 2) rfl ?_); refine bx_ 2 #[.int .i64 0, .int .i64 0] 25 ?_; intro gb121 hg w4 hbox hb; replace HB := am (below_step (hb_ HB.out) hb); have BK121 := am (hbox); have GW121 := am ((by rw [hg]; exact (keep_size (w := w) (g := g) (row := none) (kh_ HK.out)) : w.heap.size ≤ gb121)); have GE121 := am ((Nat.le_trans HW0.out (by rw [hg]; exact (keep_size (w := w) (g := g) (row := none) (kh_ HK.out)) : w.heap.size ≤ gb121) : w0.heap.size ≤ gb121)); replace HK := am (KeepBut.trans (kh_ HK.out) (KeepBut.of_below hb g none) (.inl rfl)); have NB0_121 := am ((by rw [hg]; exact Nat.ne_of_lt (IsS67.lt (show IsS67 w0 _ g s0_0 s0_1 s0_2 from i67_ HI0.out)) : g ≠ gb121)); have NB121_0 := am ((by rw [hg]; exact Nat.ne_of_gt (IsS67.lt (show IsS67 w0 _ g s0_0 s0_1 s0_2 from i67_ HI0.out)) : gb121 ≠ g)); replace HI0 := am (IsS67.below (i67_ HI0.out) hb); clear hb hbox hg) | ((with_reducible refine gate_dst (N := 4) rfl ?_); refine Kd.R_lit (Kd.int .i64) _ 3 ?hg (N := 4) ?hd (xs := ([1, 2, 2, 3, 3, 4] : List Int)) (inner := [.int .i64 1, .int .i64 2, .int .i64 2, .int .i64 3, .int .i64 3, .int .i64 4]) (ok := fun _ => True) (okp := fun _ => True) ?hr ?hp (fun _ hk => hk) trivial (Below.refl _ _) (Nat.le_refl _) (by simp) ?_; (case hd => rfl); (case hg => rfl); (case hr => first | (go_simp; done) | (go_simp; rfl)); (case hp => exact (Reps.one (show Kd.M (Kd.int .i64) _ _ _ 1 [.int .i64 1] from rfl) (Reps.one (show Kd.M (Kd.int .i64) _ _ _ 2 [.int .i64 2] from rfl) (Reps.one (show Kd.M (Kd.int .i64) _ _ _ 2 [.int .i64 2] from rfl) (Reps.one (show Kd.M (Kd.int .i64) _ _ _ 3 [.int .i64 3] from rfl) (Reps.one (show Kd.M (Kd.int .i64) _ _ _ 3 [.int .i64 3] from rfl) (Reps.one (show Kd.M (Kd.int .i64) _ _ _ 4 [.int .i64 4] from rfl) (Reps.none _ _)))))))); intro v123 w5 ho6 hb hg_ hnew_; clear hg_ hnew_; (first | rw [← Ny122.out] at ho6 | (simp only [Int.reduceToNat] at ho6; rw [← Ny122.out] at ho6)); have HO124 := am (Kd.R_lower ho6 (keep_size (w := w) (g := g) (row := none) (kh_ HK.out))); replace BK121 := kb_ BK121 hb; replace HK := am (KeepBut.trans (kh_ HK.out) (KeepBut.of_below hb g none) (.inl rfl)); replace HB := am (below_step (hb_ HB.out) hb); replace HI0 := am (IsS67.below (i67_ HI0.out) hb); clear hb ho6; obtain ⟨Ao7, co7, eo7⟩ := Kd.R_slice HO124.out; subst eo7) | ((with_reducible refine gate_callee (f := 78) rfl ?_); refine gm_ (some 5) Try.func78 #[.pointer (some ⟨g, 0, none⟩), .slice Ao7 y122.length co7] rfl ?_; (with_reducible refine (spec_l01PickInt.calls g s0_0 s0_1 s0_2 _ _ y122 t125 t126 t127 w0 _ ?side1 ?side2 ?side3 ?side4 ?side5 A2.out).mono ?_); (case side1 => exact i67_ HI0.out); (case side2 => exact hb_ HB.out); (case side3 => exact rr_ HO124); (case side4 => exact (Kd.R_reads' HO124.out).2.1); (case side5 => exact far_slice (IsS67.own_ne HI0.out HO124.out (by decide))); rintro e w8 ⟨rfl, hi, hb, hk⟩; refine ⟨_, rfl, ?_⟩; replace BK121 := am (KeepBut.blk hk (g' := gb121) (o := .cells #[.int .i64 0, .int .i64 0] 25 (0, 0)) (bq_ BK121.out) NB121_0.out (by simp)); replace HO124 := am (Kd.R_mono (Kd.R_keep (IsS67.apart (show IsS67 w0 _ g s0_0 s0_1 s0_2 from i67_ HI0.out) (ra_ HO124.out) (by decide)) hk (fun _ h => h.2)) (fun _ h => h.1)); replace HK := am (KeepBut.trans (kh_ HK.out) hk (.inl rfl)); replace HB := am (hb); replace HI0 := am (hi); (try clear hb)) | ((with_reducible refine gate_dst (N := 7) rfl ?_); refine Kd.R_lit (Kd.int .i64) _ 3 ?hg (N := 7) ?hd (xs := ([1, 2, 2, 3, 3, 4] : List Int)) (inner := [.int .i64 1, .int .i64 2, .int .i64 2, .int .i64 3, .int .i64 3, .int .i64 4]) (ok := fun _ => True) (okp := fun _ => True) ?hr ?hp (fun _ hk => hk) trivial (Below.refl _ _) (Nat.le_refl _) (by simp) ?_; (case hd => rfl); (case hg => rfl); (case hr => first | (go_simp; done) | (go_simp; rfl)); (case hp => exact (Reps.one (show Kd.M (Kd.int .i64) _ _ _ 1 [.int .i64 1] from rfl) (Reps.one (show Kd.M (Kd.int .i64) _ _ _ 2 [.int .i64 2] from rfl) (Reps.one (show Kd.M (Kd.int .i64) _ _ _ 2 [.int .i64 2] from rfl) (Reps.one (show Kd.M (Kd.int .i64) _ _ _ 3 [.int .i64 3] from rfl) (Reps.one (show Kd.M (Kd.int .i64) _ _ _ 3 [.int .i64 3] from rfl) (Reps.one (show Kd.M (Kd.int .i64) _ _ _ 4 [.int .i64 4] from rfl) (Reps.none _ _)))))))); intro v129 w9 ho10 hb hg_ hnew_; clear hg_ hnew_; (first | rw [← Ny128.out] at ho10 | (simp only [Int.reduceToNat] at ho10; rw [← Ny128.out] at ho10)); have HO130 := am (Kd.R_lower (Kd.R_new' ho10 (rl_ HO124.out)) (keep_size (w := w) (g := g) (row := none) (kh_ HK.out))); replace HO124 := re_ HO124 ho10 hb; replace BK121 := kb_ BK121 hb; replace HK := am (KeepBut.trans (kh_ HK.out) (KeepBut.of_below hb g none) (.inl rfl)); replace HB := am (below_step (hb_ HB.out) hb); replace HI0 := am (IsS67.below (i67_ HI0.out) hb); clear hb ho10; obtain ⟨Ao11, co11, eo11⟩ := Kd.R_slice HO130.out; subst eo11) | ((with_reducible refine gate_callee (f := 78) rfl ?_); refine gm_ (some 8) Try.func78 #[.pointer (some ⟨g, 0, none⟩), .slice Ao11 y128.length co11] rfl ?_; (with_reducible refine (spec_l01PickInt.calls g s0_0 t126 t127 _ _ y128 t131 t132 t133 w0 _ ?side1 ?side2 ?side3 ?side4 ?side5 A3.out).mono ?_); (case side1 => exact i67_ HI0.out); (case side2 => exact hb_ HB.out); (case side3 => exact rr_ HO130); (case side4 => exact (Kd.R_reads' HO130.out).2.1); (case side5 => exact far_slice (IsS67.own_ne HI0.out HO130.out (by decide))); rintro e w12 ⟨rfl, hi, hb, hk⟩; refine ⟨_, rfl, ?_⟩; replace BK121 := am (KeepBut.blk hk (g' := gb121) (o := .cells #[.int .i64 0, .int .i64 0] 25 (0, 0)) (bq_ BK121.out) NB121_0.out (by simp)); replace HO124 := am (Kd.R_mono (Kd.R_keep (IsS67.apart (show IsS67 w0 _ g s0_0 t126 t127 from i67_ HI0.out) (ra_ HO124.out) (by decide)) hk (fun _ h => h.2)) (fun _ h => h.1)); replace HO130 := am (Kd.R_mono (Kd.R_keep (IsS67.apart (show IsS67 w0 _ g s0_0 t126 t127 from i67_ HI0.out) (ra_ HO130.out) (by decide)) hk (fun _ h => h.2)) (fun _ h => h.1)); replace HK := am (KeepBut.trans (kh_ HK.out) hk (.inl rfl)); replace HB := am (hb); replace HI0 := am (hi); (try clear hb); have hnb13 := NB121_0.out; have hnc13 := NB0_121.out; obtain ⟨hcz14_0, hcz14_1, hfz14_0, hfz14_1⟩ := cz2_ BK121.out))
 refine bodyPost_ret (results_cell_row rfl _ _ gb121 25 #[.int .i64 t125, .int .i64 t131] (0, 0) _ rfl (by (with_reducible repeat (first | refine blk_drewN ?_ _ | refine blk_drew ?_ | refine blk_alloc ?_ _)); refine blk_put (cs := #[.int .i64 t125, .int .i64 0]) ?_ 1 _ rfl; (with_reducible repeat (first | refine blk_drewN ?_ _ | refine blk_drew ?_ | refine blk_alloc ?_ _)); refine blk_put (cs := #[.int .i64 0, .int .i64 0]) ?_ 0 _ rfl; (with_reducible repeat (first | refine blk_drewN ?_ _ | refine blk_drew ?_ | refine blk_alloc ?_ _)); exact BK121.out) Try.underlying25 rfl (by kernel_rfl)) rfl ?_
 exact ⟨fin_, i67_ HI0.out, hb_ HB.out, kh_ HK.out⟩
def spec_l01In.f (a0 : Int) (a1 : Int) (a2 : Int) : Option (Bool) := if a0 ≥ a1 then (some (decide (a0 ≤ a2))) else (some false)
theorem spec_l01In.e0 {P : Prop} (h : P := by
 go_enter Try.func40, Try.ntmps40
 go_wp2
 go_ret
 exact ⟨by first | rfl | (simp; done) | (simp [*]; done), by repeat (first | exact Drawn0.refl _ | apply Drawn0.step)⟩) : P := h
theorem spec_l01In.calls (a0 : Int) (a1 : Int) (a2 : Int) (r : Bool) (w : World) (h : spec_l01In.f a0 a1 a2 = some r) :
  Calls Try.prog 40 #[.int .i64 a0, .int .i64 a1, .int .i64 a2] w fun e w' => e = .returned (.bool r) ∧ Drawn0 w w' := by
 have H : (if a0 ≥ a1 then (some (decide (a0 ≤ a2))) else (some false)) = some r := h
 clear h
 by_cases c4 : a0 ≥ a1
 ·rw [if_pos c4] at H
  have c4b0 : decide (a1 ≤ a0) = true := decide_eq_true c4
  clear c4
  obtain rfl := Option.some.inj H
  exact spec_l01In.e0
 ·rw [if_neg c4] at H
  have c4b0 : decide (a1 ≤ a0) = false := decide_eq_false c4
  clear c4
  obtain rfl := Option.some.inj H
  exact spec_l01In.e0
def spec_GridOk.f (a0_0 : Int) (a0_1 : Int) : Option (Bool) := (spec_l01In.f a0_0 1 4).bind fun t135 => (if t135 = true then ((spec_l01In.f a0_1 1 4).bind fun t136 => (some t136)) else (some false))
theorem spec_GridOk.e0 {P : Prop} (h : P := by
 go_enter Try.func79, Try.ntmps79
 go_wp2_with (first | ((with_reducible refine gate_dst (N := 1) rfl ?_); refine bx_ 1 #[.int .i64 a0_0, .int .i64 a0_1] 25 ?_; intro gb134 hg w_0 hbox hb; have BK134 := am (hbox); have GW134 := gw_ hg HB; replace HB := h9_ HB hb; clear hb hbox hg; obtain ⟨hcz_0, hcz_1, hfz_0, hfz_1⟩ := cz2_ BK134.out) | ((with_reducible refine gate_callee (f := 40) rfl ?_); refine gm_ (some 5) Try.func40 #[.int .i64 a0_0, .int .i64 1, .int .i64 4] rfl ?_; (with_reducible refine (spec_l01In.calls a0_0 1 4 _ _ A2.out).mono ?_); rintro e w' ⟨rfl, ⟨nd, rfl⟩⟩; refine ⟨_, rfl, ?_⟩) | (go_at_call 40; (with_reducible refine (spec_l01In.calls a0_1 1 4 t136 _ A4.out).mono ?_); rintro e w' ⟨rfl, ⟨nd, rfl⟩⟩))
 go_ret
 exact ⟨fin_, bb_ HB.out⟩) : P := h
theorem spec_GridOk.calls (a0_0 : Int) (a0_1 : Int) (r : Bool) (w : World) (h : spec_GridOk.f a0_0 a0_1 = some r) :
  Calls Try.prog 79 #[.agg #[.int .i64 a0_0, .int .i64 a0_1]] w fun e w' => e = .returned (.bool r) ∧ Below w.heap.size w w' := by
 have hu25 := Try.underlying25
 have HB := am (Below.refl w.heap.size w)
 have H : ((spec_l01In.f a0_0 1 4).bind fun t135 => (if t135 = true then ((spec_l01In.f a0_1 1 4).bind fun t136 => (some t136)) else (some false))) = some r := h
 clear h
 obtain ⟨t135, A2, H⟩ := bi_ H
 by_cases c3 : t135 = true
 ·subst c3
  rw [if_pos rfl] at H
  obtain ⟨t136, A4, H⟩ := bi_ H
  obtain rfl := Option.some.inj H
  exact spec_GridOk.e0
 ·replace c3 := Bool.eq_false_iff.mpr c3
  subst c3
  rw [if_neg (show ¬ (false = true) by decide)] at H
  obtain rfl := Option.some.inj H
  exact spec_GridOk.e0
def spec_NodeCount.f (a0_0 : Int) (a0_1 : Int) : Option (Int) := (spec_GridOk.f a0_0 a0_1).bind fun t138 => (if t138 = true then (some (wrap64 (a0_0 * a0_1))) else (some 0))
theorem spec_NodeCount.e0 {P : Prop} (h : P := by
 go_enter Try.func57, Try.ntmps57
 go_wp2_with (first | ((with_reducible refine gate_dst (N := 1) rfl ?_); refine bx_ 1 #[.int .i64 a0_0, .int .i64 a0_1] 25 ?_; intro gb137 hg w_0 hbox hb; have BK137 := am (hbox); have GW137 := gw_ hg HB; replace HB := h9_ HB hb; clear hb hbox hg; obtain ⟨hcz_0, hcz_1, hfz_0, hfz_1⟩ := cz2_ BK137.out) | ((with_reducible refine gate_callee (f := 79) rfl ?_); refine gm_ (some 4) Try.func79 #[.agg #[.int .i64 a0_0, .int .i64 a0_1]] rfl ?_; (with_reducible refine (spec_GridOk.calls a0_0 a0_1 _ _ A2.out).mono ?_); rintro e w_0 ⟨rfl, hb⟩; refine ⟨_, rfl, ?_⟩; replace BK137 := kb_ BK137 hb; replace HB := h9_ HB hb; (try clear hb); obtain ⟨hcz_0, hcz_1, hfz_0, hfz_1⟩ := cz2_ BK137.out))
 go_ret
 exact ⟨fin_, bb_ HB.out⟩) : P := h
theorem spec_NodeCount.calls (a0_0 : Int) (a0_1 : Int) (r : Int) (w : World) (h : spec_NodeCount.f a0_0 a0_1 = some r) :
  Calls Try.prog 57 #[.agg #[.int .i64 a0_0, .int .i64 a0_1]] w fun e w' => e = .returned (.int .i64 r) ∧ Below w.heap.size w w' := by
 have hu25 := Try.underlying25
 have HB := am (Below.refl w.heap.size w)
 have H : ((spec_GridOk.f a0_0 a0_1).bind fun t138 => (if t138 = true then (some (wrap64 (a0_0 * a0_1))) else (some 0))) = some r := h
 clear h
 obtain ⟨t138, A2, H⟩ := bi_ H
 by_cases c3 : t138 = true
 ·subst c3
  rw [if_pos rfl] at H
  obtain rfl := Option.some.inj H
  exact spec_NodeCount.e0
 ·replace c3 := Bool.eq_false_iff.mpr c3
  subst c3
  rw [if_neg (show ¬ (false = true) by decide)] at H
  obtain rfl := Option.some.inj H
  exact spec_NodeCount.e0
def spec_l14Grid.f (s0_0 : List Int) (s0_1 : Int) (s0_2 : Int) : Option (Int × Int × Int × Int) := (spec_l02Grid.f s0_0 s0_1 s0_2).bind fun bt140 => ((spec_NodeCount.f bt140.1 bt140.2.1).bind fun t145 => (if t145 < 2 then (some (2, bt140.2.1, bt140.2.2.1, bt140.2.2.2)) else (some (bt140.1, bt140.2.1, bt140.2.2.1, bt140.2.2.2))))
theorem spec_l14Grid.calls (g : Nat) (s0_0 : List Int) (s0_1 : Int) (s0_2 : Int) (r1 : Int) (r2 : Int) (r3 : Int) (r4 : Int) (w0 w : World) (hI : IsS67 w0 w g s0_0 s0_1 s0_2) (hB : Below w0.heap.size w0 w) (h : spec_l14Grid.f s0_0 s0_1 s0_2 = some (r1, r2, r3, r4)) :
  Calls Try.prog 30 #[.pointer (some ⟨g, 0, none⟩)] w fun e w' => e = .returned (.agg #[.int .i64 r1, .int .i64 r2]) ∧ IsS67 w0 w' g s0_0 r3 r4 ∧ Below w0.heap.size w0 w' ∧ KeepBut w w' g none := by
 have hu25 := Try.underlying25
 have HI0 := am hI
 have HK := am (KeepBut.refl w g none)
 have HL := am hB.size
 clear hI
 have HW0 := am hB.size
 have HB := am hB
 clear hB
 have H : ((spec_l02Grid.f s0_0 s0_1 s0_2).bind fun bt140 => ((spec_NodeCount.f bt140.1 bt140.2.1).bind fun t145 => (if t145 < 2 then (some (2, bt140.2.1, bt140.2.2.1, bt140.2.2.2)) else (some (bt140.1, bt140.2.1, bt140.2.2.1, bt140.2.2.2))))) = some (r1, r2, r3, r4) := h
 clear h
 obtain ⟨⟨t140, t141, t142, t143⟩, A2, H⟩ := bi_ H
 try dsimp only at H
 obtain ⟨t145, A3, H⟩ := bi_ H
 by_cases c4 : t145 < 2
 ·rw [if_pos c4] at H
  have c4b0 : decide (t145 < 2) = true := decide_eq_true c4
  clear c4
  simp only [Option.some.injEq, Prod.mk.injEq] at H
  obtain ⟨rfl, rfl, rfl, rfl⟩ := H
  go_enter Try.func30, Try.ntmps30
  go_wp2_with (first | ((with_reducible refine gate_dst (N := 2) rfl ?_); refine bx_ 2 #[.int .i64 0, .int .i64 0] 25 ?_; intro gb139 hg w5 hbox hb; replace HB := am (below_step (hb_ HB.out) hb); have BK139 := am (hbox); have GW139 := am ((by rw [hg]; exact (keep_size (w := w) (g := g) (row := none) (kh_ HK.out)) : w.heap.size ≤ gb139)); have GE139 := am ((Nat.le_trans HW0.out (by rw [hg]; exact (keep_size (w := w) (g := g) (row := none) (kh_ HK.out)) : w.heap.size ≤ gb139) : w0.heap.size ≤ gb139)); replace HK := am (KeepBut.trans (kh_ HK.out) (KeepBut.of_below hb g none) (.inl rfl)); have NB0_139 := am ((by rw [hg]; exact Nat.ne_of_lt (IsS67.lt (show IsS67 w0 _ g s0_0 s0_1 s0_2 from i67_ HI0.out)) : g ≠ gb139)); have NB139_0 := am ((by rw [hg]; exact Nat.ne_of_gt (IsS67.lt (show IsS67 w0 _ g s0_0 s0_1 s0_2 from i67_ HI0.out)) : gb139 ≠ g)); replace HI0 := am (IsS67.below (i67_ HI0.out) hb); clear hb hbox hg) | ((with_reducible refine gate_callee (f := 56) rfl ?_); refine gm_ (some 5) Try.func56 #[.pointer (some ⟨g, 0, none⟩)] rfl ?_; (with_reducible refine (spec_l02Grid.calls g s0_0 s0_1 s0_2 t140 t141 t142 t143 w0 _ ?side1 ?side2 A2.out).mono ?_); (case side1 => exact i67_ HI0.out); (case side2 => exact hb_ HB.out); rintro e w6 ⟨rfl, hi, hb, hk⟩; refine ⟨_, rfl, ?_⟩; replace BK139 := am (KeepBut.blk hk (g' := gb139) (o := .cells #[.int .i64 0, .int .i64 0] 25 (0, 0)) (bq_ BK139.out) NB139_0.out (by simp)); replace HK := am (KeepBut.trans (kh_ HK.out) hk (.inl rfl)); replace HB := am (hb); replace HI0 := am (hi); (try clear hb)) | ((with_reducible refine gate_dst (N := 3) rfl ?_); refine bx_ 3 #[.int .i64 0, .int .i64 0] 25 ?_; intro gb144 hg w7 hbox hb; replace HB := am (below_step (hb_ HB.out) hb); have BK144 := am (hbox); have GW144 := am ((by rw [hg]; exact (keep_size (w := w) (g := g) (row := none) (kh_ HK.out)) : w.heap.size ≤ gb144)); have GE144 := am ((Nat.le_trans HW0.out (by rw [hg]; exact (keep_size (w := w) (g := g) (row := none) (kh_ HK.out)) : w.heap.size ≤ gb144) : w0.heap.size ≤ gb144)); replace HK := am (KeepBut.trans (kh_ HK.out) (KeepBut.of_below hb g none) (.inl rfl)); have NB139_144 := nl_ hg BK139; have NB144_139 := ng_ hg BK139; replace BK139 := kb_ BK139 hb; have NB0_144 := am ((by rw [hg]; exact Nat.ne_of_lt (IsS67.lt (show IsS67 w0 _ g s0_0 t142 t143 from i67_ HI0.out)) : g ≠ gb144)); have NB144_0 := am ((by rw [hg]; exact Nat.ne_of_gt (IsS67.lt (show IsS67 w0 _ g s0_0 t142 t143 from i67_ HI0.out)) : gb144 ≠ g)); replace HI0 := am (IsS67.below (i67_ HI0.out) hb); clear hb hbox hg; have hnb8 := NB144_139.out; have hnc8 := NB139_144.out; have hnb9 := NB144_0.out; have hnc9 := NB0_144.out; obtain ⟨hcz10_0, hcz10_1, hfz10_0, hfz10_1⟩ := cz2_ BK144.out) | ((with_reducible refine gate_callee (f := 57) rfl ?_); refine gm_ (some 7) Try.func57 #[.agg #[.int .i64 t140, .int .i64 t141]] rfl ?_; (with_reducible refine (spec_NodeCount.calls t140 t141 t145 _ A3.out).mono ?_); rintro e w11 ⟨rfl, hb⟩; refine ⟨_, rfl, ?_⟩; replace BK139 := am (blk_below (bf_ BK139.out) hb); replace BK144 := am (blk_below (g := gb144) (o := .cells #[.int .i64 t140, .int .i64 t141] 25 (0, 0)) (by (with_reducible repeat (first | refine blk_drewN ?_ _ | refine blk_drew ?_ | refine blk_alloc ?_ _)); refine blk_put (cs := #[.int .i64 t140, .int .i64 0]) ?_ 1 _ rfl; (with_reducible repeat (first | refine blk_drewN ?_ _ | refine blk_drew ?_ | refine blk_alloc ?_ _)); refine blk_put (cs := #[.int .i64 0, .int .i64 0]) ?_ 0 _ rfl; (with_reducible repeat (first | refine blk_drewN ?_ _ | refine blk_drew ?_ | refine blk_alloc ?_ _)); exact BK144.out) hb); replace HK := am (KeepBut.trans (kh_ HK.out) (KeepBut.of_below hb g none) (.inl rfl)); replace HB := am (below_step (hb_ HB.out) hb); replace HI0 := am (IsS67.below (show IsS67 w0 ((w7.setCell ⟨gb144, 0, none⟩ (.int .i64 t140)).setCell ⟨gb144, 1, none⟩ (.int .i64 t141)) g s0_0 t142 t143 from i67_ HI0.out) hb); (try clear hb); obtain ⟨hcz12_0, hcz12_1, hfz12_0, hfz12_1⟩ := cz2_ BK144.out; have hnb13 := NB139_0.out; have hnc13 := NB0_139.out; obtain ⟨hcz14_0, hcz14_1, hfz14_0, hfz14_1⟩ := cz2_ BK139.out))
  refine bodyPost_ret (results_cell_row rfl _ _ gb139 25 #[.int .i64 2, .int .i64 t141] (0, 0) _ rfl (by (with_reducible repeat (first | refine blk_drewN ?_ _ | refine blk_drew ?_ | refine blk_alloc ?_ _)); refine blk_put (cs := #[.int .i64 2, .int .i64 0]) ?_ 1 _ rfl; (with_reducible repeat (first | refine blk_drewN ?_ _ | refine blk_drew ?_ | refine blk_alloc ?_ _)); refine blk_put (cs := #[.int .i64 0, .int .i64 0]) ?_ 0 _ rfl; (with_reducible repeat (first | refine blk_drewN ?_ _ | refine blk_drew ?_ | refine blk_alloc ?_ _)); refine blk_far ?_ NB139_144.out _; (with_reducible repeat (first | refine blk_drewN ?_ _ | refine blk_drew ?_ | refine blk_alloc ?_ _)); exact BK139.out) Try.underlying25 rfl (by kernel_rfl)) rfl ?_
  exact ⟨fin_, i67_ HI0.out, hb_ HB.out, kh_ HK.out⟩
 ·rw [if_neg c4] at H
  have c4b0 : decide (t145 < 2) = false := decide_eq_false c4
  clear c4
  simp only [Option.some.injEq, Prod.mk.injEq] at H
  obtain ⟨rfl, rfl, rfl, rfl⟩ := H
  go_enter Try.func30, Try.ntmps30
  go_wp2_with (first | ((with_reducible refine gate_dst (N := 2) rfl ?_); refine bx_ 2 #[.int .i64 0, .int .i64 0] 25 ?_; intro gb139 hg w15 hbox hb; replace HB := am (below_step (hb_ HB.out) hb); have BK139 := am (hbox); have GW139 := am ((by rw [hg]; exact (keep_size (w := w) (g := g) (row := none) (kh_ HK.out)) : w.heap.size ≤ gb139)); have GE139 := am ((Nat.le_trans HW0.out (by rw [hg]; exact (keep_size (w := w) (g := g) (row := none) (kh_ HK.out)) : w.heap.size ≤ gb139) : w0.heap.size ≤ gb139)); replace HK := am (KeepBut.trans (kh_ HK.out) (KeepBut.of_below hb g none) (.inl rfl)); have NB0_139 := am ((by rw [hg]; exact Nat.ne_of_lt (IsS67.lt (show IsS67 w0 _ g s0_0 s0_1 s0_2 from i67_ HI0.out)) : g ≠ gb139)); have NB139_0 := am ((by rw [hg]; exact Nat.ne_of_gt (IsS67.lt (show IsS67 w0 _ g s0_0 s0_1 s0_2 from i67_ HI0.out)) : gb139 ≠ g)); replace HI0 := am (IsS67.below (i67_ HI0.out) hb); clear hb hbox hg) | ((with_reducible refine gate_callee (f := 56) rfl ?_); refine gm_ (some 5) Try.func56 #[.pointer (some ⟨g, 0, none⟩)] rfl ?_; (with_reducible refine (spec_l02Grid.calls g s0_0 s0_1 s0_2 t140 t141 t142 t143 w0 _ ?side1 ?side2 A2.out).mono ?_); (case side1 => exact i67_ HI0.out); (case side2 => exact hb_ HB.out); rintro e w16 ⟨rfl, hi, hb, hk⟩; refine ⟨_, rfl, ?_⟩; replace BK139 := am (KeepBut.blk hk (g' := gb139) (o := .cells #[.int .i64 0, .int .i64 0] 25 (0, 0)) (bq_ BK139.out) NB139_0.out (by simp)); replace HK := am (KeepBut.trans (kh_ HK.out) hk (.inl rfl)); replace HB := am (hb); replace HI0 := am (hi); (try clear hb)) | ((with_reducible refine gate_dst (N := 3) rfl ?_); refine bx_ 3 #[.int .i64 0, .int .i64 0] 25 ?_; intro gb144 hg w17 hbox hb; replace HB := am (below_step (hb_ HB.out) hb); have BK144 := am (hbox); have GW144 := am ((by rw [hg]; exact (keep_size (w := w) (g := g) (row := none) (kh_ HK.out)) : w.heap.size ≤ gb144)); have GE144 := am ((Nat.le_trans HW0.out (by rw [hg]; exact (keep_size (w := w) (g := g) (row := none) (kh_ HK.out)) : w.heap.size ≤ gb144) : w0.heap.size ≤ gb144)); replace HK := am (KeepBut.trans (kh_ HK.out) (KeepBut.of_below hb g none) (.inl rfl)); have NB139_144 := nl_ hg BK139; have NB144_139 := ng_ hg BK139; replace BK139 := kb_ BK139 hb; have NB0_144 := am ((by rw [hg]; exact Nat.ne_of_lt (IsS67.lt (show IsS67 w0 _ g s0_0 t142 t143 from i67_ HI0.out)) : g ≠ gb144)); have NB144_0 := am ((by rw [hg]; exact Nat.ne_of_gt (IsS67.lt (show IsS67 w0 _ g s0_0 t142 t143 from i67_ HI0.out)) : gb144 ≠ g)); replace HI0 := am (IsS67.below (i67_ HI0.out) hb); clear hb hbox hg; have hnb18 := NB144_139.out; have hnc18 := NB139_144.out; have hnb19 := NB144_0.out; have hnc19 := NB0_144.out; obtain ⟨hcz20_0, hcz20_1, hfz20_0, hfz20_1⟩ := cz2_ BK144.out) | ((with_reducible refine gate_callee (f := 57) rfl ?_); refine gm_ (some 7) Try.func57 #[.agg #[.int .i64 t140, .int .i64 t141]] rfl ?_; (with_reducible refine (spec_NodeCount.calls t140 t141 t145 _ A3.out).mono ?_); rintro e w21 ⟨rfl, hb⟩; refine ⟨_, rfl, ?_⟩; replace BK139 := am (blk_below (bf_ BK139.out) hb); replace BK144 := am (blk_below (g := gb144) (o := .cells #[.int .i64 t140, .int .i64 t141] 25 (0, 0)) (by (with_reducible repeat (first | refine blk_drewN ?_ _ | refine blk_drew ?_ | refine blk_alloc ?_ _)); refine blk_put (cs := #[.int .i64 t140, .int .i64 0]) ?_ 1 _ rfl; (with_reducible repeat (first | refine blk_drewN ?_ _ | refine blk_drew ?_ | refine blk_alloc ?_ _)); refine blk_put (cs := #[.int .i64 0, .int .i64 0]) ?_ 0 _ rfl; (with_reducible repeat (first | refine blk_drewN ?_ _ | refine blk_drew ?_ | refine blk_alloc ?_ _)); exact BK144.out) hb); replace HK := am (KeepBut.trans (kh_ HK.out) (KeepBut.of_below hb g none) (.inl rfl)); replace HB := am (below_step (hb_ HB.out) hb); replace HI0 := am (IsS67.below (show IsS67 w0 ((w17.setCell ⟨gb144, 0, none⟩ (.int .i64 t140)).setCell ⟨gb144, 1, none⟩ (.int .i64 t141)) g s0_0 t142 t143 from i67_ HI0.out) hb); (try clear hb); obtain ⟨hcz22_0, hcz22_1, hfz22_0, hfz22_1⟩ := cz2_ BK144.out; have hnb23 := NB139_0.out; have hnc23 := NB0_139.out; obtain ⟨hcz24_0, hcz24_1, hfz24_0, hfz24_1⟩ := cz2_ BK139.out))
  refine bodyPost_ret (results_cell_row rfl _ _ gb139 25 #[.int .i64 t140, .int .i64 t141] (0, 0) _ rfl (by (with_reducible repeat (first | refine blk_drewN ?_ _ | refine blk_drew ?_ | refine blk_alloc ?_ _)); refine blk_put (cs := #[.int .i64 t140, .int .i64 0]) ?_ 1 _ rfl; (with_reducible repeat (first | refine blk_drewN ?_ _ | refine blk_drew ?_ | refine blk_alloc ?_ _)); refine blk_put (cs := #[.int .i64 0, .int .i64 0]) ?_ 0 _ rfl; (with_reducible repeat (first | refine blk_drewN ?_ _ | refine blk_drew ?_ | refine blk_alloc ?_ _)); exact BK139.out) Try.underlying25 rfl (by kernel_rfl)) rfl ?_
  exact ⟨fin_, i67_ HI0.out, hb_ HB.out, kh_ HK.out⟩
def spec_l05Column.f (a0 : Int) (a1 : Int) : Option (Int) := if a1 < a0 then (some 3) else (some 1)
theorem spec_l05Column.e0 {P : Prop} (h : P := by
 go_enter Try.func80, Try.ntmps80
 go_wp2
 go_ret
 exact ⟨by first | rfl | (simp; done) | (simp [*]; done), by repeat (first | exact Drawn0.refl _ | apply Drawn0.step)⟩) : P := h
theorem spec_l05Column.calls (a0 : Int) (a1 : Int) (r : Int) (w : World) (h : spec_l05Column.f a0 a1 = some r) :
  Calls Try.prog 80 #[.int .i64 a0, .int .i64 a1] w fun e w' => e = .returned (.int .i64 r) ∧ Drawn0 w w' := by
 have H : (if a1 < a0 then (some 3) else (some 1)) = some r := h
 clear h
 by_cases c3 : a1 < a0
 ·rw [if_pos c3] at H
  have c3b0 : decide (a1 < a0) = true := decide_eq_true c3
  clear c3
  obtain rfl := Option.some.inj H
  exact spec_l05Column.e0
 ·rw [if_neg c3] at H
  have c3b0 : decide (a1 < a0) = false := decide_eq_false c3
  clear c3
  obtain rfl := Option.some.inj H
  exact spec_l05Column.e0
def spec_l05Row.f (a0 : Int) (a1 : Int) : Option (Int) := if a1 < a0 then (some 0) else (some 2)
theorem spec_l05Row.e0 {P : Prop} (h : P := by
 go_enter Try.func81, Try.ntmps81
 go_wp2
 go_ret
 exact ⟨by first | rfl | (simp; done) | (simp [*]; done), by repeat (first | exact Drawn0.refl _ | apply Drawn0.step)⟩) : P := h
theorem spec_l05Row.calls (a0 : Int) (a1 : Int) (r : Int) (w : World) (h : spec_l05Row.f a0 a1 = some r) :
  Calls Try.prog 81 #[.int .i64 a0, .int .i64 a1] w fun e w' => e = .returned (.int .i64 r) ∧ Drawn0 w w' := by
 have H : (if a1 < a0 then (some 0) else (some 2)) = some r := h
 clear h
 by_cases c3 : a1 < a0
 ·rw [if_pos c3] at H
  have c3b0 : decide (a1 < a0) = true := decide_eq_true c3
  clear c3
  obtain rfl := Option.some.inj H
  exact spec_l05Row.e0
 ·rw [if_neg c3] at H
  have c3b0 : decide (a1 < a0) = false := decide_eq_false c3
  clear c3
  obtain rfl := Option.some.inj H
  exact spec_l05Row.e0
mutual
def spec_l05Port.j0 : Nat → Int → Int → Int → Int → Int → Option (Int)
 | 0, _, _, _, _, _ => none
 | k + 1, x1, x9, x10, x11, x12 => if x1 = 2 then (spec_l05Port.j1 k x9 x10 x11 x12 (x10 == x12)) else (if x1 = 3 then (if x11 < x9 then (spec_l05Port.j1 k x9 x10 x11 x12 true) else (spec_l05Port.j1 k x9 x10 x11 x12 (x10 == x12))) else (spec_l05Port.j1 k x9 x10 x11 x12 (x9 != x11)))
def spec_l05Port.j1 : Nat → Int → Int → Int → Int → Bool → Option (Int)
 | 0, _, _, _, _, _ => none
 | k + 1, x9, x10, x11, x12, x13 => if x13 = true then ((spec_l05Column.f x9 x11).bind fun t147 => (some t147)) else ((spec_l05Row.f x10 x12).bind fun t148 => (some t148))
end
def spec_l05Port.f (k : Nat) (a0_0 : Int) (a0_1 : Int) (a1 : Int) (a2 : Int) (a3 : Int) : Option (Int) := if a0_0 = 0 then (none) else (if a2 = a3 then (some 4) else (if a1 = 4 then (spec_l05Port.j0 k (wrap64 (1 + (Int.tmod a3 2))) (Int.tmod a2 a0_0) (wrap64 (Int.tdiv a2 a0_0)) (Int.tmod a3 a0_0) (wrap64 (Int.tdiv a3 a0_0))) else (spec_l05Port.j0 k a1 (Int.tmod a2 a0_0) (wrap64 (Int.tdiv a2 a0_0)) (Int.tmod a3 a0_0) (wrap64 (Int.tdiv a3 a0_0)))))
theorem spec_l05Port.mono_l : ∀ k, (∀ y0 y1 y2 y3 y4, LeO (spec_l05Port.j0 k y0 y1 y2 y3 y4) (spec_l05Port.j0 (k + 1) y0 y1 y2 y3 y4)) ∧ (∀ y0 y1 y2 y3 y4, LeO (spec_l05Port.j1 k y0 y1 y2 y3 y4) (spec_l05Port.j1 (k + 1) y0 y1 y2 y3 y4))
 | 0 => ⟨fun _ _ _ _ _ r h => by simp [spec_l05Port.j0] at h, fun _ _ _ _ _ r h => by simp [spec_l05Port.j1] at h⟩
 | k + 1 => by
  obtain ⟨ih0, ih1⟩ := spec_l05Port.mono_l k
  refine ⟨?_, ?_⟩
  ·intro y0 y1 y2 y3 y4
   unfold spec_l05Port.j0
   repeat' (with_reducible first | exact ih0 .. | exact ih1 .. | exact LeO.refl .. | exact LeO.none .. | refine LeO.ite ?_ ?_ | refine LeO.bind ?_ (fun _ => ?_))
  ·intro y0 y1 y2 y3 y4
   unfold spec_l05Port.j1
   repeat' (with_reducible first | exact ih0 .. | exact ih1 .. | exact LeO.refl .. | exact LeO.none .. | refine LeO.ite ?_ ?_ | refine LeO.bind ?_ (fun _ => ?_))
theorem spec_l05Port.mono : ∀ a0 a1 a2 a3 a4 k, LeO (spec_l05Port.f k a0 a1 a2 a3 a4) (spec_l05Port.f (k + 1) a0 a1 a2 a3 a4) := by
 intro a0 a1 a2 a3 a4 k
 obtain ⟨ih0, ih1⟩ := spec_l05Port.mono_l k
 unfold spec_l05Port.f
 repeat' (with_reducible first | exact ih0 .. | exact ih1 .. | exact LeO.refl .. | exact LeO.none .. | refine LeO.ite ?_ ?_ | refine LeO.bind ?_ (fun _ => ?_))
theorem spec_l05Port.e0 {P : Prop} (h : P := by
 go_wp2
 go_meet
 case rel => exact ⟨_, (((wrap64 (Int.tdiv a2 a0_0)) == (wrap64 (Int.tdiv a3 a0_0)))), ef_, H', ⟨by have := HJ8.out; first | omega | exact Nat.le_refl _⟩, ⟨bq_ BK146.out⟩, ⟨bb_ HB.out⟩⟩) : P := h
theorem spec_l05Port.calls (k : Nat) (a0_0 : Int) (a0_1 : Int) (a1 : Int) (a2 : Int) (a3 : Int) (r : Int) (w : World) (h : spec_l05Port.f k a0_0 a0_1 a1 a2 a3 = some r) :
  Calls Try.prog 58 #[.agg #[.int .i64 a0_0, .int .i64 a0_1], .int .i64 a1, .int .i64 a2, .int .i64 a3] w fun e w' => e = .returned (.int .i64 r) ∧ Below w.heap.size w w' := by
 have hu25 := Try.underlying25
 have HB := am (Below.refl w.heap.size w)
 have H : (if a0_0 = 0 then (none) else (if a2 = a3 then (some 4) else (if a1 = 4 then (spec_l05Port.j0 k (wrap64 (1 + (Int.tmod a3 2))) (Int.tmod a2 a0_0) (wrap64 (Int.tdiv a2 a0_0)) (Int.tmod a3 a0_0) (wrap64 (Int.tdiv a3 a0_0))) else (spec_l05Port.j0 k a1 (Int.tmod a2 a0_0) (wrap64 (Int.tdiv a2 a0_0)) (Int.tmod a3 a0_0) (wrap64 (Int.tdiv a3 a0_0)))))) = some r := h
 clear h
 by_cases c5 : a0_0 = 0
 ·rw [if_pos c5] at H
  exact absurd H (by simp)
 ·rw [if_neg c5] at H
  have c5b0 : (a0_0 == 0) = false := beq_eq_false_iff_ne.mpr c5
  have c5b1 : (a0_0 != 0) = true := bne_iff_ne.mpr c5
  by_cases c6 : a2 = a3
  ·rw [if_pos c6] at H
   have c6b0 : (a2 == a3) = true := beq_iff_eq.mpr c6
   have c6b1 : (a2 != a3) = false := bne_eq_false_iff_eq.mpr c6
   clear c6
   obtain rfl := Option.some.inj H
   go_enter Try.func58, Try.ntmps58
   go_wp2_with (first | ((with_reducible refine gate_dst (N := 4) rfl ?_); refine bx_ 4 #[.int .i64 a0_0, .int .i64 a0_1] 25 ?_; intro gb146 hg w7 hbox hb; have BK146 := am (hbox); have GW146 := gw_ hg HB; replace HB := h9_ HB hb; clear hb hbox hg; obtain ⟨hcz8_0, hcz8_1, hfz8_0, hfz8_1⟩ := cz2_ BK146.out))
   go_ret
   exact ⟨fin_, bb_ HB.out⟩
  ·rw [if_neg c6] at H
   have c6b0 : (a2 == a3) = false := beq_eq_false_iff_ne.mpr c6
   have c6b1 : (a2 != a3) = true := bne_iff_ne.mpr c6
   have HC9 := am H
   clear H
   go_enter Try.func58, Try.ntmps58
   go_upto_if 34 with (first | ((with_reducible refine gate_dst (N := 4) rfl ?_); refine bx_ 4 #[.int .i64 a0_0, .int .i64 a0_1] 25 ?_; intro gb146 hg w10 hbox hb; have BK146 := am (hbox); have GW146 := gw_ hg HB; replace HB := h9_ HB hb; clear hb hbox hg; obtain ⟨hcz11_0, hcz11_1, hfz11_0, hfz11_1⟩ := cz2_ BK146.out))
   (try simp only [Act.put, List.setIfInBounds_toArray, List.set_cons_zero, List.set_cons_succ])
   go_cut [1] (fun v1 wc => ∃ (kq : Nat) (x1_8 : Int), v1 = .int .i64 x1_8 ∧ Aside0 (spec_l05Port.j0 kq x1_8 (Int.tmod a2 a0_0) (wrap64 (Int.tdiv a2 a0_0)) (Int.tmod a3 a0_0) (wrap64 (Int.tdiv a3 a0_0)) = some r) ∧ Aside0 (kq ≤ k) ∧ Aside0 (wc.heap[gb146]? = some (.cells #[.int .i64 a0_0, .int .i64 a0_1] 25 (0, 0))) ∧ Aside0 (Below w.heap.size w wc))
   case first =>
    have H := HC9.out
    clear HC9
    by_cases c12 : a1 = 4
    rotate_left
    ·rw [if_neg c12] at H
     have c12b0 : (a1 == 4) = false := beq_eq_false_iff_ne.mpr c12
     have c12b1 : (a1 != 4) = true := bne_iff_ne.mpr c12
     (first | rw [c12b0] | (simp only [i64_w, i32_w]; rw [c12b0]) | skip)
     have H' := am H
     clear H
     go_wp2
     go_meet
     case rel => exact ⟨_, (a1), ef_, H', ⟨kq_⟩, ⟨bq_ BK146.out⟩, ⟨bb_ HB.out⟩⟩
    rw [if_pos c12] at H
    have c12b0 : (a1 == 4) = true := beq_iff_eq.mpr c12
    have c12b1 : (a1 != 4) = false := bne_eq_false_iff_eq.mpr c12
    clear c12
    (first | rw [c12b0] | (simp only [i64_w, i32_w]; rw [c12b0]) | skip)
    have H' := am H
    clear H
    go_wp2
    go_meet
    case rel => exact ⟨_, (wrap64 (1 + (Int.tmod a3 2))), ef_, H', ⟨kq_⟩, ⟨bq_ BK146.out⟩, ⟨bb_ HB.out⟩⟩
   case rest =>
    clear HC9
    try clear c5
    try clear c5b0
    try clear c5b1
    try clear c6
    try clear c6b0
    try clear c6b1
    try clear hcz11_0 hcz11_1 hfz11_0 hfz11_1
    obtain ⟨kq, x1_8, rfl, HA, HJ8, BK146, HB⟩ := hcut
    cases kq with
    | zero => exact absurd HA.out (by simp [spec_l05Port.j0])
    | succ kj8 =>
     have H := HA.out
     clear HA
     simp only [spec_l05Port.j0] at H
     have HC13 := am H
     clear H
     go_upto_block 0 with (fail)
     go_cut [13] (fun v13 wc => ∃ (kq : Nat) (x13_12 : Bool), v13 = .bool x13_12 ∧ Aside0 (spec_l05Port.j1 kq (Int.tmod a2 a0_0) (wrap64 (Int.tdiv a2 a0_0)) (Int.tmod a3 a0_0) (wrap64 (Int.tdiv a3 a0_0)) x13_12 = some r) ∧ Aside0 (kq ≤ kj8) ∧ Aside0 (wc.heap[gb146]? = some (.cells #[.int .i64 a0_0, .int .i64 a0_1] 25 (0, 0))) ∧ Aside0 (Below w.heap.size w wc))
     case first =>
      have H := HC13.out
      clear HC13
      by_cases c14 : x1_8 = 2
      ·rw [if_pos c14] at H
       have c14b0 : (x1_8 == 2) = true := beq_iff_eq.mpr c14
       have c14b1 : (x1_8 != 2) = false := bne_eq_false_iff_eq.mpr c14
       clear c14
       (first | rw [c14b0] | (simp only [i64_w, i32_w]; rw [c14b0]) | skip)
       have H' := am H
       clear H
       exact spec_l05Port.e0
      rw [if_neg c14] at H
      have c14b0 : (x1_8 == 2) = false := beq_eq_false_iff_ne.mpr c14
      have c14b1 : (x1_8 != 2) = true := bne_iff_ne.mpr c14
      (first | rw [c14b0] | (simp only [i64_w, i32_w]; rw [c14b0]) | skip)
      by_cases c15 : x1_8 = 3
      rotate_left
      ·rw [if_neg c15] at H
       have c15b0 : (x1_8 == 3) = false := beq_eq_false_iff_ne.mpr c15
       have c15b1 : (x1_8 != 3) = true := bne_iff_ne.mpr c15
       have H' := am H
       clear H
       go_wp2
       go_meet
       case rel => exact ⟨_, (((Int.tmod a2 a0_0) != (Int.tmod a3 a0_0))), ef_, H', ⟨by have := HJ8.out; first | omega | exact Nat.le_refl _⟩, ⟨bq_ BK146.out⟩, ⟨bb_ HB.out⟩⟩
      rw [if_pos c15] at H
      have c15b0 : (x1_8 == 3) = true := beq_iff_eq.mpr c15
      have c15b1 : (x1_8 != 3) = false := bne_eq_false_iff_eq.mpr c15
      clear c15
      by_cases c16 : (Int.tmod a3 a0_0) < (Int.tmod a2 a0_0)
      rotate_left
      ·rw [if_neg c16] at H
       have c16b0 : decide ((Int.tmod a3 a0_0) < (Int.tmod a2 a0_0)) = false := decide_eq_false c16
       clear c16
       have H' := am H
       clear H
       exact spec_l05Port.e0
      rw [if_pos c16] at H
      have c16b0 : decide ((Int.tmod a3 a0_0) < (Int.tmod a2 a0_0)) = true := decide_eq_true c16
      clear c16
      have H' := am H
      clear H
      go_wp2
      go_meet
      case rel => exact ⟨_, (true), ef_, H', ⟨by have := HJ8.out; first | omega | exact Nat.le_refl _⟩, ⟨bq_ BK146.out⟩, ⟨bb_ HB.out⟩⟩
     case rest =>
      clear HC13
      try clear c5
      try clear c5b0
      try clear c5b1
      try clear c6
      try clear c6b0
      try clear c6b1
      try clear hcz11_0 hcz11_1 hfz11_0 hfz11_1
      obtain ⟨kq, x13_12, rfl, HA, HJ12, BK146, HB⟩ := hcut
      cases kq with
      | zero => exact absurd HA.out (by simp [spec_l05Port.j1])
      | succ kj12 =>
       have H := HA.out
       clear HA
       simp only [spec_l05Port.j1] at H
       by_cases c17 : x13_12 = true
       ·subst c17
        rw [if_pos rfl] at H
        obtain ⟨t147, A18, H⟩ := bi_ H
        obtain rfl := Option.some.inj H
        go_wp2_with (first | ((with_reducible refine gate_callee (f := 80) rfl ?_); refine gm_ (some 60) Try.func80 #[.int .i64 (Int.tmod a2 a0_0), .int .i64 (Int.tmod a3 a0_0)] rfl ?_; (with_reducible refine (spec_l05Column.calls (Int.tmod a2 a0_0) (Int.tmod a3 a0_0) t147 _ A18.out).mono ?_); rintro e w' ⟨rfl, ⟨nd, rfl⟩⟩; refine ⟨_, rfl, ?_⟩))
        go_ret
        exact ⟨fin_, bb_ HB.out⟩
       ·replace c17 := Bool.eq_false_iff.mpr c17
        subst c17
        rw [if_neg (show ¬ (false = true) by decide)] at H
        obtain ⟨t148, A19, H⟩ := bi_ H
        obtain rfl := Option.some.inj H
        go_wp2_with (first | ((with_reducible refine gate_callee (f := 81) rfl ?_); refine gm_ (some 63) Try.func81 #[.int .i64 (wrap64 (Int.tdiv a2 a0_0)), .int .i64 (wrap64 (Int.tdiv a3 a0_0))] rfl ?_; (with_reducible refine (spec_l05Row.calls (wrap64 (Int.tdiv a2 a0_0)) (wrap64 (Int.tdiv a3 a0_0)) t148 _ A19.out).mono ?_); rintro e w' ⟨rfl, ⟨nd, rfl⟩⟩; refine ⟨_, rfl, ?_⟩))
        go_ret
        exact ⟨fin_, bb_ HB.out⟩
end Go.Proofs.Yteiemoooelpdaaa.PFnCreditSum
-- thin
