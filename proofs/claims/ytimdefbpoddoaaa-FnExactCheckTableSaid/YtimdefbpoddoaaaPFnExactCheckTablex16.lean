/- The law's functions as plain functions, and their calls. No condition. -/
import Derived.Test.YtimdefbpoddoaaaPFnExactCheckTablex0
namespace Go.Proofs.Ytimdefbpoddoaaa.PFnExactCheckTable
open Go.RowKit Go.Proofs.YtimdefbpoddoaaaW.PrintWords Go.Proofs.YtimdefbpoddoaaaW.PrintLast Go.Proofs.YtimdefbpoddoaaaW.PrintMore
attribute [local go_sem] max2_int min2_int max_two min_two max_three min_three max_four min_four
set_option linter.unusedVariables false
set_option maxHeartbeats 8000000
set_option maxRecDepth 100000
set_option linter.unusedSimpArgs false

/-! ### bits_Mul32: function 179 -/
def bits_Mul32.f (a0 : Int) (a1 : Int) : Option (Int × Int) := some (((IntKind.u64.wrap ((IntKind.u64.wrap (a0)) * (IntKind.u64.wrap (a1)))) / 4294967296) % 4294967296, (IntKind.u64.wrap ((IntKind.u64.wrap (a0)) * (IntKind.u64.wrap (a1)))) % 4294967296)
theorem bits_Mul32.calls (a0 : Int) (a1 : Int) (r1 : Int) (r2 : Int) (w : World) (h : bits_Mul32.f a0 a1 = some (r1, r2)) :
  Calls Try.prog 179 #[.int .u32 a0, .int .u32 a1] w fun e w' => e = .returned (.tuple #[.int .u32 r1, .int .u32 r2]) ∧ Drawn0 w w' := by
 have H : (some (((IntKind.u64.wrap ((IntKind.u64.wrap (a0)) * (IntKind.u64.wrap (a1)))) / 4294967296) % 4294967296, (IntKind.u64.wrap ((IntKind.u64.wrap (a0)) * (IntKind.u64.wrap (a1)))) % 4294967296)) = some (r1, r2) := h
 clear h
 simp only [Option.some.injEq, Prod.mk.injEq] at H
 obtain ⟨rfl, rfl⟩ := H
 go_enter Try.func179, Try.ntmps179
 go_wp2
 go_ret2
 exact ⟨by first | rfl | (simp; done) | (simp [*]; done), by repeat (first | exact Drawn0.refl _ | apply Drawn0.step)⟩

/-! ### bits_Mul64: function 180 -/
def bits_Mul64.f (a0 : Int) (a1 : Int) : Option (Int × Int) := some (IntKind.u64.wrap ((IntKind.u64.wrap ((IntKind.u64.wrap ((a0 / 4294967296) * (a1 / 4294967296))) + ((IntKind.u64.wrap ((IntKind.u64.wrap ((a0 / 4294967296) * (Go.bits .and .u64 a1 4294967295))) + ((IntKind.u64.wrap ((Go.bits .and .u64 a0 4294967295) * (Go.bits .and .u64 a1 4294967295))) / 4294967296))) / 4294967296))) + ((IntKind.u64.wrap ((Go.bits .and .u64 (IntKind.u64.wrap ((IntKind.u64.wrap ((a0 / 4294967296) * (Go.bits .and .u64 a1 4294967295))) + ((IntKind.u64.wrap ((Go.bits .and .u64 a0 4294967295) * (Go.bits .and .u64 a1 4294967295))) / 4294967296))) 4294967295) + (IntKind.u64.wrap ((Go.bits .and .u64 a0 4294967295) * (a1 / 4294967296))))) / 4294967296)), IntKind.u64.wrap (a0 * a1))
theorem bits_Mul64.calls (a0 : Int) (a1 : Int) (r1 : Int) (r2 : Int) (w : World) (h : bits_Mul64.f a0 a1 = some (r1, r2)) :
  Calls Try.prog 180 #[.int .u64 a0, .int .u64 a1] w fun e w' => e = .returned (.tuple #[.int .u64 r1, .int .u64 r2]) ∧ Drawn0 w w' := by
 have H : (some (IntKind.u64.wrap ((IntKind.u64.wrap ((IntKind.u64.wrap ((a0 / 4294967296) * (a1 / 4294967296))) + ((IntKind.u64.wrap ((IntKind.u64.wrap ((a0 / 4294967296) * (Go.bits .and .u64 a1 4294967295))) + ((IntKind.u64.wrap ((Go.bits .and .u64 a0 4294967295) * (Go.bits .and .u64 a1 4294967295))) / 4294967296))) / 4294967296))) + ((IntKind.u64.wrap ((Go.bits .and .u64 (IntKind.u64.wrap ((IntKind.u64.wrap ((a0 / 4294967296) * (Go.bits .and .u64 a1 4294967295))) + ((IntKind.u64.wrap ((Go.bits .and .u64 a0 4294967295) * (Go.bits .and .u64 a1 4294967295))) / 4294967296))) 4294967295) + (IntKind.u64.wrap ((Go.bits .and .u64 a0 4294967295) * (a1 / 4294967296))))) / 4294967296)), IntKind.u64.wrap (a0 * a1))) = some (r1, r2) := h
 clear h
 simp only [Option.some.injEq, Prod.mk.injEq] at H
 obtain ⟨rfl, rfl⟩ := H
 go_enter Try.func180, Try.ntmps180
 go_wp2
 go_ret2
 exact ⟨by first | rfl | (simp; done) | (simp [*]; done), by repeat (first | exact Drawn0.refl _ | apply Drawn0.step)⟩

/-! ### bits_Mul: function 170 -/
def bits_Mul.f (a0 : Int) (a1 : Int) : Option (Int × Int) := (bits_Mul64.f a0 a1).bind fun bt423 => (some (bt423.1, bt423.2))
theorem bits_Mul.calls (a0 : Int) (a1 : Int) (r1 : Int) (r2 : Int) (w : World) (h : bits_Mul.f a0 a1 = some (r1, r2)) :
  Calls Try.prog 170 #[.int .u64 a0, .int .u64 a1] w fun e w' => e = .returned (.tuple #[.int .u64 r1, .int .u64 r2]) ∧ Drawn0 w w' := by
 have H : ((bits_Mul64.f a0 a1).bind fun bt423 => (some (bt423.1, bt423.2))) = some (r1, r2) := h
 clear h
 obtain ⟨⟨t423, t424⟩, A3, H⟩ := bi_ H
 try dsimp only at H
 simp only [Option.some.injEq, Prod.mk.injEq] at H
 obtain ⟨rfl, rfl⟩ := H
 go_enter Try.func170, Try.ntmps170
 go_wp2_with (first | ((with_reducible refine gate_callee (f := 180) rfl ?_); refine gm_ (some 25) Try.func180 #[.int .u64 a0, .int .u64 a1] rfl ?_; (with_reducible refine (bits_Mul64.calls a0 a1 t423 t424 _ A3.out).mono ?_); rintro e w' ⟨rfl, ⟨nd, rfl⟩⟩; refine ⟨_, rfl, ?_⟩))
 go_ret2
 exact ⟨by first | rfl | (simp; done) | (simp [*]; done), by repeat (first | exact Drawn0.refl _ | apply Drawn0.step)⟩

/-! ### slices_Repeat_int_int: function 145 -/
/-- A row of cells of which the first m hold -1. -/
def Minus (W : World) (g cap m : Nat) : Prop := ∃ cur : List Value, W.heap[g]? = some (.cells cur.toArray 3 (0, 0)) ∧ cur.length = cap ∧ ∀ j, j < m → cur[j]? = some (.int .i64 (-1))
theorem Minus.splice {W : World} {g cap m : Nat} {cur cs : List Value} (hb : W.heap[g]? = some (.cells (Go.splice cur m cs).toArray 3 (0, 0))) (hl : cur.length = cap) (hm : m + cs.length ≤ cap) (hc : ∀ u ∈ cs, u = .int .i64 (-1)) (h : ∀ j, j < m → cur[j]? = some (.int .i64 (-1))) : Minus W g cap (m + cs.length) := by
 refine ⟨_, hb, by rw [length_splice _ _ _ (by omega)]; exact hl, fun j hj => ?_⟩
 unfold Go.splice
 by_cases h1 : j < m
 ·rw [List.getElem?_append_left (by simp; omega), List.getElem?_take_of_lt h1]
  exact h j h1
 rw [List.getElem?_append_right (by simp; omega), List.getElem?_append_left (by simp; omega), List.length_take, Nat.min_eq_left (by omega)]
 have hlt : j - m < cs.length := by omega
 rw [List.getElem?_eq_getElem hlt, hc _ (List.getElem_mem hlt)]
theorem Minus.of_R {W : World} {base : Nat} {ok : Nat → Prop} {v : Value} (h : Kd.R (Kd.int .i64) 3 W base ok v (List.replicate 128 0)) : ∃ (g cap : Nat) (cur : List Value), v = .slice (some ⟨g, 0, none⟩) 128 cap ∧ base ≤ g ∧ 128 ≤ cap ∧ cap ≤ maxLen ∧ W.heap[g]? = some (.cells cur.toArray 3 (0, 0)) ∧ cur.length = cap := by
 obtain ⟨_, h2⟩ := Kd.own_of_R h
 rw [List.length_replicate] at h2
 rcases h2 with ⟨_, h0⟩ | ⟨g, cap, cur, rfl, hb, hh, hn, hm, hs, _⟩
 ·omega
 ·exact ⟨g, cap, cur.toList, rfl, hb, hn, hm, by simpa using hh, by simpa using hs⟩
theorem Minus.R {W : World} {base g cap : Nat} (h : Minus W g cap 128) (hb : base ≤ g) (hc : 128 ≤ cap) (hm : cap ≤ maxLen) : Kd.R (Kd.int .i64) 3 W base (fun _ => True) (.slice (some ⟨g, 0, none⟩) 128 cap) (List.replicate 128 (-1)) := by
 obtain ⟨cur, hh, hl, hj⟩ := h
 refine Kd.R_of_own ⟨by simp [encs], .inr ⟨g, cap, cur.toArray, by rw [List.length_replicate], hb, hh, by simp; omega, hm, by simpa using hl, ?_⟩⟩ (fun _ _ => trivial)
 refine List.ext_getElem? fun j => ?_
 simp only [List.length_replicate, Nat.mul_one, encs, List.map_replicate]
 by_cases h1 : j < 128
 ·rw [List.getElem?_take_of_lt h1, hj j h1, List.getElem?_replicate, if_pos h1]
 rw [List.getElem?_eq_none (by simp; omega), List.getElem?_eq_none (by simp; omega)]
theorem ad_zero (ad : Addr) : ad.add 0 = ad := by unfold Addr.add; split <;> simp_all
theorem minus_cell {w : World} {A : Option Addr} (h : Kd.C (Kd.int .i64) w A 1 [-1]) : ∃ ad, A = some ad ∧ w.cell? ad = some (.int .i64 (-1)) := by
 obtain ⟨_, _, h⟩ := h
 obtain ⟨ad, rfl, h9⟩ := h (by omega)
 obtain ⟨c, hl, hK, hc⟩ := h9 0 (-1) rfl
 have e : c = [.int .i64 (-1)] := hK
 have := hc 0 (.int .i64 (-1)) (by rw [e]; rfl)
 exact ⟨ad, rfl, by simpa [ad_zero] using this⟩
def slices_Repeat_int_int.f (l : List Int) (n : Int) : Option (List Int) := if l = [-1] ∧ n = 128 then some (List.replicate 128 (-1)) else none
theorem slices_Repeat_int_int.mul : bits_Mul.f 1 128 = some (0, 128) := by decide +kernel
set_option maxHeartbeats 4000000 in
theorem slices_Repeat_int_int.calls (A0 : Option Addr) (c0 : Nat) (l0 : List Int) (a1 : Int) (r : List Int) (w : World) (hr0 : Kd.C (Kd.int .i64) w A0 l0.length l0) (hc0 : l0.length ≤ c0) (h : slices_Repeat_int_int.f l0 a1 = some r) :
  Calls Try.prog 145 #[.slice A0 l0.length c0, .int .i64 a1] w fun e w' => ∃ v0_ : Value, e = .returned (v0_) ∧ Kd.R (Kd.int .i64) 3 w' w.heap.size (fun _ => True) v0_ r ∧ Below w.heap.size w w' := by
 unfold slices_Repeat_int_int.f at h
 by_cases hq : l0 = [-1] ∧ a1 = 128
 ·rw [if_pos hq] at h
  obtain ⟨rfl, rfl⟩ := hq
  obtain rfl := Option.some.inj h
  clear h
  obtain ⟨ad, rfl, hcell⟩ := minus_cell hr0
  have HE := Aside0.mk hcell
  have HM := Aside0.mk slices_Repeat_int_int.mul
  have HB := Aside0.mk (Below.refl w.heap.size w)
  clear hr0 hcell
  simp only [List.length_cons, List.length_nil, Nat.zero_add]
  go_enter Try.func145, Try.ntmps145
  go_wp2_with (first
   | (go_at_call 170; (with_reducible refine (bits_Mul.calls 1 128 0 128 _ HM.out).mono ?_); rintro e w' ⟨rfl, ⟨nd, rfl⟩⟩)
   | ((with_reducible refine gate_dst (N := 30) rfl ?_); refine Kd.R_make (Kd.int .i64) _ 3 rfl (N := 30) rfl 29 _ _ rfl 128 rfl rfl Try.underlying29 (.int .i64 0) 8 info3 rfl (by decide) (by omega) 0 (ok := fun _ => True) (okp := fun _ => True) rfl (fun _ hk => hk) trivial (by omega) (by omega) (Below.refl _ _) (Nat.le_refl _) ?_; intro v134 w4 ho5 hb hg_ hnew_; obtain ⟨g, cap, cur, rfl, hgb, hcap, hcm, hcur, hcl⟩ := Minus.of_R ho5; clear ho5 hnew_ hg_; replace HB := Aside0.mk (below_step (pw_below_drewN HB.out nd) hb); have GB := Aside0.mk (show w.heap.size ≤ g from hgb); replace HE := Aside0.mk ((Below.cell hb (World.block_lt_of_cell? w ad HE.out)).trans HE.out); clear hb hgb; have HCUR := Aside0.mk hcur; clear hcur)
   | ((with_reducible refine gate_dst (N := 33) rfl ?_); refine wpList_copy_splice rfl (.tmp 31) (.tmp 32) 29 29 rfl 3 Try.underlying29 (by kernel_rfl) (some ⟨g, 0, none⟩) (some ad) 128 cap 1 c0 rfl rfl g 0 cur 3 HCUR.out [.int .i64 (-1)] rfl ?hp ?hf ?h1 w.heap.size w HB.out GB.out ?_; (case hp => exact fun _ => ⟨rfl, ad, rfl, fun j v hj => by (cases j with | zero => (cases hj; rw [ad_zero]; exact HE.out) | succ j => simp at hj)⟩); (case hf => simp; omega); (case h1 => intro v hv; rw [List.mem_singleton.1 hv]; rfl); intro w5 hg5 hb5; have HM5 := Aside0.mk (Minus.splice (cs := [.int .i64 (-1)]) hg5.out hcl (by simp; omega) (fun u hu => List.mem_singleton.1 hu) (fun j hj => absurd hj (by omega))); clear hg5 HB; have HB := Aside0.mk hb5; clear hb5))
  go_loopg [8] 128 (fun kq v8 w' => ∃ m : Nat, v8 = .int .i64 (m : Int) ∧ Aside0 (1 ≤ m ∧ m ≤ 128 ∧ 128 ≤ m + kq) ∧ Aside0 (Minus w' g cap m) ∧ Aside0 (Below w.heap.size w w'))
  case atStart => exact ⟨1, by first | rfl | (simp; done), ⟨by omega, by omega, by omega⟩, HM5, HB⟩
  clear HM5 HCUR HB HE HM
  obtain ⟨m, rfl, HM, HK, HB⟩ := hrel
  obtain ⟨hm1, hm2, hm3⟩ := HM.out
  by_cases h1 : (m : Int) < 128
  rotate_left
  ·have h1b : decide ((m : Int) < 128) = false := decide_eq_false h1
   have h1c : decide (m < 128) = false := decide_eq_false (by omega)
   obtain rfl : m = 128 := by omega
   go_wp2
   go_ret
   exact ⟨_, rfl, Minus.R HK.out GB.out hcap hcm, HB.out⟩
  have h1b : decide ((m : Int) < 128) = true := decide_eq_true h1
  have h1c : decide (m < 128) = true := decide_eq_true (by omega)
  obtain ⟨k1, rfl⟩ : ∃ k1, gk = k1 + 1 := ⟨gk - 1, by omega⟩
  obtain ⟨cr, hcr, hcrl, hcrm⟩ := HK.out
  have HCR := Aside0.mk hcr
  have HCM := Aside0.mk hcrm
  clear hcr hcrm HK HM
  obtain ⟨cs, hcs⟩ : ∃ cs : List Value, cs = List.replicate (Nat.min m (128 - m)) (.int .i64 (-1)) := ⟨_, rfl⟩
  have hcl1 : cs.length = Nat.min m (128 - m) := by rw [hcs, List.length_replicate]
  have hcl0 : cs.length = min m (128 - m) := hcl1
  have hcu := Aside0.mk (show ∀ u ∈ cs, u = Value.int .i64 (-1) from fun u hu => List.eq_of_mem_replicate (hcs ▸ hu))
  clear hcs
  have hcl2 : m + cs.length ≤ 128 := by omega
  have hcl3 : 0 < cs.length := by omega
  have hcl4 : cs.length ≤ m := by omega
  have hcl5 : m + cs.length ≤ cr.length := by omega
  have hcw : IntKind.i64.wrap ((m : Int) + (cs.length : Int)) = ((m + cs.length : Nat) : Int) := by rw [IntKind.wrap_i64]; omega
  have hcw2 : IntKind.i64.wrap ((m : Int) + ((Nat.min m (128 - m) : Nat) : Int)) = (m : Int) + (cs.length : Int) := by rw [← hcl1, hcw]; omega
  clear hcl0
  have hsrc := Aside0.mk (show ∀ j v, cs[j]? = some v → ∀ W : World, W.heap[g]? = some (.cells cr.toArray 3 (0, 0)) → W.cell? ((⟨g, 0, none⟩ : Addr).add j) = some v from fun j v hj W hW => by
   have hlt := (List.getElem?_eq_some_iff.1 hj).1
   have e : v = .int .i64 (-1) := hcu.out v (List.mem_of_getElem? hj)
   have e2 := HCM.out j (by omega)
   rw [e, Addr.add_lit, Nat.zero_add]
   simpa [World.cell?, hW] using e2)
  have h0 : (0 : Int) ≤ (m : Int) := by omega
  have h2 : m ≠ cap := by omega
  have h3 : (m : Int) ≤ 128 := by omega
  have h4 : (m : Int) ≤ (cap : Int) := by omega
  have h5 : (128 : Int) ≤ (cap : Int) := by omega
  have h6 : cap ≠ m := by omega
  go_wp2
  go_region_law (refine step_copy_splice rfl (.tmp 41) (.tmp 44) 29 29 rfl 3 Try.underlying29 (by kernel_rfl) (some ⟨g, m, none⟩) (some ⟨g, 0, none⟩) (128 - m) (cap - m) m cap (by simp [Act.eval, Act.put]) (by simp [Act.eval, Act.put]) g m cr 3 HCR.out cs hcl1 (fun _ => ⟨rfl, _, rfl, fun j v hj => hsrc.out j v hj _ HCR.out⟩) hcl5 (fun u hu => by rw [hcu.out u hu]; rfl) w.heap.size w (pw_below_drewN HB.out 1) GB.out ?_; intro w4 hg4 hb4)
  have HM4 := Aside0.mk (Minus.splice hg4.out hcrl (by omega) hcu.out HCM.out)
  have HB4 := Aside0.mk hb4
  clear hg4 hb4
  go_wp2
  go_roundg k1
  case measure => omega
  case rel => exact ⟨m + cs.length, by first | rfl | (simp; done) | (simp [hcw2]; done) | (simp [hcw2]; rw [hcl1]), ⟨by omega, by omega, by omega⟩, HM4, HB4⟩
 ·rw [if_neg hq] at h
  cases h

end Go.Proofs.Ytimdefbpoddoaaa.PFnExactCheckTable
-- thin
