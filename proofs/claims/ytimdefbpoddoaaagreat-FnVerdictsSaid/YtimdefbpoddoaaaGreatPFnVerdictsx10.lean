/- The law's functions as plain functions, and their calls. No condition. -/
import Derived.Test.YtimdefbpoddoaaaGreatPFnVerdictsx0
import Derived.Test.YtimdefbpoddoaaaGreatPFnVerdictsx9
namespace Go.Proofs.YtimdefbpoddoaaaGreat.PFnVerdicts
open Go.RowKit Go.Proofs.YtimdefbpoddoaaaGreatW.PrintWords Go.Proofs.YtimdefbpoddoaaaGreatW.PrintLast Go.Proofs.YtimdefbpoddoaaaGreatW.PrintMore
attribute [local go_sem] max2_int min2_int max_two min_two max_three min_three max_four min_four
set_option linter.unusedVariables false
set_option maxHeartbeats 8000000
set_option maxRecDepth 100000
set_option linter.unusedSimpArgs false

/-! ### bits_Mul32: function 130 -/
def bits_Mul32.f (a0 : Int) (a1 : Int) : Option (Int × Int) := some (((IntKind.u64.wrap ((IntKind.u64.wrap (a0)) * (IntKind.u64.wrap (a1)))) / 4294967296) % 4294967296, (IntKind.u64.wrap ((IntKind.u64.wrap (a0)) * (IntKind.u64.wrap (a1)))) % 4294967296)
theorem bits_Mul32.calls (a0 : Int) (a1 : Int) (r1 : Int) (r2 : Int) (w : World) (h : bits_Mul32.f a0 a1 = some (r1, r2)) :
  Calls Tryz.prog 130 #[.int .u32 a0, .int .u32 a1] w fun e w' => e = .returned (.tuple #[.int .u32 r1, .int .u32 r2]) ∧ Drawn0 w w' := by
 have H : (some (((IntKind.u64.wrap ((IntKind.u64.wrap (a0)) * (IntKind.u64.wrap (a1)))) / 4294967296) % 4294967296, (IntKind.u64.wrap ((IntKind.u64.wrap (a0)) * (IntKind.u64.wrap (a1)))) % 4294967296)) = some (r1, r2) := h
 clear h
 simp only [Option.some.injEq, Prod.mk.injEq] at H
 obtain ⟨rfl, rfl⟩ := H
 go_enter Tryz.func130, Tryz.ntmps130
 go_wp2
 go_ret2
 exact ⟨by first | rfl | (simp; done) | (simp [*]; done), by repeat (first | exact Drawn0.refl _ | apply Drawn0.step)⟩

/-! ### bits_Mul64: function 131 -/
def bits_Mul64.f (a0 : Int) (a1 : Int) : Option (Int × Int) := some (IntKind.u64.wrap ((IntKind.u64.wrap ((IntKind.u64.wrap ((a0 / 4294967296) * (a1 / 4294967296))) + ((IntKind.u64.wrap ((IntKind.u64.wrap ((a0 / 4294967296) * (Go.bits .and .u64 a1 4294967295))) + ((IntKind.u64.wrap ((Go.bits .and .u64 a0 4294967295) * (Go.bits .and .u64 a1 4294967295))) / 4294967296))) / 4294967296))) + ((IntKind.u64.wrap ((Go.bits .and .u64 (IntKind.u64.wrap ((IntKind.u64.wrap ((a0 / 4294967296) * (Go.bits .and .u64 a1 4294967295))) + ((IntKind.u64.wrap ((Go.bits .and .u64 a0 4294967295) * (Go.bits .and .u64 a1 4294967295))) / 4294967296))) 4294967295) + (IntKind.u64.wrap ((Go.bits .and .u64 a0 4294967295) * (a1 / 4294967296))))) / 4294967296)), IntKind.u64.wrap (a0 * a1))
theorem bits_Mul64.calls (a0 : Int) (a1 : Int) (r1 : Int) (r2 : Int) (w : World) (h : bits_Mul64.f a0 a1 = some (r1, r2)) :
  Calls Tryz.prog 131 #[.int .u64 a0, .int .u64 a1] w fun e w' => e = .returned (.tuple #[.int .u64 r1, .int .u64 r2]) ∧ Drawn0 w w' := by
 have H : (some (IntKind.u64.wrap ((IntKind.u64.wrap ((IntKind.u64.wrap ((a0 / 4294967296) * (a1 / 4294967296))) + ((IntKind.u64.wrap ((IntKind.u64.wrap ((a0 / 4294967296) * (Go.bits .and .u64 a1 4294967295))) + ((IntKind.u64.wrap ((Go.bits .and .u64 a0 4294967295) * (Go.bits .and .u64 a1 4294967295))) / 4294967296))) / 4294967296))) + ((IntKind.u64.wrap ((Go.bits .and .u64 (IntKind.u64.wrap ((IntKind.u64.wrap ((a0 / 4294967296) * (Go.bits .and .u64 a1 4294967295))) + ((IntKind.u64.wrap ((Go.bits .and .u64 a0 4294967295) * (Go.bits .and .u64 a1 4294967295))) / 4294967296))) 4294967295) + (IntKind.u64.wrap ((Go.bits .and .u64 a0 4294967295) * (a1 / 4294967296))))) / 4294967296)), IntKind.u64.wrap (a0 * a1))) = some (r1, r2) := h
 clear h
 simp only [Option.some.injEq, Prod.mk.injEq] at H
 obtain ⟨rfl, rfl⟩ := H
 go_enter Tryz.func131, Tryz.ntmps131
 go_wp2
 go_ret2
 exact ⟨by first | rfl | (simp; done) | (simp [*]; done), by repeat (first | exact Drawn0.refl _ | apply Drawn0.step)⟩

/-! ### bits_Mul: function 116 -/
def bits_Mul.f (a0 : Int) (a1 : Int) : Option (Int × Int) := (bits_Mul64.f a0 a1).bind fun bt366 => (some (bt366.1, bt366.2))
theorem bits_Mul.calls (a0 : Int) (a1 : Int) (r1 : Int) (r2 : Int) (w : World) (h : bits_Mul.f a0 a1 = some (r1, r2)) :
  Calls Tryz.prog 116 #[.int .u64 a0, .int .u64 a1] w fun e w' => e = .returned (.tuple #[.int .u64 r1, .int .u64 r2]) ∧ Drawn0 w w' := by
 have H : ((bits_Mul64.f a0 a1).bind fun bt366 => (some (bt366.1, bt366.2))) = some (r1, r2) := h
 clear h
 obtain ⟨⟨t366, t367⟩, A3, H⟩ := bi_ H
 try dsimp only at H
 simp only [Option.some.injEq, Prod.mk.injEq] at H
 obtain ⟨rfl, rfl⟩ := H
 go_enter Tryz.func116, Tryz.ntmps116
 go_wp2_with (first | ((with_reducible refine gate_callee (f := 131) rfl ?_); refine gm_ (some 25) Tryz.func131 #[.int .u64 a0, .int .u64 a1] rfl ?_; (with_reducible refine (bits_Mul64.calls a0 a1 t366 t367 _ A3.out).mono ?_); rintro e w' ⟨rfl, ⟨nd, rfl⟩⟩; refine ⟨_, rfl, ?_⟩))
 go_ret2
 exact ⟨by first | rfl | (simp; done) | (simp [*]; done), by repeat (first | exact Drawn0.refl _ | apply Drawn0.step)⟩

/-! ### slices_Repeat_int_int: function 93 -/
/-- A row of cells of which the first m hold -1. -/
def Minus (W : World) (g cap m : Nat) : Prop := ∃ cur : List Value, W.heap[g]? = some (.cells cur.toArray 3 (0, 0)) ∧ cur.length = cap ∧ ∀ j, j < m → cur[j]? = some (.int .i64 (-1))
theorem Minus.splice {W : World} {g cap m : Nat} {cur cs : List Value} (hb : W.heap[g]? = some (.cells (Go.splice cur m cs).toArray 3 (0, 0))) (hl : cur.length = cap) (hm : m + cs.length ≤ cap) (hc : ∀ u ∈ cs, u = .int .i64 (-1)) (h : ∀ j, j < m → cur[j]? = some (.int .i64 (-1))) : Minus W g cap (m + cs.length) := by
 refine ⟨_, hb, by rw [length_splice _ _ _ (by omega)]; exact hl, fun j hj => ?_⟩
 unfold Go.splice
 by_cases h1 : j < m
 ·rw [List.getElem?_append_left (by simp; omega), List.getElem?_take_of_lt h1]
  exact h j h1
 rw [List.getElem?_append_right (by simp; omega), List.getElem?_append_left (by simp; omega), List.length_take, Nat.min_eq_left (by omega)]
 have hlt : j - m < cs.length := by omega
 rw [List.getElem?_eq_getElem hlt, hc _ (List.getElem_mem hlt)]
theorem Minus.of_R {W : World} {base : Nat} {ok : Nat → Prop} {v : Value} (h : Kd.R (Kd.int .i64) 3 W base ok v (List.replicate 128 0)) : ∃ (g cap : Nat) (cur : List Value), v = .slice (some ⟨g, 0, none⟩) 128 cap ∧ base ≤ g ∧ 128 ≤ cap ∧ cap ≤ maxLen ∧ W.heap[g]? = some (.cells cur.toArray 3 (0, 0)) ∧ cur.length = cap := by
 obtain ⟨_, h2⟩ := Kd.own_of_R h
 rw [List.length_replicate] at h2
 rcases h2 with ⟨_, h0⟩ | ⟨g, cap, cur, rfl, hb, hh, hn, hm, hs, _⟩
 ·omega
 ·exact ⟨g, cap, cur.toList, rfl, hb, hn, hm, by simpa using hh, by simpa using hs⟩
theorem Minus.R {W : World} {base g cap : Nat} (h : Minus W g cap 128) (hb : base ≤ g) (hc : 128 ≤ cap) (hm : cap ≤ maxLen) : Kd.R (Kd.int .i64) 3 W base (fun _ => True) (.slice (some ⟨g, 0, none⟩) 128 cap) (List.replicate 128 (-1)) := by
 obtain ⟨cur, hh, hl, hj⟩ := h
 refine Kd.R_of_own ⟨by simp [encs], .inr ⟨g, cap, cur.toArray, by rw [List.length_replicate], hb, hh, by simp; omega, hm, by simpa using hl, ?_⟩⟩ (fun _ _ => trivial)
 refine List.ext_getElem? fun j => ?_
 simp only [List.length_replicate, Nat.mul_one, encs, List.map_replicate]
 by_cases h1 : j < 128
 ·rw [List.getElem?_take_of_lt h1, hj j h1, List.getElem?_replicate, if_pos h1]
 rw [List.getElem?_eq_none (by simp; omega), List.getElem?_eq_none (by simp; omega)]
theorem ad_zero (ad : Addr) : ad.add 0 = ad := by unfold Addr.add; split <;> simp_all
theorem minus_cell {w : World} {A : Option Addr} (h : Kd.C (Kd.int .i64) w A 1 [-1]) : ∃ ad, A = some ad ∧ w.cell? ad = some (.int .i64 (-1)) := by
 obtain ⟨_, _, h⟩ := h
 obtain ⟨ad, rfl, h9⟩ := h (by omega)
 obtain ⟨c, hl, hK, hc⟩ := h9 0 (-1) rfl
 have e : c = [.int .i64 (-1)] := hK
 have := hc 0 (.int .i64 (-1)) (by rw [e]; rfl)
 exact ⟨ad, rfl, by simpa [ad_zero] using this⟩
def slices_Repeat_int_int.f (l : List Int) (n : Int) : Option (List Int) := if l = [-1] ∧ n = 128 then some (List.replicate 128 (-1)) else none
theorem slices_Repeat_int_int.mul : bits_Mul.f 1 128 = some (0, 128) := by decide +kernel
set_option maxHeartbeats 4000000 in
theorem slices_Repeat_int_int.calls (A0 : Option Addr) (c0 : Nat) (l0 : List Int) (a1 : Int) (r : List Int) (w : World) (hr0 : Kd.C (Kd.int .i64) w A0 l0.length l0) (hc0 : l0.length ≤ c0) (h : slices_Repeat_int_int.f l0 a1 = some r) :
  Calls Tryz.prog 93 #[.slice A0 l0.length c0, .int .i64 a1] w fun e w' => ∃ v0_ : Value, e = .returned (v0_) ∧ Kd.R (Kd.int .i64) 3 w' w.heap.size (fun _ => True) v0_ r ∧ Below w.heap.size w w' := by
 unfold slices_Repeat_int_int.f at h
 by_cases hq : l0 = [-1] ∧ a1 = 128
 ·rw [if_pos hq] at h
  obtain ⟨rfl, rfl⟩ := hq
  obtain rfl := Option.some.inj h
  clear h
  obtain ⟨ad, rfl, hcell⟩ := minus_cell hr0
  have HE := Aside0.mk hcell
  have HM := Aside0.mk slices_Repeat_int_int.mul
  have HB := Aside0.mk (Below.refl w.heap.size w)
  clear hr0 hcell
  simp only [List.length_cons, List.length_nil, Nat.zero_add]
  go_enter Tryz.func93, Tryz.ntmps93
  go_wp2_with (first
   | (go_at_call 116; (with_reducible refine (bits_Mul.calls 1 128 0 128 _ HM.out).mono ?_); rintro e w' ⟨rfl, ⟨nd, rfl⟩⟩)
   | ((with_reducible refine gate_dst (N := 30) rfl ?_); refine Kd.R_make (Kd.int .i64) _ 3 rfl (N := 30) rfl 24 _ _ rfl 128 rfl rfl Tryz.underlying24 (.int .i64 0) 8 info3 rfl (by decide) (by omega) 0 (ok := fun _ => True) (okp := fun _ => True) rfl (fun _ hk => hk) trivial (by omega) (by omega) (Below.refl _ _) (Nat.le_refl _) ?_; intro v134 w4 ho5 hb hg_ hnew_; obtain ⟨g, cap, cur, rfl, hgb, hcap, hcm, hcur, hcl⟩ := Minus.of_R ho5; clear ho5 hnew_ hg_; replace HB := Aside0.mk (below_step (pw_below_drewN HB.out nd) hb); have GB := Aside0.mk (show w.heap.size ≤ g from hgb); replace HE := Aside0.mk ((Below.cell hb (World.block_lt_of_cell? w ad HE.out)).trans HE.out); clear hb hgb; have HCUR := Aside0.mk hcur; clear hcur)
   | ((with_reducible refine gate_dst (N := 33) rfl ?_); refine wpList_copy_splice rfl (.tmp 31) (.tmp 32) 24 24 rfl 3 Tryz.underlying24 (by kernel_rfl) (some ⟨g, 0, none⟩) (some ad) 128 cap 1 c0 rfl rfl g 0 cur 3 HCUR.out [.int .i64 (-1)] rfl ?hp ?hf ?h1 w.heap.size w HB.out GB.out ?_; (case hp => exact fun _ => ⟨rfl, ad, rfl, fun j v hj => by (cases j with | zero => (cases hj; rw [ad_zero]; exact HE.out) | succ j => simp at hj)⟩); (case hf => simp; omega); (case h1 => intro v hv; rw [List.mem_singleton.1 hv]; rfl); intro w5 hg5 hb5; have HM5 := Aside0.mk (Minus.splice (cs := [.int .i64 (-1)]) hg5.out hcl (by simp; omega) (fun u hu => List.mem_singleton.1 hu) (fun j hj => absurd hj (by omega))); clear hg5 HB; have HB := Aside0.mk hb5; clear hb5))
  go_loopg [8] 128 (fun kq v8 w' => ∃ m : Nat, v8 = .int .i64 (m : Int) ∧ Aside0 (1 ≤ m ∧ m ≤ 128 ∧ 128 ≤ m + kq) ∧ Aside0 (Minus w' g cap m) ∧ Aside0 (Below w.heap.size w w'))
  case atStart => exact ⟨1, by first | rfl | (simp; done), ⟨by omega, by omega, by omega⟩, HM5, HB⟩
  clear HM5 HCUR HB HE HM
  obtain ⟨m, rfl, HM, HK, HB⟩ := hrel
  obtain ⟨hm1, hm2, hm3⟩ := HM.out
  by_cases h1 : (m : Int) < 128
  rotate_left
  ·have h1b : decide ((m : Int) < 128) = false := decide_eq_false h1
   have h1c : decide (m < 128) = false := decide_eq_false (by omega)
   obtain rfl : m = 128 := by omega
   go_wp2
   go_ret
   exact ⟨_, rfl, Minus.R HK.out GB.out hcap hcm, HB.out⟩
  have h1b : decide ((m : Int) < 128) = true := decide_eq_true h1
  have h1c : decide (m < 128) = true := decide_eq_true (by omega)
  obtain ⟨k1, rfl⟩ : ∃ k1, gk = k1 + 1 := ⟨gk - 1, by omega⟩
  obtain ⟨cr, hcr, hcrl, hcrm⟩ := HK.out
  have HCR := Aside0.mk hcr
  have HCM := Aside0.mk hcrm
  clear hcr hcrm HK HM
  obtain ⟨cs, hcs⟩ : ∃ cs : List Value, cs = List.replicate (Nat.min m (128 - m)) (.int .i64 (-1)) := ⟨_, rfl⟩
  have hcl1 : cs.length = Nat.min m (128 - m) := by rw [hcs, List.length_replicate]
  have hcl0 : cs.length = min m (128 - m) := hcl1
  have hcu := Aside0.mk (show ∀ u ∈ cs, u = Value.int .i64 (-1) from fun u hu => List.eq_of_mem_replicate (hcs ▸ hu))
  clear hcs
  have hcl2 : m + cs.length ≤ 128 := by omega
  have hcl3 : 0 < cs.length := by omega
  have hcl4 : cs.length ≤ m := by omega
  have hcl5 : m + cs.length ≤ cr.length := by omega
  have hcw : IntKind.i64.wrap ((m : Int) + (cs.length : Int)) = ((m + cs.length : Nat) : Int) := by rw [IntKind.wrap_i64]; omega
  have hcw2 : IntKind.i64.wrap ((m : Int) + ((Nat.min m (128 - m) : Nat) : Int)) = (m : Int) + (cs.length : Int) := by rw [← hcl1, hcw]; omega
  clear hcl0
  have hsrc := Aside0.mk (show ∀ j v, cs[j]? = some v → ∀ W : World, W.heap[g]? = some (.cells cr.toArray 3 (0, 0)) → W.cell? ((⟨g, 0, none⟩ : Addr).add j) = some v from fun j v hj W hW => by
   have hlt := (List.getElem?_eq_some_iff.1 hj).1
   have e : v = .int .i64 (-1) := hcu.out v (List.mem_of_getElem? hj)
   have e2 := HCM.out j (by omega)
   rw [e, Addr.add_lit, Nat.zero_add]
   simpa [World.cell?, hW] using e2)
  have h0 : (0 : Int) ≤ (m : Int) := by omega
  have h2 : m ≠ cap := by omega
  have h3 : (m : Int) ≤ 128 := by omega
  have h4 : (m : Int) ≤ (cap : Int) := by omega
  have h5 : (128 : Int) ≤ (cap : Int) := by omega
  have h6 : cap ≠ m := by omega
  go_wp2
  go_region_law (refine step_copy_splice rfl (.tmp 41) (.tmp 44) 24 24 rfl 3 Tryz.underlying24 (by kernel_rfl) (some ⟨g, m, none⟩) (some ⟨g, 0, none⟩) (128 - m) (cap - m) m cap (by simp [Act.eval, Act.put]) (by simp [Act.eval, Act.put]) g m cr 3 HCR.out cs hcl1 (fun _ => ⟨rfl, _, rfl, fun j v hj => hsrc.out j v hj _ HCR.out⟩) hcl5 (fun u hu => by rw [hcu.out u hu]; rfl) w.heap.size w (pw_below_drewN HB.out 1) GB.out ?_; intro w4 hg4 hb4)
  have HM4 := Aside0.mk (Minus.splice hg4.out hcrl (by omega) hcu.out HCM.out)
  have HB4 := Aside0.mk hb4
  clear hg4 hb4
  go_wp2
  go_roundg k1
  case measure => omega
  case rel => exact ⟨m + cs.length, by first | rfl | (simp; done) | (simp [hcw2]; done) | (simp [hcw2]; rw [hcl1]), ⟨by omega, by omega, by omega⟩, HM4, HB4⟩
 ·rw [if_neg hq] at h
  cases h

/-! ### slices_Clone_int_int: function 94 -/
def slices_Clone_int_int.f (l : List Int) : Option (List Int) := if 0 < l.length ∧ l.length < 17592186044416 then some l else none
theorem eq_nil_slice (W : World) (a : Option Addr) (n c : Nat) : (binOp .eql 24 (.slice a n c) (.slice none 0 0)).run Tryz.prog W = .ok (.bool a.isNone) W := Lib.run_eql_slice_nil W 24 _ a n c 0 0 Tryz.underlying24
theorem ne_nil_slice (W : World) (a : Option Addr) (n c : Nat) : (binOp .neq 24 (.slice a n c) (.slice none 0 0)).run Tryz.prog W = .ok (.bool (!a.isNone)) W := by
 simp only [binOp]
 simp [Op.equal, Op.maxDepth, Lib.run_equalIn_slice_nil W 9999 24 _ a n c 0 0 Tryz.underlying24]
theorem slices_Clone_int_int.ad {w : World} {A : Option Addr} {l : List Int} (h : Kd.C (Kd.int .i64) w A l.length l) (hn : 0 < l.length) : ∃ ad, A = some ad := by
 obtain ⟨_, _, h9⟩ := h
 obtain ⟨ad, e, _⟩ := h9 hn
 exact ⟨ad, e⟩
set_option maxHeartbeats 4000000 in
theorem slices_Clone_int_int.calls (A0 : Option Addr) (c0 : Nat) (l0 : List Int) (r : List Int) (w : World) (hr0 : Kd.C (Kd.int .i64) w A0 l0.length l0) (hc0 : l0.length ≤ c0) (h : slices_Clone_int_int.f l0 = some r) :
  Calls Tryz.prog 94 #[.slice A0 l0.length c0] w fun e w' => ∃ v0_ : Value, e = .returned (v0_) ∧ Kd.R (Kd.int .i64) 3 w' w.heap.size (fun _ => True) v0_ r ∧ Below w.heap.size w w' := by
 unfold slices_Clone_int_int.f at h
 by_cases hq : 0 < l0.length ∧ l0.length < 17592186044416
 ·rw [if_pos hq] at h
  obtain rfl := Option.some.inj h
  clear h
  obtain ⟨ad, rfl⟩ := slices_Clone_int_int.ad hr0 hq.1
  have HR0 := Aside0.mk hr0
  have HQ := Aside0.mk hq
  have HB := Aside0.mk (Below.refl w.heap.size w)
  have hEQ := eq_nil_slice
  clear hr0 hq hc0
  go_enter Tryz.func94, Tryz.ntmps94
  go_wp2_with (first
   | ((with_reducible refine gate_dst (N := 5) rfl ?_); refine Kd.R_lit (Kd.int .i64) _ 3 ?hg (N := 5) ?hd (xs := ([] : List Int)) (inner := []) (ok := fun _ => True) (okp := fun _ => True) ?hr ?hp (fun _ hk => hk) trivial (Below.refl _ _) (Nat.le_refl _) (by simp) ?_; (case hd => rfl); (case hg => rfl); (case hr => first | (go_simp; done) | (go_simp; rfl)); (case hp => exact (Reps.none _ _)); intro v5 w5 ho hb hg_ hnew_; clear hg_ hnew_; have HO := Aside0.mk (Kd.R_lower ho (bz_ HB.out)); replace HB := hs_ HB hb; clear ho hb)
   | ((with_reducible refine gate_builtin (b := .append) (xs := #[.tmp 5, .tmp 6]) rfl ?_); at_builtin; refine Kd.R_append_rows (Kd.int .i64) (w0 := w) w.heap.size rfl (.tmp 5) (.tmp 6) 24 3 (.int .i64 0) 8 rfl Tryz.underlying24 info3 rfl (by decide) (by omega) v5 [] l0 _ _ _ (fun _ => True) (fun _ => False) rfl rfl ?aO ?aR (fun _ _ h => h) (fun _ h => h.elim) ?aF ?aB ?aS ?aL ?_; (case aR => exact cb_ HR0.out HB.out); (case aB => exact bb_ HB.out); (case aF => exact (fun _ _ => trivial)); (case aO => exact HO.out); (case aS => exact bz_ HB.out); (case aL => have := HQ.out.2; simp only [List.length_nil]; omega); intro v7 w7 ho hb hg hat; rw [List.nil_append] at ho; replace HO := Aside0.mk ho; replace HB := Aside0.mk hb; clear ho hb hg hat))
  go_ret
  exact ⟨_, fin_, HO.out, bb_ HB.out⟩
 ·rw [if_neg hq] at h
  cases h

/-! ### impl_nextRanked: function 95 -/
def impl_nextRanked.l0 : Nat → List Int → Int → Option Int
 | 0, _, _ => none
 | k + 1, a, x => if x < (a.length : Int) then (if 0 ≤ x then (if rd a x = -2 then (some x) else (impl_nextRanked.l0 k a (wrap64 (x + 1)))) else none) else (some (-1))
def impl_nextRanked.f (k : Nat) (l0 : List S98) (l1 : List Int) : Option Int := impl_nextRanked.l0 k l1 0
theorem impl_nextRanked.mono_l : ∀ k a x, LeO (impl_nextRanked.l0 k a x) (impl_nextRanked.l0 (k + 1) a x)
 | 0, _, _ => fun r h => by simp [impl_nextRanked.l0] at h
 | k + 1, a, x => by
  have ih := impl_nextRanked.mono_l k
  unfold impl_nextRanked.l0
  exact LeO.ite (LeO.ite (LeO.ite (LeO.refl _) (ih _ _)) (LeO.refl _)) (LeO.refl _)
theorem impl_nextRanked.mono (l0 : List S98) (l1 : List Int) : ∀ k, LeO (impl_nextRanked.f k l0 l1) (impl_nextRanked.f (k + 1) l0 l1) := by
 intro k
 unfold impl_nextRanked.f
 exact impl_nextRanked.mono_l _ _ _
set_option maxHeartbeats 4000000 in
theorem impl_nextRanked.is2 (x : Int) (w : World) : Calls Tryz.prog 118 #[.int .i64 x] w fun e w' => e = .returned (.bool (x == -2)) ∧ Drawn0 w w' := by
 go_enter Tryz.func118, Tryz.ntmps118
 go_wp2
 go_ret
 exact ⟨by first | rfl | (simp; done) | (simp [*]; done), by repeat (first | exact Drawn0.refl _ | apply Drawn0.step)⟩
set_option maxHeartbeats 4000000 in
theorem impl_nextRanked.idx (k : Nat) (A0 : Option Addr) (c0 : Nat) (l0 : List Int) (r : Int) (w : World) (hr0 : Kd.C (Kd.int .i64) w A0 l0.length l0) (h : impl_nextRanked.l0 k l0 0 = some r) :
  Calls Tryz.prog 117 #[.slice A0 l0.length c0, .func (.func 118) #[] #[]] w fun e w' => e = .returned (.int .i64 r) ∧ Drawn0 w w' := by
 have HR0 := Aside0.mk hr0
 have H' := Aside0.mk h
 clear hr0 h
 go_enter Tryz.func117, Tryz.ntmps117
 go_wp2
 go_loopg [8] k (fun kq v8 w' => ∃ (x8_1 : Int), v8 = .int .i64 x8_1 ∧ Aside0 (impl_nextRanked.l0 kq l0 x8_1 = some r) ∧ Aside0 (kq ≤ k) ∧ Drawn0 w w')
 case atStart => exact ⟨(0), ef_, H', ⟨Nat.le_refl _⟩, by repeat (first | exact Drawn0.refl _ | apply Drawn0.step)⟩
 clear H'
 obtain ⟨x8_1, rfl, HA, HK1, ⟨m1, rfl⟩⟩ := hrel
 obtain _ | k1 := gk
 ·exact absurd HA.out (by simp [impl_nextRanked.l0])
 have H := HA.out
 clear HA
 simp only [impl_nextRanked.l0] at H
 by_cases c3 : x8_1 < (l0.length : Int)
 rotate_left
 ·rw [if_neg c3] at H
  have c3b0 : decide (x8_1 < (l0.length : Int)) = false := decide_eq_false c3
  clear c3
  obtain rfl := Option.some.inj H
  go_wp2
  go_ret
  exact ⟨by first | rfl | (simp; done) | (simp [*]; done), by repeat (first | exact Drawn0.refl _ | apply Drawn0.step)⟩
 rw [if_pos c3] at H
 have c3b0 : decide (x8_1 < (l0.length : Int)) = true := decide_eq_true c3
 by_cases c4 : 0 ≤ x8_1
 rotate_left
 ·rw [if_neg c4] at H
  exact absurd H (by simp)
 rw [if_pos c4] at H
 have c4b0 : decide (0 ≤ x8_1) = true := decide_eq_true c4
 obtain ⟨ad278, e278, hx278_0⟩ := Kd.at_int HR0.out x8_1 c4 c3
 cases e278
 by_cases c6 : rd l0 x8_1 = -2
 ·rw [if_pos c6] at H
  have c6b0 : (rd l0 x8_1 == -2) = true := beq_iff_eq.mpr c6
  clear c6
  obtain rfl := Option.some.inj H
  replace c3 := eq_true c3
  replace c4 := eq_true c4
  go_wp2_with (first | (go_at_call 118; (with_reducible refine (impl_nextRanked.is2 (rd l0 x8_1) _).mono ?_); rintro e w' ⟨rfl, ⟨nd, rfl⟩⟩))
  go_ret
  exact ⟨by first | rfl | (simp; done) | (simp [*]; done), by repeat (first | exact Drawn0.refl _ | apply Drawn0.step)⟩
 rw [if_neg c6] at H
 have c6b0 : (rd l0 x8_1 == -2) = false := beq_eq_false_iff_ne.mpr c6
 clear c6
 have H' := Aside0.mk H
 clear H
 replace c3 := eq_true c3
 replace c4 := eq_true c4
 go_wp2_with (first | (go_at_call 118; (with_reducible refine (impl_nextRanked.is2 (rd l0 x8_1) _).mono ?_); rintro e w' ⟨rfl, ⟨nd, rfl⟩⟩))
 go_roundg k1
 case measure => have := HK1.out; omega
 case rel => exact ⟨(wrap64 (x8_1 + 1)), ef_, H', ⟨by have := HK1.out; omega⟩, by repeat (first | exact Drawn0.refl _ | apply Drawn0.step)⟩
set_option maxHeartbeats 4000000 in
theorem impl_nextRanked.calls (k : Nat) (A0 : Option Addr) (c0 : Nat) (l0 : List S98) (A1 : Option Addr) (c1 : Nat) (l1 : List Int) (r : Int) (w : World) (hr0 : Kd.C k98 w A0 l0.length l0) (hc0 : l0.length ≤ c0) (hr1 : Kd.C (Kd.int .i64) w A1 l1.length l1) (hc1 : l1.length ≤ c1) (h : impl_nextRanked.f k l0 l1 = some r) :
  Calls Tryz.prog 95 #[.slice A0 l0.length c0, .slice A1 l1.length c1] w fun e w' => e = .returned (.int .i64 r) ∧ Drawn0 w w' := by
 have hq := Aside0.mk (impl_nextRanked.idx k A1 c1 l1 r w hr1 h)
 clear hr0 hc0 hr1 hc1 h
 go_enter Tryz.func95, Tryz.ntmps95
 go_wp2_with (first | (go_at_call 117; (with_reducible refine hq.out.mono ?_); rintro e w' ⟨rfl, ⟨nd, rfl⟩⟩))
 go_ret
 exact ⟨by first | rfl | (simp; done) | (simp [*]; done), by repeat (first | exact Drawn0.refl _ | apply Drawn0.step)⟩

/-! ### impl_OrderOf: function 64 -/
mutual
def impl_OrderOf.l0 : Nat → List (S98) → List Int → Int → Option (List Int × Bool)
 | 0, _, _, _ => none
 | k + 1, x0, x4, x17 => if x17 < 128 then ((slices_Clone_int_int.f x4).bind fun t375 => (impl_OrderOf.l1 k x0 x4 x17 t375 x17 x4 (x4.length : Int) 0)) else (some (x4, true))
def impl_OrderOf.l1 : Nat → List (S98) → List Int → Int → List Int → Int → List Int → Int → Int → Option (List Int × Bool)
 | 0, _, _, _, _, _, _, _, _ => none
 | k + 1, x0, x4, x5, x6, x17, x22, x23, x24 => if x24 < x23 then (if 0 ≤ x24 then (if x24 < (x22.length : Int) then (if (rd x22 x24) < 0 then (if x24 < (x6.length : Int) then (impl_OrderOf.l1 k x0 x4 x5 (x6.set (x24 : Int).toNat (-2)) x17 x22 x23 (wrap64 (x24 + 1))) else (none)) else (impl_OrderOf.l1 k x0 x4 x5 x6 x17 x22 x23 (wrap64 (x24 + 1)))) else (none)) else (none)) else (impl_OrderOf.l2 k x0 x4 x5 x6 x17 x0 (x0.length : Int) 0)
def impl_OrderOf.l2 : Nat → List (S98) → List Int → Int → List Int → Int → List (S98) → Int → Int → Option (List Int × Bool)
 | 0, _, _, _, _, _, _, _, _ => none
 | k + 1, x0, x4, x5, x6, x17, x35, x36, x37 => if x37 < x36 then (if 0 ≤ x37 then (if x37 < (x35.length : Int) then (if 0 ≤ ((rd_T98 x35 x37).f0) then (if ((rd_T98 x35 x37).f0) < (x4.length : Int) then (if (rd x4 ((rd_T98 x35 x37).f0)) < 0 then (if 0 ≤ ((rd_T98 x35 x37).f1) then (if ((rd_T98 x35 x37).f1) < (x4.length : Int) then (if (rd x4 ((rd_T98 x35 x37).f1)) < 0 then (if ((rd_T98 x35 x37).f1) < (x6.length : Int) then (impl_OrderOf.l2 k x0 x4 x5 (x6.set (((rd_T98 x35 x37).f1) : Int).toNat (-1)) x17 x35 x36 (wrap64 (x37 + 1))) else (none)) else (impl_OrderOf.l2 k x0 x4 x5 x6 x17 x35 x36 (wrap64 (x37 + 1)))) else (none)) else (none)) else (impl_OrderOf.l2 k x0 x4 x5 x6 x17 x35 x36 (wrap64 (x37 + 1)))) else (none)) else (none)) else (none)) else (none)) else ((impl_nextRanked.f k x0 x6).bind fun t385 => (if t385 < 0 then (some (([] : List Int), false)) else (if 0 ≤ t385 then (if t385 < (x4.length : Int) then (impl_OrderOf.l0 k x0 (x4.set (t385 : Int).toNat x5) (wrap64 (x17 + 1))) else (none)) else (none))))
end
def impl_OrderOf.f (k : Nat) (l0 : List (S98)) : Option (List Int × Bool) := (impl_DependsOk.f k l0).bind fun t368 => (if t368 = true then ((slices_Repeat_int_int.f (([(-1)] : List Int)) 128).bind fun t372 => (impl_OrderOf.l0 k l0 t372 0)) else (some (([] : List Int), false)))
theorem impl_OrderOf.mono_l : ∀ k, (∀ y0 y1 y2, LeO (impl_OrderOf.l0 k y0 y1 y2) (impl_OrderOf.l0 (k + 1) y0 y1 y2)) ∧ (∀ y0 y1 y2 y3 y4 y5 y6 y7, LeO (impl_OrderOf.l1 k y0 y1 y2 y3 y4 y5 y6 y7) (impl_OrderOf.l1 (k + 1) y0 y1 y2 y3 y4 y5 y6 y7)) ∧ (∀ y0 y1 y2 y3 y4 y5 y6 y7, LeO (impl_OrderOf.l2 k y0 y1 y2 y3 y4 y5 y6 y7) (impl_OrderOf.l2 (k + 1) y0 y1 y2 y3 y4 y5 y6 y7))
 | 0 => ⟨fun _ _ _ r h => by simp [impl_OrderOf.l0] at h, fun _ _ _ _ _ _ _ _ r h => by simp [impl_OrderOf.l1] at h, fun _ _ _ _ _ _ _ _ r h => by simp [impl_OrderOf.l2] at h⟩
 | k + 1 => by
  obtain ⟨ih0, ih1, ih2⟩ := impl_OrderOf.mono_l k
  refine ⟨?_, ?_, ?_⟩
  ·intro y0 y1 y2
   unfold impl_OrderOf.l0
   repeat' (with_reducible first | exact ih0 .. | exact ih1 .. | exact ih2 .. | exact impl_DependsOk.mono .. | exact impl_nextRanked.mono .. | exact LeO.refl .. | exact LeO.none .. | refine LeO.ite ?_ ?_ | refine LeO.bind ?_ (fun _ => ?_))
  ·intro y0 y1 y2 y3 y4 y5 y6 y7
   unfold impl_OrderOf.l1
   repeat' (with_reducible first | exact ih0 .. | exact ih1 .. | exact ih2 .. | exact impl_DependsOk.mono .. | exact impl_nextRanked.mono .. | exact LeO.refl .. | exact LeO.none .. | refine LeO.ite ?_ ?_ | refine LeO.bind ?_ (fun _ => ?_))
  ·intro y0 y1 y2 y3 y4 y5 y6 y7
   unfold impl_OrderOf.l2
   repeat' (with_reducible first | exact ih0 .. | exact ih1 .. | exact ih2 .. | exact impl_DependsOk.mono .. | exact impl_nextRanked.mono .. | exact LeO.refl .. | exact LeO.none .. | refine LeO.ite ?_ ?_ | refine LeO.bind ?_ (fun _ => ?_))
theorem impl_OrderOf.mono : ∀ a0 k, LeO (impl_OrderOf.f k a0) (impl_OrderOf.f (k + 1) a0) := by
 intro a0 k
 obtain ⟨ih0, ih1, ih2⟩ := impl_OrderOf.mono_l k
 unfold impl_OrderOf.f
 repeat' (with_reducible first | exact ih0 .. | exact ih1 .. | exact ih2 .. | exact impl_DependsOk.mono .. | exact impl_nextRanked.mono .. | exact LeO.refl .. | exact LeO.none .. | refine LeO.ite ?_ ?_ | refine LeO.bind ?_ (fun _ => ?_))
theorem impl_OrderOf.e0 {P : Prop} (h : P := by
 go_wp2_with (first | ((with_reducible refine gate_dst (N := 10) rfl ?_); refine box_event ?hg (N := 10) ?hd (cs := #[.int .i64 0, .int .i64 0]) (t := 98) ?hr ?_; (case hd => rfl); (case hg => rfl); (case hr => first | (go_simp; done) | (go_simp; rfl)); intro gb381 hg w_0 hbox hb; replace HO_4 := rb_ HO_4 hb; replace HO_6 := rb_ HO_6 hb; have BK381 := Aside0.mk (hbox); have GW381 := gw_ hg HB; have GE381 := gw_ hg HB; replace HB := hs_ HB hb; clear hb hbox hg; obtain ⟨hcz_0, hcz_1, hfz_0, hfz_1⟩ := cz2_ BK381.out; have p382 : 0 ≤ (((rd_T98 l0 x37_3).f0) : Int) := of_decide_eq_true dg_; have q382 : ((rd_T98 l0 x37_3).f0) < (x4_1.length : Int) := of_decide_eq_true dg_; obtain ⟨ad382, e382, hx382_0⟩ := Kd.at_int (Kd.R_reads' HO_4.out).2.2 ((rd_T98 l0 x37_3).f0) p382 q382; cases e382; have hn382_0 : ad382.block ≠ gb381 := Kd.own_blk (Kd.R_ne HO_4.out BK381.out (by decide)); have hn382_1 : ad382.block ≠ gb381 := Kd.own_blk (Kd.R_ne HO_4.out BK381.out (by decide)); replace hx382_0 := (cell_far (p := ⟨gb381, 0, none⟩) (by first | (rw [add_block]; exact hn382_0) | (show (Addr.add _ _).block ≠ _; rw [add_block]; exact hn382_0) | exact hn382_0) (.int .i64 ((rd_T98 l0 x37_3).f0))).trans hx382_0; replace hx382_0 := (cell_far (p := ⟨gb381, 1, none⟩) (by first | (rw [add_block]; exact hn382_1) | (show (Addr.add _ _).block ≠ _; rw [add_block]; exact hn382_1) | exact hn382_1) (.int .i64 ((rd_T98 l0 x37_3).f1))).trans hx382_0; clear hn382_0; clear hn382_1; replace p382 := eq_true p382; replace q382 := eq_true q382; have p383 : 0 ≤ (((rd_T98 l0 x37_3).f1) : Int) := of_decide_eq_true dg_; have q383 : ((rd_T98 l0 x37_3).f1) < (x4_1.length : Int) := of_decide_eq_true dg_; obtain ⟨ad383, e383, hx383_0⟩ := Kd.at_int (Kd.R_reads' HO_4.out).2.2 ((rd_T98 l0 x37_3).f1) p383 q383; obtain rfl : ad382 = ad383 := (by injection e383); have hn383_0 : ad382.block ≠ gb381 := Kd.own_blk (Kd.R_ne HO_4.out BK381.out (by decide)); have hn383_1 : ad382.block ≠ gb381 := Kd.own_blk (Kd.R_ne HO_4.out BK381.out (by decide)); replace hx383_0 := (cell_far (p := ⟨gb381, 0, none⟩) (by first | (rw [add_block]; exact hn383_0) | (show (Addr.add _ _).block ≠ _; rw [add_block]; exact hn383_0) | exact hn383_0) (.int .i64 ((rd_T98 l0 x37_3).f0))).trans hx383_0; replace hx383_0 := (cell_far (p := ⟨gb381, 1, none⟩) (by first | (rw [add_block]; exact hn383_1) | (show (Addr.add _ _).block ≠ _; rw [add_block]; exact hn383_1) | exact hn383_1) (.int .i64 ((rd_T98 l0 x37_3).f1))).trans hx383_0; clear hn383_0; clear hn383_1; replace p383 := eq_true p383; replace q383 := eq_true q383) | ((with_reducible refine gate_dst (N := 10) rfl ?_); refine box_event ?hg (N := 10) ?hd (cs := #[.int .i64 0, .int .i64 0]) (t := 98) ?hr ?_; (case hd => rfl); (case hg => rfl); (case hr => first | (go_simp; done) | (go_simp; rfl)); intro gb381 hg w_0 hbox hb; replace HO_4 := rb_ HO_4 hb; replace HO_6 := rb_ HO_6 hb; have BK381 := Aside0.mk (hbox); have GW381 := gw_ hg HB; have GE381 := gw_ hg HB; replace HB := hs_ HB hb; clear hb hbox hg; obtain ⟨hcz_0, hcz_1, hfz_0, hfz_1⟩ := cz2_ BK381.out; have p382 : 0 ≤ (((rd_T98 l0 x37_3).f0) : Int) := of_decide_eq_true dg_; have q382 : ((rd_T98 l0 x37_3).f0) < (x4_1.length : Int) := of_decide_eq_true dg_; obtain ⟨ad382, e382, hx382_0⟩ := Kd.at_int (Kd.R_reads' HO_4.out).2.2 ((rd_T98 l0 x37_3).f0) p382 q382; cases e382; have hn382_0 : ad382.block ≠ gb381 := Kd.own_blk (Kd.R_ne HO_4.out BK381.out (by decide)); have hn382_1 : ad382.block ≠ gb381 := Kd.own_blk (Kd.R_ne HO_4.out BK381.out (by decide)); replace hx382_0 := (cell_far (p := ⟨gb381, 0, none⟩) (by first | (rw [add_block]; exact hn382_0) | (show (Addr.add _ _).block ≠ _; rw [add_block]; exact hn382_0) | exact hn382_0) (.int .i64 ((rd_T98 l0 x37_3).f0))).trans hx382_0; replace hx382_0 := (cell_far (p := ⟨gb381, 1, none⟩) (by first | (rw [add_block]; exact hn382_1) | (show (Addr.add _ _).block ≠ _; rw [add_block]; exact hn382_1) | exact hn382_1) (.int .i64 ((rd_T98 l0 x37_3).f1))).trans hx382_0; clear hn382_0; clear hn382_1; replace p382 := eq_true p382; replace q382 := eq_true q382))
 go_roundg k3
 case measure => have := HK1.out; have := HK2.out; have := HK3.out; omega
 case rel => exact ⟨(x6_3), (wrap64 (x37_3 + 1)), ef_, H', ⟨by have := HK1.out; have := HK2.out; have := HK3.out; omega⟩, ⟨rm_ (Kd.R_types HO_4.out BK381.out (by decide)) (fun _ hk => hk.1)⟩, ⟨rm_ (Kd.R_types HO_6.out BK381.out (by decide)) (fun _ hk => hk.1)⟩, ⟨bb_ HB.out⟩⟩) : P := h
theorem impl_OrderOf.calls (k : Nat) (A0 : Option Addr) (c0 : Nat) (l0 : List (S98)) (r1 : List Int) (r2 : Bool) (w : World) (hr0 : Kd.C k98 w A0 l0.length l0) (hc0 : l0.length ≤ c0) (h : impl_OrderOf.f k l0 = some (r1, r2)) :
  Calls Tryz.prog 64 #[.slice A0 l0.length c0] w fun e w' => ∃ v0_ : Value, e = .returned (.tuple #[v0_, .bool r2]) ∧ Kd.R (Kd.int .i64) 3 w' w.heap.size (fun _ => True) v0_ r1 ∧ Below w.heap.size w w' := by
 have hu98 := Tryz.underlying98
 have HR0 := Aside0.mk hr0
 have HC0 := Aside0.mk hc0
 clear hr0 hc0
 have HB := Aside0.mk (Below.refl w.heap.size w)
 have H : ((impl_DependsOk.f k l0).bind fun t368 => (if t368 = true then ((slices_Repeat_int_int.f (([(-1)] : List Int)) 128).bind fun t372 => (impl_OrderOf.l0 k l0 t372 0)) else (some (([] : List Int), false)))) = some (r1, r2) := h
 clear h
 obtain ⟨t368, A2, H⟩ := bi_ H
 by_cases c3 : t368 = true
 ·subst c3
  rw [if_pos rfl] at H
  obtain ⟨y369, hy369⟩ : ∃ y_ : List Int, y_ = (([(-1)] : List Int)) := ⟨_, rfl⟩
  replace H : ((slices_Repeat_int_int.f y369 128).bind fun t372 => (impl_OrderOf.l0 k l0 t372 0)) = some (r1, r2) := by first | (rw [hy369]; with_reducible exact H) | (have H2_ := (Option.bind_some _ _).symm.trans H; rw [hy369]; with_reducible exact H2_) | (have H2_ := (Option.bind_some _ _).symm.trans H; with_reducible exact H2_) | with_reducible exact H | (rw [hy369]; exact H) | exact H
  have Ny369 := Aside0.mk hy369
  clear hy369
  obtain ⟨t372, A4, H⟩ := bi_ H
  have H' := Aside0.mk H
  clear H
  go_enter Tryz.func64, Tryz.ntmps64
  go_wp2_with (first | ((with_reducible refine gate_callee (f := 74) rfl ?_); refine gm_ (some 13) Tryz.func74 #[.slice A0 l0.length c0] rfl ?_; (with_reducible refine (impl_DependsOk.calls k _ _ l0 true _ ?side1 HC0.out A2.out).mono ?_); (case side1 => repeat (first | exact HR0.out | (with_reducible refine Kd.C_alloc ?_ _) | (with_reducible refine Kd.C_drewN ?_ _) | (with_reducible refine Kd.C_drew ?_))); rintro e w5 ⟨rfl, hb⟩; refine ⟨_, rfl, ?_⟩; replace HB := hs_ HB hb; (try clear hb)) | ((with_reducible refine gate_dst (N := 15) rfl ?_); refine Kd.R_lit (Kd.int .i64) _ 3 ?hg (N := 15) ?hd (xs := ([(-1)] : List Int)) (inner := [.int .i64 (-1)]) (ok := fun _ => True) (okp := fun _ => True) ?hr ?hp (fun _ hk => hk) trivial (Below.refl _ _) (Nat.le_refl _) (by simp) ?_; (case hd => rfl); (case hg => rfl); (case hr => first | (go_simp; done) | (go_simp; rfl)); (case hp => exact (Reps.one (show Kd.M (Kd.int .i64) _ _ _ (-1) [.int .i64 (-1)] from rfl) (Reps.none _ _))); intro v370 w6 ho7 hb hg_ hnew_; clear hg_ hnew_; (first | rw [← Ny369.out] at ho7 | (simp only [Int.reduceToNat] at ho7; rw [← Ny369.out] at ho7)); have HO371 := Aside0.mk (Kd.R_lower ho7 (bz_ HB.out)); replace HB := hs_ HB hb; clear hb ho7; obtain ⟨Ao8, co8, eo8⟩ := Kd.R_slice HO371.out; subst eo8) | ((with_reducible refine gate_callee (f := 93) rfl ?_); refine gm_ (some 16) Tryz.func93 #[.slice Ao8 y369.length co8, .int .i64 128] rfl ?_; (with_reducible refine (slices_Repeat_int_int.calls _ _ y369 128 t372 _ ?side1 ?side2 A4.out).mono ?_); (case side1 => exact rr_ HO371); (case side2 => exact (Kd.R_reads' HO371.out).2.1); rintro e w9 ⟨v373, rfl, ho0, hb⟩; refine ⟨_, rfl, ?_⟩; have HO374 := Aside0.mk (Kd.R_lower (Kd.R_new' ho0 (rl_ HO371.out)) (bz_ HB.out)); replace HO371 := re_ HO371 ho0 hb; replace HB := hs_ HB hb; (try clear hb); (try clear ho0)))
  go_loopg [17] k (fun kq v17 w' => ∃ (x4_1 : List Int) (x17_1 : Int), v17 = .int .i64 x17_1 ∧ Aside0 (impl_OrderOf.l0 kq l0 x4_1 x17_1 = some (r1, r2)) ∧ Aside0 (kq ≤ k) ∧ Aside0 (Kd.R (Kd.int .i64) 3 w' w.heap.size (fun _ => True) v373 x4_1) ∧ Aside0 (Below w.heap.size w w'))
  case atStart => exact ⟨(t372), (0), ef_, H', ⟨Nat.le_refl _⟩, ⟨by (with_reducible repeat (first | apply Kd.R_alloc | apply Kd.R_drewN | apply Kd.R_drew)); exact Kd.R_mono HO374.out (fun _ hk => trivial)⟩, ⟨bb_ HB.out⟩⟩
  clear H'
  try clear c3
  obtain ⟨x4_1, x17_1, rfl, HA, HK1, HO_4, HB⟩ := hrel
  obtain _ | k1 := gk
  ·exact absurd HA.out (by simp [impl_OrderOf.l0])
  have H := HA.out
  clear HA
  simp only [impl_OrderOf.l0] at H
  by_cases c10 : x17_1 < 128
  rotate_left
  ·rw [if_neg c10] at H
   have c10b0 : decide (x17_1 < 128) = false := decide_eq_false c10
   clear c10
   simp only [Option.some.injEq, Prod.mk.injEq] at H
   obtain ⟨rfl, rfl⟩ := H
   go_wp2
   go_ret2
   exact ⟨_, fin_, ra_ HO_4.out, bb_ HB.out⟩
  rw [if_pos c10] at H
  have c10b0 : decide (x17_1 < 128) = true := decide_eq_true c10
  clear c10
  obtain ⟨t375, A11, H⟩ := bi_ H
  have H' := Aside0.mk H
  clear H
  obtain ⟨Ao12, co12, eo12⟩ := Kd.R_slice HO_4.out
  subst eo12
  go_wp2_with (first | ((with_reducible refine gate_callee (f := 94) rfl ?_); refine gm_ (some 21) Tryz.func94 #[.slice Ao12 x4_1.length co12] rfl ?_; (with_reducible refine (slices_Clone_int_int.calls _ _ x4_1 t375 _ ?side1 ?side2 A11.out).mono ?_); (case side1 => exact rr_ HO_4); (case side2 => exact (Kd.R_reads' HO_4.out).2.1); rintro e w13 ⟨v376, rfl, ho0, hb⟩; refine ⟨_, rfl, ?_⟩; have HO377 := Aside0.mk (Kd.R_lower (Kd.R_new' ho0 (rl_ HO_4.out)) (bz_ HB.out)); replace HO_4 := re_ HO_4 ho0 hb; replace HB := hs_ HB hb; (try clear hb); (try clear ho0)))
  go_loopg [24] k1 (fun kq v24 w' => ∃ (x6_2 : List Int) (x24_2 : Int), v24 = .int .i64 x24_2 ∧ Aside0 (impl_OrderOf.l1 kq l0 x4_1 x17_1 x6_2 x17_1 x4_1 (x4_1.length : Int) x24_2 = some (r1, r2)) ∧ Aside0 (kq ≤ k1) ∧ Aside0 (Kd.R (Kd.int .i64) 3 w' w.heap.size (fun k_ => some k_ ≠ (v376 : Value).ownBlock) (.slice Ao12 x4_1.length co12) x4_1) ∧ Aside0 (Kd.R (Kd.int .i64) 3 w' w.heap.size (fun k_ => some k_ ≠ ((.slice Ao12 x4_1.length co12) : Value).ownBlock ∧ some k_ ≠ ((.slice Ao12 x4_1.length co12) : Value).ownBlock) v376 x6_2) ∧ Aside0 (Kd.R (Kd.int .i64) 3 w' w.heap.size (fun k_ => some k_ ≠ (v376 : Value).ownBlock) (.slice Ao12 x4_1.length co12) x4_1) ∧ Aside0 (Below w.heap.size w w'))
  case atStart => exact ⟨(t375), (0), ef_, H', ⟨Nat.le_refl _⟩, ⟨by (with_reducible repeat (first | apply Kd.R_alloc | apply Kd.R_drewN | apply Kd.R_drew)); exact Kd.R_mono HO_4.out (fun _ hk => hk.2)⟩, ⟨by (with_reducible repeat (first | apply Kd.R_alloc | apply Kd.R_drewN | apply Kd.R_drew)); exact Kd.R_mono HO377.out (fun _ hk => ⟨hk.2, hk.2⟩)⟩, ⟨by (with_reducible repeat (first | apply Kd.R_alloc | apply Kd.R_drewN | apply Kd.R_drew)); exact Kd.R_mono HO_4.out (fun _ hk => hk.2)⟩, ⟨bb_ HB.out⟩⟩
  clear H'
  try clear c3
  try clear c10
  try clear c10b0
  obtain ⟨x6_2, x24_2, rfl, HA, HK2, HO_4, HO_6, HO_22, HB⟩ := hrel
  obtain _ | k2 := gk
  ·exact absurd HA.out (by simp [impl_OrderOf.l1])
  have H := HA.out
  clear HA
  simp only [impl_OrderOf.l1] at H
  by_cases c14 : x24_2 < (x4_1.length : Int)
  ·rw [if_pos c14] at H
   have c14b0 : decide (x24_2 < (x4_1.length : Int)) = true := decide_eq_true c14
   clear c14
   by_cases c15 : 0 ≤ x24_2
   rotate_left
   ·rw [if_neg c15] at H
    exact absurd H (by simp)
   rw [if_pos c15] at H
   have c15b0 : decide (0 ≤ x24_2) = true := decide_eq_true c15
   clear c15
   by_cases c16 : x24_2 < (x4_1.length : Int)
   rotate_left
   ·rw [if_neg c16] at H
    exact absurd H (by simp)
   rw [if_pos c16] at H
   have c16b0 : decide (x24_2 < (x4_1.length : Int)) = true := decide_eq_true c16
   clear c16
   by_cases c17 : (rd x4_1 x24_2) < 0
   rotate_left
   ·rw [if_neg c17] at H
    have c17b0 : decide ((rd x4_1 x24_2) < 0) = false := decide_eq_false c17
    clear c17
    have H' := Aside0.mk H
    clear H
    have p378 : 0 ≤ (x24_2 : Int) := of_decide_eq_true dg_
    have q378 : x24_2 < (x4_1.length : Int) := of_decide_eq_true dg_
    obtain ⟨ad378, e378, hx378_0⟩ := Kd.at_int (Kd.R_reads' HO_22.out).2.2 x24_2 p378 q378
    cases e378
    replace p378 := eq_true p378
    replace q378 := eq_true q378
    go_wp2
    go_roundg k2
    case measure => have := HK1.out; have := HK2.out; omega
    case rel => exact ⟨(x6_2), (wrap64 (x24_2 + 1)), ef_, H', ⟨by have := HK1.out; have := HK2.out; omega⟩, ⟨ra_ HO_4.out⟩, ⟨ra_ HO_6.out⟩, ⟨ra_ HO_22.out⟩, ⟨bb_ HB.out⟩⟩
   rw [if_pos c17] at H
   have c17b0 : decide ((rd x4_1 x24_2) < 0) = true := decide_eq_true c17
   clear c17
   by_cases c18 : x24_2 < (x6_2.length : Int)
   rotate_left
   ·rw [if_neg c18] at H
    exact absurd H (by simp)
   rw [if_pos c18] at H
   have c18b0 : decide (x24_2 < (x6_2.length : Int)) = true := decide_eq_true c18
   clear c18
   obtain ⟨y379, hy379⟩ : ∃ y_ : List Int, y_ = (x6_2.set (x24_2 : Int).toNat (-2)) := ⟨_, rfl⟩
   replace H : (impl_OrderOf.l1 k2 l0 x4_1 x17_1 y379 x17_1 x4_1 (x4_1.length : Int) (wrap64 (x24_2 + 1))) = some (r1, r2) := by first | (rw [hy379]; with_reducible exact H) | (have H2_ := (Option.bind_some _ _).symm.trans H; rw [hy379]; with_reducible exact H2_) | (have H2_ := (Option.bind_some _ _).symm.trans H; with_reducible exact H2_) | with_reducible exact H | (rw [hy379]; exact H) | exact H
   have Ny379 := Aside0.mk hy379
   clear hy379
   have H' := Aside0.mk H
   clear H
   have p378 : 0 ≤ (x24_2 : Int) := of_decide_eq_true dg_
   have q378 : x24_2 < (x4_1.length : Int) := of_decide_eq_true dg_
   obtain ⟨ad378, e378, hx378_0⟩ := Kd.at_int (Kd.R_reads' HO_22.out).2.2 x24_2 p378 q378
   cases e378
   replace p378 := eq_true p378
   replace q378 := eq_true q378
   have p19 : 0 ≤ (x24_2 : Int) := of_decide_eq_true dg_
   have q19 : (x24_2 : Int) < ((x6_2.length : Int) : Int) := of_decide_eq_true dg_
   obtain ⟨go19, co19, eo19, gb19, gl19, cl19, HG19⟩ := Kd.R_form HO_6.out (by omega)
   (first | cases eo19 | (injection eo19 with ea_ en_ ec_; (first | subst ea_ | (injection ea_ with ea_; subst ea_)); subst ec_; clear en_))
   have GB19 := Aside0.mk gb19
   have GG19 := Aside0.mk HG19
   clear gb19 gl19 HG19
   obtain ⟨hx19_0, hf19_0⟩ := Kd.R_celln 0 HO_6.out (x24_2 : Int) p19 q19
   replace p19 := eq_true p19
   replace q19 := eq_true q19
   have HP20 := Kd.R_putg HO_6.out (x24_2 : Int) (-2)
   go_wp2_with (first | ((with_reducible refine gate_store (t := 3) (p := 33) rfl ?_); refine store_event (t := 3) (p := 33) (v := ?vo_w21) (w1 := (wr.setCell ⟨go19, (x24_2 : Int).toNat, none⟩ (.int .i64 (-2)))) ?hg ?ho ?hn ?hr ?_; (case ho => rfl); (case hg => rfl); (case hn => rfl); (case hr => first | (go_simp; done) | (go_simp; rfl)); intro w21 hw; have hg : wr.grownBy w21 (some go19) := (by rw [hw]; exact HP20.2); have hp_ : Kd.R (Kd.int .i64) 3 w21 w.heap.size (fun k_ => some k_ ≠ (.slice (some ad378) x4_1.length co12 : Value).ownBlock ∧ some k_ ≠ (.slice (some ad378) x4_1.length co12 : Value).ownBlock) (.slice (some ⟨go19, 0, none⟩) x6_2.length co19) y379 := (by rw [hw, Ny379.out]; exact HP20.1); clear HP20; replace HO_4 := Aside0.mk (Kd.R_after (v := (.slice (some ⟨go19, 0, none⟩) x6_2.length co19)) (v1 := (.slice (some ⟨go19, 0, none⟩) x6_2.length co19)) (ok := (fun _ => True)) (by (with_reducible repeat (first | apply Kd.R_alloc | apply Kd.R_drewN | apply Kd.R_drew)); exact Kd.R_mono HO_4.out (fun _ hk => ⟨trivial, hk⟩)) hg (.inl rfl)); replace HO_6 := Aside0.mk (hp_); replace HO_22 := Aside0.mk (Kd.R_after (v := (.slice (some ⟨go19, 0, none⟩) x6_2.length co19)) (v1 := (.slice (some ⟨go19, 0, none⟩) x6_2.length co19)) (ok := (fun _ => True)) (by (with_reducible repeat (first | apply Kd.R_alloc | apply Kd.R_drewN | apply Kd.R_drew)); exact Kd.R_mono HO_22.out (fun _ hk => ⟨trivial, hk⟩)) hg (.inl rfl)); replace HB := Aside0.mk ((by rw [hw]; exact below_set (HB.out) GB19.out : Below w.heap.size w w21)); clear hg hw hp_))
   go_roundg k2
   case measure => have := HK1.out; have := HK2.out; omega
   case rel => exact ⟨(y379), (wrap64 (x24_2 + 1)), ef_, H', ⟨by have := HK1.out; have := HK2.out; omega⟩, ⟨by (with_reducible repeat (first | apply Kd.R_alloc | apply Kd.R_drewN | apply Kd.R_drew)); exact Kd.R_mono HO_4.out (fun _ hk => hk.2)⟩, ⟨ra_ HO_6.out⟩, ⟨by (with_reducible repeat (first | apply Kd.R_alloc | apply Kd.R_drewN | apply Kd.R_drew)); exact Kd.R_mono HO_22.out (fun _ hk => hk.2)⟩, ⟨bb_ HB.out⟩⟩
  rw [if_neg c14] at H
  have c14b0 : decide (x24_2 < (x4_1.length : Int)) = false := decide_eq_false c14
  clear c14
  have H' := Aside0.mk H
  clear H
  go_wp2
  go_loopg [37] k2 (fun kq v37 w' => ∃ (x6_3 : List Int) (x37_3 : Int), v37 = .int .i64 x37_3 ∧ Aside0 (impl_OrderOf.l2 kq l0 x4_1 x17_1 x6_3 x17_1 l0 (l0.length : Int) x37_3 = some (r1, r2)) ∧ Aside0 (kq ≤ k2) ∧ Aside0 (Kd.R (Kd.int .i64) 3 w' w.heap.size (fun k_ => some k_ ≠ (v376 : Value).ownBlock) (.slice Ao12 x4_1.length co12) x4_1) ∧ Aside0 (Kd.R (Kd.int .i64) 3 w' w.heap.size (fun k_ => some k_ ≠ ((.slice Ao12 x4_1.length co12) : Value).ownBlock) v376 x6_3) ∧ Aside0 (Below w.heap.size w w'))
  case atStart => exact ⟨(x6_2), (0), ef_, H', ⟨Nat.le_refl _⟩, ⟨ra_ HO_4.out⟩, ⟨by (with_reducible repeat (first | apply Kd.R_alloc | apply Kd.R_drewN | apply Kd.R_drew)); exact Kd.R_mono HO_6.out (fun _ hk => hk.1)⟩, ⟨bb_ HB.out⟩⟩
  clear H'
  try clear c3
  try clear c10
  try clear c10b0
  try clear c14
  try clear c14b0
  obtain ⟨x6_3, x37_3, rfl, HA, HK3, HO_4, HO_6, HB⟩ := hrel
  obtain _ | k3 := gk
  ·exact absurd HA.out (by simp [impl_OrderOf.l2])
  have H := HA.out
  clear HA
  simp only [impl_OrderOf.l2] at H
  by_cases c22 : x37_3 < (l0.length : Int)
  rotate_left
  ·rw [if_neg c22] at H
   have c22b0 : decide (x37_3 < (l0.length : Int)) = false := decide_eq_false c22
   clear c22
   obtain ⟨t385, A43, H⟩ := bi_ H
   by_cases c44 : t385 < 0
   ·rw [if_pos c44] at H
    have c44b0 : decide (t385 < 0) = true := decide_eq_true c44
    clear c44
    simp only [Option.some.injEq, Prod.mk.injEq] at H
    obtain ⟨rfl, rfl⟩ := H
    obtain ⟨Ao45, co45, eo45⟩ := Kd.R_slice HO_6.out
    subst eo45
    go_wp2_with (first | ((with_reducible refine gate_callee (f := 95) rfl ?_); refine gm_ (some 62) Tryz.func95 #[.slice A0 l0.length c0, .slice Ao45 x6_3.length co45] rfl ?_; (with_reducible refine (impl_nextRanked.calls k3 _ _ l0 _ _ x6_3 t385 _ ?side1 HC0.out ?side3 ?side4 A43.out).mono ?_); (case side1 => exact cb_ HR0.out HB.out); (case side3 => exact rr_ HO_6); (case side4 => exact (Kd.R_reads' HO_6.out).2.1); rintro e w' ⟨rfl, ⟨nd, rfl⟩⟩; refine ⟨_, rfl, ?_⟩))
    go_ret2
    exact ⟨_, fin_, by first | exact Kd.R_nil _ _ _ _ _ | exact Kd.N_nil _ _ _ _ _ | exact Kd.V_nil _ _ _ _ _ | exact Kd.Q_nil _ _ _ _ _ | exact Kd.S_nil _ _ _ _ _, bb_ HB.out⟩
   rw [if_neg c44] at H
   have c44b0 : decide (t385 < 0) = false := decide_eq_false c44
   clear c44
   by_cases c46 : 0 ≤ t385
   rotate_left
   ·rw [if_neg c46] at H
    exact absurd H (by simp)
   rw [if_pos c46] at H
   have c46b0 : decide (0 ≤ t385) = true := decide_eq_true c46
   clear c46
   by_cases c47 : t385 < (x4_1.length : Int)
   rotate_left
   ·rw [if_neg c47] at H
    exact absurd H (by simp)
   rw [if_pos c47] at H
   have c47b0 : decide (t385 < (x4_1.length : Int)) = true := decide_eq_true c47
   clear c47
   obtain ⟨y386, hy386⟩ : ∃ y_ : List Int, y_ = (x4_1.set (t385 : Int).toNat x17_1) := ⟨_, rfl⟩
   replace H : (impl_OrderOf.l0 k3 l0 y386 (wrap64 (x17_1 + 1))) = some (r1, r2) := by first | (rw [hy386]; with_reducible exact H) | (have H2_ := (Option.bind_some _ _).symm.trans H; rw [hy386]; with_reducible exact H2_) | (have H2_ := (Option.bind_some _ _).symm.trans H; with_reducible exact H2_) | with_reducible exact H | (rw [hy386]; exact H) | exact H
   have Ny386 := Aside0.mk hy386
   clear hy386
   have H' := Aside0.mk H
   clear H
   obtain ⟨Ao49, co49, eo49⟩ := Kd.R_slice HO_6.out
   subst eo49
   go_wp2_with (first | ((with_reducible refine gate_callee (f := 95) rfl ?_); refine gm_ (some 62) Tryz.func95 #[.slice A0 l0.length c0, .slice Ao49 x6_3.length co49] rfl ?_; (with_reducible refine (impl_nextRanked.calls k3 _ _ l0 _ _ x6_3 t385 _ ?side1 HC0.out ?side3 ?side4 A43.out).mono ?_); (case side1 => exact cb_ HR0.out HB.out); (case side3 => exact rr_ HO_6); (case side4 => exact (Kd.R_reads' HO_6.out).2.1); rintro e w' ⟨rfl, ⟨nd, rfl⟩⟩; refine ⟨_, rfl, ?_⟩; (try (rw [drewN_self wr]; generalize hq_ : World.drewN wr _ = wr; have n0_ : Aside0 (Kd.R (Kd.int .i64) 3 wr w.heap.size (fun k_ => some k_ ≠ (.slice Ao49 x6_3.length co49 : Value).ownBlock) (.slice Ao12 x4_1.length co12) x4_1) := ⟨by rw [← hq_]; exact (ra_ HO_4.out)⟩; have n1_ : Aside0 (Kd.R (Kd.int .i64) 3 wr w.heap.size (fun k_ => some k_ ≠ (.slice Ao12 x4_1.length co12 : Value).ownBlock) (.slice Ao49 x6_3.length co49) x6_3) := ⟨by rw [← hq_]; exact (ra_ HO_6.out)⟩; have n2_ : Aside0 (Below w.heap.size w wr) := ⟨by rw [← hq_]; exact (by repeat (first | (with_reducible first | exact HB.out | apply below_alloc | apply pw_below_drewN | apply below_drew1) | exact HB.out))⟩; clear HO_4 HO_6 HB hq_; have HO_4 := n0_; have HO_6 := n1_; have HB := n2_; clear n0_ n1_ n2_)); have p48 : 0 ≤ (t385 : Int) := of_decide_eq_true dg_; have q48 : (t385 : Int) < ((x4_1.length : Int) : Int) := of_decide_eq_true dg_; obtain ⟨go48, co48, eo48, gb48, gl48, cl48, HG48⟩ := Kd.R_form HO_4.out (by omega); (first | cases eo48 | (injection eo48 with ea_ en_ ec_; (first | subst ea_ | (injection ea_ with ea_; subst ea_)); subst ec_; clear en_)); have GB48 := Aside0.mk gb48; have GG48 := Aside0.mk HG48; clear gb48 gl48 HG48; obtain ⟨hx48_0, hf48_0⟩ := Kd.R_celln 0 HO_4.out (t385 : Int) p48 q48; replace p48 := eq_true p48; replace q48 := eq_true q48; obtain ⟨hy50_, hz50_⟩ := Kd.R_celln 0 HO_4.out (t385 : Int) (of_decide_eq_true dg_) (of_decide_eq_true dg_); have HP50 := Kd.R_putg HO_4.out (t385 : Int) x17_1) | ((with_reducible refine gate_store (t := 3) (p := 68) rfl ?_); refine store_event (t := 3) (p := 68) (v := ?vo_w51) (w1 := (wr.setCell ⟨go48, (t385 : Int).toNat, none⟩ (.int .i64 x17_1))) ?hg ?ho ?hn ?hr ?_; (case ho => rfl); (case hg => rfl); (case hn => rfl); (case hr => first | (go_simp; done) | (go_simp; rfl)); intro w51 hw; have hg : wr.grownBy w51 (some go48) := (by rw [hw]; exact HP50.2); have hp_ : Kd.R (Kd.int .i64) 3 w51 w.heap.size (fun k_ => some k_ ≠ (.slice Ao49 x6_3.length co49 : Value).ownBlock) (.slice (some ⟨go48, 0, none⟩) x4_1.length co12) y386 := (by rw [hw, Ny386.out]; exact HP50.1); clear HP50; replace HO_4 := Aside0.mk (hp_); replace HO_6 := Aside0.mk (Kd.R_after (v := (.slice (some ⟨go48, 0, none⟩) x4_1.length co12)) (v1 := (.slice (some ⟨go48, 0, none⟩) x4_1.length co12)) (ok := (fun _ => True)) (by (with_reducible repeat (first | apply Kd.R_alloc | apply Kd.R_drewN | apply Kd.R_drew)); exact Kd.R_mono HO_6.out (fun _ hk => ⟨trivial, hk⟩)) hg (.inl rfl)); replace HB := Aside0.mk ((by rw [hw]; exact below_set (HB.out) GB48.out : Below w.heap.size w w51)); clear hg hw hp_))
   go_roundg k3
   case measure => have := HK1.out; have := HK2.out; have := HK3.out; omega
   case rel => exact ⟨(y386), (wrap64 (x17_1 + 1)), ef_, H', ⟨by have := HK1.out; have := HK2.out; have := HK3.out; omega⟩, ⟨by (with_reducible repeat (first | apply Kd.R_alloc | apply Kd.R_drewN | apply Kd.R_drew)); exact Kd.R_mono HO_4.out (fun _ hk => trivial)⟩, ⟨bb_ HB.out⟩⟩
  rw [if_pos c22] at H
  have c22b0 : decide (x37_3 < (l0.length : Int)) = true := decide_eq_true c22
  clear c22
  by_cases c23 : 0 ≤ x37_3
  rotate_left
  ·rw [if_neg c23] at H
   exact absurd H (by simp)
  rw [if_pos c23] at H
  have c23b0 : decide (0 ≤ x37_3) = true := decide_eq_true c23
  clear c23
  by_cases c24 : x37_3 < (l0.length : Int)
  rotate_left
  ·rw [if_neg c24] at H
   exact absurd H (by simp)
  rw [if_pos c24] at H
  have c24b0 : decide (x37_3 < (l0.length : Int)) = true := decide_eq_true c24
  clear c24
  by_cases c25 : 0 ≤ ((rd_T98 l0 x37_3).f0)
  rotate_left
  ·rw [if_neg c25] at H
   exact absurd H (by simp)
  rw [if_pos c25] at H
  have c25b0 : decide (0 ≤ ((rd_T98 l0 x37_3).f0)) = true := decide_eq_true c25
  clear c25
  by_cases c26 : ((rd_T98 l0 x37_3).f0) < (x4_1.length : Int)
  rotate_left
  ·rw [if_neg c26] at H
   exact absurd H (by simp)
  rw [if_pos c26] at H
  have c26b0 : decide (((rd_T98 l0 x37_3).f0) < (x4_1.length : Int)) = true := decide_eq_true c26
  clear c26
  by_cases c27 : (rd x4_1 ((rd_T98 l0 x37_3).f0)) < 0
  rotate_left
  ·rw [if_neg c27] at H
   have c27b0 : decide ((rd x4_1 ((rd_T98 l0 x37_3).f0)) < 0) = false := decide_eq_false c27
   clear c27
   have H' := Aside0.mk H
   clear H
   have p380 : 0 ≤ (x37_3 : Int) := of_decide_eq_true dg_
   have q380 : x37_3 < (l0.length : Int) := of_decide_eq_true dg_
   obtain ⟨ad380, e380, hx380_0, hx380_1⟩ := at_T98 HR0.out x37_3 p380 q380
   cases e380
   replace hx380_0 := hc_ HB hx380_0
   replace hx380_1 := hc_ HB hx380_1
   replace p380 := eq_true p380
   replace q380 := eq_true q380
   exact impl_OrderOf.e0
  rw [if_pos c27] at H
  have c27b0 : decide ((rd x4_1 ((rd_T98 l0 x37_3).f0)) < 0) = true := decide_eq_true c27
  clear c27
  by_cases c28 : 0 ≤ ((rd_T98 l0 x37_3).f1)
  rotate_left
  ·rw [if_neg c28] at H
   exact absurd H (by simp)
  rw [if_pos c28] at H
  have c28b0 : decide (0 ≤ ((rd_T98 l0 x37_3).f1)) = true := decide_eq_true c28
  clear c28
  by_cases c29 : ((rd_T98 l0 x37_3).f1) < (x4_1.length : Int)
  rotate_left
  ·rw [if_neg c29] at H
   exact absurd H (by simp)
  rw [if_pos c29] at H
  have c29b0 : decide (((rd_T98 l0 x37_3).f1) < (x4_1.length : Int)) = true := decide_eq_true c29
  clear c29
  by_cases c30 : (rd x4_1 ((rd_T98 l0 x37_3).f1)) < 0
  rotate_left
  ·rw [if_neg c30] at H
   have c30b0 : decide ((rd x4_1 ((rd_T98 l0 x37_3).f1)) < 0) = false := decide_eq_false c30
   clear c30
   have H' := Aside0.mk H
   clear H
   have p380 : 0 ≤ (x37_3 : Int) := of_decide_eq_true dg_
   have q380 : x37_3 < (l0.length : Int) := of_decide_eq_true dg_
   obtain ⟨ad380, e380, hx380_0, hx380_1⟩ := at_T98 HR0.out x37_3 p380 q380
   cases e380
   replace hx380_0 := hc_ HB hx380_0
   replace hx380_1 := hc_ HB hx380_1
   replace p380 := eq_true p380
   replace q380 := eq_true q380
   exact impl_OrderOf.e0
  rw [if_pos c30] at H
  have c30b0 : decide ((rd x4_1 ((rd_T98 l0 x37_3).f1)) < 0) = true := decide_eq_true c30
  clear c30
  by_cases c31 : ((rd_T98 l0 x37_3).f1) < (x6_3.length : Int)
  rotate_left
  ·rw [if_neg c31] at H
   exact absurd H (by simp)
  rw [if_pos c31] at H
  have c31b0 : decide (((rd_T98 l0 x37_3).f1) < (x6_3.length : Int)) = true := decide_eq_true c31
  clear c31
  obtain ⟨y384, hy384⟩ : ∃ y_ : List Int, y_ = (x6_3.set (((rd_T98 l0 x37_3).f1) : Int).toNat (-1)) := ⟨_, rfl⟩
  replace H : (impl_OrderOf.l2 k3 l0 x4_1 x17_1 y384 x17_1 l0 (l0.length : Int) (wrap64 (x37_3 + 1))) = some (r1, r2) := by first | (rw [hy384]; with_reducible exact H) | (have H2_ := (Option.bind_some _ _).symm.trans H; rw [hy384]; with_reducible exact H2_) | (have H2_ := (Option.bind_some _ _).symm.trans H; with_reducible exact H2_) | with_reducible exact H | (rw [hy384]; exact H) | exact H
  have Ny384 := Aside0.mk hy384
  clear hy384
  have H' := Aside0.mk H
  clear H
  have p380 : 0 ≤ (x37_3 : Int) := of_decide_eq_true dg_
  have q380 : x37_3 < (l0.length : Int) := of_decide_eq_true dg_
  obtain ⟨ad380, e380, hx380_0, hx380_1⟩ := at_T98 HR0.out x37_3 p380 q380
  cases e380
  replace hx380_0 := hc_ HB hx380_0
  replace hx380_1 := hc_ HB hx380_1
  replace p380 := eq_true p380
  replace q380 := eq_true q380
  go_wp2_with (first | ((with_reducible refine gate_dst (N := 10) rfl ?_); refine box_event ?hg (N := 10) ?hd (cs := #[.int .i64 0, .int .i64 0]) (t := 98) ?hr ?_; (case hd => rfl); (case hg => rfl); (case hr => first | (go_simp; done) | (go_simp; rfl)); intro gb381 hg w33 hbox hb; replace HO_4 := rb_ HO_4 hb; replace HO_6 := rb_ HO_6 hb; have BK381 := Aside0.mk (hbox); have GW381 := gw_ hg HB; have GE381 := gw_ hg HB; replace HB := hs_ HB hb; clear hb hbox hg; obtain ⟨hcz34_0, hcz34_1, hfz34_0, hfz34_1⟩ := cz2_ BK381.out) | ((with_reducible refine gate_store (t := 98) (p := 10) rfl ?_); refine store_event (t := 98) (p := 10) (v := ?vo_w35) (w1 := ((w33.setCell ⟨gb381, 0, none⟩ (.int .i64 ((rd_T98 l0 x37_3).f0))).setCell ⟨gb381, 1, none⟩ (.int .i64 ((rd_T98 l0 x37_3).f1)))) ?hg ?ho ?hn ?hr ?_; (case ho => rfl); (case hg => rfl); (case hn => rfl); (case hr => first | (go_simp; done) | (go_simp; rfl)); intro w35 hw; have n0_ : Aside0 (Kd.R (Kd.int .i64) 3 w35 w.heap.size (fun k_ => some k_ ≠ (v376 : Value).ownBlock) (.slice Ao12 x4_1.length co12) x4_1) := ⟨(by rw [hw]; exact (rm_ (Kd.R_types HO_4.out BK381.out (by decide)) (fun _ hk => hk.1)))⟩; have n1_ : Aside0 (Kd.R (Kd.int .i64) 3 w35 w.heap.size (fun k_ => some k_ ≠ (.slice Ao12 x4_1.length co12 : Value).ownBlock) v376 x6_3) := ⟨(by rw [hw]; exact (rm_ (Kd.R_types HO_6.out BK381.out (by decide)) (fun _ hk => hk.1)))⟩; have n2_ : Aside0 (w35.heap[gb381]? = some (.cells #[.int .i64 ((rd_T98 l0 x37_3).f0), .int .i64 ((rd_T98 l0 x37_3).f1)] 98 (0, 0))) := ⟨(by rw [hw]; exact (by (with_reducible repeat (first | refine blk_drewN ?_ _ | refine blk_drew ?_ | refine blk_alloc ?_ _)); refine blk_put (cs := #[.int .i64 ((rd_T98 l0 x37_3).f0), .int .i64 0]) ?_ 1 _ rfl; (with_reducible repeat (first | refine blk_drewN ?_ _ | refine blk_drew ?_ | refine blk_alloc ?_ _)); refine blk_put (cs := #[.int .i64 0, .int .i64 0]) ?_ 0 _ rfl; (with_reducible repeat (first | refine blk_drewN ?_ _ | refine blk_drew ?_ | refine blk_alloc ?_ _)); exact BK381.out))⟩; have n3_ : Aside0 (Below w.heap.size w w35) := ⟨(by rw [hw]; exact (by repeat (first | (with_reducible first | exact HB.out | apply below_alloc | apply pw_below_drewN | apply below_drew1 | refine below_set ?_ GE381.out) | exact HB.out)))⟩; clear hw; clear HO_4; clear HO_6; clear BK381; clear HB; have HO_4 := n0_; have HO_6 := n1_; have BK381 := n2_; have HB := n3_; clear n0_ n1_ n2_ n3_; obtain ⟨hcz36_0, hcz36_1, hfz36_0, hfz36_1⟩ := cz2_ BK381.out; have p382 : 0 ≤ (((rd_T98 l0 x37_3).f0) : Int) := of_decide_eq_true dg_; have q382 : ((rd_T98 l0 x37_3).f0) < (x4_1.length : Int) := of_decide_eq_true dg_; obtain ⟨ad382, e382, hx382_0⟩ := Kd.at_int (Kd.R_reads' HO_4.out).2.2 ((rd_T98 l0 x37_3).f0) p382 q382; cases e382; replace p382 := eq_true p382; replace q382 := eq_true q382; have p383 : 0 ≤ (((rd_T98 l0 x37_3).f1) : Int) := of_decide_eq_true dg_; have q383 : ((rd_T98 l0 x37_3).f1) < (x4_1.length : Int) := of_decide_eq_true dg_; obtain ⟨ad383, e383, hx383_0⟩ := Kd.at_int (Kd.R_reads' HO_4.out).2.2 ((rd_T98 l0 x37_3).f1) p383 q383; obtain rfl : ad382 = ad383 := (by injection e383); replace p383 := eq_true p383; replace q383 := eq_true q383; have p32 : 0 ≤ (((rd_T98 l0 x37_3).f1) : Int) := of_decide_eq_true dg_; have q32 : (((rd_T98 l0 x37_3).f1) : Int) < ((x6_3.length : Int) : Int) := of_decide_eq_true dg_; obtain ⟨go32, co32, eo32, gb32, gl32, cl32, HG32⟩ := Kd.R_form HO_6.out (by omega); (first | cases eo32 | (injection eo32 with ea_ en_ ec_; (first | subst ea_ | (injection ea_ with ea_; subst ea_)); subst ec_; clear en_)); have GB32 := Aside0.mk gb32; have GG32 := Aside0.mk HG32; clear gb32 gl32 HG32; obtain ⟨hx32_0, hf32_0⟩ := Kd.R_celln 0 HO_6.out (((rd_T98 l0 x37_3).f1) : Int) p32 q32; replace p32 := eq_true p32; replace q32 := eq_true q32; obtain ⟨hy37_, hz37_⟩ := Kd.R_celln 0 HO_6.out (((rd_T98 l0 x37_3).f1) : Int) (of_decide_eq_true dg_) (of_decide_eq_true dg_); have HP37 := Kd.R_putg HO_6.out (((rd_T98 l0 x37_3).f1) : Int) (-1)) | ((with_reducible refine gate_store (t := 3) (p := 58) rfl ?_); refine store_event (t := 3) (p := 58) (v := ?vo_w38) (w1 := (w35.setCell ⟨go32, (((rd_T98 l0 x37_3).f1) : Int).toNat, none⟩ (.int .i64 (-1)))) ?hg ?ho ?hn ?hr ?_; (case ho => rfl); (case hg => rfl); (case hn => rfl); (case hr => first | (go_simp; done) | (go_simp; rfl)); intro w38 hw; have hg : w35.grownBy w38 (some go32) := (by rw [hw]; exact HP37.2); have hp_ : Kd.R (Kd.int .i64) 3 w38 w.heap.size (fun k_ => some k_ ≠ (.slice (some ad382) x4_1.length co12 : Value).ownBlock) (.slice (some ⟨go32, 0, none⟩) x6_3.length co32) y384 := (by rw [hw, Ny384.out]; exact HP37.1); clear HP37; replace HO_4 := Aside0.mk (Kd.R_after (v := (.slice (some ⟨go32, 0, none⟩) x6_3.length co32)) (v1 := (.slice (some ⟨go32, 0, none⟩) x6_3.length co32)) (ok := (fun _ => True)) (by (with_reducible repeat (first | apply Kd.R_alloc | apply Kd.R_drewN | apply Kd.R_drew)); exact Kd.R_mono HO_4.out (fun _ hk => ⟨trivial, hk⟩)) hg (.inl rfl)); replace BK381 := Aside0.mk (blk_grown (g := gb381) (o := .cells #[.int .i64 ((rd_T98 l0 x37_3).f0), .int .i64 ((rd_T98 l0 x37_3).f1)] 98 (0, 0)) (by (with_reducible repeat (first | refine blk_drewN ?_ _ | refine blk_drew ?_ | refine blk_alloc ?_ _)); exact BK381.out) hg (Kd.R_ne HO_6.out BK381.out (by decide))); replace HO_6 := Aside0.mk (hp_); replace HB := Aside0.mk ((by rw [hw]; exact below_set (HB.out) GB32.out : Below w.heap.size w w38)); clear hg hw hp_))
  go_roundg k3
  case measure => have := HK1.out; have := HK2.out; have := HK3.out; omega
  case rel => exact ⟨(y384), (wrap64 (x37_3 + 1)), ef_, H', ⟨by have := HK1.out; have := HK2.out; have := HK3.out; omega⟩, ⟨by (with_reducible repeat (first | apply Kd.R_alloc | apply Kd.R_drewN | apply Kd.R_drew)); exact Kd.R_mono HO_4.out (fun _ hk => hk.2)⟩, ⟨ra_ HO_6.out⟩, ⟨bb_ HB.out⟩⟩
 ·replace c3 := Bool.eq_false_iff.mpr c3
  subst c3
  rw [if_neg (show ¬ (false = true) by decide)] at H
  simp only [Option.some.injEq, Prod.mk.injEq] at H
  obtain ⟨rfl, rfl⟩ := H
  go_enter Tryz.func64, Tryz.ntmps64
  go_wp2_with (first | ((with_reducible refine gate_callee (f := 74) rfl ?_); refine gm_ (some 13) Tryz.func74 #[.slice A0 l0.length c0] rfl ?_; (with_reducible refine (impl_DependsOk.calls k _ _ l0 false _ ?side1 HC0.out A2.out).mono ?_); (case side1 => repeat (first | exact HR0.out | (with_reducible refine Kd.C_alloc ?_ _) | (with_reducible refine Kd.C_drewN ?_ _) | (with_reducible refine Kd.C_drew ?_))); rintro e w52 ⟨rfl, hb⟩; refine ⟨_, rfl, ?_⟩; replace HB := hs_ HB hb; (try clear hb)))
  go_ret2
  exact ⟨_, fin_, by first | exact Kd.R_nil _ _ _ _ _ | exact Kd.N_nil _ _ _ _ _ | exact Kd.V_nil _ _ _ _ _ | exact Kd.Q_nil _ _ _ _ _ | exact Kd.S_nil _ _ _ _ _, bb_ HB.out⟩

end Go.Proofs.YtimdefbpoddoaaaGreat.PFnVerdicts
-- thin
