/- The law's functions as plain functions, and their calls. No condition. -/
import Derived.Test.YtimdefbpoddoaaaGreatPFnVerdictsx0
namespace Go.Proofs.YtimdefbpoddoaaaGreat.PFnVerdicts
open Go.RowKit Go.Proofs.YtimdefbpoddoaaaGreatW.PrintWords Go.Proofs.YtimdefbpoddoaaaGreatW.PrintLast Go.Proofs.YtimdefbpoddoaaaGreatW.PrintMore
attribute [local go_sem] max2_int min2_int max_two min_two max_three min_three max_four min_four
set_option linter.unusedVariables false
set_option maxHeartbeats 8000000
set_option maxRecDepth 100000
set_option linter.unusedSimpArgs false

/-! ### impl_arranged: function 73 -/
/-! Dependencies whose channels lie in 0..127, as pairs: the rows that slices.SortFunc and slices.Compact go over. -/
abbrev SD := Fin 128 × Fin 128
def sdEnc (x : SD) : List Value := [.int .i64 (x.1.val : Int), .int .i64 (x.2.val : Int)]
def sdOf (x : S98) : SD := (⟨x.f0.toNat % 128, Nat.mod_lt _ (by decide)⟩, ⟨x.f1.toNat % 128, Nat.mod_lt _ (by decide)⟩)
def sdTo (x : SD) : S98 := ⟨(x.1.val : Int), (x.2.val : Int)⟩
def sdIn (x : S98) : Bool := decide ((0 ≤ x.f0 ∧ x.f0 ≤ 127) ∧ (0 ≤ x.f1 ∧ x.f1 ≤ 127))
theorem sdTo_of {x : S98} (h : sdIn x = true) : sdTo (sdOf x) = x := by
 have h := of_decide_eq_true h
 show (⟨((x.f0.toNat % 128 : Nat) : Int), ((x.f1.toNat % 128 : Nat) : Int)⟩ : S98) = x
 have e0 : ((x.f0.toNat % 128 : Nat) : Int) = x.f0 := by omega
 have e1 : ((x.f1.toNat % 128 : Nat) : Int) = x.f1 := by omega
 rw [e0, e1]
theorem sdMap {l : List S98} (h : l.all sdIn = true) : (l.map sdOf).map sdTo = l := by
 rw [List.map_map]
 refine (List.map_congr_left fun x hx => ?_).trans (List.map_id _)
 exact sdTo_of (List.all_eq_true.1 h x hx)
theorem sdLen (x : SD) : (sdEnc x).length = 2 := rfl
theorem sdOne (x : SD) : ∀ v ∈ sdEnc x, v.oneCell' = true := fun v hv => by
 simp [sdEnc] at hv
 rcases hv with rfl | rfl <;> rfl
theorem sdFlat (d : Array SD) (j : Nat) (hj : j < d.size) : (Go.Sort.flatK sdEnc 2 d)[2 * j]! = .int .i64 ((d[j]!).1.val : Int) ∧ (Go.Sort.flatK sdEnc 2 d)[2 * j + 1]! = .int .i64 ((d[j]!).2.val : Int) := by
 rw [Go.Sort.get_flatK _ _ _ _ (by omega), Go.Sort.get_flatK _ _ _ _ (by omega), show 2 * j / 2 = j by omega, show 2 * j % 2 = 0 by omega, show (2 * j + 1) / 2 = j by omega, show (2 * j + 1) % 2 = 1 by omega]
 exact ⟨rfl, rfl⟩
/-- The row's block. -/
def SdBlk (W : World) (g cap : Nat) : Prop := ∃ cur : Array Value, W.heap[g]? = some (.cells cur 98 (0, 0)) ∧ cur.size = cap * 2
theorem SdBlk.of_R {W : World} {B : Nat} {ok : Nat → Prop} {v : Value} {l : List S98} (hl : l.all sdIn = true) (h : Kd.R k98 98 W B ok v l) :
  (v = .slice none 0 0 ∧ l = []) ∨ ∃ g cap, v = .slice (some ⟨g, 0, none⟩) l.length cap ∧ B ≤ g ∧ ok g ∧ l.length ≤ cap ∧ cap ≤ maxLen ∧ SdBlk W g cap ∧ Go.Sort.HoldsK sdEnc 2 W g 0 (l.map sdOf).toArray := by
 obtain ⟨h0, inner, ⟨hi, ho⟩, hr⟩ := h
 rcases ho with ⟨rfl, hz⟩ | ⟨g, cap, cur, rfl, hb, hh, hn, hm, hs, ht⟩
 ·exact Or.inl ⟨rfl, List.eq_nil_of_length_eq_zero hz⟩
 ·refine Or.inr ⟨g, cap, rfl, hb, h0 g rfl, hn, hm, ⟨cur, hh, hs⟩, fun t ht2 => ?_⟩
  have hs' : cur.size = cap * 2 := hs
  have hi' : inner.length = l.length * 2 := hi
  have hsz : (Go.Sort.flatK sdEnc 2 (l.map sdOf).toArray).size = l.length * 2 := by simp
  have htl : t < l.length * 2 := by rw [hsz] at ht2; exact ht2
  have hj : t / 2 < l.length := by omega
  have hcur : cur[t]? = inner[t]? := by
   have e : (cur.toList.take (l.length * 2))[t]? = inner[t]? := by
    have ht' : cur.toList.take (l.length * 2) = inner := ht
    rw [ht']
   rw [List.getElem?_take_of_lt htl, Array.getElem?_toList] at e
   exact e
  have hseg := k98_openM (hr.2 (t / 2) l[t / 2] (List.getElem?_eq_getElem hj))
  have hin := of_decide_eq_true (List.all_eq_true.1 hl l[t / 2] (List.getElem_mem hj))
  have hget : inner[t]? = some ((Go.Sort.flatK sdEnc 2 (l.map sdOf).toArray)[t]!) := by
   have hfl := sdFlat (l.map sdOf).toArray (t / 2) (by simpa using hj)
   have hel : ((l.map sdOf).toArray)[t / 2]! = sdOf l[t / 2] := by
    rw [getElem!_pos _ _ (by simpa using hj)]
    simp
   have hsg : ((inner.drop (t / 2 * 2)).take 2) = [.int .i64 l[t / 2].f0, .int .i64 l[t / 2].f1] := hseg
   have e0 : inner[t / 2 * 2]? = some (.int .i64 l[t / 2].f0) := by
    have : ((inner.drop (t / 2 * 2)).take 2)[0]? = some (.int .i64 l[t / 2].f0) := by rw [hsg]; rfl
    rw [List.getElem?_take_of_lt (by omega), List.getElem?_drop] at this
    exact this
   have e1 : inner[t / 2 * 2 + 1]? = some (.int .i64 l[t / 2].f1) := by
    have : ((inner.drop (t / 2 * 2)).take 2)[1]? = some (.int .i64 l[t / 2].f1) := by rw [hsg]; rfl
    rw [List.getElem?_take_of_lt (by omega), List.getElem?_drop] at this
    exact this
   have n0 : (((sdOf l[t / 2]).1.val : Nat) : Int) = l[t / 2].f0 := by show ((l[t / 2].f0.toNat % 128 : Nat) : Int) = _; omega
   have n1 : (((sdOf l[t / 2]).2.val : Nat) : Int) = l[t / 2].f1 := by show ((l[t / 2].f1.toNat % 128 : Nat) : Int) = _; omega
   rcases Nat.mod_two_eq_zero_or_one t with hm2 | hm2
   ·have et : t = t / 2 * 2 := by omega
    have et2 : t = 2 * (t / 2) := by omega
    have f := hfl.1
    rw [← et2, hel, n0] at f
    rw [f]
    rw [← et] at e0
    exact e0
   ·have et : t = t / 2 * 2 + 1 := by omega
    have et2 : t = 2 * (t / 2) + 1 := by omega
    have f := hfl.2
    rw [← et2, hel, n1] at f
    rw [f]
    rw [← et] at e1
    exact e1
  refine ⟨?_, blk_frozen hh _⟩
  rw [Nat.zero_add, blk_cell hh t]
  exact hcur.trans hget
theorem SdBlk.R {W : World} {B g cap n : Nat} {ok : Nat → Prop} {d : Array SD} (hb : SdBlk W g cap) (hH : Go.Sort.HoldsK sdEnc 2 W g 0 d) (hn : n ≤ d.size) (hc : d.size ≤ cap) (hm : cap ≤ maxLen) (hB : B ≤ g) (hok : ok g) :
  Kd.R k98 98 W B ok (.slice (some ⟨g, 0, none⟩) n cap) ((d.toList.take n).map sdTo) := by
 obtain ⟨cur, hh, hs⟩ := hb
 have hcell : ∀ t, t < d.size * 2 → cur[t]? = some ((Go.Sort.flatK sdEnc 2 d)[t]!) := fun t ht => by
  have := (hH t (by simpa using ht)).1
  rw [Nat.zero_add, blk_cell hh t] at this
  exact this
 have hlen : ((d.toList.take n).map sdTo).length = n := by simp; omega
 have hcl : cur.toList.length = cap * 2 := by simpa using hs
 refine ⟨fun k hk => ?_, cur.toList.take (n * 2), ⟨?_, Or.inr ⟨g, cap, cur, by rw [hlen], hB, hh, by rw [hlen]; omega, hm, hs, by rw [hlen]; rfl⟩⟩, ?_, fun j p hp => ?_⟩
 ·have e : g = k := Option.some.inj hk
  exact e ▸ hok
 ·rw [List.length_take, hlen, hcl]
  show min (n * 2) (cap * 2) = n * 2
  omega
 ·rw [List.length_take, hlen, hcl]
  show min (n * 2) (cap * 2) = n * 2
  omega
 ·have hj : j < n := by
   have := (List.getElem?_eq_some_iff.1 hp).1
   omega
  have hjd : j < d.size := by omega
  have ep : p = sdTo d[j]! := by
   rw [List.getElem?_map, List.getElem?_take_of_lt hj, Array.getElem?_toList, Array.getElem?_eq_getElem hjd] at hp
   rw [getElem!_pos d j hjd]
   exact (Option.some.inj hp).symm
  have hfl := sdFlat d j hjd
  have c0 := hcell (2 * j) (by omega)
  have c1 := hcell (2 * j + 1) (by omega)
  rw [hfl.1] at c0
  rw [hfl.2] at c1
  have e : ((cur.toList.take (n * 2)).drop (j * 2)).take 2 = [.int .i64 p.f0, .int .i64 p.f1] := by
   rw [ep]
   refine List.ext_getElem? fun t => ?_
   rcases Nat.lt_or_ge t 2 with h2 | h2
   ·rw [List.getElem?_take_of_lt h2, List.getElem?_drop, List.getElem?_take_of_lt (by omega), Array.getElem?_toList]
    rcases (by omega : t = 0 ∨ t = 1) with rfl | rfl
    ·rw [show j * 2 + 0 = 2 * j by omega]
     exact c0
    ·rw [show j * 2 + 1 = 2 * j + 1 by omega]
     exact c1
   ·rw [List.getElem?_eq_none (by rw [List.length_take]; omega), List.getElem?_eq_none (by simp; omega)]
  show Kd.M k98 W B _ p (((cur.toList.take (n * 2)).drop (j * 2)).take 2)
  rw [e]
  exact k98_mkM _ _ _ _
theorem sd_put_heap (w : World) (g m : Nat) (d : Array SD) (os : Array Obj) (k : Nat) (hk : k < w.heap.size) : (sortWorldK sdEnc 2 w g 0 m d os).heap[k]? = if g = k then (w.heap[k]?).map (Go.Sort.onCells (Go.Sort.putCells id 0 (Go.Sort.flatK sdEnc 2 d))) else w.heap[k]? := by
 have h1 : (sortWorldK sdEnc 2 w g 0 m d os).heap = (w.heap.modify g (Go.Sort.onCells (Go.Sort.putCells id 0 (Go.Sort.flatK sdEnc 2 d)))) ++ os := rfl
 rw [h1, Array.getElem?_append_left (by simpa using hk), Array.getElem?_modify]
theorem sd_sorted {w : World} {g cap m : Nat} {d d' : Array SD} {os : Array Obj} (hb : SdBlk w g cap) (hH : Go.Sort.HoldsK sdEnc 2 w g 0 d) (hs : d'.size = d.size) :
  SdBlk (sortWorldK sdEnc 2 w g 0 m d' os) g cap ∧ Go.Sort.HoldsK sdEnc 2 (sortWorldK sdEnc 2 w g 0 m d' os) g 0 d' ∧ w.grownBy (sortWorldK sdEnc 2 w g 0 m d' os) (some g) := by
 obtain ⟨cur, hh, hsz⟩ := hb
 have hg : g < w.heap.size := blk_lt hh
 refine ⟨⟨Go.Sort.putCells id 0 (Go.Sort.flatK sdEnc 2 d') cur, ?_, ?_⟩, ?_, ⟨rfl, rfl, rfl, ?_, fun k hk hne => ?_⟩⟩
 ·rw [sd_put_heap w g m d' os g hg, if_pos rfl, hh]
  rfl
 ·simp [Go.Sort.putCells, hsz]
 ·have h1 := Go.Sort.holdsK_putRowK sdEnc 2 (Go.Sort.ahead w m) g 0 d d' (Go.Sort.holdsK_ahead sdEnc 2 w m g 0 d hH) hs
  exact Go.Sort.holdsK_grow sdEnc 2 _ os g 0 d' (by simpa [Go.Sort.putRowK, Go.Sort.putRow, Go.Sort.mapBlock, Go.Sort.ahead] using hg) h1
 ·have h1 : (sortWorldK sdEnc 2 w g 0 m d' os).heap = (w.heap.modify g (Go.Sort.onCells (Go.Sort.putCells id 0 (Go.Sort.flatK sdEnc 2 d')))) ++ os := rfl
  rw [h1, Array.size_append, Array.size_modify]
  omega
 ·rw [sd_put_heap w g m d' os k hk, if_neg (fun e => hne (by rw [e]))]
/-- The order of dependencies. -/
def sdCmp (x y : SD) : Int := if (x.1.val : Int) = (y.1.val : Int) then (x.2.val : Int) - (y.2.val : Int) else (x.1.val : Int) - (y.1.val : Int)
theorem sdLt (x y : SD) : ltOf sdCmp x y = decide (x.1.val < y.1.val ∨ (x.1.val = y.1.val ∧ x.2.val < y.2.val)) := by
 unfold ltOf sdCmp
 rw [decide_eq_decide]
 split <;> omega
theorem sdSWO : Go.Sort.SWO (ltOf sdCmp) where
 irrefl x := by rw [sdLt, decide_eq_false_iff_not]; omega
 trans x y z h1 h2 := by rw [sdLt, decide_eq_true_eq] at *; omega
 ntrans x y z h1 h2 := by rw [sdLt, decide_eq_false_iff_not] at *; omega
theorem sdTot (x y : SD) (h1 : ltOf sdCmp x y = false) (h2 : ltOf sdCmp y x = false) : x = y := by
 rw [sdLt, decide_eq_false_iff_not] at *
 exact Prod.ext (Fin.ext (by omega)) (Fin.ext (by omega))
/-- A row with a part written anew. -/
def sdLay (d : Array SD) (i : Nat) (xs : List SD) : Array SD := (d.toList.take i ++ (xs ++ d.toList.drop (i + xs.length))).toArray
theorem sdLay_size (d : Array SD) (i : Nat) (xs : List SD) (h : i + xs.length ≤ d.size) : (sdLay d i xs).size = d.size := by
 simp [sdLay]
 omega
theorem sdLay_get (d : Array SD) (i : Nat) (xs : List SD) (h : i + xs.length ≤ d.size) (j : Nat) (hj : j < d.size) : (sdLay d i xs)[j]! = if i ≤ j ∧ j < i + xs.length then xs[j - i]! else d[j]! := by
 have hs := sdLay_size d i xs h
 rw [getElem!_pos (sdLay d i xs) j (by omega)]
 have e : (sdLay d i xs)[j]? = if i ≤ j ∧ j < i + xs.length then xs[j - i]? else d[j]? := by
  unfold sdLay
  rw [List.getElem?_toArray]
  have hdl : d.toList.length = d.size := Array.length_toList
  have htk : (d.toList.take i).length = i := by rw [List.length_take, hdl]; omega
  by_cases h1 : j < i
  ·rw [List.getElem?_append_left (by omega), List.getElem?_take_of_lt h1, if_neg (by omega), Array.getElem?_toList]
  rw [List.getElem?_append_right (by omega), htk]
  by_cases h2 : j < i + xs.length
  ·rw [List.getElem?_append_left (by omega), if_pos ⟨by omega, h2⟩]
  rw [List.getElem?_append_right (by omega), List.getElem?_drop, if_neg (by omega), Array.getElem?_toList]
  congr 1
  omega
 rw [Array.getElem?_eq_getElem (by omega)] at e
 by_cases h1 : i ≤ j ∧ j < i + xs.length
 rotate_left
 ·rw [if_neg h1] at e ⊢
  rw [Array.getElem?_eq_getElem hj] at e
  rw [getElem!_pos d j hj]
  exact Option.some.inj e
 rw [if_pos h1] at e ⊢
 rw [List.getElem?_eq_getElem (by omega)] at e
 rw [getElem!_pos xs (j - i) (by omega)]
 exact Option.some.inj e
theorem sdLay_flat (d : Array SD) (i : Nat) (xs : List SD) (h : i + xs.length ≤ d.size) : Go.Sort.setMany (Go.Sort.flatK sdEnc 2 d) (i * 2) (Go.Sort.flatK sdEnc 2 xs.toArray).toList = Go.Sort.flatK sdEnc 2 (sdLay d i xs) := by
 have hs := sdLay_size d i xs h
 have hx : (Go.Sort.flatK sdEnc 2 xs.toArray).toList.length = xs.length * 2 := by simp
 refine Go.Sort.ext_get! (by simp [hs]) fun t ht => ?_
 have ht' : t < d.size * 2 := by simpa using ht
 rw [Go.Sort.get_setMany _ _ _ t (by simpa using ht'), Go.Sort.get_flatK sdEnc 2 (sdLay d i xs) t (by rw [hs]; exact ht'), sdLay_get d i xs h (t / 2) (by omega), hx]
 by_cases h1 : i * 2 ≤ t ∧ t < i * 2 + xs.length * 2
 rotate_left
 ·rw [if_neg h1, if_neg (by omega), Go.Sort.get_flatK _ _ _ t ht']
 rw [if_pos h1, if_pos (by omega), getElem!_pos (Go.Sort.flatK sdEnc 2 xs.toArray).toList (t - i * 2) (by omega), Array.getElem_toList]
 have hg := Go.Sort.get_flatK sdEnc 2 xs.toArray (t - i * 2) (by simp; omega)
 rw [getElem!_pos (Go.Sort.flatK sdEnc 2 xs.toArray) (t - i * 2) (by simp; omega)] at hg
 rw [hg, show (t - i * 2) / 2 = t / 2 - i by omega, show (t - i * 2) % 2 = t % 2 by omega]
 simp
/-- What holds of a world of slices.Compact's: the row holds d; all else is as it was. -/
def SdW (w W : World) (g cap : Nat) (d : Array SD) : Prop := SdBlk W g cap ∧ Go.Sort.HoldsK sdEnc 2 W g 0 d ∧ w.grownBy W (some g)
theorem SdW.drew {w W : World} {g cap : Nat} {d : Array SD} (h : SdW w W g cap d) : SdW w W.drew g cap d := ⟨h.1, h.2.1, h.2.2.os, h.2.2.tape, h.2.2.output, h.2.2.size, h.2.2.block⟩
theorem SdW.drewN {w W : World} {g cap : Nat} {d : Array SD} (h : SdW w W g cap d) (q : Nat) : SdW w (W.drewN q) g cap d := ⟨h.1, h.2.1, h.2.2.os, h.2.2.tape, h.2.2.output, h.2.2.size, h.2.2.block⟩
theorem SdW.set {w W : World} {g cap : Nat} {d : Array SD} (h : SdW w W g cap d) (i : Nat) (xs : List SD) (hi : i + xs.length ≤ d.size) : SdW w (W.setCells g (i * 2) (Go.Sort.flatK sdEnc 2 xs.toArray).toList) g cap (sdLay d i xs) := by
 obtain ⟨⟨cur, hh, hs⟩, hH, hg⟩ := h
 have hx : (Go.Sort.flatK sdEnc 2 xs.toArray).toList.length = xs.length * 2 := by simp
 have hsz : d.size * 2 ≤ cur.size := by
  rcases Nat.lt_or_ge cur.size (d.size * 2) with hlt | hge
  ·have h1 := (hH cur.size (by simpa using hlt)).1
   rw [Nat.zero_add, blk_cell hh cur.size] at h1
   simp at h1
  ·exact hge
 have hH2 := holds_setCells_c (show Go.Sort.Holds id W g 0 (Go.Sort.flatK sdEnc 2 d) from hH) (i * 2) (Go.Sort.flatK sdEnc 2 xs.toArray).toList (by rw [hx]; simp; omega)
 rw [Nat.zero_add, sdLay_flat d i xs hi] at hH2
 obtain ⟨s1, s2, s3, s4⟩ := setCells_same g (Go.Sort.flatK sdEnc 2 xs.toArray).toList (i * 2) W
 refine ⟨?_, hH2, s1.trans hg.os, s2.trans hg.tape, s3.trans hg.output, by rw [s4]; exact hg.size, fun k hk hne => (setCells_far _ _ k (fun e => hne (by rw [e]))).trans (hg.block k hk hne)⟩
 have hr := setCells_row (Go.Sort.flatK sdEnc 2 xs.toArray).toList (i * 2) W cur hh (by rw [hx]; omega)
 obtain ⟨cur', r1, r2, _⟩ := hr
 exact ⟨cur', r1, r2.trans hs⟩
theorem sdZeros (n : Nat) : (Go.Sort.flatK sdEnc 2 (List.replicate n ((⟨0, by decide⟩, ⟨0, by decide⟩) : SD)).toArray).toList = (Builtin.zeroCells #[.int .i64 0, .int .i64 0] n).toList := by
 have e : Go.Sort.flatK sdEnc 2 (List.replicate n ((⟨0, by decide⟩, ⟨0, by decide⟩) : SD)).toArray = Builtin.zeroCells #[.int .i64 0, .int .i64 0] n := by
  refine Go.Sort.ext_get! (by simp [Builtin.zeroCells]) fun t ht => ?_
  have ht' : t < n * 2 := by simpa using ht
  rw [Go.Sort.get_flatK _ _ _ _ (by simpa using ht')]
  have h2 : t / 2 < n := by omega
  have e1 : ((List.replicate n ((⟨0, by decide⟩, ⟨0, by decide⟩) : SD)).toArray)[t / 2]! = (⟨0, by decide⟩, ⟨0, by decide⟩) := by
   rw [getElem!_pos _ _ (by simpa using h2)]
   simp
  rw [e1, getElem!_pos (Builtin.zeroCells #[.int .i64 0, .int .i64 0] n) t (by simpa [Builtin.zeroCells] using ht')]
  simp only [Builtin.zeroCells, Array.getElem_map, Array.getElem_range]
  rcases Nat.mod_two_eq_zero_or_one t with h | h <;> simp [h, sdEnc]
 rw [e]
theorem sd_clear {P : Program} {w W : World} {g cap n i : Nat} {d : Array SD} (t ty : TypeId) (ht : P.underlying t = some (.slice 98)) (hz : ∀ w, (zeroValue 98).run P w = .ok (.agg #[.int .i64 0, .int .i64 0]) w) (h : SdW w W g cap d) (hn : 0 < n) (hi : i + n ≤ d.size) (c : Nat) :
  (Builtin.clear_ #[t] ty #[.slice (some ⟨g, i * 2, none⟩) n c]).run P W = .ok (.tuple #[]) (W.setCells g (i * 2) (Go.Sort.flatK sdEnc 2 (List.replicate n ((⟨0, by decide⟩, ⟨0, by decide⟩) : SD)).toArray).toList) := by
 have hst := stores_of_holds P (show Go.Sort.Holds id W g 0 (Go.Sort.flatK sdEnc 2 d) from h.2.1) (i * 2) (Go.Sort.flatK sdEnc 2 (List.replicate n ((⟨0, by decide⟩, ⟨0, by decide⟩) : SD)).toArray).toList (by simp; omega) (fun v hv => by
  rw [sdZeros] at hv
  simp [Builtin.zeroCells] at hv
  obtain ⟨a, _, rfl⟩ := hv
  rcases Nat.mod_two_eq_zero_or_one a with e | e <;> simp [e] <;> rfl)
 rw [Nat.zero_add, sdZeros] at hst
 rw [sdZeros]
 obtain ⟨m, rfl⟩ : ∃ m, n = m + 1 := ⟨n - 1, by omega⟩
 simp [Builtin.clear_, run_underlying ht, hz, Value.cells, hst]
/-- The order, and neighbours that are equal taken together. -/
def sdLe (x y : SD) : Bool := decide (x.1.val < y.1.val ∨ (x.1.val = y.1.val ∧ x.2.val ≤ y.2.val))
def sdDd : List SD → List SD
 | [] => []
 | [x] => [x]
 | x :: y :: r => if x = y then sdDd (y :: r) else x :: sdDd (y :: r)
theorem sdLe_lt : (fun x y => !(ltOf sdCmp y x)) = sdLe := by
 funext x y
 rw [sdLt, ← decide_not]
 unfold sdLe
 rw [decide_eq_decide]
 omega
theorem sdDd_snoc (a : SD) : ∀ (zs : List SD), sdDd (zs ++ [a]) = sdDd zs ++ (if zs.getLast? = some a then [] else [a])
 | [] => rfl
 | [x] => by
  show (if x = a then sdDd [a] else x :: sdDd [a]) = [x] ++ (if some x = some a then [] else [a])
  by_cases h : x = a
  ·rw [if_pos h, if_pos (by rw [h])]
   simp [sdDd, h]
  rw [if_neg h, if_neg (fun e => h (Option.some.inj e))]
  rfl
 | x :: y :: r => by
  have ih := sdDd_snoc a (y :: r)
  have e : (x :: y :: r).getLast? = (y :: r).getLast? := by simp [List.getLast?_cons_cons]
  rw [e]
  show (if x = y then sdDd ((y :: r) ++ [a]) else x :: sdDd ((y :: r) ++ [a])) = (if x = y then sdDd (y :: r) else x :: sdDd (y :: r)) ++ _
  rw [ih]
  by_cases h : x = y
  ·rw [if_pos h, if_pos h]
  rw [if_neg h, if_neg h]
  rfl
theorem sdDd_upTo (zs : List SD) : ∀ m, m ≤ zs.length → Go.Lib.compactUpTo zs.toArray m = sdDd (zs.take m)
 | 0, _ => rfl
 | m + 1, h => by
  have hm : m < zs.length := by omega
  rw [Go.Lib.compactUpTo_succ, sdDd_upTo zs m (by omega), ← List.take_append_getElem hm, sdDd_snoc]
  have e1 : (zs.toArray)[m]! = zs[m] := by rw [getElem!_pos zs.toArray m (by simpa using hm)]; simp
  rw [e1]
  congr 1
  rcases Nat.eq_zero_or_pos m with h0 | h0
  ·subst h0
   rw [if_pos (Go.Lib.keeps_lt_one _ 0 (by omega))]
   rfl
  ·have e2 : (zs.toArray)[m - 1]! = zs[m - 1] := by rw [getElem!_pos zs.toArray (m - 1) (by simp; omega)]; simp
   have e3 : (zs.take m).getLast? = some zs[m - 1] := by
    rw [List.getLast?_eq_getElem?, List.length_take, Nat.min_eq_left (by omega), List.getElem?_take_of_lt (by omega), List.getElem?_eq_getElem (by omega)]
   rw [e3]
   by_cases h : zs[m] = zs[m - 1]
   ·rw [Go.Lib.keeps_neg h0 (by rw [e1, e2]; exact h)]
    simp [h]
   rw [Go.Lib.keeps_pos (by rw [e1, e2]; exact h)]
   have h' : ¬ zs[m - 1] = zs[m] := fun e => h e.symm
   simp [h']
theorem sdDd_compact (zs : List SD) : Go.Lib.compactUpTo zs.toArray zs.toArray.size = sdDd zs := by
 have := sdDd_upTo zs zs.length (Nat.le_refl _)
 rw [List.take_length] at this
 simpa using this
set_option maxHeartbeats 2000000 in
theorem sd_cmp (x y : SD) (W : World) : Calls Tryz.prog 106 #[.agg (sdEnc x).toArray, .agg (sdEnc y).toArray] W fun e w' => e = .returned (.int .i64 (sdCmp x y)) ∧ ∃ q os', w' = Go.Sort.grow (W.drewN q) os' := by
 show Calls Tryz.prog 106 #[.agg #[.int .i64 (x.1.val : Int), .int .i64 (x.2.val : Int)], .agg #[.int .i64 (y.1.val : Int), .int .i64 (y.2.val : Int)]] W _
 have hx1 := x.1.isLt
 have hx2 := x.2.isLt
 have hy1 := y.1.isLt
 have hy2 := y.2.isLt
 unfold sdCmp
 generalize (x.1.val : Nat) = a at *
 generalize (x.2.val : Nat) = b at *
 generalize (y.1.val : Nat) = c at *
 generalize (y.2.val : Nat) = d at *
 have w1 : IntKind.i64.wrap ((a : Int) - (c : Int)) = (a : Int) - (c : Int) := by rw [IntKind.wrap_i64]; omega
 have w2 : IntKind.i64.wrap ((b : Int) - (d : Int)) = (b : Int) - (d : Int) := by rw [IntKind.wrap_i64]; omega
 by_cases h : (a : Int) = (c : Int)
 ·rw [if_pos h]
  have e1 : ((a : Int) != (c : Int)) = false := bne_eq_false_iff_eq.mpr h
  have e2 : ((a : Int) == (c : Int)) = true := beq_iff_eq.mpr h
  have e3 : (a == c) = true := beq_iff_eq.mpr (by omega)
  clear hx1 hx2 hy1 hy2 h w1
  go_enter Tryz.func106, Tryz.ntmps106
  go_wp2
  go_ret
  exact ⟨by first | rfl | (simp; done) | (simp [*]; done), 0, _, by rw [Go.Sort.alloc_eq_grow, Go.Sort.alloc_eq_grow, Go.Sort.grow_grow]; rfl⟩
 rw [if_neg h]
 have e1 : ((a : Int) != (c : Int)) = true := bne_iff_ne.mpr h
 have e2 : ((a : Int) == (c : Int)) = false := beq_eq_false_iff_ne.mpr h
 have e3 : (a == c) = false := beq_eq_false_iff_ne.mpr (by omega)
 clear hx1 hx2 hy1 hy2 h w2
 go_enter Tryz.func106, Tryz.ntmps106
 go_wp2
 go_ret
 exact ⟨by first | rfl | (simp; done) | (simp [*]; done), 0, _, by rw [Go.Sort.alloc_eq_grow, Go.Sort.alloc_eq_grow, Go.Sort.grow_grow]; rfl⟩
def sdLays_ren : Go.Shelf.Ren := ⟨fun | 6 => 105 | 15 => 126 | 14 => 125 | 28 => 142 | 29 => 143 | 20 => 134 | 21 => 135 | 22 => 136 | 23 => 137 | 24 => 138 | 25 => 139 | 26 => 140 | 27 => 141 | 46 => 144 | 47 => 145 | 48 => 146 | 49 => 147 | 50 => 148 | 57 => 149 | n => n, fun | 22 => 62 | 24 => 98 | 25 => 120 | 3 => 3 | 39 => 124 | 0 => 0 | 53 => 135 | 55 => 138 | 4 => 4 | 46 => 144 | 45 => 143 | 50 => 148 | 5 => 5 | 9 => 9 | 66 => 152 | 70 => 156 | 76 => 158 | 77 => 159 | n => n, fun | n => n⟩
theorem sdLays : SlLaysF0.n6 Tryz.prog sdLays_ren := {
 mixed := by kernel_rfl
 f6 := ⟨Tryz.f105.name, by decide, Tryz.func105.trans (congrArg some (by kernel_rfl))⟩
 f14 := ⟨Tryz.f125.name, by decide, Tryz.func125.trans (congrArg some (by kernel_rfl))⟩
 f15 := Tryz.func126.trans (congrArg some (by kernel_rfl))
 f20 := ⟨Tryz.f134.name, by decide, Tryz.func134.trans (congrArg some (by kernel_rfl))⟩
 f21 := ⟨Tryz.f135.name, by decide, Tryz.func135.trans (congrArg some (by kernel_rfl))⟩
 f22 := ⟨Tryz.f136.name, by decide, Tryz.func136.trans (congrArg some (by kernel_rfl))⟩
 f23 := ⟨Tryz.f137.name, by decide, Tryz.func137.trans (congrArg some (by kernel_rfl))⟩
 f24 := ⟨Tryz.f138.name, by decide, Tryz.func138.trans (congrArg some (by kernel_rfl))⟩
 f25 := ⟨Tryz.f139.name, by decide, Tryz.func139.trans (congrArg some (by kernel_rfl))⟩
 f26 := ⟨Tryz.f140.name, by decide, Tryz.func140.trans (congrArg some (by kernel_rfl))⟩
 f27 := ⟨Tryz.f141.name, by decide, Tryz.func141.trans (congrArg some (by kernel_rfl))⟩
 f28 := Tryz.func142.trans (congrArg some (by kernel_rfl))
 f29 := Tryz.func143.trans (congrArg some (by kernel_rfl))
 f46 := ⟨Tryz.f144.name, by decide, Tryz.func144.trans (congrArg some (by kernel_rfl))⟩
 f47 := Tryz.func145.trans (congrArg some (by kernel_rfl))
 f48 := Tryz.func146.trans (congrArg some (by kernel_rfl))
 f49 := ⟨Tryz.f147.name, by decide, Tryz.func147.trans (congrArg some (by kernel_rfl))⟩
 f50 := ⟨Tryz.f148.name, by decide, Tryz.func148.trans (congrArg some (by kernel_rfl))⟩
 f57 := ⟨Tryz.f149.name, by decide, Tryz.func149.trans (congrArg some (by kernel_rfl))⟩
 t0 := Tryz.underlying0
 a0 := Tryz.isAgg0
 z0 := Tryz.sizeOf0
 v0 := Tryz.zeroValue0
 t3 := Tryz.underlying3
 a3 := Tryz.isAgg3
 z3 := Tryz.sizeOf3
 v3 := Tryz.zeroValue3
 t4 := Tryz.underlying4
 a4 := Tryz.isAgg4
 z4 := Tryz.sizeOf4
 v4 := Tryz.zeroValue4
 t5 := Tryz.underlying5
 a5 := Tryz.isAgg5
 z5 := Tryz.sizeOf5
 v5 := Tryz.zeroValue5
 t9 := Tryz.underlying9
 a9 := Tryz.isAgg9
 z9 := Tryz.sizeOf9
 v9 := Tryz.zeroValue9
 t22 := Tryz.underlying62
 a22 := Tryz.isAgg62
 z22 := Tryz.sizeOf62
 v22 := Tryz.zeroValue62
 t25 := Tryz.underlying120
 a25 := Tryz.isAgg120
 z25 := Tryz.sizeOf120
 v25 := Tryz.zeroValue120
 t39 := Tryz.underlying124
 a39 := Tryz.isAgg124
 z39 := Tryz.sizeOf124
 v39 := Tryz.zeroValue124
 t45 := Tryz.underlying143
 a45 := Tryz.isAgg143
 z45 := Tryz.sizeOf143
 v45 := Tryz.zeroValue143
 t46 := Tryz.underlying144
 a46 := Tryz.isAgg144
 z46 := Tryz.sizeOf144
 v46 := Tryz.zeroValue144
 t50 := Tryz.underlying148
 a50 := Tryz.isAgg148
 z50 := Tryz.sizeOf148
 v50 := Tryz.zeroValue148
 t53 := Tryz.underlying135
 a53 := Tryz.isAgg135
 z53 := Tryz.sizeOf135
 v53 := Tryz.zeroValue135
 t55 := Tryz.underlying138
 a55 := Tryz.isAgg138
 z55 := Tryz.sizeOf138
 v55 := Tryz.zeroValue138
 t66 := Tryz.underlying152
 a66 := Tryz.isAgg152
 z66 := Tryz.sizeOf152
 v66 := Tryz.zeroValue152
 t70 := Tryz.underlying156
 a70 := Tryz.isAgg156
 z70 := Tryz.sizeOf156
 v70 := Tryz.zeroValue156
 t76 := Tryz.underlying158
 a76 := Tryz.isAgg158
 z76 := Tryz.sizeOf158
 v76 := Tryz.zeroValue158
 t77 := Tryz.underlying159
 a77 := Tryz.isAgg159
 z77 := Tryz.sizeOf159
 v77 := Tryz.zeroValue159
 }

theorem sd_eqA (d : Nat) (w : World) (x0 y0 : Int) (x1 y1 : Int) :
  (Op.equalIn (d + 2) 98 (.agg #[.int .i64 x0, .int .i64 x1]) (.agg #[.int .i64 y0, .int .i64 y1])).run Tryz.prog w = .ok (x0 == y0 && (x1 == y1)) w := by
 refine eqA_of Tryz.underlying98 (by kernel_rfl) ?_
 refine eqf_cons (by rfl) (by go_simp; rfl) (by go_simp; rfl) (by go_simp) ?_
 exact eqf_last (by rfl) (by go_simp; rfl) (by go_simp; rfl) (by go_simp)
attribute [local go_sem high] sd_eqA
theorem sd_cells {W : World} {g : Nat} {d : Array SD} (hH : Go.Sort.HoldsK sdEnc 2 W g 0 d) {i : Nat} (hi : i < d.size) : W.cell? ⟨g, i * 2, none⟩ = some (.int .i64 ((d[i]!).1.val : Int)) ∧ W.cell? ⟨g, i * 2 + 1, none⟩ = some (.int .i64 ((d[i]!).2.val : Int)) := by
 have h0 := (Go.Sort.HoldsK.cell hH hi (c := 0) (by decide)).1
 have h1 := (Go.Sort.HoldsK.cell hH hi (c := 1) (by decide)).1
 rw [Nat.zero_add] at h0 h1
 exact ⟨h0, h1⟩
theorem sd_free {W : World} {g : Nat} {d : Array SD} (hH : Go.Sort.HoldsK sdEnc 2 W g 0 d) {i : Nat} (hi : i < d.size) : W.frozen? ⟨g, i * 2, none⟩ = false ∧ W.frozen? ⟨g, i * 2 + 1, none⟩ = false := by
 have h0 := (Go.Sort.HoldsK.cell hH hi (c := 0) (by decide)).2
 have h1 := (Go.Sort.HoldsK.cell hH hi (c := 1) (by decide)).2
 rw [Nat.zero_add] at h0 h1
 exact ⟨h0, h1⟩
theorem sd_put {w W : World} {g cap : Nat} {d : Array SD} (h : SdW w W g cap d) (i : Nat) (hi : i < d.size) (u : SD) : SdW w ((W.setCell ⟨g, i * 2, none⟩ (.int .i64 (u.1.val : Int))).setCell ⟨g, i * 2 + 1, none⟩ (.int .i64 (u.2.val : Int))) g cap (d.setIfInBounds i u) := by
 have h1 := h.set i [u] (by simp; omega)
 have e1 : (Go.Sort.flatK sdEnc 2 [u].toArray).toList = [.int .i64 (u.1.val : Int), .int .i64 (u.2.val : Int)] := by
  refine List.ext_getElem? fun j => ?_
  have h0 := sdFlat #[u] 0 (by simp)
  have hl : (Go.Sort.flatK sdEnc 2 #[u]).size = 2 := by simp
  rcases Nat.lt_or_ge j 2 with h2 | h2
  ·rw [show [u].toArray = #[u] from rfl, Array.getElem?_toList, Array.getElem?_eq_getElem (by omega)]
   rcases (by omega : j = 0 ∨ j = 1) with rfl | rfl
   ·have := h0.1
    rw [getElem!_pos (Go.Sort.flatK sdEnc 2 #[u]) (2 * 0) (by omega)] at this
    exact congrArg some this
   ·have := h0.2
    rw [getElem!_pos (Go.Sort.flatK sdEnc 2 #[u]) (2 * 0 + 1) (by omega)] at this
    exact congrArg some this
  ·rw [List.getElem?_eq_none (by simp; omega), List.getElem?_eq_none (by simp; omega)]
 have e2 : sdLay d i [u] = d.setIfInBounds i u := by
  refine Array.ext (by rw [sdLay_size d i [u] (by simp; omega)]; simp) fun j h2 h3 => ?_
  have hj : j < d.size := by simpa using h3
  have h4 := sdLay_get d i [u] (by simp; omega) j hj
  rw [getElem!_pos (sdLay d i [u]) j h2] at h4
  rw [h4, Array.getElem_setIfInBounds hj]
  by_cases e : i = j
  rotate_left
  ·rw [if_neg (by simp; omega), if_neg e, getElem!_pos d j hj]
  subst e
  rw [if_pos ⟨Nat.le_refl _, by simp⟩, if_pos rfl]
  simp
 rw [e1, e2] at h1
 exact h1
theorem sd_done {d dk : Array SD} {kk : Nat} (h : Go.Lib.CompInv d d.size kk dk) (d' : Array SD) (hl : ∀ j, j < kk → d'[j]! = dk[j]!) (hs : d'.size = d.size) : kk = (sdDd d.toList).length ∧ d'.toList.take (sdDd d.toList).length = sdDd d.toList := by
 have e := sdDd_compact d.toList
 simp only [Array.toArray_toList] at e
 have hlen := h.len
 rw [e] at hlen
 refine ⟨hlen.symm, ?_⟩
 rw [hlen]
 refine List.ext_getElem? fun j => ?_
 have hkk := h.lt
 rcases Nat.lt_or_ge j kk with hj | hj
 ·have h1 := h.low j hj
  rw [e] at h1
  rw [h1, List.getElem?_take_of_lt hj, Array.getElem?_toList, ← hl j hj, Array.getElem?_eq_getElem (by omega), getElem!_pos d' j (by omega)]
 ·rw [List.getElem?_eq_none (by rw [List.length_take]; omega), List.getElem?_eq_none (by omega)]
theorem sd_eqI {x y : SD} {a1 a2 b1 b2 : Int} (h1 : a1 = (x.1.val : Int)) (h2 : a2 = (x.2.val : Int)) (h3 : b1 = (y.1.val : Int)) (h4 : b2 = (y.2.val : Int)) : (x = y → a1 = b1 ∧ a2 = b2) ∧ (¬ x = y → (a1 == b1 && a2 == b2) = false) := by
 refine ⟨fun e => by rw [h1, h2, h3, h4, e]; exact ⟨rfl, rfl⟩, fun hne => ?_⟩
 rw [Bool.and_eq_false_iff, beq_eq_false_iff_ne, beq_eq_false_iff_ne]
 by_cases e : a1 = b1
 rotate_left
 ·exact Or.inl e
 refine Or.inr fun e2 => hne (Prod.ext (Fin.ext ?_) (Fin.ext ?_)) <;> omega
theorem sd_same {W : World} {g cap : Nat} {d : Array SD} (hb : SdBlk W g cap) (hH : Go.Sort.HoldsK sdEnc 2 W g 0 d) (q : Nat) : SdW W (W.drewN q) g cap d := ⟨hb, hH, rfl, rfl, rfl, Nat.le_refl _, fun _ _ _ => rfl⟩
set_option maxHeartbeats 4000000 in
set_option maxRecDepth 1000000 in
/-- slices.Compact at dependencies: the library's two loops are walked. -/
theorem sd_compact (g cap : Nat) (d : Array SD) (w : World) (hb : SdBlk w g cap) (hH : Go.Sort.HoldsK sdEnc 2 w g 0 d) (hsz : d.size ≤ 9223372036854775807) (hcap : d.size ≤ cap) :
  Calls Tryz.prog 107 #[.slice (some ⟨g, 0, none⟩) d.size cap] w fun e w' => e = .returned (.slice (some ⟨g, 0, none⟩) (sdDd d.toList).length cap) ∧ ∃ d' : Array SD, d'.size = d.size ∧ d'.toList.take (sdDd d.toList).length = sdDd d.toList ∧ SdW w w' g cap d' := by
 have same : (∀ j, j < d.size → Go.Lib.keeps d j = true) → sdDd d.toList = d.toList := by
  intro hall
  rw [← sdDd_compact]
  simp only [Array.toArray_toList]
  rw [Go.Lib.compactUpTo_all d _ hall, Go.Lib.range_map_get]
 have HS := Aside0.mk same
 have HH := Aside0.mk hH
 have mixed := sdLays.mixed
 have HBK := Aside0.mk hb
 clear same hb
 by_cases h2 : d.size < 2
 ·have h2b : decide ((d.size : Int) < 2) = true := decide_eq_true (by omega)
  clear hH
  go_enter Tryz.func107, Tryz.ntmps107
  go_wp2
  go_ret
  have e := HS.out (fun j hj => Go.Lib.keeps_lt_one d j (by omega))
  rw [e]
  exact ⟨by first | rfl | (simp; done), d, rfl, List.take_length, sd_same HBK.out HH.out 0⟩
 have h2b : decide ((d.size : Int) < 2) = false := decide_eq_false (by omega)
 go_enter Tryz.func107, Tryz.ntmps107
 go_wp2
 go_loopg [3] d.size (fun gk s3 wr => ∃ k q : Nat, 1 ≤ k ∧ k ≤ d.size ∧ d.size - k ≤ gk ∧ s3 = .int .i64 k ∧ wr = w.drewN q ∧ ∀ j, j < k → Go.Lib.keeps d j = true)
 case atStart => exact ⟨1, 0, Nat.le_refl _, by omega, by omega, rfl, rfl, Go.Lib.keeps_lt_one d⟩
 obtain ⟨k, q, hk1, hk, hg, rfl, rfl, hall⟩ := hrel
 have A := Aside0.mk hall
 clear hall
 by_cases hlt : k < d.size
 rotate_left
 ·have e : k = d.size := by omega
  subst e
  clear hH
  go_wp2
  go_ret
  have e := HS.out A.out
  rw [e]
  exact ⟨by first | rfl | (simp; done), d, rfl, List.take_length, sd_same HBK.out HH.out q⟩
 obtain ⟨c1, c2⟩ := sd_cells hH hlt
 obtain ⟨c3, c4⟩ := sd_cells hH (show k - 1 < d.size by omega)
 clear hH
 have n0 : 0 ≤ IntKind.i64.wrap ((k : Int) - 1) := by rw [IntKind.wrap_i64]; omega
 have n1 : IntKind.i64.wrap ((k : Int) - 1) < (d.size : Int) := by rw [IntKind.wrap_i64]; omega
 have n2 : (IntKind.i64.wrap ((k : Int) - 1)).toNat = k - 1 := by rw [IntKind.wrap_i64]; omega
 obtain ⟨a1, ha1⟩ : ∃ a : Int, a = ((d[k]!).1.val : Int) := ⟨_, rfl⟩
 obtain ⟨a2, ha2⟩ : ∃ a : Int, a = ((d[k]!).2.val : Int) := ⟨_, rfl⟩
 obtain ⟨b1, hb1⟩ : ∃ a : Int, a = ((d[k - 1]!).1.val : Int) := ⟨_, rfl⟩
 obtain ⟨b2, hb2⟩ : ∃ a : Int, a = ((d[k - 1]!).2.val : Int) := ⟨_, rfl⟩
 rw [← ha1] at c1
 rw [← ha2] at c2
 rw [← hb1] at c3
 rw [← hb2] at c4
 have hxy := sd_eqI ha1 ha2 hb1 hb2
 clear ha1 ha2 hb1 hb2
 by_cases hdup : d[k]! = d[k - 1]!
 rotate_left
 ·have hne := hxy.2 hdup
  have B := Aside0.mk hdup
  clear hdup hxy
  go_wp2_with fail
  go_region_o
  go_wp2
  go_roundg (d.size - (k + 1))
  case measure => omega
  case rel =>
   refine ⟨k + 1, q + 1, by omega, by omega, Nat.le_refl _, by go_num, rfl, fun j hj => ?_⟩
   by_cases e : j = k
   rotate_left
   ·exact A.out j (by omega)
   rw [e]
   exact Go.Lib.keeps_pos B.out
 obtain ⟨rfl, rfl⟩ := hxy.1 hdup
 have B := Aside0.mk hdup
 clear hdup hxy
 go_wp2_with fail
 go_region_o
 go_wp2
 clear c1 c2 c3 c4 n0 n1 n2
 go_loopg [3, 5] d.size (fun gk s3 s5 wr => ∃ (kk k2 : Nat) (dk : Array SD), s3 = .int .i64 kk ∧ s5 = .int .i64 k2 ∧ 1 ≤ k2 ∧ k + k2 ≤ d.size ∧ d.size - (k + k2) ≤ gk ∧ Aside0 (SdW w wr g cap dk) ∧ Aside0 (Go.Lib.CompInv d (k + k2) kk dk))
 case atStart => exact ⟨k, 1, d, rfl, rfl, Nat.le_refl _, by omega, by omega, ⟨sd_same HBK.out HH.out _⟩, ⟨Go.Lib.CompInv.start A.out (Go.Lib.keeps_neg (by omega) B.out)⟩⟩
 obtain ⟨kk, k2, dk, rfl, rfl, h1, hle, hg2, HW, HI⟩ := hrel
 have hkk := HI.out.lt
 have hds := HI.out.size
 by_cases hlt2 : k + k2 < d.size
 rotate_left
 ·have hend : k + k2 = d.size := by omega
  have hcl : ∀ ty, (Builtin.clear_ #[62] ty #[.slice (some ⟨g, kk * 2, none⟩) (d.size - kk) (cap - kk)]).run Tryz.prog wr = .ok (.tuple #[]) (wr.setCells g (kk * 2) (Go.Sort.flatK sdEnc 2 (List.replicate (d.size - kk) ((⟨0, by decide⟩, ⟨0, by decide⟩) : SD)).toArray).toList) := fun ty => sd_clear _ ty Tryz.underlying62 Tryz.zeroValue98 HW.out (by omega) (by omega) _
  have n3 : ¬ (k2 : Int) < ((d.size - k : Nat) : Int) := by omega
  have n4 : (kk : Int) ≤ (d.size : Int) := by omega
  have hr := SdW.set HW.out kk (List.replicate (d.size - kk) ((⟨0, by decide⟩, ⟨0, by decide⟩) : SD)) (by simp; omega)
  have HR := Aside0.mk hr
  clear hr
  go_wp2
  go_ret
  have hI := HI.out
  rw [hend] at hI
  obtain ⟨e1, e2⟩ := sd_done hI (sdLay dk kk (List.replicate (d.size - kk) ((⟨0, by decide⟩, ⟨0, by decide⟩) : SD))) (fun j hj => by rw [sdLay_get dk kk _ (by simp; omega) j (by omega), if_neg (by omega)]) (by rw [sdLay_size dk kk _ (by simp; omega)]; exact hds)
  rw [← e1] at e2 ⊢
  exact ⟨by first | rfl | (simp; done), _, (sdLay_size dk kk _ (by simp; omega)).trans hds, e2, HR.out⟩
 obtain ⟨c1, c2⟩ := sd_cells HW.out.2.1 (show k + k2 < dk.size by omega)
 obtain ⟨c3, c4⟩ := sd_cells HW.out.2.1 (show k + k2 - 1 < dk.size by omega)
 obtain ⟨c5, c6⟩ := sd_cells HW.out.2.1 (show kk < dk.size by omega)
 obtain ⟨f5, f6⟩ := sd_free HW.out.2.1 (show kk < dk.size by omega)
 rw [HI.out.high (k + k2) (by omega), show (k + k2) * 2 = k * 2 + k2 * 2 by omega] at c1 c2
 rw [HI.out.high (k + k2 - 1) (by omega), show (k + k2 - 1) * 2 = k * 2 + (k2 - 1) * 2 by omega] at c3 c4
 have n0 : 0 ≤ IntKind.i64.wrap ((k2 : Int) - 1) := by rw [IntKind.wrap_i64]; omega
 have n1 : IntKind.i64.wrap ((k2 : Int) - 1) < ((d.size - k : Nat) : Int) := by rw [IntKind.wrap_i64]; omega
 have n2 : (IntKind.i64.wrap ((k2 : Int) - 1)).toNat = k2 - 1 := by rw [IntKind.wrap_i64]; omega
 have n3 : (k2 : Int) < ((d.size - k : Nat) : Int) := by omega
 have n4 : (kk : Int) < (d.size : Int) := by omega
 obtain ⟨a1, ha1⟩ : ∃ a : Int, a = ((d[k + k2]!).1.val : Int) := ⟨_, rfl⟩
 obtain ⟨a2, ha2⟩ : ∃ a : Int, a = ((d[k + k2]!).2.val : Int) := ⟨_, rfl⟩
 obtain ⟨b1, hb1⟩ : ∃ a : Int, a = ((d[k + k2 - 1]!).1.val : Int) := ⟨_, rfl⟩
 obtain ⟨b2, hb2⟩ : ∃ a : Int, a = ((d[k + k2 - 1]!).2.val : Int) := ⟨_, rfl⟩
 rw [← ha1] at c1
 rw [← ha2] at c2
 rw [← hb1] at c3
 rw [← hb2] at c4
 have hxy := sd_eqI ha1 ha2 hb1 hb2
 have HA := Aside0.mk (And.intro ha1 ha2)
 generalize ((dk[kk]!).1.val : Int) = o1 at c5
 generalize ((dk[kk]!).2.val : Int) = o2 at c6
 clear ha1 ha2 hb1 hb2
 by_cases hdup2 : d[k + k2]! = d[k + k2 - 1]!
 ·obtain ⟨rfl, rfl⟩ := hxy.1 hdup2
  have B2 := Aside0.mk hdup2
  clear hdup2 hxy
  go_wp2_with fail
  go_region_o
  go_wp2
  go_roundg (d.size - (k + (k2 + 1)))
  case measure => omega
  case rel => exact ⟨kk, k2 + 1, dk, rfl, by go_num, by omega, by omega, Nat.le_refl _, ⟨HW.out.drewN _⟩, ⟨HI.out.skip (Go.Lib.keeps_neg (by omega) B2.out)⟩⟩
 have hne := hxy.2 hdup2
 have B2 := Aside0.mk hdup2
 clear hdup2 hxy
 go_wp2_with fail
 go_region_o
 go_wp2
 go_roundg (d.size - (k + (k2 + 1)))
 case measure => omega
 case rel =>
  have HP := sd_put (HW.out.drewN 1) kk (by omega) d[k + k2]!
  rw [← HA.out.1, ← HA.out.2] at HP
  exact ⟨kk + 1, k2 + 1, dk.setIfInBounds kk d[k + k2]!, by go_num, by go_num, by omega, by omega, Nat.le_refl _, ⟨HP⟩, ⟨HI.out.keep hlt2 (Go.Lib.keeps_pos B2.out)⟩⟩
def impl_arranged.f (l : List S98) : Option (List S98) := if l.all sdIn = true ∧ l.length < 4611686018427387904 then some ((sdDd ((l.map sdOf).mergeSort sdLe)).map sdTo) else none
theorem sd_take {d : Array SD} {l : List SD} (h : d.toList.take l.length = l) : l.length ≤ d.size := by
 have := congrArg List.length h
 have hdl : d.toList.length = d.size := Array.length_toList
 rw [List.length_take] at this
 omega
theorem sd_below {w0 w W1 W2 : World} {g : Nat} (hB : Below w0.heap.size w0 w) (h1 : w.grownBy W1 (some g)) (h2 : W1.grownBy W2 (some g)) (hg : w0.heap.size ≤ g) : Below w0.heap.size w0 W2 :=
 ⟨h2.os.trans (h1.os.trans hB.os), h2.tape.trans (h1.tape.trans hB.tape), h2.output.trans (h1.output.trans hB.output), Nat.le_trans hB.size (Nat.le_trans h1.size h2.size), fun k hk => by
  have hne : some k ≠ some g := fun e => by injection e with e; omega
  have hkw := Nat.lt_of_lt_of_le hk hB.size
  rw [h2.block k (Nat.lt_of_lt_of_le hkw h1.size) hne, h1.block k hkw hne, hB.block k hk]⟩
theorem sd_kept {w W1 W2 : World} {g : Nat} {S : Nat → Prop} (h1 : w.grownBy W1 (some g)) (h2 : W1.grownBy W2 (some g)) (hg : S g) : Kept w W2 S :=
 ⟨Nat.le_trans h1.size h2.size, fun i hi hn => by
  have hne : some i ≠ some g := fun e => hn (by injection e with e; exact e ▸ hg)
  rw [h2.block i (Nat.lt_of_lt_of_le hi h1.size) hne, h1.block i hi hne]⟩
theorem impl_arranged.none_ (A : Option Addr) (c : Nat) (w : World) : Calls Tryz.prog 107 #[.slice A 0 c] w fun e w' => e = .returned (.slice A 0 c) ∧ Drawn0 w w' := by
 go_enter Tryz.func107, Tryz.ntmps107
 go_wp2
 go_ret
 exact ⟨by first | rfl | (simp; done), by repeat (first | exact Drawn0.refl _ | apply Drawn0.step)⟩
set_option maxHeartbeats 4000000 in
theorem impl_arranged.calls (P0_ : Nat → Prop) (u9000_ : Value) (l0 : List S98) (r : List S98) (w0 w : World) (hB : Below w0.heap.size w0 w) (ho0 : Kd.R k98 98 w w0.heap.size P0_ u9000_ l0) (h : impl_arranged.f l0 = some r) :
  Calls Tryz.prog 73 #[u9000_] w fun e w' => ∃ v0_ : Value, e = .returned (v0_) ∧ Kd.R k98 98 w' w0.heap.size (fun k_ => (P0_ k_ ∨ w.heap.size ≤ k_)) v0_ r ∧ Below w0.heap.size w0 w' ∧ Kept w w' (fun k_ => P0_ k_) := by
 unfold impl_arranged.f at h
 by_cases hq : l0.all sdIn = true ∧ l0.length < 4611686018427387904
 ·rw [if_pos hq] at h
  obtain rfl := Option.some.inj h
  clear h
  have hlen : ((l0.map sdOf).mergeSort sdLe).length = l0.length := by rw [(List.mergeSort_perm _ _).length_eq, List.length_map]
  by_cases hz : l0 = []
  ·subst hz
   obtain ⟨A, c, rfl⟩ := Kd.R_slice ho0
   have HO := Aside0.mk ho0
   have HB := Aside0.mk hB
   have hs : ∀ W, Calls Tryz.prog 105 #[.slice A 0 c, .func (.func 106) #[] #[]] W fun e w' => e = .returned (.tuple #[]) ∧ w' = W := fun W => AnyF.slices_SortFunc_none sdLays A c _ W
   have e0 : (([] : List S98).map sdOf).mergeSort sdLe = [] := by simp
   rw [e0]
   clear ho0 hB hq hlen e0
   simp only [List.length_nil]
   go_enter Tryz.func73, Tryz.ntmps73
   go_wp2_with (first | (go_at_call 105; (with_reducible refine (hs _).mono ?_); rintro e w1 ⟨rfl, rfl⟩) | (go_at_call 107; (with_reducible refine (impl_arranged.none_ A c _).mono ?_); rintro e w1 ⟨rfl, ⟨nd, rfl⟩⟩))
   go_ret
   exact ⟨_, rfl, by (with_reducible repeat (first | apply Kd.R_alloc | apply Kd.R_drewN | apply Kd.R_drew)); exact Kd.R_mono HO.out (fun _ hk => Or.inl hk), bb_ HB.out, by repeat (first | (with_reducible first | exact Kept.refl _ _ | apply Kept.alloc | apply Kept.drewN | apply Kept.drew) | exact Kept.refl _ _)⟩
  rcases SdBlk.of_R hq.1 ho0 with ⟨_, hz2⟩ | ⟨g, cap, rfl, hgb, hgo, hcl, hcm, hblk, hH⟩
  ·exact absurd hz2 hz
  ·have hsz : ((l0.map sdOf).toArray).size = l0.length := by simp
   have hml : (((l0.map sdOf).mergeSort sdLe).toArray).size = l0.length := by simp
   have eg : ∀ args w, (callFunc 106 args).run Tryz.prog w = .ok (.enter 106 args) w := enters_of Tryz.func106 (by kernel_rfl) rfl
   have hcon := fun (V : World) (h1 : SdBlk V g cap) (h2 : Go.Sort.HoldsK sdEnc 2 V g 0 (l0.map sdOf).toArray) => AnyQ.slices_SortFunc_total sdLays 2 Tryz.isAgg98 Tryz.sizeOf98 sdEnc sdLen sdOne sdCmp sdSWO 106 #[] g 0 cap (l0.map sdOf).toArray V eg (fun m os dk hs x y => sd_cmp x y _) h2 (by obtain ⟨cur, hcur, _⟩ := h1; exact blk_lt hcur) (by rw [hsz]; exact hq.2) sdTot
   simp only [sdLe_lt, hsz, List.toList_toArray] at hcon
   have hsrt : ∀ (V : World), SdBlk V g cap → Go.Sort.HoldsK sdEnc 2 V g 0 (l0.map sdOf).toArray → Calls Tryz.prog 105 #[.slice (some ⟨g, 0, none⟩) l0.length cap, .func (.func 106) #[] #[]] V fun e w' => e = .returned (.tuple #[]) ∧ SdW V w' g cap ((l0.map sdOf).mergeSort sdLe).toArray := fun V h1 h2 => (hcon V h1 h2).mono fun e w' ⟨he, n, os, hw⟩ => ⟨he, by
    subst hw
    exact sd_sorted h1 h2 (by rw [hml, hsz])⟩
   have hcp := fun (W : World) (h1 : SdBlk W g cap) (h2 : Go.Sort.HoldsK sdEnc 2 W g 0 ((l0.map sdOf).mergeSort sdLe).toArray) => sd_compact g cap ((l0.map sdOf).mergeSort sdLe).toArray W h1 h2 (by rw [hml]; have := hq.2; omega) (by rw [hml]; exact hcl)
   simp only [hml, List.toList_toArray] at hcp
   generalize (l0.map sdOf).mergeSort sdLe = M at *
   have HBK := Aside0.mk hblk
   have HHK := Aside0.mk hH
   have HB := Aside0.mk hB
   have HSRT := Aside0.mk hsrt
   have HCP := Aside0.mk hcp
   have HX := Aside0.mk (And.intro hgb (And.intro hgo (And.intro hcl (And.intro hcm hml))))
   clear hcon hsrt hcp hblk hH hB hgb hgo hcl hcm hml hsz hq hlen ho0 hz eg
   go_enter Tryz.func73, Tryz.ntmps73
   go_wp2_with (first | (go_at_call 105; (with_reducible refine (HSRT.out _ ?s1 ?s2).mono ?_); (case s1 => exact HBK.out); (case s2 => exact HHK.out); rintro e w1 ⟨rfl, hs⟩; have HW1 := Aside0.mk (show SdW w w1 g cap M.toArray from hs); clear hs) | (go_at_call 107; (with_reducible refine (HCP.out _ ?s1 ?s2).mono ?_); (case s1 => exact HW1.out.1); (case s2 => exact HW1.out.2.1); rintro e w2 ⟨rfl, d', hd1, hd2, hs⟩; have HW2 := Aside0.mk (And.intro hd1 (And.intro hd2 (show SdW w1 w2 g cap d' from hs))); clear hd1 hd2 hs))
   go_ret
   obtain ⟨hgb, hgo, hcl, hcm, hml⟩ := HX.out
   obtain ⟨hd1, hd2, hs2⟩ := HW2.out
   have hs1 := HW1.out
   have hnl := sd_take hd2
   have hR := SdBlk.R (ok := fun k_ => (P0_ k_ ∨ w.heap.size ≤ k_)) hs2.1 hs2.2.1 (n := (sdDd M).length) (by rw [hd1]; omega) (by rw [hd1]; exact hcl) hcm hgb (Or.inl hgo)
   rw [hd2] at hR
   exact ⟨_, rfl, hR, sd_below HB.out hs1.2.2 hs2.2.2 hgb, sd_kept hs1.2.2 hs2.2.2 hgo⟩
 ·rw [if_neg hq] at h
  cases h

end Go.Proofs.YtimdefbpoddoaaaGreat.PFnVerdicts
-- thin
