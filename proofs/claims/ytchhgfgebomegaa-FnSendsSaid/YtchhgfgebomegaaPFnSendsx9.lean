/- The law's functions as plain functions, and their calls. No condition. -/
import Derived.Test.YtchhgfgebomegaaPFnSendsx0
import Derived.Test.YtchhgfgebomegaaPFnSendsx4
import Derived.Test.YtchhgfgebomegaaPFnSendsx6
import Derived.Test.YtchhgfgebomegaaPFnSendsx8
namespace Go.Proofs.Ytchhgfgebomegaa.PFnSends
open Go.RowKit Go.Proofs.YtchhgfgebomegaaW.PrintWords Go.Proofs.YtchhgfgebomegaaW.PrintLast Go.Proofs.YtchhgfgebomegaaW.PrintMore
attribute [local go_sem] max2_int min2_int max_two min_two max_three min_three max_four min_four
set_option linter.unusedVariables false
set_option maxHeartbeats 8000000
set_option maxRecDepth 100000
set_option linter.unusedSimpArgs false

/-! ### impl_NetOk: function 8 -/
mutual
def impl_NetOk.j0 : Nat → Bool → Int → Int → List Int → List Int → List Int → List (List (S79)) → List Int → List Int → List (List (S79)) → List (List (S79)) → Int → Option (Bool)
 | 0, _, _, _, _, _, _, _, _, _, _, _, _ => none
 | k + 1, x55, x356000, x356001, x356002, x356003, x356004, x356005, x356006, x356007, x356008, x356009, x356010 => if x55 = true then (some false) else (impl_NetOk.l0 k x356005 (x356005.length : Int) 0 x356000 x356001 x356002 x356003 x356004 x356005 x356006 x356007 x356008 x356009 x356010)
def impl_NetOk.l0 : Nat → List (List (S79)) → Int → Int → Int → Int → List Int → List Int → List Int → List (List (S79)) → List Int → List Int → List (List (S79)) → List (List (S79)) → Int → Option (Bool)
 | 0, _, _, _, _, _, _, _, _, _, _, _, _, _, _ => none
 | k + 1, x57, x58, x59, x356000, x356001, x356002, x356003, x356004, x356005, x356006, x356007, x356008, x356009, x356010 => if x59 < x58 then (if 0 ≤ x59 then (if x59 < (x57.length : Int) then (if ((rd_L5 x57 x59).length : Int) > 3 then (some false) else ((impl_ClassOnly.f k (rd_L5 x57 x59) (Int.tmod x59 2)).bind fun t359 => (if (t359.length : Int) = ((rd_L5 x57 x59).length : Int) then ((impl_areFlits.f k x356000 x356001 (rd_L5 x57 x59)).bind fun t362 => (if t362 = true then (impl_NetOk.l0 k x57 x58 (wrap64 (x59 + 1)) x356000 x356001 x356002 x356003 x356004 x356005 x356006 x356007 x356008 x356009 x356010) else (some false))) else (some false)))) else (none)) else (none)) else (impl_NetOk.l1 k x356008 (x356008.length : Int) 0 x356000 x356001 x356002 x356003 x356004 x356005 x356006 x356007 x356008 x356009 x356010)
def impl_NetOk.l1 : Nat → List (List (S79)) → Int → Int → Int → Int → List Int → List Int → List Int → List (List (S79)) → List Int → List Int → List (List (S79)) → List (List (S79)) → Int → Option (Bool)
 | 0, _, _, _, _, _, _, _, _, _, _, _, _, _, _ => none
 | k + 1, x87, x88, x89, x356000, x356001, x356002, x356003, x356004, x356005, x356006, x356007, x356008, x356009, x356010 => if x89 < x88 then (if 0 ≤ x89 then (if x89 < (x87.length : Int) then (if ((rd_L5 x87 x89).length : Int) > 60 then (some false) else ((impl_areFlits.f k x356000 x356001 (rd_L5 x87 x89)).bind fun t364 => (if t364 = true then (impl_NetOk.l1 k x87 x88 (wrap64 (x89 + 1)) x356000 x356001 x356002 x356003 x356004 x356005 x356006 x356007 x356008 x356009 x356010) else (some false)))) else (none)) else (none)) else ((impl_areInside.f k x356006 (-1) 4).bind fun t365 => (if t365 = true then ((impl_areInside.f k x356007 0 9).bind fun t366 => (if t366 = true then ((impl_inside.f x356010 0 1000000).bind fun t367 => (some t367)) else (some false))) else (some false)))
end
def impl_NetOk.f (k : Nat) (a0_0 : Int) (a0_1 : Int) (l0_2 : List Int) (l0_3 : List Int) (l0_4 : List Int) (l0_5 : List (List (S79))) (l0_6 : List Int) (l0_7 : List Int) (l0_8 : List (List (S79))) (l0_9 : List (List (S79))) (a0_10 : Int) : Option (Bool) := (impl_NodeCount.f a0_0 a0_1).bind fun t356 => ((impl_ClassesOk.f k a0_0 a0_1 l0_2 l0_3 l0_4).bind fun t357 => (if t357 = true then (if (l0_5.length : Int) = (wrap64 (10 * t356)) then (if (l0_6.length : Int) = (wrap64 (10 * t356)) then (if (l0_7.length : Int) = (wrap64 (5 * t356)) then (if (l0_8.length : Int) = t356 then (impl_NetOk.j0 k ((l0_9.length : Int) != t356) a0_0 a0_1 l0_2 l0_3 l0_4 l0_5 l0_6 l0_7 l0_8 l0_9 a0_10) else (impl_NetOk.j0 k true a0_0 a0_1 l0_2 l0_3 l0_4 l0_5 l0_6 l0_7 l0_8 l0_9 a0_10)) else (impl_NetOk.j0 k true a0_0 a0_1 l0_2 l0_3 l0_4 l0_5 l0_6 l0_7 l0_8 l0_9 a0_10)) else (impl_NetOk.j0 k true a0_0 a0_1 l0_2 l0_3 l0_4 l0_5 l0_6 l0_7 l0_8 l0_9 a0_10)) else (impl_NetOk.j0 k true a0_0 a0_1 l0_2 l0_3 l0_4 l0_5 l0_6 l0_7 l0_8 l0_9 a0_10)) else (impl_NetOk.j0 k true a0_0 a0_1 l0_2 l0_3 l0_4 l0_5 l0_6 l0_7 l0_8 l0_9 a0_10)))
theorem impl_NetOk.mono_l : ∀ k, (∀ y0 y1 y2 y3 y4 y5 y6 y7 y8 y9 y10 y11, LeO (impl_NetOk.j0 k y0 y1 y2 y3 y4 y5 y6 y7 y8 y9 y10 y11) (impl_NetOk.j0 (k + 1) y0 y1 y2 y3 y4 y5 y6 y7 y8 y9 y10 y11)) ∧ (∀ y0 y1 y2 y3 y4 y5 y6 y7 y8 y9 y10 y11 y12 y13, LeO (impl_NetOk.l0 k y0 y1 y2 y3 y4 y5 y6 y7 y8 y9 y10 y11 y12 y13) (impl_NetOk.l0 (k + 1) y0 y1 y2 y3 y4 y5 y6 y7 y8 y9 y10 y11 y12 y13)) ∧ (∀ y0 y1 y2 y3 y4 y5 y6 y7 y8 y9 y10 y11 y12 y13, LeO (impl_NetOk.l1 k y0 y1 y2 y3 y4 y5 y6 y7 y8 y9 y10 y11 y12 y13) (impl_NetOk.l1 (k + 1) y0 y1 y2 y3 y4 y5 y6 y7 y8 y9 y10 y11 y12 y13))
 | 0 => ⟨fun _ _ _ _ _ _ _ _ _ _ _ _ r h => by simp [impl_NetOk.j0] at h, fun _ _ _ _ _ _ _ _ _ _ _ _ _ _ r h => by simp [impl_NetOk.l0] at h, fun _ _ _ _ _ _ _ _ _ _ _ _ _ _ r h => by simp [impl_NetOk.l1] at h⟩
 | k + 1 => by
  obtain ⟨ih0, ih1, ih2⟩ := impl_NetOk.mono_l k
  refine ⟨?_, ?_, ?_⟩
  ·intro y0 y1 y2 y3 y4 y5 y6 y7 y8 y9 y10 y11
   unfold impl_NetOk.j0
   repeat' (with_reducible first | exact ih0 .. | exact ih1 .. | exact ih2 .. | exact impl_ClassOnly.mono .. | exact impl_ClassesOk.mono .. | exact impl_areFlits.mono .. | exact impl_areInside.mono .. | exact LeO.refl .. | exact LeO.none .. | refine LeO.ite ?_ ?_ | refine LeO.bind ?_ (fun _ => ?_))
  ·intro y0 y1 y2 y3 y4 y5 y6 y7 y8 y9 y10 y11 y12 y13
   unfold impl_NetOk.l0
   repeat' (with_reducible first | exact ih0 .. | exact ih1 .. | exact ih2 .. | exact impl_ClassOnly.mono .. | exact impl_ClassesOk.mono .. | exact impl_areFlits.mono .. | exact impl_areInside.mono .. | exact LeO.refl .. | exact LeO.none .. | refine LeO.ite ?_ ?_ | refine LeO.bind ?_ (fun _ => ?_))
  ·intro y0 y1 y2 y3 y4 y5 y6 y7 y8 y9 y10 y11 y12 y13
   unfold impl_NetOk.l1
   repeat' (with_reducible first | exact ih0 .. | exact ih1 .. | exact ih2 .. | exact impl_ClassOnly.mono .. | exact impl_ClassesOk.mono .. | exact impl_areFlits.mono .. | exact impl_areInside.mono .. | exact LeO.refl .. | exact LeO.none .. | refine LeO.ite ?_ ?_ | refine LeO.bind ?_ (fun _ => ?_))
theorem impl_NetOk.mono : ∀ a0 a1 a2 a3 a4 a5 a6 a7 a8 a9 a10 k, LeO (impl_NetOk.f k a0 a1 a2 a3 a4 a5 a6 a7 a8 a9 a10) (impl_NetOk.f (k + 1) a0 a1 a2 a3 a4 a5 a6 a7 a8 a9 a10) := by
 intro a0 a1 a2 a3 a4 a5 a6 a7 a8 a9 a10 k
 obtain ⟨ih0, ih1, ih2⟩ := impl_NetOk.mono_l k
 unfold impl_NetOk.f
 repeat' (with_reducible first | exact ih0 .. | exact ih1 .. | exact ih2 .. | exact impl_ClassOnly.mono .. | exact impl_ClassesOk.mono .. | exact impl_areFlits.mono .. | exact impl_areInside.mono .. | exact LeO.refl .. | exact LeO.none .. | refine LeO.ite ?_ ?_ | refine LeO.bind ?_ (fun _ => ?_))
theorem impl_NetOk.e0 {P : Prop} (h : P := by
 obtain ⟨hcz_0, hcz_1, hcz_2, hcz_3, hcz_4, hcz_5, hcz_6, hcz_7, hcz_8, hcz_9, hcz_10, hfz_0, hfz_1, hfz_2, hfz_3, hfz_4, hfz_5, hfz_6, hfz_7, hfz_8, hfz_9, hfz_10⟩ := cz11_ BK355.out
 go_wp2_with (first | ((with_reducible refine gate_callee (f := 18) rfl ?_); refine gm_ (some 16) Try.func18 #[.agg #[.int .i64 a0_0, .int .i64 a0_1, .slice A0_2 l0_2.length c0_2], .agg #[.slice A0_3 l0_3.length c0_3, .slice A0_4 l0_4.length c0_4]] rfl ?_; (with_reducible refine (impl_ClassesOk.calls k a0_0 a0_1 _ _ l0_2 _ _ l0_3 _ _ l0_4 _ _ ?side1 HC0_2.out ?side3 HC0_3.out ?side5 HC0_4.out A7.out).mono ?_); (case side1 => exact cb_ HR0_2.out HB.out); (case side3 => exact cb_ HR0_3.out HB.out); (case side5 => exact cb_ HR0_4.out HB.out); rintro e w_0 ⟨rfl, hb⟩; refine ⟨_, rfl, ?_⟩; replace BK355 := kb_ BK355 hb; replace HB := hs_ HB hb; (try clear hb); obtain ⟨hcz_0, hcz_1, hcz_2, hcz_3, hcz_4, hcz_5, hcz_6, hcz_7, hcz_8, hcz_9, hcz_10, hfz_0, hfz_1, hfz_2, hfz_3, hfz_4, hfz_5, hfz_6, hfz_7, hfz_8, hfz_9, hfz_10⟩ := cz11_ BK355.out))
 go_meet
 case rel => exact ⟨_, (true), ef_, H', ⟨kq_⟩, ⟨bq_ BK355.out⟩, ⟨bb_ HB.out⟩⟩) : P := h
theorem impl_NetOk.e1 {P : Prop} (h : P := by
 go_wp2_with (first | (go_at_call 24; (with_reducible refine (impl_ClassOnly.calls k2 _ _ (rd_L5 l0_5 x59_2) (Int.tmod x59_2 2) t359 _ ?side1 HC358_0.out A36.out).mono ?_); (case side1 => exact cb_ HR358_0.out HB.out); rintro e w_0 ⟨v360, rfl, ho0, hb⟩; have HO361 := Aside0.mk (Kd.R_lower ho0 (bz_ HB.out)); replace BK355 := kb_ BK355 hb; replace HB := hs_ HB hb; (try clear hb); (try clear ho0); obtain ⟨Ao45, co45, eo45⟩ := Kd.R_slice HO361.out; subst eo45; obtain ⟨hcz_0, hcz_1, hcz_2, hcz_3, hcz_4, hcz_5, hcz_6, hcz_7, hcz_8, hcz_9, hcz_10, hfz_0, hfz_1, hfz_2, hfz_3, hfz_4, hfz_5, hfz_6, hfz_7, hfz_8, hfz_9, hfz_10⟩ := cz11_ BK355.out) | (go_at_call 25; (with_reducible refine (impl_areFlits.calls k2 a0_0 a0_1 _ _ (rd_L5 l0_5 x59_2) _ _ ?side1 HC358_0.out A38.out).mono ?_); (case side1 => exact cb_ HR358_0.out HB.out); rintro e w_0 ⟨rfl, hb⟩; replace HO361 := rb_ HO361 hb; replace BK355 := kb_ BK355 hb; replace HB := hs_ HB hb; (try clear hb)) | (go_at_call 24; (with_reducible refine (impl_ClassOnly.calls k2 _ _ (rd_L5 l0_5 x59_2) (Int.tmod x59_2 2) t359 _ ?side1 HC358_0.out A36.out).mono ?_); (case side1 => exact cb_ HR358_0.out HB.out); rintro e w_0 ⟨v360, rfl, ho0, hb⟩; have HO361 := Aside0.mk (Kd.R_lower ho0 (bz_ HB.out)); replace BK355 := kb_ BK355 hb; replace HB := hs_ HB hb; (try clear hb); (try clear ho0); obtain ⟨Ao49, co49, eo49⟩ := Kd.R_slice HO361.out; subst eo49))
 go_ret
 exact ⟨fin_, bb_ HB.out⟩) : P := h
theorem impl_NetOk.e2 {P : Prop} (h : P := by
 obtain ⟨hcz_0, hcz_1, hcz_2, hcz_3, hcz_4, hcz_5, hcz_6, hcz_7, hcz_8, hcz_9, hcz_10, hfz_0, hfz_1, hfz_2, hfz_3, hfz_4, hfz_5, hfz_6, hfz_7, hfz_8, hfz_9, hfz_10⟩ := cz11_ BK355.out
 go_wp2_with (first | (go_at_call 25; (with_reducible refine (impl_areFlits.calls k3 a0_0 a0_1 _ _ (rd_L5 l0_8 x89_3) _ _ ?side1 HC363_0.out A55.out).mono ?_); (case side1 => exact cb_ HR363_0.out HB.out); rintro e w_0 ⟨rfl, hb⟩; replace BK355 := kb_ BK355 hb; replace HB := hs_ HB hb; (try clear hb)) | ((with_reducible refine gate_callee (f := 26) rfl ?_); refine gm_ (some 107) Try.func26 #[.slice A0_6 l0_6.length c0_6, .int .i64 (-1), .int .i64 4] rfl ?_; (with_reducible refine (impl_areInside.calls k3 _ _ l0_6 (-1) 4 _ _ ?side1 HC0_6.out A61.out).mono ?_); (case side1 => exact cb_ HR0_6.out HB.out); rintro e w' ⟨rfl, ⟨nd, rfl⟩⟩; refine ⟨_, rfl, ?_⟩) | (go_at_call 26; (with_reducible refine (impl_areInside.calls k3 _ _ l0_7 0 9 _ _ ?side1 HC0_7.out A63.out).mono ?_); (case side1 => exact cb_ HR0_7.out HB.out); rintro e w' ⟨rfl, ⟨nd, rfl⟩⟩) | (go_at_call 27; (with_reducible refine (impl_inside.calls a0_10 0 1000000 t367 _ A65.out).mono ?_); rintro e w' ⟨rfl, ⟨nd, rfl⟩⟩))
 go_ret
 exact ⟨fin_, bb_ HB.out⟩) : P := h
theorem impl_NetOk.calls (k : Nat) (a0_0 : Int) (a0_1 : Int) (A0_2 : Option Addr) (c0_2 : Nat) (l0_2 : List Int) (A0_3 : Option Addr) (c0_3 : Nat) (l0_3 : List Int) (A0_4 : Option Addr) (c0_4 : Nat) (l0_4 : List Int) (A0_5 : Option Addr) (c0_5 : Nat) (l0_5 : List (List (S79))) (A0_6 : Option Addr) (c0_6 : Nat) (l0_6 : List Int) (A0_7 : Option Addr) (c0_7 : Nat) (l0_7 : List Int) (A0_8 : Option Addr) (c0_8 : Nat) (l0_8 : List (List (S79))) (A0_9 : Option Addr) (c0_9 : Nat) (l0_9 : List (List (S79))) (a0_10 : Int) (r : Bool) (w : World) (hr0_2 : Kd.C (Kd.int .i64) w A0_2 l0_2.length l0_2) (hc0_2 : l0_2.length ≤ c0_2) (hr0_3 : Kd.C (Kd.int .i64) w A0_3 l0_3.length l0_3) (hc0_3 : l0_3.length ≤ c0_3) (hr0_4 : Kd.C (Kd.int .i64) w A0_4 l0_4.length l0_4) (hc0_4 : l0_4.length ≤ c0_4) (hr0_5 : Kd.C (Kd.slice 79 k79) w A0_5 l0_5.length l0_5) (hc0_5 : l0_5.length ≤ c0_5) (hr0_6 : Kd.C (Kd.int .i64) w A0_6 l0_6.length l0_6) (hc0_6 : l0_6.length ≤ c0_6) (hr0_7 : Kd.C (Kd.int .i64) w A0_7 l0_7.length l0_7) (hc0_7 : l0_7.length ≤ c0_7) (hr0_8 : Kd.C (Kd.slice 79 k79) w A0_8 l0_8.length l0_8) (hc0_8 : l0_8.length ≤ c0_8) (hr0_9 : Kd.C (Kd.slice 79 k79) w A0_9 l0_9.length l0_9) (hc0_9 : l0_9.length ≤ c0_9) (h : impl_NetOk.f k a0_0 a0_1 l0_2 l0_3 l0_4 l0_5 l0_6 l0_7 l0_8 l0_9 a0_10 = some r) :
  Calls Try.prog 8 #[.agg #[.int .i64 a0_0, .int .i64 a0_1, .slice A0_2 l0_2.length c0_2, .slice A0_3 l0_3.length c0_3, .slice A0_4 l0_4.length c0_4, .slice A0_5 l0_5.length c0_5, .slice A0_6 l0_6.length c0_6, .slice A0_7 l0_7.length c0_7, .slice A0_8 l0_8.length c0_8, .slice A0_9 l0_9.length c0_9, .int .i64 a0_10]] w fun e w' => e = .returned (.bool r) ∧ Below w.heap.size w w' := by
 have hu38 := Try.underlying38
 have hu25 := Try.underlying25
 have hu28 := Try.underlying28
 have hu32 := Try.underlying32
 have HR0_2 := Aside0.mk hr0_2
 have HC0_2 := Aside0.mk hc0_2
 clear hr0_2 hc0_2
 have HR0_3 := Aside0.mk hr0_3
 have HC0_3 := Aside0.mk hc0_3
 clear hr0_3 hc0_3
 have HR0_4 := Aside0.mk hr0_4
 have HC0_4 := Aside0.mk hc0_4
 clear hr0_4 hc0_4
 have HR0_5 := Aside0.mk hr0_5
 have HC0_5 := Aside0.mk hc0_5
 clear hr0_5 hc0_5
 have HR0_6 := Aside0.mk hr0_6
 have HC0_6 := Aside0.mk hc0_6
 clear hr0_6 hc0_6
 have HR0_7 := Aside0.mk hr0_7
 have HC0_7 := Aside0.mk hc0_7
 clear hr0_7 hc0_7
 have HR0_8 := Aside0.mk hr0_8
 have HC0_8 := Aside0.mk hc0_8
 clear hr0_8 hc0_8
 have HR0_9 := Aside0.mk hr0_9
 have HC0_9 := Aside0.mk hc0_9
 clear hr0_9 hc0_9
 have HB := Aside0.mk (Below.refl w.heap.size w)
 have H : ((impl_NodeCount.f a0_0 a0_1).bind fun t356 => ((impl_ClassesOk.f k a0_0 a0_1 l0_2 l0_3 l0_4).bind fun t357 => (if t357 = true then (if (l0_5.length : Int) = (wrap64 (10 * t356)) then (if (l0_6.length : Int) = (wrap64 (10 * t356)) then (if (l0_7.length : Int) = (wrap64 (5 * t356)) then (if (l0_8.length : Int) = t356 then (impl_NetOk.j0 k ((l0_9.length : Int) != t356) a0_0 a0_1 l0_2 l0_3 l0_4 l0_5 l0_6 l0_7 l0_8 l0_9 a0_10) else (impl_NetOk.j0 k true a0_0 a0_1 l0_2 l0_3 l0_4 l0_5 l0_6 l0_7 l0_8 l0_9 a0_10)) else (impl_NetOk.j0 k true a0_0 a0_1 l0_2 l0_3 l0_4 l0_5 l0_6 l0_7 l0_8 l0_9 a0_10)) else (impl_NetOk.j0 k true a0_0 a0_1 l0_2 l0_3 l0_4 l0_5 l0_6 l0_7 l0_8 l0_9 a0_10)) else (impl_NetOk.j0 k true a0_0 a0_1 l0_2 l0_3 l0_4 l0_5 l0_6 l0_7 l0_8 l0_9 a0_10)) else (impl_NetOk.j0 k true a0_0 a0_1 l0_2 l0_3 l0_4 l0_5 l0_6 l0_7 l0_8 l0_9 a0_10)))) = some r := h
 clear h
 obtain ⟨t356, A2, H⟩ := bi_ H
 have HC3 := Aside0.mk H
 clear H
 go_enter Try.func8, Try.ntmps8
 go_upto_region 2 with (first | ((with_reducible refine gate_dst (N := 1) rfl ?_); (try (refine gate_guard (by rfl) ?_; dsimp only)); refine box_event ?hg (N := 1) ?hd (cs := #[.int .i64 a0_0, .int .i64 a0_1, .slice A0_2 l0_2.length c0_2, .slice A0_3 l0_3.length c0_3, .slice A0_4 l0_4.length c0_4, .slice A0_5 l0_5.length c0_5, .slice A0_6 l0_6.length c0_6, .slice A0_7 l0_7.length c0_7, .slice A0_8 l0_8.length c0_8, .slice A0_9 l0_9.length c0_9, .int .i64 a0_10]) (t := 38) ?hr ?_; (case hd => rfl); (case hg => rfl); (case hr => first | (go_simp; done) | (go_simp; rfl)); intro gb355 hg w4 hbox hb; have BK355 := Aside0.mk (hbox); have GW355 := gw_ hg HB; have GE355 := gw_ hg HB; replace HB := hs_ HB hb; clear hb hbox hg; obtain ⟨hcz5_0, hcz5_1, hcz5_2, hcz5_3, hcz5_4, hcz5_5, hcz5_6, hcz5_7, hcz5_8, hcz5_9, hcz5_10, hfz5_0, hfz5_1, hfz5_2, hfz5_3, hfz5_4, hfz5_5, hfz5_6, hfz5_7, hfz5_8, hfz5_9, hfz5_10⟩ := cz11_ BK355.out) | ((with_reducible refine gate_callee (f := 19) rfl ?_); refine gm_ (some 11) Try.func19 #[.agg #[.int .i64 a0_0, .int .i64 a0_1]] rfl ?_; (with_reducible refine (impl_NodeCount.calls a0_0 a0_1 t356 _ A2.out).mono ?_); rintro e w6 ⟨rfl, hb⟩; refine ⟨_, rfl, ?_⟩; replace BK355 := kb_ BK355 hb; replace HB := hs_ HB hb; (try clear hb)))
 (try simp only [Act.put, List.setIfInBounds_toArray, List.set_cons_zero, List.set_cons_succ])
 go_cut [55] (fun v55 wc => ∃ (kq : Nat) (x55_2 : Bool), v55 = .bool x55_2 ∧ Aside0 (impl_NetOk.j0 kq x55_2 a0_0 a0_1 l0_2 l0_3 l0_4 l0_5 l0_6 l0_7 l0_8 l0_9 a0_10 = some r) ∧ Aside0 (kq ≤ k) ∧ Aside0 (wc.heap[gb355]? = some (.cells #[.int .i64 a0_0, .int .i64 a0_1, (.slice A0_2 l0_2.length c0_2), (.slice A0_3 l0_3.length c0_3), (.slice A0_4 l0_4.length c0_4), (.slice A0_5 l0_5.length c0_5), (.slice A0_6 l0_6.length c0_6), (.slice A0_7 l0_7.length c0_7), (.slice A0_8 l0_8.length c0_8), (.slice A0_9 l0_9.length c0_9), .int .i64 a0_10] 38 (0, 0))) ∧ Aside0 (Below w.heap.size w wc))
 case first =>
  have H := HC3.out
  clear HC3
  obtain ⟨t357, A7, H⟩ := bi_ H
  by_cases c8 : t357 = true
  rotate_left
  ·replace c8 := Bool.eq_false_iff.mpr c8
   subst c8
   rw [if_neg (show ¬ (false = true) by decide)] at H
   have H' := Aside0.mk H
   clear H
   exact impl_NetOk.e0
  subst c8
  rw [if_pos rfl] at H
  by_cases c9 : (l0_5.length : Int) = (wrap64 (10 * t356))
  rotate_left
  ·rw [if_neg c9] at H
   have c9b0 : ((l0_5.length : Int) == (wrap64 (10 * t356))) = false := beq_eq_false_iff_ne.mpr c9
   have c9b1 : ((l0_5.length : Int) != (wrap64 (10 * t356))) = true := bne_iff_ne.mpr c9
   (first | rw [c9b0] | (simp only [i64_w, i32_w]; rw [c9b0]) | skip)
   have H' := Aside0.mk H
   clear H
   exact impl_NetOk.e0
  rw [if_pos c9] at H
  have c9b0 : ((l0_5.length : Int) == (wrap64 (10 * t356))) = true := beq_iff_eq.mpr c9
  have c9b1 : ((l0_5.length : Int) != (wrap64 (10 * t356))) = false := bne_eq_false_iff_eq.mpr c9
  clear c9
  (first | rw [c9b0] | (simp only [i64_w, i32_w]; rw [c9b0]) | skip)
  by_cases c10 : (l0_6.length : Int) = (wrap64 (10 * t356))
  rotate_left
  ·rw [if_neg c10] at H
   have c10b0 : ((l0_6.length : Int) == (wrap64 (10 * t356))) = false := beq_eq_false_iff_ne.mpr c10
   have c10b1 : ((l0_6.length : Int) != (wrap64 (10 * t356))) = true := bne_iff_ne.mpr c10
   have H' := Aside0.mk H
   clear H
   exact impl_NetOk.e0
  rw [if_pos c10] at H
  have c10b0 : ((l0_6.length : Int) == (wrap64 (10 * t356))) = true := beq_iff_eq.mpr c10
  have c10b1 : ((l0_6.length : Int) != (wrap64 (10 * t356))) = false := bne_eq_false_iff_eq.mpr c10
  clear c10
  by_cases c11 : (l0_7.length : Int) = (wrap64 (5 * t356))
  rotate_left
  ·rw [if_neg c11] at H
   have c11b0 : ((l0_7.length : Int) == (wrap64 (5 * t356))) = false := beq_eq_false_iff_ne.mpr c11
   have c11b1 : ((l0_7.length : Int) != (wrap64 (5 * t356))) = true := bne_iff_ne.mpr c11
   have H' := Aside0.mk H
   clear H
   exact impl_NetOk.e0
  rw [if_pos c11] at H
  have c11b0 : ((l0_7.length : Int) == (wrap64 (5 * t356))) = true := beq_iff_eq.mpr c11
  have c11b1 : ((l0_7.length : Int) != (wrap64 (5 * t356))) = false := bne_eq_false_iff_eq.mpr c11
  clear c11
  by_cases c12 : (l0_8.length : Int) = t356
  rotate_left
  ·rw [if_neg c12] at H
   have c12b0 : ((l0_8.length : Int) == t356) = false := beq_eq_false_iff_ne.mpr c12
   have c12b1 : ((l0_8.length : Int) != t356) = true := bne_iff_ne.mpr c12
   have H' := Aside0.mk H
   clear H
   exact impl_NetOk.e0
  rw [if_pos c12] at H
  have c12b0 : ((l0_8.length : Int) == t356) = true := beq_iff_eq.mpr c12
  have c12b1 : ((l0_8.length : Int) != t356) = false := bne_eq_false_iff_eq.mpr c12
  clear c12
  have H' := Aside0.mk H
  clear H
  obtain ⟨hcz13_0, hcz13_1, hcz13_2, hcz13_3, hcz13_4, hcz13_5, hcz13_6, hcz13_7, hcz13_8, hcz13_9, hcz13_10, hfz13_0, hfz13_1, hfz13_2, hfz13_3, hfz13_4, hfz13_5, hfz13_6, hfz13_7, hfz13_8, hfz13_9, hfz13_10⟩ := cz11_ BK355.out
  go_wp2_with (first | ((with_reducible refine gate_callee (f := 18) rfl ?_); refine gm_ (some 16) Try.func18 #[.agg #[.int .i64 a0_0, .int .i64 a0_1, .slice A0_2 l0_2.length c0_2], .agg #[.slice A0_3 l0_3.length c0_3, .slice A0_4 l0_4.length c0_4]] rfl ?_; (with_reducible refine (impl_ClassesOk.calls k a0_0 a0_1 _ _ l0_2 _ _ l0_3 _ _ l0_4 true _ ?side1 HC0_2.out ?side3 HC0_3.out ?side5 HC0_4.out A7.out).mono ?_); (case side1 => exact cb_ HR0_2.out HB.out); (case side3 => exact cb_ HR0_3.out HB.out); (case side5 => exact cb_ HR0_4.out HB.out); rintro e w14 ⟨rfl, hb⟩; refine ⟨_, rfl, ?_⟩; replace BK355 := kb_ BK355 hb; replace HB := hs_ HB hb; (try clear hb); obtain ⟨hcz15_0, hcz15_1, hcz15_2, hcz15_3, hcz15_4, hcz15_5, hcz15_6, hcz15_7, hcz15_8, hcz15_9, hcz15_10, hfz15_0, hfz15_1, hfz15_2, hfz15_3, hfz15_4, hfz15_5, hfz15_6, hfz15_7, hfz15_8, hfz15_9, hfz15_10⟩ := cz11_ BK355.out))
  go_meet
  case rel => exact ⟨_, (((l0_9.length : Int) != t356)), ef_, H', ⟨kq_⟩, ⟨bq_ BK355.out⟩, ⟨bb_ HB.out⟩⟩
 case rest =>
  clear HC3
  try clear hcz5_0 hcz5_1 hcz5_10 hcz5_2 hcz5_3 hcz5_4 hcz5_5 hcz5_6 hcz5_7 hcz5_8 hcz5_9 hfz5_0 hfz5_1 hfz5_10 hfz5_2 hfz5_3 hfz5_4 hfz5_5 hfz5_6 hfz5_7 hfz5_8 hfz5_9
  obtain ⟨kq, x55_2, rfl, HA, HJ2, BK355, HB⟩ := hcut
  cases kq with
  | zero => exact absurd HA.out (by simp [impl_NetOk.j0])
  | succ kj2 =>
   have H := HA.out
   clear HA
   simp only [impl_NetOk.j0] at H
   by_cases c30 : x55_2 = true
   ·subst c30
    rw [if_pos rfl] at H
    obtain rfl := Option.some.inj H
    exact impl_NetOk.e1
   ·replace c30 := Bool.eq_false_iff.mpr c30
    subst c30
    rw [if_neg (show ¬ (false = true) by decide)] at H
    have H' := Aside0.mk H
    clear H
    obtain ⟨hcz31_0, hcz31_1, hcz31_2, hcz31_3, hcz31_4, hcz31_5, hcz31_6, hcz31_7, hcz31_8, hcz31_9, hcz31_10, hfz31_0, hfz31_1, hfz31_2, hfz31_3, hfz31_4, hfz31_5, hfz31_6, hfz31_7, hfz31_8, hfz31_9, hfz31_10⟩ := cz11_ BK355.out
    go_wp2
    go_loopg [59] kj2 (fun kq v59 w' => ∃ (x59_2 : Int), v59 = .int .i64 x59_2 ∧ Aside0 (impl_NetOk.l0 kq l0_5 (l0_5.length : Int) x59_2 a0_0 a0_1 l0_2 l0_3 l0_4 l0_5 l0_6 l0_7 l0_8 l0_9 a0_10 = some r) ∧ Aside0 (kq ≤ kj2) ∧ Aside0 (w'.heap[gb355]? = some (.cells #[.int .i64 a0_0, .int .i64 a0_1, (.slice A0_2 l0_2.length c0_2), (.slice A0_3 l0_3.length c0_3), (.slice A0_4 l0_4.length c0_4), (.slice A0_5 l0_5.length c0_5), (.slice A0_6 l0_6.length c0_6), (.slice A0_7 l0_7.length c0_7), (.slice A0_8 l0_8.length c0_8), (.slice A0_9 l0_9.length c0_9), .int .i64 a0_10] 38 (0, 0))) ∧ Aside0 (Below w.heap.size w w'))
    case atStart => exact ⟨(0), ef_, H', ⟨Nat.le_refl _⟩, ⟨bq_ BK355.out⟩, ⟨bb_ HB.out⟩⟩
    clear H'
    try clear c30
    try clear hcz31_0 hcz31_1 hcz31_10 hcz31_2 hcz31_3 hcz31_4 hcz31_5 hcz31_6 hcz31_7 hcz31_8 hcz31_9 hfz31_0 hfz31_1 hfz31_10 hfz31_2 hfz31_3 hfz31_4 hfz31_5 hfz31_6 hfz31_7 hfz31_8 hfz31_9
    try clear hcz5_0 hcz5_1 hcz5_10 hcz5_2 hcz5_3 hcz5_4 hcz5_5 hcz5_6 hcz5_7 hcz5_8 hcz5_9 hfz5_0 hfz5_1 hfz5_10 hfz5_2 hfz5_3 hfz5_4 hfz5_5 hfz5_6 hfz5_7 hfz5_8 hfz5_9
    obtain ⟨x59_2, rfl, HA, HK2, BK355, HB⟩ := hrel
    obtain _ | k2 := gk
    ·exact absurd HA.out (by simp [impl_NetOk.l0])
    have H := HA.out
    clear HA
    simp only [impl_NetOk.l0] at H
    by_cases c32 : x59_2 < (l0_5.length : Int)
    ·rw [if_pos c32] at H
     have c32b0 : decide (x59_2 < (l0_5.length : Int)) = true := decide_eq_true c32
     clear c32
     by_cases c33 : 0 ≤ x59_2
     rotate_left
     ·rw [if_neg c33] at H
      exact absurd H (by simp)
     rw [if_pos c33] at H
     have c33b0 : decide (0 ≤ x59_2) = true := decide_eq_true c33
     clear c33
     by_cases c34 : x59_2 < (l0_5.length : Int)
     rotate_left
     ·rw [if_neg c34] at H
      exact absurd H (by simp)
     rw [if_pos c34] at H
     have c34b0 : decide (x59_2 < (l0_5.length : Int)) = true := decide_eq_true c34
     clear c34
     by_cases c35 : ((rd_L5 l0_5 x59_2).length : Int) > 3
     ·rw [if_pos c35] at H
      have c35b0 : decide (3 < ((rd_L5 l0_5 x59_2).length : Int)) = true := decide_eq_true c35
      have c35b1 : decide (3 < (rd_L5 l0_5 x59_2).length) = true := decide_eq_true (by omega)
      clear c35
      obtain rfl := Option.some.inj H
      have p358 : 0 ≤ (x59_2 : Int) := of_decide_eq_true dg_
      have q358 : x59_2 < (l0_5.length : Int) := of_decide_eq_true dg_
      obtain ⟨ad358, A358_0, c358_0, e358, hx358_0, hl358_0, hi358_0⟩ := at_L5 HR0_5.out x59_2 p358 q358
      cases e358
      replace hx358_0 := hc_ HB hx358_0
      have HR358_0 := Aside0.mk hi358_0
      have HC358_0 := Aside0.mk hl358_0
      clear hi358_0 hl358_0
      replace p358 := eq_true p358
      replace q358 := eq_true q358
      exact impl_NetOk.e1
     rw [if_neg c35] at H
     have c35b0 : decide (3 < ((rd_L5 l0_5 x59_2).length : Int)) = false := decide_eq_false c35
     have c35b1 : decide (3 < (rd_L5 l0_5 x59_2).length) = false := decide_eq_false (by omega)
     clear c35
     obtain ⟨t359, A36, H⟩ := bi_ H
     by_cases c37 : (t359.length : Int) = ((rd_L5 l0_5 x59_2).length : Int)
     rotate_left
     ·rw [if_neg c37] at H
      have c37b0 : ((t359.length : Int) == ((rd_L5 l0_5 x59_2).length : Int)) = false := beq_eq_false_iff_ne.mpr c37
      have c37b1 : ((t359.length : Int) != ((rd_L5 l0_5 x59_2).length : Int)) = true := bne_iff_ne.mpr c37
      have c37b2 : (t359.length == (rd_L5 l0_5 x59_2).length) = false := by first | simpa using c37 | (simp at c37 ⊢; omega)
      obtain rfl := Option.some.inj H
      have p358 : 0 ≤ (x59_2 : Int) := of_decide_eq_true dg_
      have q358 : x59_2 < (l0_5.length : Int) := of_decide_eq_true dg_
      obtain ⟨ad358, A358_0, c358_0, e358, hx358_0, hl358_0, hi358_0⟩ := at_L5 HR0_5.out x59_2 p358 q358
      cases e358
      replace hx358_0 := hc_ HB hx358_0
      have HR358_0 := Aside0.mk hi358_0
      have HC358_0 := Aside0.mk hl358_0
      clear hi358_0 hl358_0
      replace p358 := eq_true p358
      replace q358 := eq_true q358
      exact impl_NetOk.e1
     rw [if_pos c37] at H
     have c37b0 : ((t359.length : Int) == ((rd_L5 l0_5 x59_2).length : Int)) = true := beq_iff_eq.mpr c37
     have c37b1 : ((t359.length : Int) != ((rd_L5 l0_5 x59_2).length : Int)) = false := bne_eq_false_iff_eq.mpr c37
     have c37b2 : (t359.length == (rd_L5 l0_5 x59_2).length) = true := by first | simpa using c37 | (simp at c37 ⊢; omega)
     clear c37
     obtain ⟨t362, A38, H⟩ := bi_ H
     by_cases c39 : t362 = true
     rotate_left
     ·replace c39 := Bool.eq_false_iff.mpr c39
      subst c39
      rw [if_neg (show ¬ (false = true) by decide)] at H
      obtain rfl := Option.some.inj H
      have p358 : 0 ≤ (x59_2 : Int) := of_decide_eq_true dg_
      have q358 : x59_2 < (l0_5.length : Int) := of_decide_eq_true dg_
      obtain ⟨ad358, A358_0, c358_0, e358, hx358_0, hl358_0, hi358_0⟩ := at_L5 HR0_5.out x59_2 p358 q358
      cases e358
      replace hx358_0 := hc_ HB hx358_0
      have HR358_0 := Aside0.mk hi358_0
      have HC358_0 := Aside0.mk hl358_0
      clear hi358_0 hl358_0
      replace p358 := eq_true p358
      replace q358 := eq_true q358
      exact impl_NetOk.e1
     subst c39
     rw [if_pos rfl] at H
     have H' := Aside0.mk H
     clear H
     have p358 : 0 ≤ (x59_2 : Int) := of_decide_eq_true dg_
     have q358 : x59_2 < (l0_5.length : Int) := of_decide_eq_true dg_
     obtain ⟨ad358, A358_0, c358_0, e358, hx358_0, hl358_0, hi358_0⟩ := at_L5 HR0_5.out x59_2 p358 q358
     cases e358
     replace hx358_0 := hc_ HB hx358_0
     have HR358_0 := Aside0.mk hi358_0
     have HC358_0 := Aside0.mk hl358_0
     clear hi358_0 hl358_0
     replace p358 := eq_true p358
     replace q358 := eq_true q358
     go_wp2_with (first | (go_at_call 24; (with_reducible refine (impl_ClassOnly.calls k2 _ _ (rd_L5 l0_5 x59_2) (Int.tmod x59_2 2) t359 _ ?side1 HC358_0.out A36.out).mono ?_); (case side1 => exact cb_ HR358_0.out HB.out); rintro e w40 ⟨v360, rfl, ho0, hb⟩; have HO361 := Aside0.mk (Kd.R_lower ho0 (bz_ HB.out)); replace BK355 := kb_ BK355 hb; replace HB := hs_ HB hb; (try clear hb); (try clear ho0); obtain ⟨Ao41, co41, eo41⟩ := Kd.R_slice HO361.out; subst eo41; obtain ⟨hcz42_0, hcz42_1, hcz42_2, hcz42_3, hcz42_4, hcz42_5, hcz42_6, hcz42_7, hcz42_8, hcz42_9, hcz42_10, hfz42_0, hfz42_1, hfz42_2, hfz42_3, hfz42_4, hfz42_5, hfz42_6, hfz42_7, hfz42_8, hfz42_9, hfz42_10⟩ := cz11_ BK355.out) | (go_at_call 25; (with_reducible refine (impl_areFlits.calls k2 a0_0 a0_1 _ _ (rd_L5 l0_5 x59_2) true _ ?side1 HC358_0.out A38.out).mono ?_); (case side1 => exact cb_ HR358_0.out HB.out); rintro e w43 ⟨rfl, hb⟩; replace HO361 := rb_ HO361 hb; replace BK355 := kb_ BK355 hb; replace HB := hs_ HB hb; (try clear hb)))
     go_roundg k2
     case measure => have := HJ2.out; have := HK2.out; omega
     case rel => exact ⟨(wrap64 (x59_2 + 1)), ef_, H', ⟨by have := HJ2.out; have := HK2.out; omega⟩, ⟨bq_ BK355.out⟩, ⟨bb_ HB.out⟩⟩
    rw [if_neg c32] at H
    have c32b0 : decide (x59_2 < (l0_5.length : Int)) = false := decide_eq_false c32
    clear c32
    have H' := Aside0.mk H
    clear H
    obtain ⟨hcz50_0, hcz50_1, hcz50_2, hcz50_3, hcz50_4, hcz50_5, hcz50_6, hcz50_7, hcz50_8, hcz50_9, hcz50_10, hfz50_0, hfz50_1, hfz50_2, hfz50_3, hfz50_4, hfz50_5, hfz50_6, hfz50_7, hfz50_8, hfz50_9, hfz50_10⟩ := cz11_ BK355.out
    go_wp2
    go_loopg [89] k2 (fun kq v89 w' => ∃ (x89_3 : Int), v89 = .int .i64 x89_3 ∧ Aside0 (impl_NetOk.l1 kq l0_8 (l0_8.length : Int) x89_3 a0_0 a0_1 l0_2 l0_3 l0_4 l0_5 l0_6 l0_7 l0_8 l0_9 a0_10 = some r) ∧ Aside0 (kq ≤ k2) ∧ Aside0 (w'.heap[gb355]? = some (.cells #[.int .i64 a0_0, .int .i64 a0_1, (.slice A0_2 l0_2.length c0_2), (.slice A0_3 l0_3.length c0_3), (.slice A0_4 l0_4.length c0_4), (.slice A0_5 l0_5.length c0_5), (.slice A0_6 l0_6.length c0_6), (.slice A0_7 l0_7.length c0_7), (.slice A0_8 l0_8.length c0_8), (.slice A0_9 l0_9.length c0_9), .int .i64 a0_10] 38 (0, 0))) ∧ Aside0 (Below w.heap.size w w'))
    case atStart => exact ⟨(0), ef_, H', ⟨Nat.le_refl _⟩, ⟨bq_ BK355.out⟩, ⟨bb_ HB.out⟩⟩
    clear H'
    try clear c30
    try clear c32
    try clear c32b0
    try clear hcz31_0 hcz31_1 hcz31_10 hcz31_2 hcz31_3 hcz31_4 hcz31_5 hcz31_6 hcz31_7 hcz31_8 hcz31_9 hfz31_0 hfz31_1 hfz31_10 hfz31_2 hfz31_3 hfz31_4 hfz31_5 hfz31_6 hfz31_7 hfz31_8 hfz31_9
    try clear hcz50_0 hcz50_1 hcz50_10 hcz50_2 hcz50_3 hcz50_4 hcz50_5 hcz50_6 hcz50_7 hcz50_8 hcz50_9 hfz50_0 hfz50_1 hfz50_10 hfz50_2 hfz50_3 hfz50_4 hfz50_5 hfz50_6 hfz50_7 hfz50_8 hfz50_9
    try clear hcz5_0 hcz5_1 hcz5_10 hcz5_2 hcz5_3 hcz5_4 hcz5_5 hcz5_6 hcz5_7 hcz5_8 hcz5_9 hfz5_0 hfz5_1 hfz5_10 hfz5_2 hfz5_3 hfz5_4 hfz5_5 hfz5_6 hfz5_7 hfz5_8 hfz5_9
    obtain ⟨x89_3, rfl, HA, HK3, BK355, HB⟩ := hrel
    obtain _ | k3 := gk
    ·exact absurd HA.out (by simp [impl_NetOk.l1])
    have H := HA.out
    clear HA
    simp only [impl_NetOk.l1] at H
    by_cases c51 : x89_3 < (l0_8.length : Int)
    rotate_left
    ·rw [if_neg c51] at H
     have c51b0 : decide (x89_3 < (l0_8.length : Int)) = false := decide_eq_false c51
     clear c51
     obtain ⟨t365, A61, H⟩ := bi_ H
     by_cases c62 : t365 = true
     rotate_left
     ·replace c62 := Bool.eq_false_iff.mpr c62
      subst c62
      rw [if_neg (show ¬ (false = true) by decide)] at H
      obtain rfl := Option.some.inj H
      exact impl_NetOk.e2
     subst c62
     rw [if_pos rfl] at H
     obtain ⟨t366, A63, H⟩ := bi_ H
     by_cases c64 : t366 = true
     rotate_left
     ·replace c64 := Bool.eq_false_iff.mpr c64
      subst c64
      rw [if_neg (show ¬ (false = true) by decide)] at H
      obtain rfl := Option.some.inj H
      exact impl_NetOk.e2
     subst c64
     rw [if_pos rfl] at H
     obtain ⟨t367, A65, H⟩ := bi_ H
     obtain rfl := Option.some.inj H
     exact impl_NetOk.e2
    rw [if_pos c51] at H
    have c51b0 : decide (x89_3 < (l0_8.length : Int)) = true := decide_eq_true c51
    clear c51
    by_cases c52 : 0 ≤ x89_3
    rotate_left
    ·rw [if_neg c52] at H
     exact absurd H (by simp)
    rw [if_pos c52] at H
    have c52b0 : decide (0 ≤ x89_3) = true := decide_eq_true c52
    clear c52
    by_cases c53 : x89_3 < (l0_8.length : Int)
    rotate_left
    ·rw [if_neg c53] at H
     exact absurd H (by simp)
    rw [if_pos c53] at H
    have c53b0 : decide (x89_3 < (l0_8.length : Int)) = true := decide_eq_true c53
    clear c53
    by_cases c54 : ((rd_L5 l0_8 x89_3).length : Int) > 60
    ·rw [if_pos c54] at H
     have c54b0 : decide (60 < ((rd_L5 l0_8 x89_3).length : Int)) = true := decide_eq_true c54
     have c54b1 : decide (60 < (rd_L5 l0_8 x89_3).length) = true := decide_eq_true (by omega)
     clear c54
     obtain rfl := Option.some.inj H
     have p363 : 0 ≤ (x89_3 : Int) := of_decide_eq_true dg_
     have q363 : x89_3 < (l0_8.length : Int) := of_decide_eq_true dg_
     obtain ⟨ad363, A363_0, c363_0, e363, hx363_0, hl363_0, hi363_0⟩ := at_L5 HR0_8.out x89_3 p363 q363
     cases e363
     replace hx363_0 := hc_ HB hx363_0
     have HR363_0 := Aside0.mk hi363_0
     have HC363_0 := Aside0.mk hl363_0
     clear hi363_0 hl363_0
     replace p363 := eq_true p363
     replace q363 := eq_true q363
     exact impl_NetOk.e1
    rw [if_neg c54] at H
    have c54b0 : decide (60 < ((rd_L5 l0_8 x89_3).length : Int)) = false := decide_eq_false c54
    have c54b1 : decide (60 < (rd_L5 l0_8 x89_3).length) = false := decide_eq_false (by omega)
    clear c54
    obtain ⟨t364, A55, H⟩ := bi_ H
    by_cases c56 : t364 = true
    rotate_left
    ·replace c56 := Bool.eq_false_iff.mpr c56
     subst c56
     rw [if_neg (show ¬ (false = true) by decide)] at H
     obtain rfl := Option.some.inj H
     have p363 : 0 ≤ (x89_3 : Int) := of_decide_eq_true dg_
     have q363 : x89_3 < (l0_8.length : Int) := of_decide_eq_true dg_
     obtain ⟨ad363, A363_0, c363_0, e363, hx363_0, hl363_0, hi363_0⟩ := at_L5 HR0_8.out x89_3 p363 q363
     cases e363
     replace hx363_0 := hc_ HB hx363_0
     have HR363_0 := Aside0.mk hi363_0
     have HC363_0 := Aside0.mk hl363_0
     clear hi363_0 hl363_0
     replace p363 := eq_true p363
     replace q363 := eq_true q363
     exact impl_NetOk.e2
    subst c56
    rw [if_pos rfl] at H
    have H' := Aside0.mk H
    clear H
    have p363 : 0 ≤ (x89_3 : Int) := of_decide_eq_true dg_
    have q363 : x89_3 < (l0_8.length : Int) := of_decide_eq_true dg_
    obtain ⟨ad363, A363_0, c363_0, e363, hx363_0, hl363_0, hi363_0⟩ := at_L5 HR0_8.out x89_3 p363 q363
    cases e363
    replace hx363_0 := hc_ HB hx363_0
    have HR363_0 := Aside0.mk hi363_0
    have HC363_0 := Aside0.mk hl363_0
    clear hi363_0 hl363_0
    replace p363 := eq_true p363
    replace q363 := eq_true q363
    obtain ⟨hcz57_0, hcz57_1, hcz57_2, hcz57_3, hcz57_4, hcz57_5, hcz57_6, hcz57_7, hcz57_8, hcz57_9, hcz57_10, hfz57_0, hfz57_1, hfz57_2, hfz57_3, hfz57_4, hfz57_5, hfz57_6, hfz57_7, hfz57_8, hfz57_9, hfz57_10⟩ := cz11_ BK355.out
    go_wp2_with (first | (go_at_call 25; (with_reducible refine (impl_areFlits.calls k3 a0_0 a0_1 _ _ (rd_L5 l0_8 x89_3) true _ ?side1 HC363_0.out A55.out).mono ?_); (case side1 => exact cb_ HR363_0.out HB.out); rintro e w58 ⟨rfl, hb⟩; replace BK355 := kb_ BK355 hb; replace HB := hs_ HB hb; (try clear hb)))
    go_roundg k3
    case measure => have := HJ2.out; have := HK2.out; have := HK3.out; omega
    case rel => exact ⟨(wrap64 (x89_3 + 1)), ef_, H', ⟨by have := HJ2.out; have := HK2.out; have := HK3.out; omega⟩, ⟨bq_ BK355.out⟩, ⟨bb_ HB.out⟩⟩

end Go.Proofs.Ytchhgfgebomegaa.PFnSends
-- thin
