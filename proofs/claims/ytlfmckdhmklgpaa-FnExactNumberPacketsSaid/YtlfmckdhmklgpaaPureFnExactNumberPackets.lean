/- The plain statement of the law FnExactNumberPackets: the program's NumberPackets and the reference's give one list, and nothing is shared or turned. No condition. -/
import Derived.Test.YtlfmckdhmklgpaaPFnExactNumberPacketsx
import Derived.Test.YtlfmckdhmklgpaaU
import Derived.Test.YtlfmckdhmklgpaaSaysFnExactNumberPackets
namespace Go.Proofs.Ytlfmckdhmklgpaa.Pure
open Go.RowKit Go.Proofs.Ytlfmckdhmklgpaa.PFnExactNumberPackets Go.Proofs.YtlfmckdhmklgpaaW.PrintWords Go.Proofs.YtlfmckdhmklgpaaW.PrintLast Go.Proofs.YtlfmckdhmklgpaaW.PrintMore Go.Proofs.Ytlfmckdhmklgpaa.U
set_option linter.unusedVariables false
set_option linter.unusedSimpArgs false

/-! ### rdPacket -/
theorem rdI_Packet (pre : List S48) (x : S48) (rest : List S48) : rd_T48 (pre ++ x :: rest) (pre.length : Int) = x := getD_mid pre x rest _

/-! ### NumberPackets -/
def nbL : Int → List S48 → List S48
  | _, [] => []
  | i, x :: l => ⟨i + 1, x.f1, x.f2, x.f3, x.f4⟩ :: nbL (i + 1) l
theorem nbL_len : ∀ (l : List S48) (i : Int), (nbL i l).length = l.length
  | [], _ => rfl
  | x :: l, i => by simp only [nbL, List.length_cons, nbL_len l]
theorem NumberPackets_s_l0 : ∀ (rest pre : List S48), pre.length + rest.length ≤ 1152921504606846976 →
    Ev (fun k => spec_NumberPackets.l0 k (pre ++ rest) (pre.length : Int)) (pre ++ nbL (pre.length : Int) rest)
  | [], pre, hl => by
    refine Ev.suc ?_
    simp only [spec_NumberPackets.l0]
    exact Ev.ite_neg (by simp) (Ev.val (by simp [nbL]))
  | x :: rest, pre, hl => by
    simp only [List.length_cons] at hl
    have h1 : (pre.length : Int) < ((pre ++ x :: rest).length : Int) := by simp only [List.length_append, List.length_cons]; omega
    have hw : wrap64 ((pre.length : Int) + 1) = (pre.length : Int) + 1 := w64 (by omega) (by omega)
    have hs : (pre.length : Int) + 1 = ((pre ++ [(⟨(pre.length : Int) + 1, x.f1, x.f2, x.f3, x.f4⟩ : S48)]).length : Int) := by rw [len_snoc]
    have ih := NumberPackets_s_l0 rest (pre ++ [⟨(pre.length : Int) + 1, x.f1, x.f2, x.f3, x.f4⟩]) (by simp only [List.length_append, List.length_cons, List.length_nil]; omega)
    rw [← hs] at ih
    refine Ev.suc ?_
    simp only [spec_NumberPackets.l0, set_mid, rdI_Packet, hw]
    refine Ev.ite_pos h1 (Ev.ite_pos (by omega) ?_)
    rw [snoc_app pre _ rest]
    refine Ev.eq ih ?_
    simp [nbL]
theorem NumberPackets_s (l : List S48) (h : l.length ≤ 1048576) : Ev (fun k => spec_NumberPackets.f k l) (nbL 0 l) := by
  unfold spec_NumberPackets.f
  refine Ev.bindS rfl (Ev.ite_pos (by simp; omega) ?_)
  exact NumberPackets_s_l0 l [] (by simp; omega)
theorem NumberPackets_i_l0 : ∀ (rest pre acc : List S48), acc.length = pre.length → pre.length + rest.length ≤ 1048576 →
    Ev (fun k => impl_NumberPackets.l0 k acc (pre ++ rest) ((pre ++ rest).length : Int) (pre.length : Int)) (acc ++ nbL (pre.length : Int) rest)
  | [], pre, acc, ha, hl => by
    refine Ev.suc ?_
    simp only [impl_NumberPackets.l0]
    exact Ev.ite_neg (by simp) (Ev.val (by simp [nbL]))
  | x :: rest, pre, acc, ha, hl => by
    simp only [List.length_cons] at hl
    have h1 : (pre.length : Int) < ((pre ++ x :: rest).length : Int) := by simp only [List.length_append, List.length_cons]; omega
    have hw : wrap64 ((pre.length : Int) + 1) = (pre.length : Int) + 1 := w64 (by omega) (by omega)
    have hs : (pre.length : Int) + 1 = ((pre ++ [x]).length : Int) := by rw [len_snoc]
    have ih := NumberPackets_i_l0 rest (pre ++ [x]) (acc ++ [⟨(pre.length : Int) + 1, x.f1, x.f2, x.f3, x.f4⟩]) (by simp [ha]) (by simp only [List.length_append, List.length_cons, List.length_nil]; omega)
    rw [← hs, ← snoc_app pre x rest] at ih
    refine Ev.suc ?_
    simp only [impl_NumberPackets.l0, rdI_Packet, hw]
    refine Ev.ite_pos h1 (Ev.ite_pos (by omega) (Ev.ite_pos h1 (Ev.ite_pos (by omega) ?_)))
    refine Ev.eq ih ?_
    simp [nbL]
theorem NumberPackets_i (l : List S48) (h : l.length ≤ 1048576) : Ev (fun k => impl_NumberPackets.f k l) (nbL 0 l) := by
  unfold impl_NumberPackets.f
  exact NumberPackets_i_l0 l [] [] rfl (by simpa using h)

/-! ### szPacketS -/
theorem szPacketS_f (l : List S76) (n : Int) (hl : l.length ≤ maxLen) (h0 : 0 ≤ n) (h1 : n ≤ 1048576) : laws_szPacketS.f l n = some (if n < (l.length : Int) then -1 else n - (l.length : Int)) := by
  have hm : maxLen = 9223372036854775807 := rfl
  unfold laws_szPacketS.f
  rw [w64 (by omega) (by omega)]
  by_cases h : n < (l.length : Int)
  · rw [if_pos h, if_pos (by omega)]
  · rw [if_neg h, if_neg (by omega)]

/-! ### toPacketS -/
def cvPacket (x : S76) : S48 := ⟨x.f0, x.f1, x.f2, x.f3, x.f4⟩
theorem rdL_Packet (pre : List S76) (x : S76) (rest : List S76) : rd_T76 (pre ++ x :: rest) (pre.length : Int) = x := getD_mid pre x rest _
theorem toPacketS_l0 : ∀ (rest pre : List S76) (z : List S48), z.length = rest.length → pre.length + rest.length ≤ 1152921504606846976 →
    Ev (fun k => laws_toPacketS.l0 k (pre ++ rest) (pre.map cvPacket ++ z) (pre.length : Int)) ((pre ++ rest).map cvPacket)
  | [], pre, z, hz, _ => by
    have : z = [] := List.length_eq_zero_iff.1 hz
    subst this
    refine Ev.suc ?_
    simp only [laws_toPacketS.l0]
    refine Ev.ite_neg (by simp) (Ev.val (by simp))
  | x :: rest, pre, z, hz, hl => by
    obtain ⟨y, z, rfl⟩ : ∃ y z', z = y :: z' := by
      cases z with
      | nil => simp at hz
      | cons y z' => exact ⟨y, z', rfl⟩
    simp only [List.length_cons] at hz hl
    have hset : (pre.map cvPacket ++ y :: z).set ((pre.length : Int)).toNat (cvPacket x) = (pre ++ [x]).map cvPacket ++ z := by
      have h := set_mid (pre.map cvPacket) y (cvPacket x) z
      rw [List.length_map] at h
      rw [h]
      simp
    refine Ev.suc ?_
    simp only [laws_toPacketS.l0, rdL_Packet, laws_toPacket.f, Option.bind_some]
    refine Ev.ite_pos (by simp only [List.length_append, List.length_cons]; omega) ?_
    refine Ev.ite_pos (by omega) ?_
    refine Ev.ite_pos (by simp only [List.length_append, List.length_cons, List.length_map]; omega) ?_
    have hset' := hset
    unfold cvPacket at hset'
    simp only [cvPacket] at hset ⊢
    rw [hset, w64 (by omega) (by omega), ← len_snoc pre x, snoc_app pre x rest]
    exact toPacketS_l0 rest (pre ++ [x]) z (by omega) (by simp only [List.length_append, List.length_cons, List.length_nil]; omega)
theorem toPacketS_f (l : List S76) (h : l.length ≤ 1048576) : Ev (fun k => laws_toPacketS.f k l) (l.map cvPacket) := by
  unfold laws_toPacketS.f
  refine Ev.ite_pos (by omega) ?_
  refine Ev.ite_pos (by omega) ?_
  exact toPacketS_l0 l [] _ (by simp) (by simp; omega)

/-! ### eqPacket -/
theorem eqPacket_f (a0 a1 a2 a3 a4 : Int)  : laws_eqPacket.f a0 a1 a2 a3 a4 a0 a1 a2 a3 a4 = some true := by
  unfold laws_eqPacket.f
  simp

/-! ### eqPacketS -/
theorem eqPacketS_l0 : ∀ (rest pre : List S48), pre.length + rest.length ≤ 1152921504606846976 → Ev (fun k => laws_eqPacketS.l0 k (pre ++ rest) (pre ++ rest) (pre.length : Int)) true
  | [], pre, _ => by
    refine Ev.suc ?_
    simp only [laws_eqPacketS.l0]
    refine Ev.ite_neg (by simp) (Ev.now _)
  | x :: rest, pre, hl => by
    simp only [List.length_cons] at hl
    refine Ev.suc ?_
    simp only [laws_eqPacketS.l0, rdI_Packet, eqPacket_f, Option.bind_some]
    refine Ev.ite_pos (by simp only [List.length_append, List.length_cons]; omega) ?_
    refine Ev.ite_pos (by omega) ?_
    refine Ev.ite_pos (by simp only [List.length_append, List.length_cons]; omega) ?_
    refine Ev.ite_pos trivial ?_
    rw [w64 (by omega) (by omega), ← len_snoc pre x, snoc_app pre x rest]
    exact eqPacketS_l0 rest (pre ++ [x]) (by simp only [List.length_append, List.length_cons, List.length_nil]; omega)
theorem eqPacketS_f (l : List S48) (h : l.length ≤ 1152921504606846976) : Ev (fun k => laws_eqPacketS.f k l l) true := by
  unfold laws_eqPacketS.f
  refine Ev.ite_pos rfl ?_
  exact eqPacketS_l0 l [] (by simpa using h)

/-! ### markPacketS -/
def mkPacket : Int → List S48 → List S48
  | _, [] => []
  | m, _ :: l => (⟨m, m + 1, m + 1 + 1, m + 1 + 1 + 1, m + 1 + 1 + 1 + 1⟩ : S48) :: mkPacket (m + 1 + 1 + 1 + 1 + 1) l
theorem markPacket_l0 : ∀ (rest pre : List S48) (m : Int), pre.length + rest.length ≤ 1099511627776 → 0 ≤ m → m + 5 * (rest.length : Int) ≤ 1152921504606846976 →
    Ev (fun k => laws_markPacketS.l0 k (pre ++ rest) m (pre.length : Int)) (m + 5 * (rest.length : Int), pre ++ mkPacket m rest) ∧
    Ev (fun k => laws_heldPacketS.l0 k (pre ++ mkPacket m rest) m (pre.length : Int)) (m + 5 * (rest.length : Int))
  | [], pre, m, _, _, _ => by
    constructor
    · refine Ev.suc ?_
      simp only [laws_markPacketS.l0]
      exact Ev.ite_neg (by simp) (Ev.val (by simp [mkPacket]))
    · refine Ev.suc ?_
      simp only [laws_heldPacketS.l0]
      exact Ev.ite_neg (by simp [mkPacket]) (Ev.val (by simp))
  | x :: rest, pre, m, hl, h0, hm => by
    simp only [List.length_cons] at hl hm
    have hp : (pre.length : Int) < ((pre ++ x :: rest).length : Int) := by simp only [List.length_append, List.length_cons]; omega
    have hw : wrap64 ((pre.length : Int) + 1) = ((pre ++ [(⟨m, m + 1, m + 1 + 1, m + 1 + 1 + 1, m + 1 + 1 + 1 + 1⟩ : S48)]).length : Int) := by rw [w64 (by omega) (by omega), len_snoc]
    have h1 : wrap64 (m + 1) = m + 1 := w64 (by omega) (by omega)
    have h2 : wrap64 (m + 1 + 1) = m + 1 + 1 := w64 (by omega) (by omega)
    have h3 : wrap64 (m + 1 + 1 + 1) = m + 1 + 1 + 1 := w64 (by omega) (by omega)
    have h4 : wrap64 (m + 1 + 1 + 1 + 1) = m + 1 + 1 + 1 + 1 := w64 (by omega) (by omega)
    have h5 : wrap64 (m + 1 + 1 + 1 + 1 + 1) = m + 1 + 1 + 1 + 1 + 1 := w64 (by omega) (by omega)
    have ih := markPacket_l0 rest (pre ++ [(⟨m, m + 1, m + 1 + 1, m + 1 + 1 + 1, m + 1 + 1 + 1 + 1⟩ : S48)]) (m + 1 + 1 + 1 + 1 + 1) (by simp only [List.length_append, List.length_cons, List.length_nil]; omega) (by omega) (by omega)
    have e : m + 1 + 1 + 1 + 1 + 1 + 5 * (rest.length : Int) = m + 5 * ((x :: rest).length : Int) := by
      simp only [List.length_cons]
      omega
    rw [e] at ih
    have el : pre ++ mkPacket m (x :: rest) = pre ++ (⟨m, m + 1, m + 1 + 1, m + 1 + 1 + 1, m + 1 + 1 + 1 + 1⟩ : S48) :: mkPacket (m + 1 + 1 + 1 + 1 + 1) rest := rfl
    constructor
    · refine Ev.suc ?_
      simp only [laws_markPacketS.l0, set_mid, rdI_Packet, Option.bind_some, h1, h2, h3, h4, h5, hw]
      refine Ev.ite_pos hp (Ev.ite_pos (by omega) ?_)
      rw [el, snoc_app pre _ rest, snoc_app pre _ (mkPacket _ rest)]
      exact ih.1
    · rw [el]
      have hq : (pre.length : Int) < ((pre ++ (⟨m, m + 1, m + 1 + 1, m + 1 + 1 + 1, m + 1 + 1 + 1 + 1⟩ : S48) :: mkPacket (m + 1 + 1 + 1 + 1 + 1) rest).length : Int) := by simp only [List.length_append, List.length_cons]; omega
      refine Ev.suc ?_
      simp only [laws_heldPacketS.l0, rdI_Packet, h1, h2, h3, h4, h5, hw]
      refine Ev.ite_pos hq (Ev.ite_pos (by omega) (Ev.ite_pos (by trivial) (Ev.ite_pos (by trivial) (Ev.ite_pos (by trivial) (Ev.ite_pos (by trivial) (Ev.ite_pos (by trivial) (?_)))))))
      rw [snoc_app pre _ (mkPacket _ rest)]
      exact ih.2
/-- What is marked is held. -/
theorem markPacket_f (l : List S48) (m : Int) (hl : l.length ≤ 1099511627776) (h0 : 0 ≤ m) (h1 : m ≤ 1099511627776) :
    ∃ m' l', m ≤ m' ∧ m' ≤ m + 5 * (l.length : Int) ∧ l'.length = l.length ∧ Ev (fun k => laws_markPacketS.f k l m) (m', l') ∧ Ev (fun k => laws_heldPacketS.f k l' m) m' := by
  have h := markPacket_l0 l [] m (by simpa using hl) h0 (by omega)
  have hlen : ∀ (l : List S48) (m : Int), (mkPacket m l).length = l.length := by
    intro l
    induction l with
    | nil => exact fun _ => rfl
    | cons x l ih => exact fun m => by simp only [mkPacket, List.length_cons, ih]
  refine ⟨m + 5 * (l.length : Int), mkPacket m l, by omega, by omega, hlen l m, ?_, ?_⟩
  · unfold laws_markPacketS.f
    exact h.1
  · unfold laws_heldPacketS.f
    exact h.2

theorem FnExactNumberPackets : FnExactNumberPackets_says := by
  intro l hl
  refine Ev.rounds ?_
  unfold laws_FnExactNumberPackets.f
  simp only [szPacketS_f l 1048576 hl.1 (by omega) (by omega), Option.bind_some]
  refine Ev.ite (fun _ => Ev.now _) (fun h => ?_)
  have hn : l.length ≤ 1048576 := by
    split at h <;> omega
  have hm : (l.map cvPacket).length ≤ 1048576 := by simpa using hn
  have hr : (nbL 0 (l.map cvPacket)).length ≤ 1048576 := by rw [nbL_len]; exact hm
  obtain ⟨m, l', h1, _, _, h2, h3⟩ := markPacket_f (l.map cvPacket) 1 (by omega) (by omega) (by omega)
  obtain ⟨n, r', g1, _, _, g2, g3⟩ := markPacket_f (nbL 0 (l.map cvPacket)) 1 (by omega) (by omega) (by omega)
  refine Ev.bind (toPacketS_f l hn) (Ev.bind (NumberPackets_s _ hm) (Ev.bind (toPacketS_f l hn) (Ev.bind (NumberPackets_i _ hm) (Ev.bind (eqPacketS_f _ (by omega)) (Ev.ite_pos rfl ?_)))))
  refine Ev.bind (toPacketS_f l hn) (Ev.bind (eqPacketS_f _ (by omega)) (Ev.ite_pos rfl ?_))
  refine Ev.bind h2 (Ev.ite_neg (by omega) (Ev.bind (eqPacketS_f _ (by omega)) ?_))
  refine Ev.suc ?_
  simp only [laws_FnExactNumberPackets.j0]
  refine Ev.ite_neg (by simp) (Ev.bind g2 (Ev.bind g3 (Ev.ite_neg (by omega) (Ev.ite_pos rfl ?_))))
  refine Ev.bind (toPacketS_f l hn) (Ev.bind (NumberPackets_i _ hm) (Ev.bind (eqPacketS_f _ (by omega)) (Ev.ite_pos rfl ?_)))
  exact Ev.bind g3 (Ev.ite_neg (by omega) (Ev.ite_pos rfl (Ev.now _)))

end Go.Proofs.Ytlfmckdhmklgpaa.Pure
