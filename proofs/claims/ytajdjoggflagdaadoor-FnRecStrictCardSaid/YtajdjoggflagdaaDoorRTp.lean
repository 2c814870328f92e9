/- What the text of a record is, told by both. -/
import Derived.Test.YtajdjoggflagdaaDoorRTx
import Derived.Test.YtajdjoggflagdaaDoorPTp
namespace Go.Proofs.YtajdjoggflagdaaDoor.T
open Go.RowKit Go.Proofs.YtajdjoggflagdaaDoorW.PrintWords Go.Proofs.YtajdjoggflagdaaDoor.Pr
set_option linter.unusedSimpArgs false
set_option linter.unusedVariables false
/-- A number, as bytes. -/
def decB (n : Int) : ByteArray := ⟨(Lib.itoa n).toArray⟩
theorem decB_dgt (n : Int) (h : 0 ≤ n) : decB n = dgt n := by
  unfold decB dgt Lib.itoa
  rw [if_neg (by omega)]
theorem dec1 {u : Nat} (h : u < 10) : Lib.decDigits u = [UInt8.ofNat (48 + u)] := by rw [Lib.decDigits, dif_pos h]
theorem dec2 {u : Nat} (h : ¬ u < 10) : Lib.decDigits u = Lib.decDigits (u / 10) ++ [UInt8.ofNat (48 + u % 10)] := by rw [Lib.decDigits, dif_neg h]
theorem decLen1 {u : Nat} (h : u < 10) : (Lib.decDigits u).length = 1 := by rw [dec1 h]; rfl
theorem decLen2 {u : Nat} (h : u < 100) : (Lib.decDigits u).length ≤ 2 := by
  by_cases h1 : u < 10
  · rw [decLen1 h1]; omega
  · rw [dec2 h1, List.length_append, decLen1 (by omega)]; simp
theorem decLen3 {u : Nat} (h : u < 1000) : (Lib.decDigits u).length ≤ 3 := by
  by_cases h1 : u < 10
  · rw [decLen1 h1]; omega
  · have := decLen2 (u := u / 10) (by omega)
    rw [dec2 h1, List.length_append]
    simp
    omega
theorem decB_size (n : Int) (h0 : -1 ≤ n) (h1 : n < 1000) : (decB n).size ≤ 3 := by
  show (Lib.itoa n).length ≤ 3
  unfold Lib.itoa
  split
  · rw [show n.natAbs = 1 by omega, List.length_cons, decLen1 (by omega)]; omega
  · exact decLen3 (by omega)
theorem fig (i : Nat) (h : i < 10) : strOfNums [((48 : Int) + (i : Int)) % 256] = ⟨#[UInt8.ofNat (48 + i)]⟩ := by
  have h1 := dec_tab
  rw [List.all_eq_true] at h1
  have h2 := h1 i (by simp; omega)
  rw [beq_iff_eq] at h2
  generalize strOfNums [((48 : Int) + (i : Int)) % 256] = s at h2
  cases s with
  | mk d =>
    congr 1
    exact Array.toList_inj.mp h2
theorem l6Dec_step (n : Nat) (h0 : 10 ≤ n) (h1 : n < 1000) (k : Nat) (h : spec_l6Dec.f k ((n / 10 : Nat) : Int) = some (decB ((n / 10 : Nat) : Int))) : spec_l6Dec.f (k + 1) (n : Int) = some (decB (n : Int)) := by
  have hs := decB_size ((n / 10 : Nat) : Int) (by omega) (by omega)
  have e1 : Int.tdiv (n : Int) 10 = ((n / 10 : Nat) : Int) := by rw [Int.tdiv_eq_ediv_of_nonneg (by omega)]; omega
  have e2 : Int.tmod (n : Int) 10 = ((n % 10 : Nat) : Int) := by rw [Int.tmod_eq_emod_of_nonneg (by omega)]; omega
  rw [spec_l6Dec.f, if_neg (by omega), if_neg (by omega), if_neg (by omega), e1, e2, T.wrap_small (by omega) (by omega), h]
  simp only [Option.bind_some]
  rw [T.wrap_small (by omega) (by omega), fig (n % 10) (by omega), if_pos (by show (decB ((n / 10 : Nat) : Int)).size + 1 ≤ _; omega)]
  congr 1
  rw [decB_dgt _ (by omega), decB_dgt _ (by omega)]
  unfold dgt
  rw [Int.toNat_natCast, Int.toNat_natCast, dec2 (u := n) (by omega)]
  generalize Lib.decDigits (n / 10) = x
  apply ByteArray.ext
  simp
theorem l6Dec_k (n : Int) (h0 : -1 ≤ n) (h1 : n < 1000) (k : Nat) : spec_l6Dec.f (k + 3) n = some (decB n) := by
  by_cases hn : n = -1
  · subst hn
    rw [spec_l6Dec.f, if_neg (by omega), if_pos (by omega), show wrap64 (-(-1)) = 1 from T.wrap_small (by omega) (by omega), l6Dec_one 1 (by omega) (by omega)]
    simp only [Option.bind_some]
    have := dgt_size 1 (by omega) (by omega)
    rw [if_pos (by omega), dgt_one 1 (by omega) (by omega)]
    congr 1
    unfold decB Lib.itoa
    rw [if_pos (by omega), show (-1 : Int).natAbs = 1 from rfl, dec1 (by omega)]
    rfl
  · obtain ⟨m, rfl⟩ : ∃ m : Nat, n = m := ⟨n.toNat, by omega⟩
    by_cases h2 : m < 10
    · rw [l6Dec_one _ (by omega) (by omega), decB_dgt _ (by omega)]
    · refine l6Dec_step m (by omega) (by omega) _ ?_
      by_cases h3 : m / 10 < 10
      · rw [l6Dec_one _ (by omega) (by omega), decB_dgt _ (by omega)]
      · refine l6Dec_step (m / 10) (by omega) (by omega) _ ?_
        rw [l6Dec_one _ (by omega) (by omega), decB_dgt _ (by omega)]
/-- The text of a record, as bytes. -/
def nameB (k : Int) : ByteArray := rdOf ByteArray.empty [(⟨#[]⟩ : ByteArray), (⟨#[112, 117, 116]⟩ : ByteArray), (⟨#[111, 119, 110]⟩ : ByteArray), (⟨#[108, 111, 97, 100]⟩ : ByteArray), (⟨#[100, 111, 110, 101]⟩ : ByteArray), (⟨#[101, 110, 100]⟩ : ByteArray), (⟨#[117, 110, 100, 111]⟩ : ByteArray)] k
def recL (k : Int) (ns : List Int) : List UInt8 := (nameB k).data.toList ++ ns.flatMap (fun x => 32 :: Lib.itoa x)
def recTextB (k tx p s o n pv nx : Int) : ByteArray := if recOkB k tx p s o n pv nx = true then ⟨(recL k [tx, p, s, o, n, pv, nx]).toArray⟩ else ⟨#[]⟩
theorem recOk_small {k tx p s o n pv nx : Int} (h : recOkB k tx p s o n pv nx = true) : (1 ≤ k ∧ k ≤ 6) ∧ (1 ≤ tx ∧ tx ≤ 3) ∧ (0 ≤ p ∧ p ≤ 4) ∧ (-1 ≤ s ∧ s ≤ 2) ∧ (0 ≤ o ∧ o ≤ 9) ∧ (0 ≤ n ∧ n ≤ 9) ∧ (0 ≤ pv ∧ pv ≤ 150) ∧ (0 ≤ nx ∧ nx ≤ 150) := by
  unfold recOkB at h
  simp only [Bool.and_eq_true, inB_iff] at h
  obtain ⟨⟨h1, h2⟩, h3⟩ := h
  split at h1
  · simp only [Bool.and_eq_true, inB_iff, beq_iff_eq] at h1; omega
  split at h1
  · simp only [Bool.and_eq_true, inB_iff, beq_iff_eq] at h1; omega
  split at h1
  · simp only [Bool.and_eq_true, inB_iff, beq_iff_eq] at h1; omega
  split at h1
  · simp only [Bool.and_eq_true, inB_iff, beq_iff_eq] at h1; omega
  split at h1
  · simp only [Bool.and_eq_true, inB_iff, beq_iff_eq] at h1
    split at h1 <;> omega
  · exact absurd h1 (by simp)
theorem name_size (k : Int) (h0 : 1 ≤ k) (h1 : k ≤ 6) : (nameB k).size ≤ 4 := by
  have : k = 1 ∨ k = 2 ∨ k = 3 ∨ k = 4 ∨ k = 5 ∨ k = 6 := by omega
  rcases this with rfl | rfl | rfl | rfl | rfl | rfl <;> decide
theorem size32 : (⟨#[32]⟩ : ByteArray).size = 1 := rfl
theorem spec_RecText_k (k tx p s o n pv nx : Int) (j : Nat) : spec_RecText.f (j + 5) k tx p s o n pv nx = some (recTextB k tx p s o n pv nx) := by
  unfold spec_RecText.f recTextB
  rw [show j + 5 = (j + 3) + 2 from rfl, spec_RecOk_k]
  simp only [Option.bind_some]
  cases ok : recOkB k tx p s o n pv nx with
  | false => rfl
  | true =>
    obtain ⟨hk, htx, hp, hs, ho, hn, hpv, hnx⟩ := recOk_small ok
    rw [if_pos rfl, if_pos rfl]
    show (spec_l2Names.f).bind _ = _
    simp only [spec_l2Names.f, Option.bind_some]
    rw [if_pos (by omega), if_pos (by simp; omega)]
    have hnm := name_size k hk.1 hk.2
    have e : rdOf ByteArray.empty [(⟨#[]⟩ : ByteArray), (⟨#[112, 117, 116]⟩ : ByteArray), (⟨#[111, 119, 110]⟩ : ByteArray), (⟨#[108, 111, 97, 100]⟩ : ByteArray), (⟨#[100, 111, 110, 101]⟩ : ByteArray), (⟨#[101, 110, 100]⟩ : ByteArray), (⟨#[117, 110, 100, 111]⟩ : ByteArray)] k = nameB k := rfl
    simp only [e, show j + 3 + 2 = (j + 2) + 3 from rfl, l6Dec_k tx (by omega) (by omega), l6Dec_k p (by omega) (by omega), l6Dec_k s (by omega) (by omega), l6Dec_k o (by omega) (by omega), l6Dec_k n (by omega) (by omega), l6Dec_k pv (by omega) (by omega), l6Dec_k nx (by omega) (by omega), Option.bind_some, ByteArray.size_append, size32]
    have z1 := decB_size tx (by omega) (by omega)
    have z2 := decB_size p (by omega) (by omega)
    have z3 := decB_size s (by omega) (by omega)
    have z4 := decB_size o (by omega) (by omega)
    have z5 := decB_size n (by omega) (by omega)
    have z6 := decB_size pv (by omega) (by omega)
    have z7 := decB_size nx (by omega) (by omega)
    repeat (rw [if_pos (by omega)])
    congr 1
    unfold recL decB
    apply ByteArray.ext
    simp
theorem itoaO_k (n : Int) (h0 : -1 ≤ n) (h1 : n < 1000) : itoaO n = some (decB n) := by
  unfold itoaO
  rw [if_pos (by omega)]
  rfl
theorem implRT_l (ns : List Int) (hn : ns.length ≤ 7) (hb : ∀ i : Nat, i < ns.length → -1 ≤ rd ns i ∧ rd ns i < 1000) : ∀ (d k i : Nat) (xs : List ByteArray), i + d = ns.length → d < k → xs.length = i + 1 → impl_RecText.l0 k xs ns (ns.length : Int) (i : Int) = joinO (xs ++ (ns.drop i).map decB)
  | 0, k + 1, i, xs, hi, hk, hx => by
    rw [impl_RecText.l0, if_neg (by omega), List.drop_of_length_le (by omega)]
    simp
  | d + 1, k + 1, i, xs, hi, hk, hx => by
    have h2 := hb i (by omega)
    rw [impl_RecText.l0, if_pos (by omega), if_pos (by omega), if_pos (by omega), itoaO_k _ h2.1 h2.2]
    simp only [Option.bind_some]
    rw [if_pos (by omega), T.wrap_small (by omega) (by omega), show (i : Int) + 1 = ((i + 1 : Nat) : Int) by omega, implRT_l ns hn hb d k (i + 1) _ (by omega) (by omega) (by simp [hx]), rd_drop (l := ns) (i := i) (by omega)]
    simp
theorem join_recL (k : Int) (ns : List Int) : Lib.join ((nameB k :: ns.map decB).map (·.data.toList)) [32] = recL k ns := by
  rw [List.map_cons, Lib.join_cons]
  unfold recL Lib.joinTail
  congr 1
  induction ns with
  | nil => rfl
  | cons x ns ih =>
    simp only [List.map_cons, List.flatten_cons, List.flatMap_cons]
    rw [ih]
    rfl
theorem recL_len (k : Int) (h0 : 1 ≤ k) (h1 : k ≤ 6) : ∀ (ns : List Int), (∀ x ∈ ns, -1 ≤ x ∧ x < 1000) → (recL k ns).length ≤ 4 + 4 * ns.length := by
  intro ns
  induction ns with
  | nil => intro _; simpa [recL] using name_size k h0 h1
  | cons x ns ih =>
    intro h
    have h2 := ih (fun y hy => h y (List.mem_cons_of_mem _ hy))
    have h3 := h x List.mem_cons_self
    have h4 : (Lib.itoa x).length ≤ 3 := decB_size x h3.1 h3.2
    unfold recL at h2 ⊢
    simp only [List.length_append, List.flatMap_cons, List.length_cons] at h2 ⊢
    omega
theorem impl_RecText_k (k tx p s o n pv nx : Int) (j : Nat) : impl_RecText.f (j + 8) k tx p s o n pv nx = some (recTextB k tx p s o n pv nx) := by
  unfold impl_RecText.f recTextB impl_RecOk.f
  simp only [Option.bind_some]
  cases ok : recOkB k tx p s o n pv nx with
  | false => rfl
  | true =>
    obtain ⟨hk, htx, hp, hs, ho, hn, hpv, hnx⟩ := recOk_small ok
    rw [if_pos rfl, if_pos rfl]
    simp only [impl_recNames.f, Option.bind_some]
    rw [if_pos (by omega), if_pos (by simp; omega)]
    have e : rdOf ByteArray.empty [(⟨#[]⟩ : ByteArray), (⟨#[112, 117, 116]⟩ : ByteArray), (⟨#[111, 119, 110]⟩ : ByteArray), (⟨#[108, 111, 97, 100]⟩ : ByteArray), (⟨#[100, 111, 110, 101]⟩ : ByteArray), (⟨#[101, 110, 100]⟩ : ByteArray), (⟨#[117, 110, 100, 111]⟩ : ByteArray)] k = nameB k := rfl
    rw [e]
    have hall : ∀ x ∈ [tx, p, s, o, n, pv, nx], -1 ≤ x ∧ x < 1000 := by
      intro x hx
      simp only [List.mem_cons, List.not_mem_nil, or_false] at hx
      omega
    have h1 := implRT_l [tx, p, s, o, n, pv, nx] (by simp) (fun i hi => hall _ (by
      have : rd [tx, p, s, o, n, pv, nx] i = [tx, p, s, o, n, pv, nx][i] := by simp [rd, List.getD_eq_getElem?_getD, List.getElem?_eq_getElem hi]
      rw [this]
      exact List.getElem_mem hi)) 7 (j + 8) 0 [nameB k] rfl (by omega) rfl
    refine Eq.trans h1 ?_
    have h2 := join_recL k [tx, p, s, o, n, pv, nx]
    have h3 := recL_len k hk.1 hk.2 _ hall
    unfold joinO
    rw [show [nameB k] ++ List.map decB (List.drop 0 [tx, p, s, o, n, pv, nx]) = nameB k :: [tx, p, s, o, n, pv, nx].map decB from rfl, h2, if_pos ⟨by simp, by simp, by simp at h3 ⊢; omega⟩]
end Go.Proofs.YtajdjoggflagdaaDoor.T
