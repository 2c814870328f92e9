/- The texts of records tell a record's own. -/
import Derived.Test.YtajdjoggflagdaaDoorRTp
namespace Go.Proofs.YtajdjoggflagdaaDoor.T
open Go.RowKit Go.Proofs.YtajdjoggflagdaaDoorW.PrintWords Go.Proofs.YtajdjoggflagdaaDoor.Pr
set_option linter.unusedSimpArgs false
set_option linter.unusedVariables false
theorem toList_mkR (l : List UInt8) : (⟨l.toArray⟩ : ByteArray).toList = l := by simp
theorem ofNat_dig {i : Nat} (h : i < 10) : (UInt8.ofNat (48 + i)).toNat = 48 + i := by
  simp only [UInt8.toNat_ofNat']
  omega
theorem dec_mem : ∀ (u : Nat) (x : UInt8), x ∈ Lib.decDigits u → 48 ≤ x.toNat := by
  intro u
  induction u using Nat.strongRecOn with
  | ind u ih =>
    intro x hx
    by_cases h : u < 10
    · rw [dec1 h] at hx
      simp only [List.mem_singleton] at hx
      subst hx
      rw [ofNat_dig h]; omega
    · rw [dec2 h] at hx
      rcases List.mem_append.mp hx with hx | hx
      · exact ih (u / 10) (by omega) x hx
      · simp only [List.mem_singleton] at hx
        subst hx
        rw [ofNat_dig (by omega)]; omega
def valL (l : List UInt8) : Nat := l.foldl (fun a c => 10 * a + (c.toNat - 48)) 0
theorem val_dec : ∀ u : Nat, valL (Lib.decDigits u) = u := by
  intro u
  induction u using Nat.strongRecOn with
  | ind u ih =>
    by_cases h : u < 10
    · rw [dec1 h]
      show 10 * 0 + ((UInt8.ofNat (48 + u)).toNat - 48) = u
      rw [ofNat_dig h]; omega
    · have := ih (u / 10) (by omega)
      unfold valL at this ⊢
      rw [dec2 h, List.foldl_append, this]
      show 10 * (u / 10) + ((UInt8.ofNat (48 + u % 10)).toNat - 48) = u
      rw [ofNat_dig (by omega)]; omega
theorem itoa_no32 (n : Int) : (32 : UInt8) ∉ Lib.itoa n := by
  unfold Lib.itoa
  intro h
  split at h
  · rcases List.mem_cons.mp h with h | h
    · exact absurd h (by decide)
    · exact absurd (dec_mem _ _ h) (by decide)
  · exact absurd (dec_mem _ _ h) (by decide)
theorem itoa_inj {n m : Int} (h : Lib.itoa n = Lib.itoa m) : n = m := by
  unfold Lib.itoa at h
  split at h
  · split at h
    · injection h with _ h
      have := congrArg valL h
      rw [val_dec, val_dec] at this
      omega
    · have h2 : (45 : UInt8) ∈ Lib.decDigits m.toNat := by rw [← h]; exact List.mem_cons_self
      exact absurd (dec_mem _ _ h2) (by decide)
  · split at h
    · have h2 : (45 : UInt8) ∈ Lib.decDigits n.toNat := by rw [h]; exact List.mem_cons_self
      exact absurd (dec_mem _ _ h2) (by decide)
    · have := congrArg valL h
      rw [val_dec, val_dec] at this
      omega
theorem word_split : ∀ {x x' y y' : List UInt8}, (32 : UInt8) ∉ x → (32 : UInt8) ∉ x' → x ++ 32 :: y = x' ++ 32 :: y' → x = x' ∧ y = y'
  | [], [], y, y', _, _, h => by
    injection h with _ h
    exact ⟨rfl, h⟩
  | [], c :: x', y, y', _, h2, h => by
    injection h with h _
    exact absurd (h ▸ List.mem_cons_self) h2
  | c :: x, [], y, y', h1, _, h => by
    injection h with h _
    exact absurd (h ▸ List.mem_cons_self) h1
  | c :: x, c' :: x', y, y', h1, h2, h => by
    injection h with h h3
    obtain ⟨rfl, rfl⟩ := word_split (fun hh => h1 (List.mem_cons_of_mem _ hh)) (fun hh => h2 (List.mem_cons_of_mem _ hh)) h3
    exact ⟨by rw [h], rfl⟩
theorem nums_inj : ∀ {ns ms : List Int}, ns.length = ms.length → ns ≠ [] → (Lib.itoa ns.head! ++ (ns.tail).flatMap (fun x => 32 :: Lib.itoa x)) = (Lib.itoa ms.head! ++ (ms.tail).flatMap (fun x => 32 :: Lib.itoa x)) → ns = ms
  | [], _, _, h, _ => absurd rfl h
  | [n], [m], _, _, h => by
    simp only [List.head!, List.tail, List.flatMap_nil, List.append_nil] at h
    rw [itoa_inj h]
  | n :: n2 :: ns, m :: m2 :: ms, hl, _, h => by
    simp only [List.head!, List.tail, List.flatMap_cons, List.cons_append] at h
    obtain ⟨h1, h2⟩ := word_split (itoa_no32 n) (itoa_no32 m) h
    rw [itoa_inj h1, nums_inj (ns := n2 :: ns) (ms := m2 :: ms) (by simpa using hl) (by simp) h2]
theorem name_no32 (k : Int) (h0 : 1 ≤ k) (h1 : k ≤ 6) : (32 : UInt8) ∉ (nameB k).data.toList := by
  have : k = 1 ∨ k = 2 ∨ k = 3 ∨ k = 4 ∨ k = 5 ∨ k = 6 := by omega
  rcases this with rfl | rfl | rfl | rfl | rfl | rfl <;> decide
theorem name_inj (k m : Int) (h0 : 1 ≤ k) (h1 : k ≤ 6) (h2 : 1 ≤ m) (h3 : m ≤ 6) (h : (nameB k).data.toList = (nameB m).data.toList) : k = m := by
  have hk : k = 1 ∨ k = 2 ∨ k = 3 ∨ k = 4 ∨ k = 5 ∨ k = 6 := by omega
  have hm : m = 1 ∨ m = 2 ∨ m = 3 ∨ m = 4 ∨ m = 5 ∨ m = 6 := by omega
  rcases hk with rfl | rfl | rfl | rfl | rfl | rfl <;> rcases hm with rfl | rfl | rfl | rfl | rfl | rfl <;> first | rfl | exact absurd h (by decide)
theorem recL_inj {k k' : Int} {ns ms : List Int} (h0 : 1 ≤ k ∧ k ≤ 6) (h1 : 1 ≤ k' ∧ k' ≤ 6) (hl : ns.length = ms.length) (hn : ns ≠ []) (h : recL k ns = recL k' ms) : k = k' ∧ ns = ms := by
  match ns, ms, hl, hn with
  | n :: ns, m :: ms, hl, _ =>
    unfold recL at h
    simp only [List.flatMap_cons, List.cons_append] at h
    obtain ⟨e1, e2⟩ := word_split (name_no32 k h0.1 h0.2) (name_no32 k' h1.1 h1.2) h
    exact ⟨name_inj k k' h0.1 h0.2 h1.1 h1.2 e1, nums_inj (ns := n :: ns) (ms := m :: ms) hl (by simp) e2⟩
theorem recText_list (k tx p s o n pv nx : Int) : (recTextB k tx p s o n pv nx).toList = if recOkB k tx p s o n pv nx = true then recL k [tx, p, s, o, n, pv, nx] else [] := by
  unfold recTextB
  split
  · exact toList_mkR _
  · exact toList_mkR []
theorem recL_ne (k : Int) (ns : List Int) (h : ns ≠ []) : recL k ns ≠ [] := by
  match ns, h with
  | n :: ns, _ => unfold recL; simp
end Go.Proofs.YtajdjoggflagdaaDoor.T
