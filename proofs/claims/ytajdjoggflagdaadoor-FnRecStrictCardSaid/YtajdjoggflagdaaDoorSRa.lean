/- What spec.l2Cut and spec.l2Num tell. -/
import Derived.Test.YtajdjoggflagdaaDoorPrLC
import Derived.Test.YtajdjoggflagdaaDoorRRq
namespace Go.Proofs.YtajdjoggflagdaaDoor.T
open Go.RowKit Go.Proofs.YtajdjoggflagdaaDoorW.PrintWords Go.Proofs.YtajdjoggflagdaaDoor.Pr
set_option linter.unusedSimpArgs false
set_option linter.unusedVariables false
def cutV (cur : List UInt8) : List UInt8 → List (List UInt8)
  | [] => [cur]
  | c :: r => if c = 32 then cur :: cutV [] r else cutV (cur ++ [c]) r
theorem cutW_word (r : List UInt8) : ∀ (w cur : List UInt8), (32 : UInt8) ∉ w → cutV cur (w ++ 32 :: r) = (cur ++ w) :: cutV [] r
  | [], cur, _ => by simp [cutV]
  | c :: w, cur, h => by
    have hc : c ≠ 32 := fun e => h (e ▸ List.mem_cons_self)
    rw [List.cons_append, cutV, if_neg hc, cutW_word r w (cur ++ [c]) (fun hh => h (List.mem_cons_of_mem _ hh))]
    simp
theorem cutW_last : ∀ (w cur : List UInt8), (32 : UInt8) ∉ w → cutV cur w = [cur ++ w]
  | [], cur, _ => by simp [cutV]
  | c :: w, cur, h => by
    have hc : c ≠ 32 := fun e => h (e ▸ List.mem_cons_self)
    rw [cutV, if_neg hc, cutW_last w (cur ++ [c]) (fun hh => h (List.mem_cons_of_mem _ hh))]
    simp
theorem cutW_words : ∀ (ws : List (List UInt8)) (w0 : List UInt8), (32 : UInt8) ∉ w0 → (∀ w ∈ ws, (32 : UInt8) ∉ w) → cutV [] (w0 ++ ws.flatMap (fun w => 32 :: w)) = w0 :: ws
  | [], w0, h, _ => by simpa using cutW_last w0 [] h
  | w1 :: ws, w0, h0, h => by
    rw [List.flatMap_cons, List.cons_append, cutW_word _ w0 [] h0, cutW_words ws w1 (h w1 List.mem_cons_self) (fun w hw => h w (List.mem_cons_of_mem _ hw))]
    simp
theorem bt_data (s : ByteArray) (i : Nat) (h : i < s.size) : Go.Proofs.YtajdjoggflagdaaDoorW.PrintWords.bt s (i : Int) = ((s.data.toList[i]'h).toNat : Int) := by
  unfold Go.Proofs.YtajdjoggflagdaaDoorW.PrintWords.bt
  rw [dif_pos (by simpa using h)]
  simp only [Int.toNat_natCast]
  rfl
theorem str_one (c : UInt8) : strOfNums [(c.toNat : Int)] = ⟨#[c]⟩ := by
  unfold strOfNums
  simp
def mkB (l : List UInt8) : ByteArray := ⟨l.toArray⟩
theorem mkB_data (b : ByteArray) : mkB b.data.toList = b := by cases b; rfl
theorem l2Cut_l (s : ByteArray) (hs : s.size ≤ 30) : ∀ (d k i : Nat) (ws : List ByteArray) (C : ByteArray), i + d = s.size → d < k → ws.length ≤ i → C.size ≤ i →
    spec_l2Cut.l0 k s (ws ++ [C]) (i : Int) = some (ws ++ (cutV C.data.toList (s.data.toList.drop i)).map mkB)
  | 0, k + 1, i, ws, C, hi, hk, hw, hC => by
    have hl : s.data.toList.length = s.size := rfl
    rw [spec_l2Cut.l0, if_neg (by omega), List.drop_of_length_le (by omega)]
    simp only [cutV, List.map_cons, List.map_nil, mkB_data]
  | d + 1, k + 1, i, ws, C, hi, hk, hw, hC => by
    have hl : s.data.toList.length = s.size := rfl
    have hlt : i < s.data.toList.length := by omega
    have e2 : s.data.toList.drop i = s.data.toList[i] :: s.data.toList.drop (i + 1) := List.drop_eq_getElem_cons hlt
    have hb := bt_data s i (by omega)
    rw [spec_l2Cut.l0, if_pos (by omega), if_pos (by omega), e2, cutV, T.wrap_small (by omega) (by omega), show (i : Int) + 1 = ((i + 1 : Nat) : Int) by omega]
    by_cases hc : s.data.toList[i] = 32
    · rw [if_pos (by rw [hb, hc]; rfl), if_pos hc, if_pos (by simp; omega), l2Cut_l s hs d k (i + 1) (ws ++ [C]) ⟨#[]⟩ (by omega) (by omega) (by simp; omega) (by show 0 ≤ _; omega)]
      simp [mkB_data]
    · have hne : ¬ Go.Proofs.YtajdjoggflagdaaDoorW.PrintWords.bt s (i : Int) = 32 := by
        rw [hb]
        intro h
        apply hc
        apply UInt8.toNat_inj.mp
        show _ = 32
        omega
      have hlen : ((ws ++ [C]).length : Int) - 1 = (ws.length : Int) := by simp
      rw [if_neg hne, if_neg hc, hlen, T.wrap_small (by omega) (by omega), if_pos (by omega), if_pos (by simp; omega)]
      simp only [Option.bind_some]
      have hr : rdOf ByteArray.empty (ws ++ [C]) (ws.length : Int) = C := by simp [rdOf, List.getD_eq_getElem?_getD]
      rw [hb, str_one, hr, if_pos (by show C.size + 1 ≤ _; omega), Int.toNat_natCast, List.set_append_right _ _ (Nat.le_refl _), Nat.sub_self]
      have h3 := l2Cut_l s hs d k (i + 1) ws (C ++ ⟨#[s.data.toList[i]]⟩) (by omega) (by omega) (by omega) (by rw [ByteArray.size_append]; show C.size + 1 ≤ _; omega)
      have h4 : (C ++ (⟨#[s.data.toList[i]]⟩ : ByteArray)).data.toList = C.data.toList ++ [s.data.toList[i]] := by simp
      rw [h4] at h3
      exact h3
theorem l2Cut_k (s : ByteArray) (hs : s.size ≤ 30) (k : Nat) (hk : 31 ≤ k) : spec_l2Cut.f k s = some ((cutV [] s.data.toList).map mkB) := by
  have h := l2Cut_l s hs s.size k 0 [] ⟨#[]⟩ (by omega) (by omega) (by simp) (by show 0 ≤ 0; omega)
  simpa [spec_l2Cut.f] using h
theorem l2Cut_rec (s : ByteArray) (hs : s.size ≤ 30) (kk : Int) (hkk : 1 ≤ kk ∧ kk ≤ 6) (ns : List Int) (h : s.data.toList = recL kk ns) (k : Nat) (hk : 31 ≤ k) : spec_l2Cut.f k s = some (nameB kk :: ns.map decB) := by
  rw [l2Cut_k s hs k hk, h]
  have h3 := cutW_words (ns.map Lib.itoa) (nameB kk).data.toList (name_no32 kk hkk.1 hkk.2) (fun w hw => by
    obtain ⟨n, _, rfl⟩ := List.mem_map.mp hw
    exact itoa_no32 n)
  have h4 : (nameB kk).data.toList ++ (ns.map Lib.itoa).flatMap (fun w => 32 :: w) = recL kk ns := by
    unfold recL
    rw [List.flatMap_map]
  rw [h4] at h3
  rw [h3, List.map_cons, List.map_map, mkB_data]
  rfl
theorem l2Num_l (s : ByteArray) (hs : s.size ≤ 3) : ∀ (d k i : Nat) (n : Int), i + d = s.size → d < k → ∃ r, spec_l2Num.l0 k s n (i : Int) = some r
  | 0, k + 1, i, n, hi, hk => by
    rw [spec_l2Num.l0, if_neg (by omega)]
    exact ⟨_, rfl⟩
  | d + 1, k + 1, i, n, hi, hk => by
    rw [spec_l2Num.l0, if_pos (by omega), if_pos (by omega)]
    split
    · exact ⟨_, rfl⟩
    split
    · exact ⟨_, rfl⟩
    rw [T.wrap_small (x := (i : Int) + 1) (by omega) (by omega), show (i : Int) + 1 = ((i + 1 : Nat) : Int) by omega]
    exact l2Num_l s hs d k (i + 1) _ (by omega) (by omega)
theorem l2Num_any (s : ByteArray) (k : Nat) : ∃ r, spec_l2Num.f (k + 4) s = some r := by
  unfold spec_l2Num.f
  split
  · exact ⟨_, rfl⟩
  rw [l6In_f]
  simp only [Option.bind_some]
  split
  · rename_i h
    have h2 := inB_iff.mp h
    exact l2Num_l s (by omega) s.size (k + 4) 0 0 (by omega) (by omega)
  · exact ⟨_, rfl⟩
end Go.Proofs.YtajdjoggflagdaaDoor.T
