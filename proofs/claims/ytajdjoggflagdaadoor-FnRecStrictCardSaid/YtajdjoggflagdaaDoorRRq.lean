/- The text of a record is read as that record. -/
import Derived.Test.YtajdjoggflagdaaDoorRRp
namespace Go.Proofs.YtajdjoggflagdaaDoor.T
open Go.RowKit Go.Proofs.YtajdjoggflagdaaDoorW.PrintWords Go.Proofs.YtajdjoggflagdaaDoor.Pr
set_option linter.unusedSimpArgs false
set_option linter.unusedVariables false
theorem ba_listR (b : ByteArray) : b.toList = b.data.toList := by
  cases b with
  | mk d =>
    have := toList_mkR d.toList
    simpa using this
theorem idx_none : ∀ w : List UInt8, (32 : UInt8) ∉ w → Lib.index w [32] = -1
  | [], _ => by simp [Lib.index]
  | c :: w, h => by
    have hc : c ≠ 32 := fun e => h (e ▸ List.mem_cons_self)
    have hp : ([32] : List UInt8).isPrefixOf (c :: w) = false := by simp [List.isPrefixOf, Ne.symm hc]
    rw [Lib.index, hp, idx_none w (fun hh => h (List.mem_cons_of_mem _ hh))]
    simp
theorem idx_first (r : List UInt8) : ∀ w : List UInt8, (32 : UInt8) ∉ w → Lib.index (w ++ 32 :: r) [32] = (w.length : Int)
  | [], _ => by
    rw [List.nil_append, Lib.index]
    simp [List.isPrefixOf]
  | c :: w, h => by
    have hc : c ≠ 32 := fun e => h (e ▸ List.mem_cons_self)
    have hp : ([32] : List UInt8).isPrefixOf (c :: (w ++ 32 :: r)) = false := by simp [List.isPrefixOf, Ne.symm hc]
    have ih := idx_first r w (fun hh => h (List.mem_cons_of_mem _ hh))
    rw [List.cons_append, Lib.index, hp, ih]
    have : ((w.length : Int) == -1) = false := by simp
    simp [this]
theorem splitK_words : ∀ (ws : List (List UInt8)) (w0 : List UInt8), (32 : UInt8) ∉ w0 → (∀ w ∈ ws, (32 : UInt8) ∉ w) → Lib.splitK [32] 0 ws.length (w0 ++ ws.flatMap (fun w => 32 :: w)) = w0 :: ws
  | [], w0, _, _ => by simp [Lib.splitK]
  | w1 :: ws, w0, h0, h => by
    have ih := splitK_words ws w1 (h w1 List.mem_cons_self) (fun w hw => h w (List.mem_cons_of_mem _ hw))
    rw [List.length_cons, Lib.splitK, List.flatMap_cons, List.cons_append, idx_first _ w0 h0]
    have : ((w0.length : Int) == -1) = false := by simp
    rw [this]
    simp only [Bool.false_eq_true, if_false, Int.toNat_natCast, Nat.add_zero, List.length_singleton]
    rw [List.take_left' rfl, show w0 ++ 32 :: (w1 ++ ws.flatMap (fun w => 32 :: w)) = (w0 ++ [32]) ++ (w1 ++ ws.flatMap (fun w => 32 :: w)) by simp, List.drop_left' (by simp), ih]
theorem split_rec (s : ByteArray) (k : Int) (hk : 1 ≤ k ∧ k ≤ 6) (ns : List Int) (hs : s.data.toList = recL k ns) (hc : (recL k ns).count (32 : UInt8) = ns.length) : splitL s = nameB k :: ns.map decB := by
  have h1 : Lib.countB s ⟨#[32]⟩ = ns.length := by
    show Lib.count s.data.toList [32] = ns.length
    rw [Lib.count_one, hs, hc]
  have h2 := Lib.splitB_data ⟨#[32]⟩ 0 (Lib.countB s ⟨#[32]⟩) s
  have h3 := splitK_words (ns.map Lib.itoa) (nameB k).data.toList (name_no32 k hk.1 hk.2) (fun w hw => by
    obtain ⟨n, _, rfl⟩ := List.mem_map.mp hw
    exact itoa_no32 n)
  have h4 : (nameB k).data.toList ++ (ns.map Lib.itoa).flatMap (fun w => 32 :: w) = recL k ns := by
    unfold recL
    rw [List.flatMap_map]
  rw [h4, List.length_map] at h3
  have h5 : (splitL s).map (·.data.toList) = (nameB k :: ns.map decB).map (·.data.toList) := by
    unfold splitL
    rw [h2, h1, hs]
    refine h3.trans ?_
    rw [List.map_cons, List.map_map]
    rfl
  refine (List.map_inj_right (fun x y h => ?_)).mp h5
  have h6 : x.data = y.data := Array.toList_inj.mp h
  cases x; cases y; simp_all
theorem par_snoc (c : UInt8) (a : Nat) (hc : 48 ≤ c.toNat ∧ c.toNat ≤ 57) (hs : a < 1000) : ∀ (l : List UInt8) (acc : Nat), Lib.parseUint10 acc l = .ok a → Lib.parseUint10 acc (l ++ [c]) = .ok (a * 10 + (c.toNat - 48))
  | [], acc, h => by
    simp only [Lib.parseUint10, Lib.NumEnd.ok.injEq] at h
    subst h
    rw [List.nil_append, Lib.parseUint10, if_pos hc, if_neg (by omega), if_neg (by omega), Lib.parseUint10]
  | x :: l, acc, h => by
    rw [Lib.parseUint10] at h
    rw [List.cons_append, Lib.parseUint10]
    split at h
    · rename_i h1
      rw [if_pos h1]
      split at h
      · cases h
      · rename_i h2
        rw [if_neg h2]
        split at h
        · cases h
        · rename_i h3
          rw [if_neg h3]
          exact par_snoc c a hc hs l _ h
    · cases h
theorem par_dec : ∀ u : Nat, u < 1000 → Lib.parseUint10 0 (Lib.decDigits u) = .ok u := by
  intro u
  induction u using Nat.strongRecOn with
  | ind u ih =>
    intro hu
    by_cases h : u < 10
    · rw [dec1 h, Lib.parseUint10, ofNat_dig h, if_pos (by omega), if_neg (by omega), if_neg (by omega), Lib.parseUint10]
      congr 1
      omega
    · rw [dec2 h, par_snoc _ (u / 10) (by rw [ofNat_dig (by omega)]; omega) (by omega) _ _ (ih (u / 10) (by omega) (by omega)), ofNat_dig (by omega)]
      congr 1
      omega
theorem atoiV_dec (n : Int) (h0 : -1 ≤ n) (h1 : n < 1000) : atoiV (decB n) = n := by
  have e : (decB n).data.toList = Lib.itoa n := rfl
  unfold atoiV
  rw [e]
  by_cases hn : n = -1
  · subst hn
    have : Lib.itoa (-1) = [45, 49] := by
      unfold Lib.itoa
      rw [if_pos (by omega), show (-1 : Int).natAbs = 1 from rfl, dec1 (by omega)]
      rfl
    rw [this]
    rfl
  · have h2 : Lib.itoa n = Lib.decDigits n.toNat := by
      unfold Lib.itoa
      rw [if_neg (by omega)]
    have h3 := par_dec n.toNat (by omega)
    have h5 : Lib.decDigits n.toNat ≠ [] := by
      by_cases h : n.toNat < 10
      · rw [dec1 h]; simp
      · rw [dec2 h]; simp
    rw [h2]
    have hm := dec_mem n.toNat
    have h4 : Lib.atoiAll (Lib.decDigits n.toNat) = .ok n := by
      generalize Lib.decDigits n.toNat = l at h3 h5 hm
      match l, h5 with
      | c :: r, _ =>
        have hc := hm c List.mem_cons_self
        unfold Lib.atoiAll
        simp only
        rw [if_neg (by omega)]
        unfold Lib.parseMag
        rw [if_neg (by simp), h3]
        simp only
        rw [if_neg (by omega), if_neg (by omega), if_neg (by omega)]
        congr 1
        omega
    rw [h4]
def namesL : List ByteArray := [(⟨#[]⟩ : ByteArray), (⟨#[112, 117, 116]⟩ : ByteArray), (⟨#[111, 119, 110]⟩ : ByteArray), (⟨#[108, 111, 97, 100]⟩ : ByteArray), (⟨#[100, 111, 110, 101]⟩ : ByteArray), (⟨#[101, 110, 100]⟩ : ByteArray), (⟨#[117, 110, 100, 111]⟩ : ByteArray)]
theorem idx_name (k : Int) (h0 : 1 ≤ k) (h1 : k ≤ 6) : Lib.idxOfS namesL (nameB k) = k := by
  have : k = 1 ∨ k = 2 ∨ k = 3 ∨ k = 4 ∨ k = 5 ∨ k = 6 := by omega
  rcases this with rfl | rfl | rfl | rfl | rfl | rfl <;> decide
theorem flat_countR : ∀ ns : List Int, (ns.flatMap (fun x => 32 :: Lib.itoa x)).count (32 : UInt8) = ns.length
  | [] => rfl
  | n :: ns => by
    rw [List.flatMap_cons, List.count_append, List.count_cons, List.count_eq_zero.mpr (itoa_no32 n), flat_countR ns]
    simp
    omega
theorem recL_countR (k : Int) (h : 1 ≤ k ∧ k ≤ 6) (ns : List Int) : (recL k ns).count (32 : UInt8) = ns.length := by
  unfold recL
  rw [List.count_append, List.count_eq_zero.mpr (name_no32 k h.1 h.2), flat_countR, Nat.zero_add]
theorem itoa_one (x : Int) (h0 : 0 ≤ x) (h1 : x ≤ 9) : (Lib.itoa x).length = 1 := by
  unfold Lib.itoa
  rw [if_neg (by omega), decLen1 (by omega)]
theorem itoa_two (x : Int) (h0 : -1 ≤ x) (h1 : x ≤ 9) : (Lib.itoa x).length ≤ 2 := by
  by_cases h : x < 0
  · unfold Lib.itoa
    rw [if_pos h, List.length_cons, decLen1 (by omega)]; omega
  · rw [itoa_one x (by omega) h1]; omega
/-- A valid record's text is at most 24 bytes long. -/
theorem rec_30 {k tx p s o n pv nx : Int} (ok : recOkB k tx p s o n pv nx = true) : (recL k [tx, p, s, o, n, pv, nx]).length ≤ 30 := by
  obtain ⟨hk, htx, hp, hs, ho, hn, hpv, hnx⟩ := recOk_small ok
  have h0 : (nameB k).data.toList.length ≤ 4 := name_size k hk.1 hk.2
  have h1 := itoa_one tx (by omega) (by omega)
  have h2 := itoa_one p (by omega) (by omega)
  have h3 := itoa_two s (by omega) (by omega)
  have h4 := itoa_one o (by omega) (by omega)
  have h5 := itoa_one n (by omega) (by omega)
  have h6 : (Lib.itoa pv).length ≤ 3 := decB_size pv (by omega) (by omega)
  have h7 : (Lib.itoa nx).length ≤ 3 := decB_size nx (by omega) (by omega)
  unfold recL
  simp only [List.flatMap_cons, List.flatMap_nil, List.length_append, List.length_cons, List.length_nil]
  omega
theorem RecRead_own (k tx p s o n pv nx : Int) (ok : recOkB k tx p s o n pv nx = true) (j : Nat) : impl_RecRead.f (j + 10) (recTextB k tx p s o n pv nx) = some (k, tx, p, s, o, n, pv, nx, true) := by
  obtain ⟨hk, htx, hp, hs, ho, hn, hpv, hnx⟩ := recOk_small ok
  have hl : (recTextB k tx p s o n pv nx).data.toList = recL k [tx, p, s, o, n, pv, nx] := by rw [← ba_listR, recText_list, if_pos ok]
  have hall : ∀ x ∈ [tx, p, s, o, n, pv, nx], -1 ≤ x ∧ x < 1000 := by
    intro x hx
    simp only [List.mem_cons, List.not_mem_nil, or_false] at hx
    omega
  have hlen := recL_len k hk.1 hk.2 _ hall
  have hcnt : (recL k [tx, p, s, o, n, pv, nx]).count (32 : UInt8) = [tx, p, s, o, n, pv, nx].length := recL_countR k hk _
  have hsp := split_rec _ k hk _ hl hcnt
  have hsz : (recTextB k tx p s o n pv nx).size = (recL k [tx, p, s, o, n, pv, nx]).length := by rw [← hl]; rfl
  have h30 : (recTextB k tx p s o n pv nx).size ≤ 30 := by rw [hsz]; exact rec_30 ok
  have ht : impl_RecText.f (j + 9) k tx p s o n pv nx = some (recTextB k tx p s o n pv nx) := impl_RecText_k k tx p s o n pv nx (j + 1)
  generalize hgs : recTextB k tx p s o n pv nx = t at hl hsp hsz h30 ht
  unfold impl_RecRead.f
  rw [splitO_k t (by omega), hsp]
  simp only [Option.bind_some]
  rw [if_neg (by omega)]
  rw [show ((((nameB k :: [tx, p, s, o, n, pv, nx].map decB).length : Nat) : Int) != 8) = false from rfl, show j + 10 = (j + 9) + 1 from rfl, impl_RecRead.j0]
  have w0 : rdOf ByteArray.empty (nameB k :: [tx, p, s, o, n, pv, nx].map decB) 0 = nameB k := rfl
  have w1 : rdOf ByteArray.empty (nameB k :: [tx, p, s, o, n, pv, nx].map decB) 1 = decB tx := rfl
  have w2 : rdOf ByteArray.empty (nameB k :: [tx, p, s, o, n, pv, nx].map decB) 2 = decB p := rfl
  have w3 : rdOf ByteArray.empty (nameB k :: [tx, p, s, o, n, pv, nx].map decB) 3 = decB s := rfl
  have w4 : rdOf ByteArray.empty (nameB k :: [tx, p, s, o, n, pv, nx].map decB) 4 = decB o := rfl
  have w5 : rdOf ByteArray.empty (nameB k :: [tx, p, s, o, n, pv, nx].map decB) 5 = decB n := rfl
  have w6 : rdOf ByteArray.empty (nameB k :: [tx, p, s, o, n, pv, nx].map decB) 6 = decB pv := rfl
  have w7 : rdOf ByteArray.empty (nameB k :: [tx, p, s, o, n, pv, nx].map decB) 7 = decB nx := rfl
  have hl8 : (nameB k :: [tx, p, s, o, n, pv, nx].map decB).length = 8 := rfl
  have A : ∀ x : Int, -1 ≤ x → x < 1000 → atoiO (decB x) = some x := by
    intro x h0 h1
    have := decB_size x h0 h1
    rw [atoiO_k _ (by omega), atoiV_dec x h0 h1]
  have I : idxO [(⟨#[]⟩ : ByteArray), (⟨#[112, 117, 116]⟩ : ByteArray), (⟨#[111, 119, 110]⟩ : ByteArray), (⟨#[108, 111, 97, 100]⟩ : ByteArray), (⟨#[100, 111, 110, 101]⟩ : ByteArray), (⟨#[101, 110, 100]⟩ : ByteArray), (⟨#[117, 110, 100, 111]⟩ : ByteArray)] (nameB k) = some k := by
    unfold idxO
    rw [if_pos (by simp)]
    exact congrArg some (idx_name k hk.1 hk.2)
  simp only [Bool.false_eq_true, if_false, impl_recNames.f, Option.bind_some, w0, w1, w2, w3, w4, w5, w6, w7, hl8, I, A tx (by omega) (by omega), A p (by omega) (by omega), A s (by omega) (by omega), A o (by omega) (by omega), A n (by omega) (by omega), A pv (by omega) (by omega), A nx (by omega) (by omega), impl_RecOk.f, ok, ht, if_true]
  repeat (rw [if_pos (by decide)])
end Go.Proofs.YtajdjoggflagdaaDoor.T
