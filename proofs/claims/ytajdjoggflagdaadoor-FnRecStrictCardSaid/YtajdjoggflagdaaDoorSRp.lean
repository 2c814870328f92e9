/- What spec.RecRead tells. -/
import Derived.Test.YtajdjoggflagdaaDoorPrSR
import Derived.Test.YtajdjoggflagdaaDoorSRb
namespace Go.Proofs.YtajdjoggflagdaaDoor.T
open Go.RowKit Go.Proofs.YtajdjoggflagdaaDoorW.PrintWords Go.Proofs.YtajdjoggflagdaaDoor.Pr
set_option linter.unusedSimpArgs false
set_option linter.unusedVariables false
/-- The loop over the names: the last one that the word is. -/
def lastOf (w : ByteArray) : Nat → Int → Int
  | 0, x => x
  | d + 1, x => lastOf w d (if (rdOf ByteArray.empty [(⟨#[]⟩ : ByteArray), (⟨#[112, 117, 116]⟩ : ByteArray), (⟨#[111, 119, 110]⟩ : ByteArray), (⟨#[108, 111, 97, 100]⟩ : ByteArray), (⟨#[100, 111, 110, 101]⟩ : ByteArray), (⟨#[101, 110, 100]⟩ : ByteArray), (⟨#[117, 110, 100, 111]⟩ : ByteArray)] ((7 - (d + 1) : Nat) : Int)).toList = w.toList then ((7 - (d + 1) : Nat) : Int) else x)
def finB (s : ByteArray) (x a1 a2 a3 a4 a5 a6 a7 : Int) : Int × Int × Int × Int × Int × Int × Int × Int × Bool :=
  if s.toList = [] then (0, 0, 0, 0, 0, 0, 0, 0, false) else if (recTextB x a1 a2 a3 a4 a5 a6 a7).toList = s.toList then (x, a1, a2, a3, a4, a5, a6, a7, true) else (0, 0, 0, 0, 0, 0, 0, 0, false)
theorem names_loop (s : ByteArray) (ws : List ByteArray) (hw : 0 < ws.length) (a1 a2 a3 a4 a5 a6 a7 : Int) : ∀ (d j : Nat) (x : Int), d ≤ 6 →
    spec_RecRead.l0 (j + d + 6) s ws ((7 - d : Nat) : Int) x a1 a2 a3 a4 a5 a6 a7 = some (finB s (lastOf (rdOf ByteArray.empty ws 0) d x) a1 a2 a3 a4 a5 a6 a7)
  | 0, j, x, _ => by
    rw [show j + 0 + 6 = (j + 5) + 1 from rfl, spec_RecRead.l0]
    simp only [spec_l2Names.f, Option.bind_some]
    rw [if_neg (by simp)]
    unfold finB lastOf
    split
    · rfl
    · rw [spec_RecText_k]
      simp only [Option.bind_some]
      split
      · rfl
      · rfl
  | d + 1, j, x, hd => by
    rw [show j + (d + 1) + 6 = (j + d + 6) + 1 by omega, spec_RecRead.l0]
    simp only [spec_l2Names.f, Option.bind_some]
    rw [if_pos (by simp; omega), if_pos (by omega), if_pos (by simp; omega), if_pos (by omega), T.wrap_small (by omega) (by omega), show ((7 - (d + 1) : Nat) : Int) + 1 = ((7 - d : Nat) : Int) by omega, lastOf]
    split
    · rename_i h
      rw [names_loop s ws hw a1 a2 a3 a4 a5 a6 a7 d j _ (by omega)]
    · rename_i h
      rw [names_loop s ws hw a1 a2 a3 a4 a5 a6 a7 d j _ (by omega)]
theorem last_name (k : Int) (h0 : 1 ≤ k) (h1 : k ≤ 6) : lastOf (nameB k) 6 0 = k := by
  have : k = 1 ∨ k = 2 ∨ k = 3 ∨ k = 4 ∨ k = 5 ∨ k = 6 := by omega
  have hn : ∀ i j : Int, 1 ≤ i → i ≤ 6 → 1 ≤ j → j ≤ 6 → ((rdOf ByteArray.empty [(⟨#[]⟩ : ByteArray), (⟨#[112, 117, 116]⟩ : ByteArray), (⟨#[111, 119, 110]⟩ : ByteArray), (⟨#[108, 111, 97, 100]⟩ : ByteArray), (⟨#[100, 111, 110, 101]⟩ : ByteArray), (⟨#[101, 110, 100]⟩ : ByteArray), (⟨#[117, 110, 100, 111]⟩ : ByteArray)] i).toList = (nameB j).toList ↔ i = j) := by
    intro i j a b c d
    constructor
    · intro h
      rw [ba_listR, ba_listR] at h
      exact name_inj i j a b c d h
    · rintro rfl; rfl
  unfold lastOf lastOf lastOf lastOf lastOf lastOf lastOf
  simp only [show ((7 - (5 + 1) : Nat) : Int) = 1 from rfl, show ((7 - (4 + 1) : Nat) : Int) = 2 from rfl, show ((7 - (3 + 1) : Nat) : Int) = 3 from rfl, show ((7 - (2 + 1) : Nat) : Int) = 4 from rfl, show ((7 - (1 + 1) : Nat) : Int) = 5 from rfl, show ((7 - (0 + 1) : Nat) : Int) = 6 from rfl,
    hn 1 k (by omega) (by omega) h0 h1, hn 2 k (by omega) (by omega) h0 h1, hn 3 k (by omega) (by omega) h0 h1, hn 4 k (by omega) (by omega) h0 h1, hn 5 k (by omega) (by omega) h0 h1, hn 6 k (by omega) (by omega) h0 h1]
  repeat' split
  all_goals omega
theorem fin_any (s : ByteArray) (x a1 a2 a3 a4 a5 a6 a7 : Int) : ∃ c0 c1 c2 c3 c4 c5 c6 c7 b, finB s x a1 a2 a3 a4 a5 a6 a7 = (c0, c1, c2, c3, c4, c5, c6, c7, b) ∧
    (b = true → recOkB c0 c1 c2 c3 c4 c5 c6 c7 = true ∧ (recTextB c0 c1 c2 c3 c4 c5 c6 c7).toList = s.toList) ∧ (b = false → c0 = 0 ∧ c1 = 0 ∧ c2 = 0 ∧ c3 = 0 ∧ c4 = 0 ∧ c5 = 0 ∧ c6 = 0 ∧ c7 = 0) := by
  unfold finB
  split
  · exact ⟨0, 0, 0, 0, 0, 0, 0, 0, false, rfl, (fun h => by cases h), fun _ => ⟨rfl, rfl, rfl, rfl, rfl, rfl, rfl, rfl⟩⟩
  split
  · rename_i hn he
    refine ⟨x, a1, a2, a3, a4, a5, a6, a7, true, rfl, (fun _ => ⟨?_, he⟩), fun h => by cases h⟩
    cases q : recOkB x a1 a2 a3 a4 a5 a6 a7 with
    | true => rfl
    | false =>
      rw [recText_list, q] at he
      exact absurd he.symm hn
  · exact ⟨0, 0, 0, 0, 0, 0, 0, 0, false, rfl, (fun h => by cases h), fun _ => ⟨rfl, rfl, rfl, rfl, rfl, rfl, rfl, rfl⟩⟩
theorem SpecRead_any (s : ByteArray) : ∃ c0 c1 c2 c3 c4 c5 c6 c7 b, spec_RecRead.f 40 s = some (c0, c1, c2, c3, c4, c5, c6, c7, b) ∧
    (b = true → recOkB c0 c1 c2 c3 c4 c5 c6 c7 = true ∧ (recTextB c0 c1 c2 c3 c4 c5 c6 c7).toList = s.toList) ∧ (b = false → c0 = 0 ∧ c1 = 0 ∧ c2 = 0 ∧ c3 = 0 ∧ c4 = 0 ∧ c5 = 0 ∧ c6 = 0 ∧ c7 = 0) := by
  unfold spec_RecRead.f
  by_cases h30 : (s.size : Int) > 30
  · rw [if_pos h30]
    exact ⟨0, 0, 0, 0, 0, 0, 0, 0, false, rfl, (fun h => by cases h), fun _ => ⟨rfl, rfl, rfl, rfl, rfl, rfl, rfl, rfl⟩⟩
  rw [if_neg h30, l2Cut_k s (by omega) 40 (by omega)]
  simp only [Option.bind_some]
  generalize (cutV [] s.data.toList).map mkB = ws
  by_cases h8 : (ws.length : Int) = 8
  · rw [if_pos h8]
    obtain ⟨n1, e1⟩ := l2Num_any (rdOf ByteArray.empty ws 1) 36
    obtain ⟨n2, e2⟩ := l2Num_any (rdOf ByteArray.empty ws 2) 36
    obtain ⟨n3, e3⟩ := l2Num_any (rdOf ByteArray.empty ws 3) 36
    obtain ⟨n4, e4⟩ := l2Num_any (rdOf ByteArray.empty ws 4) 36
    obtain ⟨n5, e5⟩ := l2Num_any (rdOf ByteArray.empty ws 5) 36
    obtain ⟨n6, e6⟩ := l2Num_any (rdOf ByteArray.empty ws 6) 36
    obtain ⟨n7, e7⟩ := l2Num_any (rdOf ByteArray.empty ws 7) 36
    simp only [Nat.reduceAdd] at e1 e2 e3 e4 e5 e6 e7
    simp only [e1, e2, e3, e4, e5, e6, e7, Option.bind_some]
    repeat (rw [if_pos (by omega)])
    have h := names_loop s ws (by omega) n1 n2 n3 n4 n5 n6 n7 6 28 0 (by omega)
    have h' : spec_RecRead.l0 40 s ws 1 0 n1 n2 n3 n4 n5 n6 n7 = some (finB s (lastOf (rdOf ByteArray.empty ws 0) 6 0) n1 n2 n3 n4 n5 n6 n7) := h
    rw [h']
    obtain ⟨c0, c1, c2, c3, c4, c5, c6, c7, b, f1, f2, f3⟩ := fin_any s (lastOf (rdOf ByteArray.empty ws 0) 6 0) n1 n2 n3 n4 n5 n6 n7
    exact ⟨c0, c1, c2, c3, c4, c5, c6, c7, b, by rw [f1], f2, f3⟩
  · rw [if_neg h8]
    exact ⟨0, 0, 0, 0, 0, 0, 0, 0, false, rfl, (fun h => by cases h), fun _ => ⟨rfl, rfl, rfl, rfl, rfl, rfl, rfl, rfl⟩⟩
theorem SpecRead_own (k tx p s o n pv nx : Int) (ok : recOkB k tx p s o n pv nx = true) : spec_RecRead.f 40 (recTextB k tx p s o n pv nx) = some (k, tx, p, s, o, n, pv, nx, true) := by
  obtain ⟨hk, htx, hp, hs, ho, hn, hpv, hnx⟩ := recOk_small ok
  have hl : (recTextB k tx p s o n pv nx).data.toList = recL k [tx, p, s, o, n, pv, nx] := by rw [← ba_listR, recText_list, if_pos ok]
  have hsz : (recTextB k tx p s o n pv nx).size = (recL k [tx, p, s, o, n, pv, nx]).length := by rw [← hl]; rfl
  have h30 : (recTextB k tx p s o n pv nx).size ≤ 30 := by rw [hsz]; exact rec_30 ok
  have hne : ¬ (recTextB k tx p s o n pv nx).toList = [] := by rw [recText_list, if_pos ok]; exact recL_ne k _ (by simp)
  have hself : finB (recTextB k tx p s o n pv nx) k tx p s o n pv nx = (k, tx, p, s, o, n, pv, nx, true) := by
    unfold finB
    rw [if_neg hne, if_pos rfl]
  generalize recTextB k tx p s o n pv nx = t at hl hsz h30 hself
  unfold spec_RecRead.f
  rw [if_neg (by omega), l2Cut_rec t h30 k hk _ hl 40 (by omega)]
  simp only [Option.bind_some]
  have w0 : rdOf ByteArray.empty (nameB k :: [tx, p, s, o, n, pv, nx].map decB) 0 = nameB k := rfl
  have w1 : rdOf ByteArray.empty (nameB k :: [tx, p, s, o, n, pv, nx].map decB) 1 = decB tx := rfl
  have w2 : rdOf ByteArray.empty (nameB k :: [tx, p, s, o, n, pv, nx].map decB) 2 = decB p := rfl
  have w3 : rdOf ByteArray.empty (nameB k :: [tx, p, s, o, n, pv, nx].map decB) 3 = decB s := rfl
  have w4 : rdOf ByteArray.empty (nameB k :: [tx, p, s, o, n, pv, nx].map decB) 4 = decB o := rfl
  have w5 : rdOf ByteArray.empty (nameB k :: [tx, p, s, o, n, pv, nx].map decB) 5 = decB n := rfl
  have w6 : rdOf ByteArray.empty (nameB k :: [tx, p, s, o, n, pv, nx].map decB) 6 = decB pv := rfl
  have w7 : rdOf ByteArray.empty (nameB k :: [tx, p, s, o, n, pv, nx].map decB) 7 = decB nx := rfl
  have hl8 : (nameB k :: [tx, p, s, o, n, pv, nx].map decB).length = 8 := rfl
  have D : ∀ x : Int, -1 ≤ x → x < 1000 → spec_l2Num.f 40 (decB x) = some x := fun x a b => l2Num_dec x a b 36
  have h := names_loop t (nameB k :: [tx, p, s, o, n, pv, nx].map decB) (by simp) tx p s o n pv nx 6 28 0 (by omega)
  have h' : spec_RecRead.l0 40 t (nameB k :: [tx, p, s, o, n, pv, nx].map decB) 1 0 tx p s o n pv nx = some (finB t k tx p s o n pv nx) := by
    rw [w0, last_name k hk.1 hk.2] at h
    exact h
  simp only [w1, w2, w3, w4, w5, w6, w7, hl8, D tx (by omega) (by omega), D p (by omega) (by omega), D s (by omega) (by omega), D o (by omega) (by omega), D n (by omega) (by omega), D pv (by omega) (by omega), D nx (by omega) (by omega), Option.bind_some]
  repeat (rw [if_pos (by decide)])
  rw [h', hself]
end Go.Proofs.YtajdjoggflagdaaDoor.T
