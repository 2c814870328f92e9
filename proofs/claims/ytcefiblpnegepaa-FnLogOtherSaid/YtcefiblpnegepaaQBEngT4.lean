import Derived.Test.YtcefiblpnegepaaQBByq
import Derived.Test.YtcefiblpnegepaaQBLChainP
import Derived.Test.YtcefiblpnegepaaQBEngT3
namespace Go.Proofs.Ytcefiblpnegepaa.T
open Go.RowKit Go.PW Go.Proofs.Ytcefiblpnegepaa.Pr
set_option linter.unusedSimpArgs false
set_option linter.unusedVariables false
section
variable {s0 : List Int} (hb : Bytes s0) (hl : s0.length ≤ 2000)
include hb hl
theorem pk (p n : Int) (h0 : 0 ≤ p) (hp : p ≤ 1000000000) (hn : 1 ≤ n) (k : Nat) (hk : 1 ≤ k) : ∃ r, Xb.f k s0 p n = some (r, p + 1) ∧ 0 ≤ r ∧ r < n := by
  obtain ⟨k2, rfl⟩ : ∃ k2, k = k2 + 1 := ⟨k - 1, by omega⟩
  exact Lv s0 hb hl p n h0 (by omega) hn k2
def Ev (B : Int) (x : Option (Int × Int × Int × Int × Int × List Int × Int)) : Prop := ∃ e1 e2 e3 e4 e5 e6 p', x = some (e1, e2, e3, e4, e5, e6, p') ∧ 0 ≤ p' ∧ p' ≤ B ∧ e5 ≤ 1000000
omit hb hl in
theorem XgE (x : Int) : Int.tmod x 10 ≤ 1000000 := by
  have := Int.tmod_lt_of_pos x (show (0 : Int) < 10 by omega); omega
theorem evj5 {D M : List S25} {L : List Rc} {s : Int} (h : EI D M L s) (d : Bool) (t x6 : Int) (c : Bool) (p B : Int) (h0 : 0 ≤ p) (hB : p + 3 ≤ B) (hBB : B ≤ 900000000) (k : Nat) (hk : 600 ≤ k) : Ev B (Xh.j5 k t x6 c s0 p D M L s d) := by
  have hlen := h.len
  obtain ⟨k2, rfl⟩ : ∃ k2, k = k2 + 1 := ⟨k - 1, by omega⟩
  obtain ⟨r1, e1, _⟩ := pk hb hl p 3 h0 (by omega) (by omega) k2 (by omega); obtain ⟨r2, e2, _⟩ := pk hb hl (p + 1) 10 (by omega) (by omega) (by omega) k2 (by omega); obtain ⟨r3, e3, _⟩ := pk hb hl (p + 1 + 1) 4 (by omega) (by omega) (by omega) k2 (by omega); rw [Xh.j5]
  cases c
  · rw [if_neg (by simp)]
    simp only [e1, e2, e3, Option.bind_some]; exact ⟨_, _, _, _, _, _, _, rfl, by omega, by omega, XgE _⟩
  · obtain ⟨n, en, _⟩ := Qj h.l.1 (by omega) D M s d x6 k2 (by omega)
    rw [if_pos rfl]; simp only [en, e1, e2, e3, Option.bind_some]; exact ⟨_, _, _, _, _, _, _, rfl, by omega, by omega, XgE _⟩
theorem evj4 {D M : List S25} {L : List Rc} {s : Int} (h : EI D M L s) (d : Bool) (t x6 : Int) (p B : Int) (h0 : 0 ≤ p) (hB : p + 4 ≤ B) (hBB : B ≤ 900000000) (k : Nat) (hk : 601 ≤ k) : Ev B (Xh.j4 k t x6 s0 p D M L s d) := by
  have hlen := h.len
  obtain ⟨k2, rfl⟩ : ∃ k2, k = k2 + 1 := ⟨k - 1, by omega⟩
  obtain ⟨r1, e1, _⟩ := pk hb hl p 4 h0 (by omega) (by omega) k2 (by omega); obtain ⟨n, en, _⟩ := Qj h.l.1 (by omega) D M s d x6 k2 (by omega); rw [Xh.j4, en, Option.bind_some]
  split
  · simp only [e1, Option.bind_some]
    exact evj5 hb hl h d t x6 _ (p + 1) B (by omega) (by omega) hBB k2 (by omega)
  · exact evj5 hb hl h d t x6 _ p B h0 (by omega) hBB k2 (by omega)
theorem evl0 {D M : List S25} {L : List Rc} {s : Int} (h : EI D M L s) (d : Bool) (t : Int) (B : Int) (hBB : B ≤ 900000000) : ∀ (n k i : Nat) (x6 p : Int), i + n = 4 → 0 ≤ x6 → x6 < 5 → 0 ≤ p → p + 4 + n ≤ B → 610 + n ≤ k → Ev B (Xh.l0 k t x6 (i : Int) s0 p D M L s d)
  | 0, k, i, x6, p, hi, h60, h65, h0, hB, hk => by
    obtain ⟨k2, rfl⟩ : ∃ k2, k = k2 + 1 := ⟨k - 1, by omega⟩
    rw [Xh.l0, if_neg (by omega)]
    exact evj4 hb hl h d t x6 p B h0 (by omega) hBB k2 (by omega)
  | n + 1, k, i, x6, p, hi, h60, h65, h0, hB, hk => by
    obtain ⟨k2, rfl⟩ : ∃ k2, k = k2 + 1 := ⟨k - 1, by omega⟩
    rw [Xh.l0, if_pos (by omega), if_pos h60, if_pos (by rw [h.m.len]; omega), M7 (by omega) (by omega)]
    split
    · obtain ⟨r1, e1, hr⟩ := pk hb hl p 5 h0 (by omega) (by omega) k2 (by omega)
      simp only [e1, Option.bind_some]; exact evl0 h d t B hBB n k2 (i + 1) r1 (p + 1) (by omega) hr.1 hr.2 (by omega) (by omega) (by omega)
    · exact evj4 hb hl h d t x6 p B h0 (by omega) hBB k2 (by omega)
theorem evj2 {D M : List S25} {L : List Rc} {s : Int} (h : EI D M L s) (d : Bool) (t x6 x25 : Int) (c : Bool) (p B : Int) (h60 : 0 ≤ x6) (h65 : x6 < 5) (h0 : 0 ≤ p) (hB : p + 8 ≤ B) (hBB : B ≤ 900000000) (k : Nat) (hk : 650 ≤ k) : Ev B (Xh.j2 k t x6 x25 c s0 p D M L s d) := by
  have hlen := h.len
  obtain ⟨k2, rfl⟩ : ∃ k2, k = k2 + 1 := ⟨k - 1, by omega⟩
  rw [Xh.j2]
  cases c
  · rw [if_neg (by simp)]
    split
    · obtain ⟨r1, e1, _⟩ := pk hb hl p 3 h0 (by omega) (by omega) k2 (by omega)
      obtain ⟨r2, e2, hr2⟩ := pk hb hl (p + 1) 4 (by omega) (by omega) (by omega) k2 (by omega); obtain ⟨r3, e3, hr3⟩ := pk hb hl (p + 1 + 1) 3 (by omega) (by omega) (by omega) k2 (by omega); simp only [e1, e2, e3, Option.bind_some]
      split
      · exact ⟨_, _, _, _, _, _, _, rfl, by omega, by omega, by omega⟩
      · rw [if_pos hr3.1, if_pos zb151]
        refine ⟨_, _, _, _, _, _, _, rfl, by omega, by omega, ?_⟩
        have hw : mx (wrap64 ((L.length : Int) - r2)) 0 ≤ 1000000 := by
          rw [T.wrap_small (by omega) (by omega)]
          unfold mx
          split <;> omega
        have h3 : r3 = 0 ∨ r3 = 1 ∨ r3 = 2 := by omega
        unfold rd
        rcases h3 with rfl | rfl | rfl
        · simp
        · simp
        · simpa using hw
    · exact evl0 hb hl h d t B hBB 4 k2 0 x6 p (by omega) h60 h65 h0 (by omega) (by omega)
  · rw [if_pos rfl]
    exact ⟨_, _, _, _, _, _, _, rfl, by omega, by omega, by omega⟩
theorem evj1 {D M : List S25} {L : List Rc} {s : Int} (h : EI D M L s) (d : Bool) (t x6 x25 : Int) (c : Bool) (p B : Int) (h60 : 0 ≤ x6) (h65 : x6 < 5) (h0 : 0 ≤ p) (hB : p + 8 ≤ B) (hBB : B ≤ 900000000) (k : Nat) (hk : 651 ≤ k) : Ev B (Xh.j1 k t x6 x25 c s0 p D M L s d) := by
  obtain ⟨k2, rfl⟩ : ∃ k2, k = k2 + 1 := ⟨k - 1, by omega⟩
  rw [Xh.j1]
  split
  · exact ⟨_, _, _, _, _, _, _, rfl, by omega, by omega, by omega⟩
  split
  · exact ⟨_, _, _, _, _, _, _, rfl, by omega, by omega, by omega⟩
  split
  · exact evj2 hb hl h d t x6 x25 _ p B h60 h65 h0 hB hBB k2 (by omega)
  · exact evj2 hb hl h d t x6 x25 _ p B h60 h65 h0 hB hBB k2 (by omega)
theorem Xoa {D M : List S25} {L : List Rc} {s : Int} (h : EI D M L s) (d : Bool) (t x6 x25 : Int) (c : Bool) (p B : Int) (h60 : 0 ≤ x6) (h65 : x6 < 5) (h0 : 0 ≤ p) (hB : p + 8 ≤ B) (hBB : B ≤ 900000000) (k : Nat) (hk : 652 ≤ k) : Ev B (Xh.j0 k t x6 x25 c s0 p D M L s d) := by
  have hlen := h.len
  obtain ⟨k2, rfl⟩ : ∃ k2, k = k2 + 1 := ⟨k - 1, by omega⟩
  rw [Xh.j0]
  cases c
  · rw [if_neg (by simp)]
    split
    · obtain ⟨n, en, hn⟩ := Qj h.l.1 (by omega) D M s d x6 k2 (by omega)
      obtain ⟨r1, e1, _⟩ := pk hb hl p 9 h0 (by omega) (by omega) k2 (by omega); obtain ⟨r2, e2, _⟩ := pk hb hl (p + 1) 10 (by omega) (by omega) (by omega) k2 (by omega); obtain ⟨r3, e3, _⟩ := pk hb hl (p + 1 + 1) 10 (by omega) (by omega) (by omega) k2 (by omega); simp only [en, e1, e2, e3, Option.bind_some]; exact ⟨_, _, _, _, _, _, _, rfl, by omega, by omega, by omega⟩
    split
    · exact evj1 hb hl h d t x6 x25 _ p B h60 h65 h0 hB hBB k2 (by omega)
    · exact evj1 hb hl h d t x6 x25 _ p B h60 h65 h0 hB hBB k2 (by omega)
  · obtain ⟨r1, e1, hr1⟩ := pk hb hl p 3 h0 (by omega) (by omega) k2 (by omega)
    obtain ⟨r2, e2, _⟩ := pk hb hl (p + 1) 3 (by omega) (by omega) (by omega) k2 (by omega)
    have hw : wrap64 (1 + r1) ≤ 1000000 := by rw [T.wrap_small (by omega) (by omega)]; omega
    rw [if_pos rfl]; simp only [e1, e2, Option.bind_some]; rw [if_pos h60, if_pos (by rw [h.m.len]; omega)]
    split
    · split
      · exact ⟨_, _, _, _, _, _, _, rfl, by omega, by omega, by omega⟩
      · exact ⟨_, _, _, _, _, _, _, rfl, by omega, by omega, hw⟩
    · exact ⟨_, _, _, _, _, _, _, rfl, by omega, by omega, hw⟩
theorem XjL {D M : List S25} {L : List Rc} {s : Int} (h : EI D M L s) (d : Bool) (p : Int) (h0 : 0 ≤ p) (hp : p ≤ 800000000) (k : Nat) (hk : 700 ≤ k) : Ev (p + 20) (Xh.f k s0 p D M L s d) := by
  obtain ⟨r1, e1, hr1⟩ := pk hb hl p 3 h0 (by omega) (by omega) k (by omega); obtain ⟨r2, e2, hr2⟩ := pk hb hl (p + 1) 5 (by omega) (by omega) (by omega) k (by omega); obtain ⟨r3, e3, hr3⟩ := pk hb hl (p + 1 + 1) 4 (by omega) (by omega) (by omega) k (by omega); obtain ⟨r4, e4, hr4⟩ := pk hb hl (p + 1 + 1) 16 (by omega) (by omega) (by omega) k (by omega); obtain ⟨r5, e5, hr5⟩ := pk hb hl (p + 1 + 1 + 1) 3 (by omega) (by omega) (by omega) k (by omega)
  unfold Xh.f
  simp only [e1, e2, e3, e4, e5, Option.bind_some]
  split
  · rw [if_pos hr5.1, if_pos zb151]
    refine ⟨_, _, _, _, _, _, _, rfl, by omega, by omega, ?_⟩
    have h3 : r5 = 0 ∨ r5 = 1 ∨ r5 = 2 := by omega
    unfold rd
    rcases h3 with rfl | rfl | rfl
    · simp
    · simp
    · simp; omega
  split
  · exact Xoa hb hl h d _ _ _ _ _ _ hr2.1 hr2.2 (by omega) (by omega) (by omega) k (by omega)
  split
  · exact Xoa hb hl h d _ _ _ _ _ _ hr2.1 hr2.2 (by omega) (by omega) (by omega) k (by omega)
  · exact Xoa hb hl h d _ _ _ _ _ _ hr2.1 hr2.2 (by omega) (by omega) (by omega) k (by omega)
theorem XgF : ∀ (n k : Nat) (D M : List S25) (L : List Rc) (s : Int) (d : Bool) (p cn : Int), EI D M L s → 0 ≤ p → p + 20 * n ≤ 700000000 → cn + n ≤ 1000 → n ≤ 1000 → 4501 + n ≤ k → ∃ D' M' L' s' d' p', Zw.l0 k s0 p D M L s d (n : Int) cn = some (D', M', L', s', d', p') ∧ EI D' M' L' s' ∧ 0 ≤ p' ∧ p' ≤ p + 20 * n
  | 0, k, D, M, L, s, d, p, cn, h, h0, hp, hc, hn, hk => by
    obtain ⟨k2, rfl⟩ : ∃ k2, k = k2 + 1 := ⟨k - 1, by omega⟩
    exact ⟨D, M, L, s, d, p, by rw [Zw.l0, if_neg (by omega)], h, h0, by omega⟩
  | n + 1, k, D, M, L, s, d, p, cn, h, h0, hp, hc, hn, hk => by
    obtain ⟨k2, rfl⟩ : ∃ k2, k = k2 + 1 := ⟨k - 1, by omega⟩
    obtain ⟨e1, e2, e3, e4, e5, e6, p', e, hp0, hp1, h5⟩ := XjL hb hl h d p h0 (by omega) k2 (by omega); obtain ⟨D', M', L', s', d', e', hE⟩ := do_k h d e1 e2 e3 e4 e5 e6 h5 k2 (by omega); rw [Zw.l0, if_pos (by omega), if_pos (by omega), e, Option.bind_some]; simp only [e', Option.bind_some]; rw [show wrap64 (((n + 1 : Nat) : Int) - 1) = (n : Int) by rw [T.wrap_small (by omega) (by omega)]; omega]; obtain ⟨D2, M2, L2, s2, d2, p2, e2', hE2, h20, h2⟩ := XgF n k2 D' M' L' s' d' p' (cn + 1) hE hp0 (by omega) (by omega) (by omega) (by omega); exact ⟨D2, M2, L2, s2, d2, p2, e2', hE2, h20, by omega⟩
theorem Xob (p : Int) (h0 : 0 ≤ p) (hp : p ≤ 600000000) (k : Nat) (hk : 5000 ≤ k) : ∃ L p', Zw.f k s0 p = some (L, p') ∧ L.length ≤ 150 ∧ 0 ≤ p' ∧ p' ≤ p + 800 := by
  obtain ⟨D, eD, hD⟩ := XjK k (by omega); obtain ⟨r, er, hr⟩ := pk hb hl p 37 h0 (by omega) (by omega) k (by omega)
  obtain ⟨n, rfl⟩ : ∃ n : Nat, r = (n : Int) := ⟨r.toNat, by omega⟩
  have hE0 : EI D D [] 0 := ⟨hD, hD.mono (by simp), Rq.nil, by omega, by simp⟩
  obtain ⟨D', M', L', s', d', p', e, hE, hp0, hp1⟩ := XgF hb hl n k D D [] 0 false (p + 1) 0 hE0 (by omega) (by omega) (by omega) (by omega) (by omega); have hlen := hE.len
  unfold Zw.f VM.f
  simp only [eD, er, e, Option.bind_some]
  unfold ZQ.f
  rw [Wo hE.d k (by omega), Option.bind_some, Wo hE.m k (by omega), Option.bind_some, Option.bind_some, if_pos zb151, Option.bind_some]; exact ⟨[] ++ L', p', rfl, by simpa using hlen, hp0, by omega⟩
theorem XlF (p : Int) (h0 : 0 ≤ p) (hp : p ≤ 500000000) (k : Nat) (hk : 5000 ≤ k) : ∃ l p', VA.f k s0 p = some (l, p') ∧ l.length ≤ 151 ∧ 0 ≤ p' ∧ p' ≤ p + 900 := by
  obtain ⟨L, q, eL, hL, hq0, hq⟩ := Xob hb hl p h0 (by omega) k hk; obtain ⟨t, et, ht⟩ := pk hb hl q 16 hq0 (by omega) (by omega) k (by omega)
  unfold VA.f
  simp only [eL, et, Option.bind_some]
  by_cases h1 : t = 0
  · obtain ⟨k2, rfl⟩ : ∃ k2, k = k2 + 2 := ⟨k - 2, by omega⟩
    obtain ⟨c0, c1, c2, c3, c4, c5, c6, c7, p', e, hp1, hp2⟩ := Xtw s0 hb hl (q + 1) (by omega) (by omega) k2; rw [if_pos h1, if_pos (by omega)]; simp only [e, Option.bind_some]; exact ⟨_, _, rfl, zb151, by omega, by omega⟩
  rw [if_neg h1]
  by_cases h2 : t = 1
  · rw [if_pos h2]
    by_cases hn : (L.length : Int) > 0
    · obtain ⟨a, ea, ha⟩ := pk hb hl (q + 1) (L.length : Int) (by omega) (by omega) (by omega) k (by omega)
      obtain ⟨b, eb, _⟩ := pk hb hl (q + 1 + 1) 4 (by omega) (by omega) (by omega) k (by omega); rw [if_pos hn]; simp only [ea, eb, Option.bind_some]; rw [if_pos ha.1, if_pos ha.2]; exact ⟨_, _, rfl, by rw [List.length_set]; omega, by omega, by omega⟩
    · exact ⟨L, q + 1, by rw [if_neg hn], by omega, by omega, by omega⟩
  rw [if_neg h2]
  by_cases h3 : t = 2
  · rw [if_pos h3]
    by_cases hn : (L.length : Int) > 1
    · exact ⟨L.drop 1, q + 1, by rw [if_pos hn], by rw [List.length_drop]; omega, by omega, by omega⟩
    · exact ⟨L, q + 1, by rw [if_neg hn], by omega, by omega, by omega⟩
  · exact ⟨L, q + 1, by rw [if_neg h3], by omega, by omega, by omega⟩
end
theorem Xoc (code : List Int) (hc : Bytes code) : ∃ s0, Ga.f code = some (s0, 0) ∧ Bytes s0 ∧ s0.length ≤ 2000 := by
  unfold Ga.f
  by_cases h : (code.length : Int) > 2000
  · rw [if_pos h, if_pos (by omega)]
    exact ⟨_, rfl, fun x hx => hc x (List.mem_of_mem_take hx), by rw [List.length_take]; omega⟩
  · rw [if_neg h]
    exact ⟨_, rfl, hc, by omega⟩
theorem BL {s0 : List Int} (hb : Bytes s0) (hl : s0.length ≤ 2000) : ∀ (n k i : Nat) (p : Int) (l : List Rc), i + n = 5 → 0 ≤ p → p + 1000 * n ≤ 400000000 → l.length ≤ 151 → 5001 + n ≤ k → ∃ l' t, XH.l0 k s0 p l (i : Int) = some (l', t) ∧ l'.length ≤ 151
  | 0, k, i, p, l, hi, h0, hp, hll, hk => by
    obtain ⟨k2, rfl⟩ : ∃ k2, k = k2 + 1 := ⟨k - 1, by omega⟩
    obtain ⟨t, et, _⟩ := pk hb hl p 5 h0 (by omega) (by omega) k2 (by omega); rw [XH.l0, if_neg (by omega), et, Option.bind_some]
    exact ⟨l, t, rfl, hll⟩
  | n + 1, k, i, p, l, hi, h0, hp, hll, hk => by
    obtain ⟨k2, rfl⟩ : ∃ k2, k = k2 + 1 := ⟨k - 1, by omega⟩
    obtain ⟨t, et, ht⟩ := pk hb hl p 8 h0 (by omega) (by omega) k2 (by omega); obtain ⟨q, eq, _⟩ := pk hb hl (p + 1) 5 (by omega) (by omega) (by omega) k2 (by omega); rw [XH.l0, if_pos (by omega)]; simp only [et, Option.bind_some]
    by_cases h1 : t > 0
    · rw [if_pos h1, ES l (by omega) k2 (by omega), Option.bind_some]
      by_cases h2 : ((Xde l).length : Int) > 0
      · obtain ⟨a, ea, ha⟩ := pk hb hl (p + 1) ((Xde l).length : Int) (by omega) (by omega) (by omega) k2 (by omega)
        rw [if_pos h2]; simp only [ea, Option.bind_some]; rw [if_pos ha.1, if_pos ha.2]; exact ⟨_, _, rfl, hll⟩
      · obtain ⟨l', p', e, hl', hp0, hp1⟩ := XlF hb hl (p + 1) (by omega) (by omega) k2 (by omega)
        rw [if_neg h2]; simp only [e, Option.bind_some]; rw [M7 (by omega) (by omega)]; exact BL hb hl n k2 (i + 1) p' l' (by omega) hp0 (by omega) hl' (by omega)
    · rw [if_neg h1]
      simp only [eq, Option.bind_some]; exact ⟨_, _, rfl, hll⟩
theorem Nu (code : List Int) (hc : Bytes code) (k : Nat) (hk : 5100 ≤ k) : ∃ l t, XH.f k code = some (l, t) ∧ l.length ≤ 151 := by
  obtain ⟨s0, e0, hb, hl⟩ := Xoc code hc; obtain ⟨l, p, e1, hl1, hp0, hp⟩ := XlF hb hl 0 (by omega) (by omega) k (by omega)
  unfold XH.f
  simp only [e0, e1, Option.bind_some]; exact BL hb hl 5 k 0 p l (by omega) hp0 (by omega) hl1 (by omega)
end Go.Proofs.Ytcefiblpnegepaa.T
