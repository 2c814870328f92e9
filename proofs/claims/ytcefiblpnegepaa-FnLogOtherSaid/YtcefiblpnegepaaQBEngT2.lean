import Derived.Test.YtcefiblpnegepaaQBOks
import Derived.Test.YtcefiblpnegepaaQBPrLO2
import Derived.Test.YtcefiblpnegepaaQBEngP
import Derived.Test.YtcefiblpnegepaaQBPrWrap
namespace Go.Proofs.Ytcefiblpnegepaa.T
open Go.RowKit Go.PW Go.Proofs.Ytcefiblpnegepaa.Pr
set_option linter.unusedSimpArgs false
set_option linter.unusedVariables false
theorem Xbs {j : Nat} (h1 : j ≤ 1000000) : wrap64 ((j : Int) + 1 - 1) = (j : Int) := by rw [T.wrap_small (by omega) (by omega)]; omega
theorem M7 {x : Int} (h0 : 0 ≤ x) (h1 : x ≤ 1000000) : wrap64 (x + 1) = x + 1 := T.wrap_small (by omega) (by omega)
theorem Xbt {l : List Rc} (g : Good l) (hl : l.length ≤ 160) : ∀ (n k : Nat) (a : Int), a ≤ (n : Int) → a ≤ (l.length : Int) → 2 * n + 1 ≤ k → XU.l0 k l a = some (ZF l n a)
  | 0, k + 1, a, h, _, _ => by rw [XU.l0, if_neg (by omega), ZF]
  | n + 1, k + 1, a, h, h2, hk => by
    rw [XU.l0, ZF]
    by_cases ha : 0 < a
    · obtain ⟨j, rfl⟩ := GJ ha
      have hp := (g j (by omega)).Vq (by omega); have hn := (g j (by omega)).next
      obtain ⟨k2, rfl⟩ : ∃ k2, k = k2 + 1 := ⟨k - 1, by omega⟩
      have ih7 := Xbt g hl n k2 (rc l (j : Int)).f7 (by omega) (by omega) (by omega); have ih6 := Xbt g hl n k2 (rc l (j : Int)).f6 (by omega) (by omega) (by omega); rw [if_pos ha, if_pos ha, Xbs (by omega), show (j : Int) + 1 - 1 = (j : Int) by omega, if_pos (by omega), if_pos (by omega)]; simp only [rc] at hp hn ih7 ih6 ⊢
      by_cases h1 : (Xa l (j : Int)).f0 = 1
      · rw [if_pos h1, if_pos (Or.inl h1), XU.j1, if_pos (beq_iff_eq.mpr h1)]
      · rw [if_neg h1, XU.j1]
        by_cases h2 : (Xa l (j : Int)).f0 = 2
        · rw [if_pos (beq_iff_eq.mpr h2), if_pos (Or.inr h2)]
        · rw [if_neg (show ¬ ((Xa l (j : Int)).f0 == 2) = true from fun h => h2 (beq_iff_eq.mp h)), if_neg (show ¬ ((Xa l (j : Int)).f0 = 1 ∨ (Xa l (j : Int)).f0 = 2) from fun h => h.elim h1 h2)]
          by_cases h6 : (Xa l (j : Int)).f0 = 6
          · rw [if_pos h6, if_pos h6]
            exact ih7
          · rw [if_neg h6, if_neg h6]
            exact ih6
    · rw [if_neg (by omega), if_neg ha]
theorem Qg {l : List Rc} (g : Good l) (hl : l.length ≤ 160) (k : Nat) (a : Int) (ha : a ≤ (l.length : Int)) (hk : 400 ≤ k) : XU.f k l a = some (ZF l l.length a) :=
  Xbt g hl l.length k a ha ha (by omega)
theorem M8 {l : List Rc} (hl : l.length ≤ 160) (t : Int) (k : Nat) (hk : 400 ≤ k) : Xu.f k l t = some (lastB l t) := NJ l t (by omega) k (by omega)
theorem Qh {l : List Rc} (g : Good l) (hl : l.length ≤ 160) (x4 r : Int) (K : Nat) : ∀ (n : Nat) (a x3 : Int), a ≤ (n : Int) → a ≤ (l.length : Int) → 0 ≤ x3 → x3 + n ≤ 1000 → (∀ k, K ≤ k → X8.l0 k l (x3 + (Fb l n a : Int)) (wrap64 (x4 + 1)) = some r) → ∀ k, K + 500 + n ≤ k → X8.l1 k l x3 x4 (ZF l l.length a) = some r
  | 0, a, x3, ha, hl2, h0, h1, hr, k, hk => by
    obtain ⟨k2, rfl⟩ : ∃ k2, k = k2 + 1 := ⟨k - 1, by omega⟩
    have hb := Gq g l.length a (rc l (a - 1)).f1 hl2 (fun _ => rfl); rw [X8.l1, if_neg (by omega)]; have := hr k2 (by omega)
    simpa [Fb] using this
  | n + 1, a, x3, ha, hl2, h0, h1, hr, k, hk => by
    obtain ⟨k2, rfl⟩ : ∃ k2, k = k2 + 1 := ⟨k - 1, by omega⟩
    have hf : ZF l (n + 1) a = ZF l l.length a := Sj g _ _ a ha hl2 hl2; rw [Fb, hf] at hr; rw [X8.l1]
    by_cases hb : 0 < ZF l l.length a
    · have bp := NI g hl2 hb
      rw [if_pos hb] at hr; rw [if_pos hb]; obtain ⟨j, hj⟩ := GJ hb; rw [hj] at hr bp ⊢; rw [show (j : Int) + 1 - 1 = (j : Int) by omega] at hr bp; rw [Xbs (by omega), if_pos (by omega), if_pos (by omega)]
      change (XU.f k2 l (rc l (j : Int)).f6).bind _ = some r
      rw [Qg g hl k2 _ (by omega) (by omega), Option.bind_some, M7 h0 (by omega)]; refine Qh g hl x4 r K n (rc l (j : Int)).f6 (x3 + 1) (by omega) (by omega) (by omega) (by omega) (fun k hk => ?_) k2 (by omega); have := hr k hk; rw [show x3 + 1 + (Fb l n (rc l (j : Int)).f6 : Int) = x3 + ((Fb l n (rc l (j : Int)).f6 + 1 : Nat) : Int) by omega]; exact this
    · rw [if_neg hb] at hr
      rw [if_neg hb]; have := hr k2 (by omega)
      simpa using this
theorem Xg6 {l : List Rc} : ∀ (n : Nat) (a : Int), Fb l n a ≤ n
  | 0, _ => by simp [Fb]
  | n + 1, a => by
    rw [Fb]
    split
    · have := Xg6 (l := l) n (rc l (ZF l (n + 1) a - 1)).f6
      omega
    · omega
theorem Qi {l : List Rc} (g : Good l) (hl : l.length ≤ 160) (x4 x3 r : Int) (h4 : 1 ≤ x4 ∧ x4 ≤ 3) (h0 : 0 ≤ x3) (h1 : x3 ≤ 600) (K : Nat) (hr : ∀ k, K ≤ k → X8.l0 k l (x3 + (VR l x4 : Int)) (x4 + 1) = some r) : ∀ k, K + 1100 ≤ k → X8.l0 k l x3 x4 = some r := by
  intro k hk
  obtain ⟨k2, rfl⟩ : ∃ k2, k = k2 + 2 := ⟨k - 2, by omega⟩
  have hb := Jq l x4; have hb0 := Dc l x4; have w4 : wrap64 (x4 + 1) = x4 + 1 := M7 (by omega) (by omega); rw [X8.l0, if_pos (by omega), M8 hl x4 _ (by omega), Option.bind_some]
  unfold VR at hr
  by_cases h : 0 < lastB l x4
  · rw [if_pos h] at hr
    rw [if_pos h, X8.j1, Qg g hl _ _ hb (by omega), Option.bind_some, M7 h0 (by omega)]; refine Qh g hl x4 r K l.length (lastB l x4) (x3 + 1) hb hb (by omega) (by omega) (fun k hk => ?_) k2 (by omega); rw [w4, show x3 + 1 + (Fb l l.length (lastB l x4) : Int) = x3 + ((Fb l l.length (lastB l x4) + 1 : Nat) : Int) by omega]; exact hr k hk
  · rw [if_neg h] at hr
    rw [if_neg h, X8.j1, Qg g hl _ _ hb (by omega), Option.bind_some]
    have h0' : lastB l x4 = 0 := by omega
    have hc : Fb l l.length (lastB l x4) = 0 := by
      rw [h0']; have hb2 := Gq g l.length 0 (rc l (0 - 1)).f1 (by omega) (fun _ => rfl)
      cases hn : l.length with
      | zero => rfl
      | succ m =>
        rw [Fb, if_neg]; rw [← hn]; omega
    refine Qh g hl x4 r K l.length (lastB l x4) x3 hb hb (by omega) (by omega) (fun k hk => ?_) k2 (by omega); rw [w4, hc]; exact hr k hk
theorem NK {l : List Rc} (hl : l.length ≤ 160) (t : Int) : VR l t ≤ 161 := by
  unfold VR
  split
  · have := Xg6 (l := l) l.length (lastB l t)
    omega
  · omega
theorem XnS {l : List Rc} (g : Good l) (hl : l.length ≤ 160) (k : Nat) (hk : 4000 ≤ k) : X8.f k l = some (Uy l : Int) := by
  have n1 := NK hl 1; have n2 := NK hl 2
  unfold X8.f Uy
  refine Qi g hl 1 0 _ (by omega) (by omega) (by omega) 2300 (fun k hk => ?_) k (by omega); refine Qi g hl 2 _ _ (by omega) (by omega) (by omega) 1150 (fun k hk => ?_) k (by omega); refine Qi g hl 3 _ _ (by omega) (by omega) (by omega) 1 (fun k hk => ?_) k (by omega)
  obtain ⟨k2, rfl⟩ : ∃ k2, k = k2 + 1 := ⟨k - 1, by omega⟩
  rw [X8.l0, if_neg (by omega)]
  congr 1
  omega
theorem XlD {l : List Rc} (g : Good l) (hl : l.length ≤ 160) (p : Int) : ∀ (n k : Nat) (a : Int), a ≤ (n : Int) → a ≤ (l.length : Int) → n + 1 ≤ k → ∃ b, YK.l0 k l p a = some b
  | 0, k + 1, a, h, _, _ => ⟨false, by rw [YK.l0, if_neg (by omega)]⟩
  | n + 1, k + 1, a, h, h2, hk => by
    rw [YK.l0]
    by_cases ha : 0 < a
    · obtain ⟨j, rfl⟩ := GJ ha
      have hp := (g j (by omega)).Vq (by omega); rw [if_pos ha, Xbs (by omega), if_pos (by omega), if_pos (by omega)]
      split
      · exact ⟨_, rfl⟩
      · exact XlD g hl p n k (rc l (j : Int)).f6 (by omega) (by omega) (by omega)
    · exact ⟨false, by rw [if_neg ha]⟩
theorem Xg7 {l : List Rc} (g : Good l) (hl : l.length ≤ 160) (t p : Int) (k : Nat) (hk : 400 ≤ k) : ∃ b, YK.f k l t p = some b := by
  unfold YK.f
  rw [M8 hl t k hk, Option.bind_some]; exact XlD g hl p l.length k _ (Jq l t) (Jq l t) (by omega)
theorem Xg8 {l : List Rc} (g : Good l) (hl : l.length ≤ 160) (p : Int) : ∀ (n k : Nat) (a : Int), a ≤ (n : Int) → a ≤ (l.length : Int) → n + 1 ≤ k → ∃ b, YG.l0 k l p a = some b
  | 0, k + 1, a, h, _, _ => ⟨false, by rw [YG.l0, if_neg (by omega)]⟩
  | n + 1, k + 1, a, h, h2, hk => by
    rw [YG.l0]
    by_cases ha : 0 < a
    · obtain ⟨j, rfl⟩ := GJ ha
      have hp := (g j (by omega)).Vq (by omega); have ih := Xg8 g hl p n k (rc l (j : Int)).f6 (by omega) (by omega) (by omega); rw [if_pos ha, Xbs (by omega), if_pos (by omega), if_pos (by omega)]
      split
      · split
        · split
          · exact ⟨_, rfl⟩
          · exact ih
        · exact ih
      · exact ih
    · exact ⟨false, by rw [if_neg ha]⟩
theorem XnT {l : List Rc} (g : Good l) (hl : l.length ≤ 160) (t p : Int) (k : Nat) (hk : 400 ≤ k) : ∃ b, YG.f k l t p = some b := by
  unfold YG.f
  rw [M8 hl t k hk, Option.bind_some]; exact Xg8 g hl p l.length k _ (Jq l t) (Jq l t) (by omega)
theorem Qj {l : List Rc} (g : Good l) (hl : l.length ≤ 160) (D M : List S25) (s : Int) (d : Bool) (p : Int) (k : Nat) (hk : 500 ≤ k) : ∃ n, XQ.f k D M l s d p = some n ∧ 0 ≤ n ∧ n ≤ 3 := by
  obtain ⟨k2, rfl⟩ : ∃ k2, k = k2 + 4 := ⟨k - 4, by omega⟩
  obtain ⟨b1, e1⟩ := Xg7 g hl 1 p (k2 + 3) (by omega); obtain ⟨b2, e2⟩ := Xg7 g hl 2 p (k2 + 2) (by omega); obtain ⟨b3, e3⟩ := Xg7 g hl 3 p (k2 + 1) (by omega)
  unfold XQ.f
  rw [XQ.l0, if_pos (by omega), e1, Option.bind_some]
  cases b1
  · rw [if_neg (by simp), show wrap64 (1 + 1) = 2 from M7 (by omega) (by omega), XQ.l0, if_pos (by omega), e2, Option.bind_some]
    cases b2
    · rw [if_neg (by simp), show wrap64 (2 + 1) = 3 from M7 (by omega) (by omega), XQ.l0, if_pos (by omega), e3, Option.bind_some]
      cases b3
      · rw [if_neg (by simp), show wrap64 (3 + 1) = 4 from M7 (by omega) (by omega), XQ.l0, if_neg (by omega)]
        exact ⟨0, rfl, by omega, by omega⟩
      · exact ⟨3, by simp, by omega, by omega⟩
    · exact ⟨2, by simp, by omega, by omega⟩
  · exact ⟨1, by simp, by omega, by omega⟩
theorem Qk (n lo hi : Int) : Ya.f n lo hi = some (decide (lo ≤ n ∧ n ≤ hi)) := by
  unfold Ya.f
  by_cases h : n ≥ lo
  · rw [if_pos h]
    congr 1
    by_cases h2 : n ≤ hi
    · rw [decide_eq_true h2, decide_eq_true ⟨h, h2⟩]
    · rw [decide_eq_false h2, decide_eq_false (fun x => h2 x.2)]
  · rw [if_neg h, decide_eq_false (fun x => h x.1)]
theorem Xg9 {l : List Rc} (g : Good l) (hl : l.length ≤ 160) (D M : List S25) (s : Int) (d : Bool) (t p : Int) (k : Nat) (hk : 500 ≤ k) : ∃ b, Vb.f k D M l s d t p = some b ∧ (b = true → (1 ≤ t ∧ t ≤ 3) ∧ (0 ≤ p ∧ p ≤ 4) ∧ d = false) := by
  unfold Vb.f
  cases d
  · rw [if_neg (by simp), Qk, Option.bind_some]
    by_cases ht : 1 ≤ t ∧ t ≤ 3
    · rw [decide_eq_true ht, if_pos rfl, Qk, Option.bind_some]
      by_cases hp : 0 ≤ p ∧ p ≤ 4
      · obtain ⟨n, e, _⟩ := Qj g hl D M s false p k hk
        rw [decide_eq_true hp, if_pos rfl, e, Option.bind_some]
        split
        · exact ⟨_, rfl, fun _ => ⟨ht, hp, rfl⟩⟩
        · exact ⟨_, rfl, fun _ => ⟨ht, hp, rfl⟩⟩
      · rw [decide_eq_false hp, if_neg (by simp)]
        exact ⟨false, rfl, fun h => by simp at h⟩
    · rw [decide_eq_false ht, if_neg (by simp)]
      exact ⟨false, rfl, fun h => by simp at h⟩
  · exact ⟨false, by simp, fun h => by simp at h⟩
theorem Xdb {l : List Rc} (hl : l.length ≤ 160) (k : Nat) (hk : 500 ≤ k) : ∃ n, Yy.f k l = some n ∧ 0 ≤ n ∧ n ≤ 3 ∧ (0 < n → 0 < lastB l n) := by
  obtain ⟨k2, rfl⟩ : ∃ k2, k = k2 + 4 := ⟨k - 4, by omega⟩
  unfold Yy.f
  rw [Yy.l0, if_pos (by omega), M8 hl 1 _ (by omega), Option.bind_some]
  by_cases h1 : lastB l 1 > 0
  · rw [if_pos h1]
    exact ⟨1, rfl, by omega, by omega, fun _ => h1⟩
  rw [if_neg h1, show wrap64 (1 + 1) = 2 from M7 (by omega) (by omega), Yy.l0, if_pos (by omega), M8 hl 2 _ (by omega), Option.bind_some]
  by_cases h2 : lastB l 2 > 0
  · rw [if_pos h2]
    exact ⟨2, rfl, by omega, by omega, fun _ => h2⟩
  rw [if_neg h2, show wrap64 (2 + 1) = 3 from M7 (by omega) (by omega), Yy.l0, if_pos (by omega), M8 hl 3 _ (by omega), Option.bind_some]
  by_cases h3 : lastB l 3 > 0
  · rw [if_pos h3]
    exact ⟨3, rfl, by omega, by omega, fun _ => h3⟩
  rw [if_neg h3, show wrap64 (3 + 1) = 4 from M7 (by omega) (by omega), Yy.l0, if_neg (by omega)]; exact ⟨0, rfl, by omega, by omega, fun h => by omega⟩
end Go.Proofs.Ytcefiblpnegepaa.T
namespace Go.Proofs.Ytcefiblpnegepaa.T
open Go.RowKit Go.PW Go.Proofs.Ytcefiblpnegepaa.Pr
set_option linter.unusedSimpArgs false
set_option linter.unusedVariables false
structure Pe (D : List S25) (b : Int) : Prop where
  len : D.length = 5
  ok : ∀ i : Int, 0 ≤ i → i < 5 → (Xn D i).f2.length = 3 ∧ (Xn D i).f0 ≤ b
theorem Pe.mono {D : List S25} {b b' : Int} (h : Pe D b) (hb : b ≤ b') : Pe D b' := ⟨h.len, fun i h0 h1 => ⟨(h.ok i h0 h1).1, Int.le_trans (h.ok i h0 h1).2 hb⟩⟩
theorem XgA (D : List S25) (p i : Int) (x : S25) (h0 : 0 ≤ p) (h1 : p < (D.length : Int)) (hi : 0 ≤ i) : Xn (D.set p.toNat x) i = if i = p then x else Xn D i := by
  unfold Xn
  rw [List.getD_eq_getElem?_getD, List.getD_eq_getElem?_getD, List.getElem?_set]
  by_cases h : i = p
  · subst h
    rw [if_pos rfl, if_pos rfl, if_pos (by omega)]
    rfl
  · rw [if_neg (by omega), if_neg h]
theorem Pe.set {D : List S25} {b : Int} (h : Pe D b) {p : Int} (h0 : 0 ≤ p) (h1 : p < 5) {x : S25} (hx : x.f2.length = 3) (hb : x.f0 ≤ b) : Pe (D.set p.toNat x) b := by
  refine ⟨by rw [List.length_set]; exact h.len, fun i hi hi2 => ?_⟩; rw [XgA D p i x h0 (by rw [h.len]; omega) hi]
  split
  · exact ⟨hx, hb⟩
  · exact h.ok i hi hi2
theorem Xbu (a b : Int) (l : List Int) (h : l.length < 17592186044416) : J5.f a b l = some (a, b, l) := by
  unfold J5.f
  rw [Option.bind_some, if_pos (by simpa using h)]
  rfl
theorem XlE (a b : Int) (l : List Int) (k tx p s o n pv nx lsn : Int) (hl : l.length = 3) (hs : s ≤ 2) : ∃ b' l', Dm.f a b l k tx p s o n pv nx lsn = some (lsn, b', l') ∧ l'.length = 3 := by
  unfold Dm.f
  rw [Xbu a b l (by omega), Option.bind_some]
  by_cases h : s ≥ 0
  · rw [if_pos h, if_pos (show 0 ≤ s from h)]
    rw [if_pos (by show s < (l.length : Int); omega)]; exact ⟨_, _, rfl, by rw [List.length_set]; exact hl⟩
  · rw [if_neg h]
    by_cases h2 : n = 0
    · rw [if_pos h2, if_pos (by omega)]
      exact ⟨_, _, rfl, by simp⟩
    · rw [if_neg h2]
      exact ⟨_, _, rfl, hl⟩
theorem Xav {D : List S25} {b : Int} (h : Pe D b) : ∀ (d i k : Nat), i + d = 5 → d < k → X4.l0 k D (D.take i) (i : Int) = some D
  | 0, i, k + 1, hi, _ => by
    rw [X4.l0, if_neg (by rw [h.len]; omega), List.take_of_length_le (by rw [h.len]; omega)]
  | d + 1, i, k + 1, hi, hk => by
    have hok := h.ok (i : Int) (by omega) (by omega); rw [X4.l0, if_pos (by rw [h.len]; omega), if_pos (by omega), Xbu _ _ _ (by rw [hok.1]; omega), Option.bind_some, if_pos (by rw [List.length_take]; have := h.len; omega), M7 (by omega) (by omega)]
    have e : D.take i ++ [(⟨(Xn D (i : Int)).f0, (Xn D (i : Int)).f1, (Xn D (i : Int)).f2⟩ : S25)] = D.take (i + 1) := by
      have hlt : i < D.length := by rw [h.len]; omega
      rw [List.take_succ_eq_append_getElem hlt]
      congr 2
      unfold Xn
      rw [List.getD_eq_getElem?_getD, Int.toNat_natCast, List.getElem?_eq_getElem hlt]
      rfl
    have ih := Xav h d (i + 1) k (by omega) (by omega); rw [← e] at ih; exact ih
theorem Wo {D : List S25} {b : Int} (h : Pe D b) (k : Nat) (hk : 10 ≤ k) : X4.f k D = some D := Xav h 5 0 k (by omega) (by omega)
theorem O1 (a : Int) : ∃ t, Zg.f a = some t := by
  unfold Zg.f
  split
  · exact ⟨_, rfl⟩
  · split
    · exact ⟨_, rfl⟩
    · exact ⟨_, rfl⟩
theorem XgB {L : List Rc} (g : Good L) (hl : L.length ≤ 160) : ∀ (d i k : Nat) (M : List S25), i + d = L.length → d < k → Pe M (L.length : Int) → ∃ M', Yn.l0 k L M (i : Int) = some M' ∧ Pe M' (L.length : Int)
  | 0, i, k + 1, M, hi, _, hM => ⟨M, by rw [Yn.l0, if_neg (by omega)], hM⟩
  | d + 1, i, k + 1, M, hi, hk, hM => by
    obtain ⟨t, ht⟩ := O1 (Xa L (i : Int)).f0; have o := g i (by omega); have hp : 0 ≤ (Xa L (i : Int)).f2 ∧ (Xa L (i : Int)).f2 < 5 := o.page; have hs : -1 ≤ (Xa L (i : Int)).f3 ∧ (Xa L (i : Int)).f3 < 3 := o.slot
    have ih := fun M' (hM' : Pe M' (L.length : Int)) => XgB g hl d (i + 1) k M' (by omega) (by omega) hM'
    rw [Yn.l0, if_pos (by omega), if_pos (by omega), ht, Option.bind_some, M7 (by omega) (by omega)]
    cases t
    · rw [if_neg (by simp)]
      exact ih M hM
    · rw [if_pos rfl, if_pos hp.1, if_pos (by rw [hM.len]; omega)]
      by_cases hf : (Xn M (Xa L (i : Int)).f2).f0 < (i : Int) + 1
      · obtain ⟨b', l', e, hl'⟩ := XlE (Xn M (Xa L (i : Int)).f2).f0 (Xn M (Xa L (i : Int)).f2).f1 (Xn M (Xa L (i : Int)).f2).f2 (Xa L (i : Int)).f0 (Xa L (i : Int)).f1 (Xa L (i : Int)).f2 (Xa L (i : Int)).f3 (Xa L (i : Int)).f4 (Xa L (i : Int)).f5 (Xa L (i : Int)).f6 (Xa L (i : Int)).f7 ((i : Int) + 1) (hM.ok _ hp.1 hp.2).1 (by omega)
        rw [if_pos hf, e, Option.bind_some]; exact ih _ (hM.set hp.1 hp.2 hl' (by show (i : Int) + 1 ≤ _; omega))
      · rw [if_neg hf]
        exact ih M hM
theorem XnU {D : List S25} {L : List Rc} {s : Int} (hD : Pe D s) (g : Good L) (hl : L.length ≤ 160) (hs : s ≤ (L.length : Int)) (k : Nat) (hk : 400 ≤ k) : ∃ M, Yn.f k D L = some M ∧ Pe M (L.length : Int) := by
  unfold Yn.f
  rw [Wo hD k (by omega), Option.bind_some]; exact XgB g hl L.length 0 k D (by omega) (by omega) (hD.mono hs)
theorem XjK (k : Nat) (hk : 10 ≤ k) : ∃ D, YE.f k = some D ∧ Pe D 0 := by
  have hn : Fh.f = some (0, 0, List.replicate 3 0) := by unfold Fh.f; rw [if_pos (by omega)]
  have key : ∀ (d i k : Nat), i + d = 5 → d < k → YE.l0 k (List.replicate i (⟨0, 0, List.replicate 3 0⟩ : S25)) (i : Int) = some (List.replicate 5 (⟨0, 0, List.replicate 3 0⟩ : S25)) := by
    intro d
    induction d with
    | zero =>
      intro i k hi hk
      obtain ⟨k2, rfl⟩ : ∃ k2, k = k2 + 1 := ⟨k - 1, by omega⟩
      rw [YE.l0, if_neg (by omega), show i = 5 by omega]
    | succ d ih =>
      intro i k hi hk
      obtain ⟨k2, rfl⟩ : ∃ k2, k = k2 + 1 := ⟨k - 1, by omega⟩
      rw [YE.l0, if_pos (by omega), hn, Option.bind_some, if_pos (by rw [List.length_replicate]; omega), M7 (by omega) (by omega)]; have := ih (i + 1) k2 (by omega) (by omega); rw [List.replicate_succ'] at this; exact this
  refine ⟨_, key 5 0 k (by omega) (by omega), by simp, fun i h0 h1 => ?_⟩
  unfold Xn
  rw [List.getD_eq_getElem?_getD, List.getElem?_replicate, if_pos (by omega)]; exact ⟨by simp, by simp⟩
theorem Xdc (a b : Int) (l : List Int) (hl : l.length = 3) (k : Nat) (hk : 10 ≤ k) : ∃ t, Zr.f k a b l = some t := by
  have key : ∀ (d i k : Nat), i + d = 3 → d < k → ∃ t, Zr.l0 k (i : Int) a b l = some t := by
    intro d
    induction d with
    | zero =>
      intro i k hi hk
      obtain ⟨k2, rfl⟩ : ∃ k2, k = k2 + 1 := ⟨k - 1, by omega⟩
      exact ⟨true, by rw [Zr.l0, if_neg (by omega)]⟩
    | succ d ih =>
      intro i k hi hk
      obtain ⟨k2, rfl⟩ : ∃ k2, k = k2 + 1 := ⟨k - 1, by omega⟩
      rw [Zr.l0, if_pos (by omega), if_pos (by omega), M7 (by omega) (by omega)]
      split
      · exact ih (i + 1) k2 (by omega) (by omega)
      · exact ⟨_, rfl⟩
  exact key 3 0 k (by omega) (by omega)
end Go.Proofs.Ytcefiblpnegepaa.T
