import Derived.Test.YtcefiblpnegepaaQAOks
import Derived.Test.YtcefiblpnegepaaQALogP
import Derived.Test.YtcefiblpnegepaaQADLog
import Derived.Test.YtcefiblpnegepaaQAEngP
namespace Go.Proofs.Ytcefiblpnegepaa.T
open Go.RowKit Go.PW Go.Proofs.Ytcefiblpnegepaa.Pr
set_option linter.unusedSimpArgs false
set_option linter.unusedVariables false
theorem XbJ {j : Nat} (h1 : j ≤ 1000000) : wrap64 ((j : Int) + 1 - 1) = (j : Int) := by rw [T.wrap_small (by omega) (by omega)]; omega
theorem Mj {x : Int} (h0 : 0 ≤ x) (h1 : x ≤ 1000000) : wrap64 (x + 1) = x + 1 := T.wrap_small (by omega) (by omega)
theorem XbK {l : List Rc} (g : Good l) (hl : l.length ≤ 160) : ∀ (n k : Nat) (a : Int), a ≤ (n : Int) → a ≤ (l.length : Int) → 2 * n + 1 ≤ k → XL.l0 k l a = some (ZI l n a)
  | 0, k + 1, a, h, _, _ => by rw [XL.l0, if_neg (by omega), ZI]
  | n + 1, k + 1, a, h, h2, hk => by
    rw [XL.l0, ZI]
    by_cases ha : 0 < a
    · obtain ⟨j, rfl⟩ := M5 ha
      have hp := (g j (by omega)).Di (by omega); have hn := (g j (by omega)).next
      obtain ⟨k2, rfl⟩ : ∃ k2, k = k2 + 1 := ⟨k - 1, by omega⟩
      have ih7 := XbK g hl n k2 (rc l (j : Int)).f7 (by omega) (by omega) (by omega); have ih6 := XbK g hl n k2 (rc l (j : Int)).f6 (by omega) (by omega) (by omega); rw [if_pos ha, if_pos ha, XbJ (by omega), show (j : Int) + 1 - 1 = (j : Int) by omega, if_pos (by omega), if_pos (by omega)]; simp only [rc] at hp hn ih7 ih6 ⊢
      by_cases h1 : (Xa l (j : Int)).f0 = 1
      · rw [if_pos h1, if_pos (Or.inl h1), XL.j1, if_pos (beq_iff_eq.mpr h1)]
      · rw [if_neg h1, XL.j1]
        by_cases h2 : (Xa l (j : Int)).f0 = 2
        · rw [if_pos (beq_iff_eq.mpr h2), if_pos (Or.inr h2)]
        · rw [if_neg (show ¬ ((Xa l (j : Int)).f0 == 2) = true from fun h => h2 (beq_iff_eq.mp h)), if_neg (show ¬ ((Xa l (j : Int)).f0 = 1 ∨ (Xa l (j : Int)).f0 = 2) from fun h => h.elim h1 h2)]
          by_cases h6 : (Xa l (j : Int)).f0 = 6
          · rw [if_pos h6, if_pos h6]
            exact ih7
          · rw [if_neg h6, if_neg h6]
            exact ih6
    · rw [if_neg (by omega), if_neg ha]
theorem QI {l : List Rc} (g : Good l) (hl : l.length ≤ 160) (k : Nat) (a : Int) (ha : a ≤ (l.length : Int)) (hk : 400 ≤ k) : XL.f k l a = some (ZI l l.length a) :=
  XbK g hl l.length k a ha ha (by omega)
theorem M7 {l : List Rc} (hl : l.length ≤ 160) (t : Int) (k : Nat) (hk : 400 ≤ k) : Xn.f k l t = some (lastB l t) := NI l t (by omega) k (by omega)
theorem QJ {l : List Rc} (g : Good l) (hl : l.length ≤ 160) (x4 r : Int) (K : Nat) : ∀ (n : Nat) (a x3 : Int), a ≤ (n : Int) → a ≤ (l.length : Int) → 0 ≤ x3 → x3 + n ≤ 1000 → (∀ k, K ≤ k → X3.l0 k l (x3 + (Fg l n a : Int)) (wrap64 (x4 + 1)) = some r) → ∀ k, K + 500 + n ≤ k → X3.l1 k l x3 x4 (ZI l l.length a) = some r
  | 0, a, x3, ha, hl2, h0, h1, hr, k, hk => by
    obtain ⟨k2, rfl⟩ : ∃ k2, k = k2 + 1 := ⟨k - 1, by omega⟩
    have hb := Gq g l.length a (rc l (a - 1)).f1 hl2 (fun _ => rfl); rw [X3.l1, if_neg (by omega)]; have := hr k2 (by omega)
    simpa [Fg] using this
  | n + 1, a, x3, ha, hl2, h0, h1, hr, k, hk => by
    obtain ⟨k2, rfl⟩ : ∃ k2, k = k2 + 1 := ⟨k - 1, by omega⟩
    have hf : ZI l (n + 1) a = ZI l l.length a := SB g _ _ a ha hl2 hl2; rw [Fg, hf] at hr; rw [X3.l1]
    by_cases hb : 0 < ZI l l.length a
    · have bp := NH g hl2 hb
      rw [if_pos hb] at hr; rw [if_pos hb]; obtain ⟨j, hj⟩ := M5 hb; rw [hj] at hr bp ⊢; rw [show (j : Int) + 1 - 1 = (j : Int) by omega] at hr bp; rw [XbJ (by omega), if_pos (by omega), if_pos (by omega)]
      change (XL.f k2 l (rc l (j : Int)).f6).bind _ = some r
      rw [QI g hl k2 _ (by omega) (by omega), Option.bind_some, Mj h0 (by omega)]; refine QJ g hl x4 r K n (rc l (j : Int)).f6 (x3 + 1) (by omega) (by omega) (by omega) (by omega) (fun k hk => ?_) k2 (by omega); have := hr k hk; rw [show x3 + 1 + (Fg l n (rc l (j : Int)).f6 : Int) = x3 + ((Fg l n (rc l (j : Int)).f6 + 1 : Nat) : Int) by omega]; exact this
    · rw [if_neg hb] at hr
      rw [if_neg hb]; have := hr k2 (by omega)
      simpa using this
theorem Xha {l : List Rc} : ∀ (n : Nat) (a : Int), Fg l n a ≤ n
  | 0, _ => by simp [Fg]
  | n + 1, a => by
    rw [Fg]
    split
    · have := Xha (l := l) n (rc l (ZI l (n + 1) a - 1)).f6
      omega
    · omega
theorem QK {l : List Rc} (g : Good l) (hl : l.length ≤ 160) (x4 x3 r : Int) (h4 : 1 ≤ x4 ∧ x4 ≤ 3) (h0 : 0 ≤ x3) (h1 : x3 ≤ 600) (K : Nat) (hr : ∀ k, K ≤ k → X3.l0 k l (x3 + (VV l x4 : Int)) (x4 + 1) = some r) : ∀ k, K + 1100 ≤ k → X3.l0 k l x3 x4 = some r := by
  intro k hk
  obtain ⟨k2, rfl⟩ : ∃ k2, k = k2 + 2 := ⟨k - 2, by omega⟩
  have hb := VK l x4; have hb0 := Mi l x4; have w4 : wrap64 (x4 + 1) = x4 + 1 := Mj (by omega) (by omega); rw [X3.l0, if_pos (by omega), M7 hl x4 _ (by omega), Option.bind_some]
  unfold VV at hr
  by_cases h : 0 < lastB l x4
  · rw [if_pos h] at hr
    rw [if_pos h, X3.j1, QI g hl _ _ hb (by omega), Option.bind_some, Mj h0 (by omega)]; refine QJ g hl x4 r K l.length (lastB l x4) (x3 + 1) hb hb (by omega) (by omega) (fun k hk => ?_) k2 (by omega); rw [w4, show x3 + 1 + (Fg l l.length (lastB l x4) : Int) = x3 + ((Fg l l.length (lastB l x4) + 1 : Nat) : Int) by omega]; exact hr k hk
  · rw [if_neg h] at hr
    rw [if_neg h, X3.j1, QI g hl _ _ hb (by omega), Option.bind_some]
    have h0' : lastB l x4 = 0 := by omega
    have hc : Fg l l.length (lastB l x4) = 0 := by
      rw [h0']; have hb2 := Gq g l.length 0 (rc l (0 - 1)).f1 (by omega) (fun _ => rfl)
      cases hn : l.length with
      | zero => rfl
      | succ m =>
        rw [Fg, if_neg]; rw [← hn]; omega
    refine QJ g hl x4 r K l.length (lastB l x4) x3 hb hb (by omega) (by omega) (fun k hk => ?_) k2 (by omega); rw [w4, hc]; exact hr k hk
theorem NJ {l : List Rc} (hl : l.length ≤ 160) (t : Int) : VV l t ≤ 161 := by
  unfold VV
  split
  · have := Xha (l := l) l.length (lastB l t)
    omega
  · omega
theorem Xo7 {l : List Rc} (g : Good l) (hl : l.length ≤ 160) (k : Nat) (hk : 4000 ≤ k) : X3.f k l = some (Uu l : Int) := by
  have n1 := NJ hl 1; have n2 := NJ hl 2
  unfold X3.f Uu
  refine QK g hl 1 0 _ (by omega) (by omega) (by omega) 2300 (fun k hk => ?_) k (by omega); refine QK g hl 2 _ _ (by omega) (by omega) (by omega) 1150 (fun k hk => ?_) k (by omega); refine QK g hl 3 _ _ (by omega) (by omega) (by omega) 1 (fun k hk => ?_) k (by omega)
  obtain ⟨k2, rfl⟩ : ∃ k2, k = k2 + 1 := ⟨k - 1, by omega⟩
  rw [X3.l0, if_neg (by omega)]
  congr 1
  omega
theorem Xm7 {l : List Rc} (g : Good l) (hl : l.length ≤ 160) (p : Int) : ∀ (n k : Nat) (a : Int), a ≤ (n : Int) → a ≤ (l.length : Int) → n + 1 ≤ k → ∃ b, Z9.l0 k l p a = some b
  | 0, k + 1, a, h, _, _ => ⟨false, by rw [Z9.l0, if_neg (by omega)]⟩
  | n + 1, k + 1, a, h, h2, hk => by
    rw [Z9.l0]
    by_cases ha : 0 < a
    · obtain ⟨j, rfl⟩ := M5 ha
      have hp := (g j (by omega)).Di (by omega); rw [if_pos ha, XbJ (by omega), if_pos (by omega), if_pos (by omega)]
      split
      · exact ⟨_, rfl⟩
      · exact Xm7 g hl p n k (rc l (j : Int)).f6 (by omega) (by omega) (by omega)
    · exact ⟨false, by rw [if_neg ha]⟩
theorem Xhb {l : List Rc} (g : Good l) (hl : l.length ≤ 160) (t p : Int) (k : Nat) (hk : 400 ≤ k) : ∃ b, Z9.f k l t p = some b := by
  unfold Z9.f
  rw [M7 hl t k hk, Option.bind_some]; exact Xm7 g hl p l.length k _ (VK l t) (VK l t) (by omega)
theorem Xhc {l : List Rc} (g : Good l) (hl : l.length ≤ 160) (p : Int) : ∀ (n k : Nat) (a : Int), a ≤ (n : Int) → a ≤ (l.length : Int) → n + 1 ≤ k → ∃ b, YG.l0 k l p a = some b
  | 0, k + 1, a, h, _, _ => ⟨false, by rw [YG.l0, if_neg (by omega)]⟩
  | n + 1, k + 1, a, h, h2, hk => by
    rw [YG.l0]
    by_cases ha : 0 < a
    · obtain ⟨j, rfl⟩ := M5 ha
      have hp := (g j (by omega)).Di (by omega); have ih := Xhc g hl p n k (rc l (j : Int)).f6 (by omega) (by omega) (by omega); rw [if_pos ha, XbJ (by omega), if_pos (by omega), if_pos (by omega)]
      split
      · split
        · split
          · exact ⟨_, rfl⟩
          · exact ih
        · exact ih
      · exact ih
    · exact ⟨false, by rw [if_neg ha]⟩
theorem Xo8 {l : List Rc} (g : Good l) (hl : l.length ≤ 160) (t p : Int) (k : Nat) (hk : 400 ≤ k) : ∃ b, YG.f k l t p = some b := by
  unfold YG.f
  rw [M7 hl t k hk, Option.bind_some]; exact Xhc g hl p l.length k _ (VK l t) (VK l t) (by omega)
theorem QL {l : List Rc} (g : Good l) (hl : l.length ≤ 160) (D M : List S25) (s : Int) (d : Bool) (p : Int) (k : Nat) (hk : 500 ≤ k) : ∃ n, XJ.f k D M l s d p = some n ∧ 0 ≤ n ∧ n ≤ 3 := by
  obtain ⟨k2, rfl⟩ : ∃ k2, k = k2 + 4 := ⟨k - 4, by omega⟩
  obtain ⟨b1, e1⟩ := Xhb g hl 1 p (k2 + 3) (by omega); obtain ⟨b2, e2⟩ := Xhb g hl 2 p (k2 + 2) (by omega); obtain ⟨b3, e3⟩ := Xhb g hl 3 p (k2 + 1) (by omega)
  unfold XJ.f
  rw [XJ.l0, if_pos (by omega), e1, Option.bind_some]
  cases b1
  · rw [if_neg (by simp), show wrap64 (1 + 1) = 2 from Mj (by omega) (by omega), XJ.l0, if_pos (by omega), e2, Option.bind_some]
    cases b2
    · rw [if_neg (by simp), show wrap64 (2 + 1) = 3 from Mj (by omega) (by omega), XJ.l0, if_pos (by omega), e3, Option.bind_some]
      cases b3
      · rw [if_neg (by simp), show wrap64 (3 + 1) = 4 from Mj (by omega) (by omega), XJ.l0, if_neg (by omega)]
        exact ⟨0, rfl, by omega, by omega⟩
      · exact ⟨3, by simp, by omega, by omega⟩
    · exact ⟨2, by simp, by omega, by omega⟩
  · exact ⟨1, by simp, by omega, by omega⟩
theorem QM (n lo hi : Int) : XX.f n lo hi = some (decide (lo ≤ n ∧ n ≤ hi)) := by
  unfold XX.f
  by_cases h : n ≥ lo
  · rw [if_pos h]
    congr 1
    by_cases h2 : n ≤ hi
    · rw [decide_eq_true h2, decide_eq_true ⟨h, h2⟩]
    · rw [decide_eq_false h2, decide_eq_false (fun x => h2 x.2)]
  · rw [if_neg h, decide_eq_false (fun x => h x.1)]
theorem Xhd {l : List Rc} (g : Good l) (hl : l.length ≤ 160) (D M : List S25) (s : Int) (d : Bool) (t p : Int) (k : Nat) (hk : 500 ≤ k) : ∃ b, Vf.f k D M l s d t p = some b ∧ (b = true → (1 ≤ t ∧ t ≤ 3) ∧ (0 ≤ p ∧ p ≤ 4) ∧ d = false) := by
  unfold Vf.f
  cases d
  · rw [if_neg (by simp), QM, Option.bind_some]
    by_cases ht : 1 ≤ t ∧ t ≤ 3
    · rw [decide_eq_true ht, if_pos rfl, QM, Option.bind_some]
      by_cases hp : 0 ≤ p ∧ p ≤ 4
      · obtain ⟨n, e, _⟩ := QL g hl D M s false p k hk
        rw [decide_eq_true hp, if_pos rfl, e, Option.bind_some]
        split
        · exact ⟨_, rfl, fun _ => ⟨ht, hp, rfl⟩⟩
        · exact ⟨_, rfl, fun _ => ⟨ht, hp, rfl⟩⟩
      · rw [decide_eq_false hp, if_neg (by simp)]
        exact ⟨false, rfl, fun h => by simp at h⟩
    · rw [decide_eq_false ht, if_neg (by simp)]
      exact ⟨false, rfl, fun h => by simp at h⟩
  · exact ⟨false, by simp, fun h => by simp at h⟩
theorem XdC {l : List Rc} (hl : l.length ≤ 160) (k : Nat) (hk : 500 ≤ k) : ∃ n, Yx.f k l = some n ∧ 0 ≤ n ∧ n ≤ 3 ∧ (0 < n → 0 < lastB l n) := by
  obtain ⟨k2, rfl⟩ : ∃ k2, k = k2 + 4 := ⟨k - 4, by omega⟩
  unfold Yx.f
  rw [Yx.l0, if_pos (by omega), M7 hl 1 _ (by omega), Option.bind_some]
  by_cases h1 : lastB l 1 > 0
  · rw [if_pos h1]
    exact ⟨1, rfl, by omega, by omega, fun _ => h1⟩
  rw [if_neg h1, show wrap64 (1 + 1) = 2 from Mj (by omega) (by omega), Yx.l0, if_pos (by omega), M7 hl 2 _ (by omega), Option.bind_some]
  by_cases h2 : lastB l 2 > 0
  · rw [if_pos h2]
    exact ⟨2, rfl, by omega, by omega, fun _ => h2⟩
  rw [if_neg h2, show wrap64 (2 + 1) = 3 from Mj (by omega) (by omega), Yx.l0, if_pos (by omega), M7 hl 3 _ (by omega), Option.bind_some]
  by_cases h3 : lastB l 3 > 0
  · rw [if_pos h3]
    exact ⟨3, rfl, by omega, by omega, fun _ => h3⟩
  rw [if_neg h3, show wrap64 (3 + 1) = 4 from Mj (by omega) (by omega), Yx.l0, if_neg (by omega)]; exact ⟨0, rfl, by omega, by omega, fun h => by omega⟩
end Go.Proofs.Ytcefiblpnegepaa.T
