import Derived.Test.YtcefiblpnegepaaQLogP
import Derived.Test.YtcefiblpnegepaaQDLog
import Derived.Test.YtcefiblpnegepaaQEngP
import Derived.Test.YtcefiblpnegepaaQRec71
namespace Go.Proofs.Ytcefiblpnegepaa.T
open Go.RowKit Go.Proofs.YtcefiblpnegepaaW.PrintWords Go.Proofs.Ytcefiblpnegepaa.Pr
set_option linter.unusedSimpArgs false
set_option linter.unusedVariables false
theorem wsub {j : Nat} (h1 : j ≤ 1000000) : wrap64 ((j : Int) + 1 - 1) = (j : Int) := by rw [T.wrap_small (by omega) (by omega)]; omega
theorem wadd {x : Int} (h0 : 0 ≤ x) (h1 : x ≤ 1000000) : wrap64 (x + 1) = x + 1 := T.wrap_small (by omega) (by omega)
theorem back_l {l : List Rc} (g : Good l) (hl : l.length ≤ 160) : ∀ (n k : Nat) (a : Int), a ≤ (n : Int) → a ≤ (l.length : Int) → 2 * n + 1 ≤ k → spec_l11Back.l0 k l a = some (backB l n a)
  | 0, k + 1, a, h, _, _ => by rw [spec_l11Back.l0, if_neg (by omega), backB]
  | n + 1, k + 1, a, h, h2, hk => by
    rw [spec_l11Back.l0, backB]
    by_cases ha : 0 < a
    · obtain ⟨j, rfl⟩ := nat_of ha
      have hp := (g j (by omega)).prev_bd (by omega); have hn := (g j (by omega)).next
      obtain ⟨k2, rfl⟩ : ∃ k2, k = k2 + 1 := ⟨k - 1, by omega⟩
      have ih7 := back_l g hl n k2 (rc l (j : Int)).f7 (by omega) (by omega) (by omega); have ih6 := back_l g hl n k2 (rc l (j : Int)).f6 (by omega) (by omega) (by omega); rw [if_pos ha, if_pos ha, wsub (by omega), show (j : Int) + 1 - 1 = (j : Int) by omega, if_pos (by omega), if_pos (by omega)]; simp only [rc] at hp hn ih7 ih6 ⊢
      by_cases h1 : (rd_T41 l (j : Int)).f0 = 1
      · rw [if_pos h1, if_pos (Or.inl h1), spec_l11Back.j1, if_pos (beq_iff_eq.mpr h1)]
      · rw [if_neg h1, spec_l11Back.j1]
        by_cases h2 : (rd_T41 l (j : Int)).f0 = 2
        · rw [if_pos (beq_iff_eq.mpr h2), if_pos (Or.inr h2)]
        · rw [if_neg (show ¬ ((rd_T41 l (j : Int)).f0 == 2) = true from fun h => h2 (beq_iff_eq.mp h)), if_neg (show ¬ ((rd_T41 l (j : Int)).f0 = 1 ∨ (rd_T41 l (j : Int)).f0 = 2) from fun h => h.elim h1 h2)]
          by_cases h6 : (rd_T41 l (j : Int)).f0 = 6
          · rw [if_pos h6, if_pos h6]
            exact ih7
          · rw [if_neg h6, if_neg h6]
            exact ih6
    · rw [if_neg (by omega), if_neg ha]
theorem back_k {l : List Rc} (g : Good l) (hl : l.length ≤ 160) (k : Nat) (a : Int) (ha : a ≤ (l.length : Int)) (hk : 400 ≤ k) : spec_l11Back.f k l a = some (backB l l.length a) :=
  back_l g hl l.length k a ha ha (by omega)
theorem last_k {l : List Rc} (hl : l.length ≤ 160) (t : Int) (k : Nat) (hk : 400 ≤ k) : spec_l3Last.f k l t = some (lastB l t) := l3Last_k l t (by omega) k (by omega)
theorem need_l1 {l : List Rc} (g : Good l) (hl : l.length ≤ 160) (x4 r : Int) (K : Nat) : ∀ (n : Nat) (a x3 : Int), a ≤ (n : Int) → a ≤ (l.length : Int) → 0 ≤ x3 → x3 + n ≤ 1000 → (∀ k, K ≤ k → spec_l11Need.l0 k l (x3 + (cntB l n a : Int)) (wrap64 (x4 + 1)) = some r) → ∀ k, K + 500 + n ≤ k → spec_l11Need.l1 k l x3 x4 (backB l l.length a) = some r
  | 0, a, x3, ha, hl2, h0, h1, hr, k, hk => by
    obtain ⟨k2, rfl⟩ : ∃ k2, k = k2 + 1 := ⟨k - 1, by omega⟩
    have hb := backB_is g l.length a (rc l (a - 1)).f1 hl2 (fun _ => rfl); rw [spec_l11Need.l1, if_neg (by omega)]; have := hr k2 (by omega)
    simpa [cntB] using this
  | n + 1, a, x3, ha, hl2, h0, h1, hr, k, hk => by
    obtain ⟨k2, rfl⟩ : ∃ k2, k = k2 + 1 := ⟨k - 1, by omega⟩
    have hf : backB l (n + 1) a = backB l l.length a := backB_fuel g _ _ a ha hl2 hl2; rw [cntB, hf] at hr; rw [spec_l11Need.l1]
    by_cases hb : 0 < backB l l.length a
    · have bp := back_prev g hl2 hb
      rw [if_pos hb] at hr; rw [if_pos hb]; obtain ⟨j, hj⟩ := nat_of hb; rw [hj] at hr bp ⊢; rw [show (j : Int) + 1 - 1 = (j : Int) by omega] at hr bp; rw [wsub (by omega), if_pos (by omega), if_pos (by omega)]
      change (spec_l11Back.f k2 l (rc l (j : Int)).f6).bind _ = some r
      rw [back_k g hl k2 _ (by omega) (by omega), Option.bind_some, wadd h0 (by omega)]; refine need_l1 g hl x4 r K n (rc l (j : Int)).f6 (x3 + 1) (by omega) (by omega) (by omega) (by omega) (fun k hk => ?_) k2 (by omega); have := hr k hk; rw [show x3 + 1 + (cntB l n (rc l (j : Int)).f6 : Int) = x3 + ((cntB l n (rc l (j : Int)).f6 + 1 : Nat) : Int) by omega]; exact this
    · rw [if_neg hb] at hr
      rw [if_neg hb]; have := hr k2 (by omega)
      simpa using this
theorem cnt_le {l : List Rc} : ∀ (n : Nat) (a : Int), cntB l n a ≤ n
  | 0, _ => by simp [cntB]
  | n + 1, a => by
    rw [cntB]
    split
    · have := cnt_le (l := l) n (rc l (backB l (n + 1) a - 1)).f6
      omega
    · omega
theorem need_l0 {l : List Rc} (g : Good l) (hl : l.length ≤ 160) (x4 x3 r : Int) (h4 : 1 ≤ x4 ∧ x4 ≤ 3) (h0 : 0 ≤ x3) (h1 : x3 ≤ 600) (K : Nat) (hr : ∀ k, K ≤ k → spec_l11Need.l0 k l (x3 + (needT l x4 : Int)) (x4 + 1) = some r) : ∀ k, K + 1100 ≤ k → spec_l11Need.l0 k l x3 x4 = some r := by
  intro k hk
  obtain ⟨k2, rfl⟩ : ∃ k2, k = k2 + 2 := ⟨k - 2, by omega⟩
  have hb := lastB_n l x4; have hb0 := lastB_0 l x4; have w4 : wrap64 (x4 + 1) = x4 + 1 := wadd (by omega) (by omega); rw [spec_l11Need.l0, if_pos (by omega), last_k hl x4 _ (by omega), Option.bind_some]
  unfold needT at hr
  by_cases h : 0 < lastB l x4
  · rw [if_pos h] at hr
    rw [if_pos h, spec_l11Need.j1, back_k g hl _ _ hb (by omega), Option.bind_some, wadd h0 (by omega)]; refine need_l1 g hl x4 r K l.length (lastB l x4) (x3 + 1) hb hb (by omega) (by omega) (fun k hk => ?_) k2 (by omega); rw [w4, show x3 + 1 + (cntB l l.length (lastB l x4) : Int) = x3 + ((cntB l l.length (lastB l x4) + 1 : Nat) : Int) by omega]; exact hr k hk
  · rw [if_neg h] at hr
    rw [if_neg h, spec_l11Need.j1, back_k g hl _ _ hb (by omega), Option.bind_some]
    have h0' : lastB l x4 = 0 := by omega
    have hc : cntB l l.length (lastB l x4) = 0 := by
      rw [h0']; have hb2 := backB_is g l.length 0 (rc l (0 - 1)).f1 (by omega) (fun _ => rfl)
      cases hn : l.length with
      | zero => rfl
      | succ m =>
        rw [cntB, if_neg]; rw [← hn]; omega
    refine need_l1 g hl x4 r K l.length (lastB l x4) x3 hb hb (by omega) (by omega) (fun k hk => ?_) k2 (by omega); rw [w4, hc]; exact hr k hk
theorem needT_le {l : List Rc} (hl : l.length ≤ 160) (t : Int) : needT l t ≤ 161 := by
  unfold needT
  split
  · have := cnt_le (l := l) l.length (lastB l t)
    omega
  · omega
theorem need_k {l : List Rc} (g : Good l) (hl : l.length ≤ 160) (k : Nat) (hk : 4000 ≤ k) : spec_l11Need.f k l = some (needB l : Int) := by
  have n1 := needT_le hl 1; have n2 := needT_le hl 2
  unfold spec_l11Need.f needB
  refine need_l0 g hl 1 0 _ (by omega) (by omega) (by omega) 2300 (fun k hk => ?_) k (by omega); refine need_l0 g hl 2 _ _ (by omega) (by omega) (by omega) 1150 (fun k hk => ?_) k (by omega); refine need_l0 g hl 3 _ _ (by omega) (by omega) (by omega) 1 (fun k hk => ?_) k (by omega)
  obtain ⟨k2, rfl⟩ : ∃ k2, k = k2 + 1 := ⟨k - 1, by omega⟩
  rw [spec_l11Need.l0, if_neg (by omega)]
  congr 1
  omega
theorem has_l {l : List Rc} (g : Good l) (hl : l.length ≤ 160) (p : Int) : ∀ (n k : Nat) (a : Int), a ≤ (n : Int) → a ≤ (l.length : Int) → n + 1 ≤ k → ∃ b, spec_l3Has.l0 k l p a = some b
  | 0, k + 1, a, h, _, _ => ⟨false, by rw [spec_l3Has.l0, if_neg (by omega)]⟩
  | n + 1, k + 1, a, h, h2, hk => by
    rw [spec_l3Has.l0]
    by_cases ha : 0 < a
    · obtain ⟨j, rfl⟩ := nat_of ha
      have hp := (g j (by omega)).prev_bd (by omega); rw [if_pos ha, wsub (by omega), if_pos (by omega), if_pos (by omega)]
      split
      · exact ⟨_, rfl⟩
      · exact has_l g hl p n k (rc l (j : Int)).f6 (by omega) (by omega) (by omega)
    · exact ⟨false, by rw [if_neg ha]⟩
theorem has_k {l : List Rc} (g : Good l) (hl : l.length ≤ 160) (t p : Int) (k : Nat) (hk : 400 ≤ k) : ∃ b, spec_l3Has.f k l t p = some b := by
  unfold spec_l3Has.f
  rw [last_k hl t k hk, Option.bind_some]; exact has_l g hl p l.length k _ (lastB_n l t) (lastB_n l t) (by omega)
theorem took_l {l : List Rc} (g : Good l) (hl : l.length ≤ 160) (p : Int) : ∀ (n k : Nat) (a : Int), a ≤ (n : Int) → a ≤ (l.length : Int) → n + 1 ≤ k → ∃ b, spec_l12Took.l0 k l p a = some b
  | 0, k + 1, a, h, _, _ => ⟨false, by rw [spec_l12Took.l0, if_neg (by omega)]⟩
  | n + 1, k + 1, a, h, h2, hk => by
    rw [spec_l12Took.l0]
    by_cases ha : 0 < a
    · obtain ⟨j, rfl⟩ := nat_of ha
      have hp := (g j (by omega)).prev_bd (by omega); have ih := took_l g hl p n k (rc l (j : Int)).f6 (by omega) (by omega) (by omega); rw [if_pos ha, wsub (by omega), if_pos (by omega), if_pos (by omega)]
      split
      · split
        · split
          · exact ⟨_, rfl⟩
          · exact ih
        · exact ih
      · exact ih
    · exact ⟨false, by rw [if_neg ha]⟩
theorem took_k {l : List Rc} (g : Good l) (hl : l.length ≤ 160) (t p : Int) (k : Nat) (hk : 400 ≤ k) : ∃ b, spec_l12Took.f k l t p = some b := by
  unfold spec_l12Took.f
  rw [last_k hl t k hk, Option.bind_some]; exact took_l g hl p l.length k _ (lastB_n l t) (lastB_n l t) (by omega)
theorem lock_k {l : List Rc} (g : Good l) (hl : l.length ≤ 160) (D M : List S25) (s : Int) (d : Bool) (p : Int) (k : Nat) (hk : 500 ≤ k) : ∃ n, spec_l11Lock.f k D M l s d p = some n ∧ 0 ≤ n ∧ n ≤ 3 := by
  obtain ⟨k2, rfl⟩ : ∃ k2, k = k2 + 4 := ⟨k - 4, by omega⟩
  obtain ⟨b1, e1⟩ := has_k g hl 1 p (k2 + 3) (by omega); obtain ⟨b2, e2⟩ := has_k g hl 2 p (k2 + 2) (by omega); obtain ⟨b3, e3⟩ := has_k g hl 3 p (k2 + 1) (by omega)
  unfold spec_l11Lock.f
  rw [spec_l11Lock.l0, if_pos (by omega), e1, Option.bind_some]
  cases b1
  · rw [if_neg (by simp), show wrap64 (1 + 1) = 2 from wadd (by omega) (by omega), spec_l11Lock.l0, if_pos (by omega), e2, Option.bind_some]
    cases b2
    · rw [if_neg (by simp), show wrap64 (2 + 1) = 3 from wadd (by omega) (by omega), spec_l11Lock.l0, if_pos (by omega), e3, Option.bind_some]
      cases b3
      · rw [if_neg (by simp), show wrap64 (3 + 1) = 4 from wadd (by omega) (by omega), spec_l11Lock.l0, if_neg (by omega)]
        exact ⟨0, rfl, by omega, by omega⟩
      · exact ⟨3, by simp, by omega, by omega⟩
    · exact ⟨2, by simp, by omega, by omega⟩
  · exact ⟨1, by simp, by omega, by omega⟩
theorem in_f (n lo hi : Int) : spec_l6In.f n lo hi = some (decide (lo ≤ n ∧ n ≤ hi)) := by
  unfold spec_l6In.f
  by_cases h : n ≥ lo
  · rw [if_pos h]
    congr 1
    by_cases h2 : n ≤ hi
    · rw [decide_eq_true h2, decide_eq_true ⟨h, h2⟩]
    · rw [decide_eq_false h2, decide_eq_false (fun x => h2 x.2)]
  · rw [if_neg h, decide_eq_false (fun x => h x.1)]
theorem may_k {l : List Rc} (g : Good l) (hl : l.length ≤ 160) (D M : List S25) (s : Int) (d : Bool) (t p : Int) (k : Nat) (hk : 500 ≤ k) : ∃ b, spec_l12May.f k D M l s d t p = some b ∧ (b = true → (1 ≤ t ∧ t ≤ 3) ∧ (0 ≤ p ∧ p ≤ 4) ∧ d = false) := by
  unfold spec_l12May.f
  cases d
  · rw [if_neg (by simp), in_f, Option.bind_some]
    by_cases ht : 1 ≤ t ∧ t ≤ 3
    · rw [decide_eq_true ht, if_pos rfl, in_f, Option.bind_some]
      by_cases hp : 0 ≤ p ∧ p ≤ 4
      · obtain ⟨n, e, _⟩ := lock_k g hl D M s false p k hk
        rw [decide_eq_true hp, if_pos rfl, e, Option.bind_some]
        split
        · exact ⟨_, rfl, fun _ => ⟨ht, hp, rfl⟩⟩
        · exact ⟨_, rfl, fun _ => ⟨ht, hp, rfl⟩⟩
      · rw [decide_eq_false hp, if_neg (by simp)]
        exact ⟨false, rfl, fun h => by simp at h⟩
    · rw [decide_eq_false ht, if_neg (by simp)]
      exact ⟨false, rfl, fun h => by simp at h⟩
  · exact ⟨false, by simp, fun h => by simp at h⟩
theorem first_k {l : List Rc} (hl : l.length ≤ 160) (k : Nat) (hk : 500 ≤ k) : ∃ n, spec_l21First.f k l = some n ∧ 0 ≤ n ∧ n ≤ 3 ∧ (0 < n → 0 < lastB l n) := by
  obtain ⟨k2, rfl⟩ : ∃ k2, k = k2 + 4 := ⟨k - 4, by omega⟩
  unfold spec_l21First.f
  rw [spec_l21First.l0, if_pos (by omega), last_k hl 1 _ (by omega), Option.bind_some]
  by_cases h1 : lastB l 1 > 0
  · rw [if_pos h1]
    exact ⟨1, rfl, by omega, by omega, fun _ => h1⟩
  rw [if_neg h1, show wrap64 (1 + 1) = 2 from wadd (by omega) (by omega), spec_l21First.l0, if_pos (by omega), last_k hl 2 _ (by omega), Option.bind_some]
  by_cases h2 : lastB l 2 > 0
  · rw [if_pos h2]
    exact ⟨2, rfl, by omega, by omega, fun _ => h2⟩
  rw [if_neg h2, show wrap64 (2 + 1) = 3 from wadd (by omega) (by omega), spec_l21First.l0, if_pos (by omega), last_k hl 3 _ (by omega), Option.bind_some]
  by_cases h3 : lastB l 3 > 0
  · rw [if_pos h3]
    exact ⟨3, rfl, by omega, by omega, fun _ => h3⟩
  rw [if_neg h3, show wrap64 (3 + 1) = 4 from wadd (by omega) (by omega), spec_l21First.l0, if_neg (by omega)]; exact ⟨0, rfl, by omega, by omega, fun h => by omega⟩
end Go.Proofs.Ytcefiblpnegepaa.T
