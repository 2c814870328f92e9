/- The drawing of a page comes to an end; a page drawn has three values at most. -/
import Derived.Test.YtajdjoggflagdaaDoorRd
import Derived.Test.YtajdjoggflagdaaDoorPrPg
namespace Go.Proofs.YtajdjoggflagdaaDoor.T
open Go.RowKit Go.Proofs.YtajdjoggflagdaaDoorW.PrintWords Go.Proofs.YtajdjoggflagdaaDoor.Pr
set_option linter.unusedSimpArgs false
set_option linter.unusedVariables false
theorem open_f (l : List Int) : ∃ b, spec_l6Open.f l = some (b, 0) ∧ b.length ≤ 2000 ∧ ∀ x ∈ b, x ∈ l := by
  unfold spec_l6Open.f
  by_cases h : (l.length : Int) > 2000
  · rw [if_pos h, if_pos (by omega)]
    exact ⟨_, rfl, by simp; omega, fun x hx => List.mem_of_mem_take hx⟩
  · rw [if_neg h]
    exact ⟨_, rfl, by omega, fun x hx => hx⟩
theorem l71Pj_k (b : List Int) (hb : Bytes b) (hl : b.length ≤ 2000) (p : Int) (h0 : 0 ≤ p) (hp : p ≤ 1099511627000) (k : Nat) (a0 b0 : Int) (l : List Int) (h3 : l.length = 3) :
    ∃ a1 b1 l1 p', spec_l71Page.j1 (k + 2) b p a0 b0 l = some (a1, b1, l1, p') ∧ l1.length ≤ 3 ∧ p ≤ p' ∧ p' ≤ p + 3 := by
  rw [show k + 2 = (k + 1) + 1 from rfl]
  simp only [spec_l71Page.j1, h3]
  obtain ⟨r, hr, _⟩ := pick_k b hb hl p 24 h0 (by omega) (by omega) k
  obtain ⟨s6, h6, _⟩ := pick_k b hb hl (p + 1) 6 (by omega) (by omega) (by omega) k
  obtain ⟨s3, e3, r1, r2⟩ := pick_k b hb hl (p + 1) 3 (by omega) (by omega) (by omega) k
  obtain ⟨s13, h13, _⟩ := pick_k b hb hl (p + 1 + 1) 13 (by omega) (by omega) (by omega) k
  simp only [hr, Option.bind_some, h6, Int.cast_ofNat_Int, e3, h13]
  split
  · exact ⟨_, _, _, _, rfl, by omega, by omega, by omega⟩
  · split
    · try rw [if_pos r1]
      try rw [if_pos (by omega)]
      exact ⟨_, _, _, _, rfl, by simp; omega, by omega, by omega⟩
    · split
      · rw [if_pos (by omega)]
        exact ⟨_, _, _, _, rfl, by simp; omega, by omega, by omega⟩
      · exact ⟨_, _, _, _, rfl, by omega, by omega, by omega⟩
theorem l71Pl_k (b : List Int) (hb : Bytes b) (hl : b.length ≤ 2000) (k : Nat) (a0 b0 : Int) : ∀ (m : Nat) (i p : Int) (l : List Int), 0 ≤ i → i + m = 3 → 0 ≤ p → p ≤ 1099511626000 - 2 * m → l.length = 3 →
    ∃ a1 b1 l1 p', spec_l71Page.l0 (m + (k + 3)) i b p a0 b0 l = some (a1, b1, l1, p') ∧ l1.length ≤ 3 ∧ p ≤ p' ∧ p' ≤ p + 2 * m + 3 := by
  intro m
  induction m with
  | zero =>
    intro i p l hi hm h0 hp h3
    rw [show 0 + (k + 3) = (k + 2) + 1 by omega]
    rw [spec_l71Page.l0]
    rw [if_neg (by omega)]
    obtain ⟨a1, b1, l1, p', h, h4, h5, h6⟩ := l71Pj_k b hb hl p h0 (by omega) k a0 b0 l h3
    exact ⟨_, _, _, _, h, h4, h5, by omega⟩
  | succ m ih =>
    intro i p l hi hm h0 hp h3
    rw [show m + 1 + (k + 3) = (m + (k + 3)) + 1 by omega]
    rw [spec_l71Page.l0]
    rw [if_pos (by omega)]
    obtain ⟨r, hr, _⟩ := pick_k b hb hl p 3 h0 (by omega) (by omega) (m + (k + 2))
    obtain ⟨s, hs, _⟩ := pick_k b hb hl (p + 1) 10 (by omega) (by omega) (by omega) (m + (k + 2))
    have hr' : spec_l6Rd_pick.f (m + (k + 3)) b p 3 = some (r, p + 1) := hr
    have hs' : spec_l6Rd_pick.f (m + (k + 3)) b (p + 1) 10 = some (s, p + 1 + 1) := hs
    simp only [hr', hs', Option.bind_some]
    rw [if_pos hi, T.wrap_small (by omega) (by omega)]
    split
    · obtain ⟨a1, b1, l1, p', h, h4, h5, h6⟩ := ih (i + 1) (p + 1 + 1) (l.set i.toNat s) (by omega) (by omega) (by omega) (by omega) (by simp; omega)
      exact ⟨_, _, _, _, h, h4, by omega, by omega⟩
    · obtain ⟨a1, b1, l1, p', h, h4, h5, h6⟩ := ih (i + 1) (p + 1) l (by omega) (by omega) (by omega) (by omega) h3
      exact ⟨_, _, _, _, h, h4, by omega, by omega⟩
theorem l71P_k (b : List Int) (hb : Bytes b) (hl : b.length ≤ 2000) (p : Int) (h0 : 0 ≤ p) (hp : p ≤ 1099511625000) (k : Nat) :
    ∃ a1 b1 l1 p', spec_l71Page.f (k + 6) b p = some (a1, b1, l1, p') ∧ l1.length ≤ 3 ∧ p ≤ p' ∧ p' ≤ p + 12 := by
  unfold spec_l71Page.f spec_PageNew.f
  rw [if_pos (by omega)]
  obtain ⟨r1, e1, _⟩ := pick_k b hb hl p 12 h0 (by omega) (by omega) (k + 5)
  obtain ⟨r2, e2, _⟩ := pick_k b hb hl (p + 1) 4 (by omega) (by omega) (by omega) (k + 5)
  obtain ⟨r3, e3, _⟩ := pick_k b hb hl (p + 1 + 1) 3 (by omega) (by omega) (by omega) (k + 5)
  have e1' : spec_l6Rd_pick.f (k + 6) b p 12 = some (r1, p + 1) := e1
  have e2' : spec_l6Rd_pick.f (k + 6) b (p + 1) 4 = some (r2, p + 1 + 1) := e2
  have e3' : spec_l6Rd_pick.f (k + 6) b (p + 1 + 1) 3 = some (r3, p + 1 + 1 + 1) := e3
  simp only [Option.bind_some, e1', e2', e3']
  split
  · obtain ⟨a1, b1, l1, p', h, h4, h5, h6⟩ := l71Pl_k b hb hl k r1 (wrap64 (1 + r3)) 3 0 (p + 1 + 1 + 1) (List.replicate 3 0) (by omega) (by omega) (by omega) (by omega) (by simp)
    rw [show 3 + (k + 3) = k + 6 by omega] at h
    exact ⟨_, _, _, _, h, h4, by omega, by omega⟩
  · obtain ⟨a1, b1, l1, p', h, h4, h5, h6⟩ := l71Pj_k b hb hl (p + 1 + 1) (by omega) (by omega) (k + 4) r1 0 (List.replicate 3 0) (by simp)
    have h' : spec_l71Page.j1 (k + 6) b (p + 1 + 1) r1 0 (List.replicate 3 0) = some (a1, b1, l1, p') := h
    exact ⟨_, _, _, _, h', h4, by omega, by omega⟩
end Go.Proofs.YtajdjoggflagdaaDoor.T
