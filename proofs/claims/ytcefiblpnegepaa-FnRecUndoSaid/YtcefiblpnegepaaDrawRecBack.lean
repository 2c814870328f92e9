/- The drawing of a record, and of the number of the last one: it comes to an end. -/
import Derived.Test.YtcefiblpnegepaaRec71
import Derived.Test.YtcefiblpnegepaaPrDRB
namespace Go.Proofs.Ytcefiblpnegepaa.T
open Go.RowKit Go.Proofs.YtcefiblpnegepaaW.PrintWords Go.Proofs.Ytcefiblpnegepaa.Pr
set_option linter.unusedSimpArgs false
set_option linter.unusedVariables false
theorem drb_tail (b : List Int) (hb : Bytes b) (hl : b.length ≤ 2000) (p : Int) (h0 : 0 ≤ p) (hp : p ≤ 1099511626000) (k : Nat) (a0 a1 a2 a3 a4 a5 a6 a7 : Int) :
    ∃ r0 r1 r2 r3 r4 r5 r6 r7 r8, ((spec_l6Rd_pick.f (k + 1) b p 12).bind fun x => (spec_l6Rd_pick.f (k + 1) b x.2 24).bind fun y => some (a0, a1, a2, a3, a4, a5, a6, a7, wrap64 (x.1 - wrap64 (wrap64 (Int.tdiv y.1 23) * 13)))) = some (r0, r1, r2, r3, r4, r5, r6, r7, r8) := by
  obtain ⟨r1, e1, _⟩ := pick_k b hb hl p 12 (by omega) (by omega) (by omega) k
  obtain ⟨r2, e2, _⟩ := pick_k b hb hl (p + 1) 24 (by omega) (by omega) (by omega) k
  simp only [e1, e2, Option.bind_some]
  exact ⟨_, _, _, _, _, _, _, _, _, rfl⟩
theorem drb_k (b : List Int) (hb : Bytes b) (hl : b.length ≤ 2000) : ∀ (m : Nat) (i p : Int) (a0 a1 a2 a3 a4 a5 a6 a7 : Int), 0 ≤ i → i + m = 4 → 0 ≤ p → p ≤ 1000 - 20 * m →
    ∃ r0 r1 r2 r3 r4 r5 r6 r7 r8, spec_DrawRecBack.l0 (m + 3) i b p a0 a1 a2 a3 a4 a5 a6 a7 = some (r0, r1, r2, r3, r4, r5, r6, r7, r8) := by
  intro m
  induction m with
  | zero =>
    intro i p a0 a1 a2 a3 a4 a5 a6 a7 hi hm h0 hp
    rw [show 0 + 3 = 2 + 1 from rfl]
    simp only [spec_DrawRecBack.l0]
    rw [if_neg (by omega)]
    exact drb_tail b hb hl p h0 (by omega) 1 a0 a1 a2 a3 a4 a5 a6 a7
  | succ m ih =>
    intro i p a0 a1 a2 a3 a4 a5 a6 a7 hi hm h0 hp
    rw [show m + 1 + 3 = (m + 3) + 1 from rfl]
    rw [spec_DrawRecBack.l0]
    rw [if_pos (by omega)]
    obtain ⟨r1, e1, _⟩ := pick_k b hb hl p 8 (by omega) (by omega) (by omega) (m + 2)
    simp only [e1, Option.bind_some]
    have T := drb_tail b hb hl (p + 1) (by omega) (by omega) (m + 2) a0 a1 a2 a3 a4 a5 a6 a7
    split
    · split
      · exact T
      · split
        · exact T
        · obtain ⟨c0, c1, c2, c3, c4, c5, c6, c7, p', h, h3, h4⟩ := l71_k b hb hl (p + 1) (by omega) (by omega) (m + 1)
          have h' : spec_l71Rec.f (m + 3) b (p + 1) = some (c0, c1, c2, c3, c4, c5, c6, c7, p') := h
          simp only [h', Option.bind_some]
          have hw : wrap64 (i + 1) = i + 1 := wrap_small (by omega) (by omega)
          rw [hw]
          exact ih (i + 1) p' c0 c1 c2 c3 c4 c5 c6 c7 (by omega) (by omega) (by omega) (by omega)
    · exact T
theorem DrawRecBack_calls (A : Option Addr) (c : Nat) (l : List Int) (w : World) (hC : Kd.C (Kd.int .u8) w A l.length l) (hc : l.length ≤ c) (hby : Bytes l) :
    Calls Try.prog 38 #[.slice A l.length c] w fun e w' => ∃ a0 a1 a2 a3 a4 a5 a6 a7 pv : Int, e = .returned (.tuple #[.agg #[.int .i64 a0, .int .i64 a1, .int .i64 a2, .int .i64 a3, .int .i64 a4, .int .i64 a5, .int .i64 a6, .int .i64 a7], .int .i64 pv]) ∧ Below w.heap.size w w' := by
  have hf : ∃ b, spec_l6Open.f l = some (b, 0) ∧ b.length ≤ 2000 ∧ ∀ x ∈ b, x ∈ l := by
    unfold spec_l6Open.f
    by_cases h : (l.length : Int) > 2000
    · rw [if_pos h, if_pos (by omega)]
      exact ⟨_, rfl, by simp; omega, fun x hx => List.mem_of_mem_take hx⟩
    · rw [if_neg h]
      exact ⟨_, rfl, by omega, fun x hx => hx⟩
  obtain ⟨b, hf, hl, hm⟩ := hf
  have hb : Bytes b := fun x hx => hby x (hm x hx)
  obtain ⟨c0, c1, c2, c3, c4, c5, c6, c7, p', h, h3, h4⟩ := l71_k b hb hl 0 (by omega) (by omega) 5
  obtain ⟨r0, r1, r2, r3, r4, r5, r6, r7, r8, hr⟩ := drb_k b hb hl 4 0 p' c0 c1 c2 c3 c4 c5 c6 c7 (by omega) (by omega) (by omega) (by omega)
  have hr' : spec_DrawRecBack.l0 7 0 b p' c0 c1 c2 c3 c4 c5 c6 c7 = some (r0, r1, r2, r3, r4, r5, r6, r7, r8) := hr
  have h' : spec_l71Rec.f 7 b 0 = some (c0, c1, c2, c3, c4, c5, c6, c7, p') := h
  have hh : spec_DrawRecBack.f 7 l = some (r0, r1, r2, r3, r4, r5, r6, r7, r8) := by
    unfold spec_DrawRecBack.f
    simp only [hf, Option.bind_some, h', hr']
  exact (spec_DrawRecBack.calls 7 A c l r0 r1 r2 r3 r4 r5 r6 r7 r8 w hC hc hh).mono fun e w' ⟨he, hbw⟩ => ⟨_, _, _, _, _, _, _, _, _, he, hbw⟩
end Go.Proofs.Ytcefiblpnegepaa.T
