/- What FnRecUndo tells is true. -/
import Derived.Test.YtcefiblpnegepaaDoP
import Derived.Test.YtcefiblpnegepaaDrawRecBack
import Derived.Test.YtcefiblpnegepaaRB
import Derived.Test.YtcefiblpnegepaaPrLawU
namespace Go.Proofs.Ytcefiblpnegepaa.T
open Go.RowKit Go.Proofs.YtcefiblpnegepaaW.PrintWords Go.Proofs.Ytcefiblpnegepaa.Pr
set_option linter.unusedSimpArgs false
set_option linter.unusedVariables false
theorem DrawRecBack_k (l : List Int) (hby : Bytes l) : ∃ a0 a1 a2 a3 a4 a5 a6 a7 n, spec_DrawRecBack.f 7 l = some (a0, a1, a2, a3, a4, a5, a6, a7, n) := by
  have hf : ∃ b, spec_l6Open.f l = some (b, 0) ∧ b.length ≤ 2000 ∧ ∀ x ∈ b, x ∈ l := by
    unfold spec_l6Open.f
    by_cases h : (l.length : Int) > 2000
    · rw [if_pos h, if_pos (by omega)]
      exact ⟨_, rfl, by simp; omega, fun x hx => List.mem_of_mem_take hx⟩
    · rw [if_neg h]
      exact ⟨_, rfl, by omega, fun x hx => hx⟩
  obtain ⟨b, hf, hl, hm⟩ := hf
  have hb : Bytes b := fun x hx => hby x (hm x hx)
  obtain ⟨c0, c1, c2, c3, c4, c5, c6, c7, p', h, h3, h4⟩ := l71_k b hb hl 0 (by omega) (by omega) 5
  obtain ⟨r0, r1, r2, r3, r4, r5, r6, r7, r8, hr⟩ := drb_k b hb hl 4 0 p' c0 c1 c2 c3 c4 c5 c6 c7 (by omega) (by omega) (by omega) (by omega)
  have hr' : spec_DrawRecBack.l0 7 0 b p' c0 c1 c2 c3 c4 c5 c6 c7 = some (r0, r1, r2, r3, r4, r5, r6, r7, r8) := hr
  have h' : spec_l71Rec.f 7 b 0 = some (c0, c1, c2, c3, c4, c5, c6, c7, p') := h
  refine ⟨r0, r1, r2, r3, r4, r5, r6, r7, r8, ?_⟩
  unfold spec_DrawRecBack.f
  simp only [hf, Option.bind_some, h', hr']
theorem back_rec {k tx p s o n pv nx prev : Int} (h : backB k tx p s o n pv nx prev = true) :
    (k = 1 ∧ 0 ≤ p ∧ p ≤ 4 ∧ 0 ≤ s ∧ s ≤ 2 ∧ 0 ≤ o ∧ o ≤ 9 ∧ 0 ≤ n ∧ n ≤ 9 ∨ k = 2 ∧ 0 ≤ p ∧ p ≤ 4 ∧ s = -1 ∧ 0 ≤ o ∧ o ≤ 3 ∧ 0 ≤ n ∧ n ≤ 3) ∧ nx = 0 ∧ 1 ≤ tx ∧ tx ≤ 3 ∧ 0 ≤ pv ∧ pv ≤ 150 ∧ 0 ≤ prev ∧ prev ≤ 150 := by
  unfold backB at h
  simp only [Bool.and_eq_true, Bool.or_eq_true, beq_iff_eq] at h
  obtain ⟨⟨h1, h2⟩, h3⟩ := h
  unfold recOkB at h1
  rcases h2 with rfl | rfl
  · simp [inB] at h1 h3
    omega
  · simp [inB] at h1 h3
    omega
theorem did_of {a b : Int} {l : List Int} {k tx p s o n pv nx lsn : Int} (h1 : pageOkB a b l = true) (h2 : recOkB k tx p s o n pv nx = true) (h3 : (k == 1 || k == 2 || k == 6) = true) (h4 : inB lsn (a + 1) 150 = true) (h5 : pageOkB lsn (ownOf b s n) (valsOf l s n) = true) :
    doB a b l k tx p s o n pv nx lsn = (lsn, ownOf b s n, valsOf l s n, true) := by
  refine doB_yes ?_
  unfold didB mayB
  rw [h1, h2, h3, h4, h5]
  rfl
theorem pageOk3 {a b x y z : Int} (ha : 0 ≤ a ∧ a ≤ 150) (hb : 0 ≤ b ∧ b ≤ 3) (hx : 0 ≤ x ∧ x ≤ 9) (hy : 0 ≤ y ∧ y ≤ 9) (hz : 0 ≤ z ∧ z ≤ 9) (h0 : b ≠ 0 ∨ x = 0 ∧ y = 0 ∧ z = 0) : pageOkB a b [x, y, z] = true := by
  rw [pageOkB_at]
  have e1 : inB a 0 150 = true := by simp [inB, ha]
  have e2 : inB b 0 3 = true := by simp [inB, hb]
  have e3 : inB x 0 9 = true := by simp [inB, hx]
  have e4 : inB y 0 9 = true := by simp [inB, hy]
  have e5 : inB z 0 9 = true := by simp [inB, hz]
  rw [e1, e2]
  simp only [List.any_cons, List.any_nil, badAt, e3, e4, e5, Bool.not_true, Bool.false_or, Bool.or_false]
  rcases h0 with h | ⟨rfl, rfl, rfl⟩
  · have : (b == 0) = false := by simp [h]
    simp [this]
  · simp
theorem backRec_ok {k tx p s o n pv nx prev : Int} (h : backB k tx p s o n pv nx prev = true) : recOkB 6 tx p s 0 o prev pv = true := by
  have h1 := back_rec h
  unfold recOkB
  simp [inB]
  split <;> omega
theorem backRec_rec {k tx p s o n pv nx prev : Int} (h : backB k tx p s o n pv nx prev = true) : recOkB k tx p s o n pv nx = true := by
  unfold backB at h
  simp only [Bool.and_eq_true] at h
  exact h.1.1
theorem undo_put {tx p s o n pv nx prev : Int} {k : Int} (h : backB k tx p s o n pv nx prev = true) (hs : s ≥ 0) (y : List Int) (hy : y = [4, 5, 6].set s.toNat o) :
    doB 0 2 y k tx p s o n pv nx 1 = (1, 2, y.set s.toNat n, true) ∧ doB 1 2 (y.set s.toNat n) 6 tx p s 0 o prev pv 2 = (2, 2, y, true) := by
  have h1 := back_rec h
  have hr := backRec_rec h
  have hr6 := backRec_ok h
  have hk : k = 1 := by omega
  subst hk
  have ho : ∀ v, ownOf 2 s v = 2 := fun v => by unfold ownOf; rw [if_pos hs]
  have hv : ∀ l v, valsOf l s v = l.set s.toNat v := fun l v => by unfold valsOf; rw [if_pos hs]
  have c : s = 0 ∨ s = 1 ∨ s = 2 := by omega
  have key : pageOkB 0 2 y = true ∧ pageOkB 1 2 (y.set s.toNat n) = true ∧ (y.set s.toNat n).set s.toNat o = y ∧ pageOkB 2 2 y = true := by
    subst hy
    rcases c with rfl | rfl | rfl
    · exact ⟨pageOk3 (by omega) (by omega) (by omega) (by omega) (by omega) (by omega), pageOk3 (by omega) (by omega) (by omega) (by omega) (by omega) (by omega), rfl, pageOk3 (by omega) (by omega) (by omega) (by omega) (by omega) (by omega)⟩
    · exact ⟨pageOk3 (by omega) (by omega) (by omega) (by omega) (by omega) (by omega), pageOk3 (by omega) (by omega) (by omega) (by omega) (by omega) (by omega), rfl, pageOk3 (by omega) (by omega) (by omega) (by omega) (by omega) (by omega)⟩
    · exact ⟨pageOk3 (by omega) (by omega) (by omega) (by omega) (by omega) (by omega), pageOk3 (by omega) (by omega) (by omega) (by omega) (by omega) (by omega), rfl, pageOk3 (by omega) (by omega) (by omega) (by omega) (by omega) (by omega)⟩
  obtain ⟨k1, k2, k3, k4⟩ := key
  refine ⟨?_, ?_⟩
  · rw [did_of k1 hr (by simp) (by simp [inB]) (by rw [ho, hv]; exact k2), ho, hv]
  · rw [did_of k2 hr6 (by simp) (by simp [inB]) (by rw [ho, hv, k3]; exact k4), ho, hv, k3]
theorem undo_own {tx p s o n pv nx prev : Int} {k : Int} (h : backB k tx p s o n pv nx prev = true) (hs : ¬ s ≥ 0) :
    doB 0 o [0, 0, 0] k tx p s o n pv nx 1 = (1, n, [0, 0, 0], true) ∧ doB 1 n [0, 0, 0] 6 tx p s 0 o prev pv 2 = (2, o, [0, 0, 0], true) := by
  have h1 := back_rec h
  have hr := backRec_rec h
  have hr6 := backRec_ok h
  have hk : k = 2 := by omega
  subst hk
  have ho : ∀ b v, ownOf b s v = v := fun b v => by unfold ownOf; rw [if_neg hs]
  have hv : ∀ v, valsOf [0, 0, 0] s v = [0, 0, 0] := fun v => by
    unfold valsOf
    rw [if_neg hs]
    split <;> rfl
  have z : ∀ a b : Int, 0 ≤ a → a ≤ 150 → 0 ≤ b → b ≤ 3 → pageOkB a b [0, 0, 0] = true := fun a b h1 h2 h3 h4 => pageOk3 ⟨h1, h2⟩ ⟨h3, h4⟩ (by omega) (by omega) (by omega) (.inr ⟨rfl, rfl, rfl⟩)
  refine ⟨?_, ?_⟩
  · rw [did_of (z 0 o (by omega) (by omega) (by omega) (by omega)) hr (by simp) (by simp [inB]) (by rw [ho, hv]; exact z 1 n (by omega) (by omega) (by omega) (by omega)), ho, hv]
  · rw [did_of (z 1 n (by omega) (by omega) (by omega) (by omega)) hr6 (by simp) (by simp [inB]) (by rw [ho, hv]; exact z 2 o (by omega) (by omega) (by omega) (by omega)), ho, hv]
theorem PureFnRecUndo (l : List Int) (hby : Bytes l) : ∃ k, laws_FnRecUndo.f k l = some true := by
  refine ⟨22, ?_⟩
  unfold laws_FnRecUndo.f
  by_cases hlen : (l.length : Int) > 1048576
  · rw [if_pos hlen]
  · rw [if_neg hlen]
    obtain ⟨a0, a1, a2, a3, a4, a5, a6, a7, n, e⟩ := DrawRecBack_k l hby
    have e' := leo_le (spec_DrawRecBack.mono l) e 15
    have e2 : spec_DrawRecBack.f 22 l = some (a0, a1, a2, a3, a4, a5, a6, a7, n) := e'
    simp only [e2, Option.bind_some]
    rw [show (22 : Nat) = 20 + 2 from rfl, specBack_k, implBack_k]
    simp only [Option.bind_some, bne_self_eq_false, Bool.false_eq_true, if_false, beq_self_eq_true, Bool.not_true, Bool.or_self]
    rw [show 20 + 2 = 21 + 1 from rfl, laws_FnRecUndo.j0]
    unfold backD
    by_cases hb : backB a0 a1 a2 a3 a4 a5 a6 a7 n = true
    · simp only [if_pos hb, Bool.not_true, Bool.false_eq_true, if_false, if_true]
      rw [show (21 : Nat) = 19 + 2 from rfl, impl_RecOk_k, backRec_ok hb]
      simp only [Option.bind_some, Bool.not_true]
      rw [show 19 + 2 = 20 + 1 from rfl, laws_FnRecUndo.j1]
      simp only [Bool.false_eq_true, if_false, Option.bind_some]
      have h1 := back_rec hb
      by_cases hs : a3 ≥ 0
      · rw [if_pos hs, if_pos (show (0 : Int) ≤ a3 from hs), if_pos (by simp; omega)]
        obtain ⟨u1, u2⟩ := undo_put hb hs _ rfl
        have hl : ([4, 5, 6].set a3.toNat a4).length = 3 := by simp
        rw [implDo_k _ _ _ _ _ _ _ _ _ _ _ _ (by omega) _ (by omega), u1]
        simp only [Option.bind_some]
        rw [implDo_k _ _ _ _ _ _ _ _ _ _ _ _ (by simp) _ (by simp), u2]
        simp only [Option.bind_some, if_true]
        rw [ltHas_k _ _ _ _ _ _ (by omega) _ (by omega)]
        simp
      · rw [if_neg hs]
        obtain ⟨u1, u2⟩ := undo_own hb hs
        rw [implDo_k _ _ _ _ _ _ _ _ _ _ _ _ (by simp) _ (by simp), u1]
        simp only [Option.bind_some]
        rw [implDo_k _ _ _ _ _ _ _ _ _ _ _ _ (by simp) _ (by simp), u2]
        simp only [Option.bind_some, if_true]
        rw [ltHas_k _ _ _ _ _ _ (by simp) _ (by simp)]
        simp
    · simp only [if_neg hb, Bool.not_false, if_true, beq_self_eq_true, Bool.and_self]
/-- The walk of the law: its printed contract, at the plain law. -/
theorem FnRecUndo_walk (A : Option Addr) (c : Nat) (l : List Int) (w : World) (hc : l.length ≤ c) (hC : Kd.C (Kd.int .u8) w A l.length l) (hby : Bytes l) :
    Calls Try.prog 7 #[.slice A l.length c] w fun e w' => e = .returned (.bool true) ∧ Below w.heap.size w w' := by
  obtain ⟨k, h⟩ := PureFnRecUndo l hby
  exact laws_FnRecUndo.calls k A c l true w hC hc h ⟨rfl⟩
end Go.Proofs.Ytcefiblpnegepaa.T
