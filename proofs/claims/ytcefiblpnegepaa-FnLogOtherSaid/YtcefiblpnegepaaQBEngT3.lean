import Derived.Test.YtcefiblpnegepaaQBByq
import Derived.Test.YtcefiblpnegepaaQBEngT2
namespace Go.Proofs.Ytcefiblpnegepaa.T
open Go.RowKit Go.PW Go.Proofs.Ytcefiblpnegepaa.Pr
set_option linter.unusedSimpArgs false
set_option linter.unusedVariables false
structure EI (D M : List S25) (L : List Rc) (s : Int) : Prop where
  d : Pe D s
  m : Pe M (L.length : Int)
  l : Rq L
  s0 : 0 ≤ s
  s1 : s ≤ (L.length : Int)
theorem EI.len {D M : List S25} {L : List Rc} {s : Int} (h : EI D M L s) : L.length ≤ 150 := by have := h.l.len; omega
theorem O3 {D M : List S25} {L : List Rc} {s : Int} (h : EI D M L s) (d : Bool) (a0 a1 a2 a3 a4 a5 a6 a7 : Int) (hr : XdK L ⟨a0, a1, a2, a3, a4, a5, lastB L a1, a7⟩) (k : Nat) (hk : 4000 ≤ k) :
    ∃ M' L' ok, XM.f k D M L s d a0 a1 a2 a3 a4 a5 a6 a7 = some (D, M', L', s, d, ok) ∧ EI D M' L' s ∧ L.length ≤ L'.length ∧ (L.length + 1 + Uy (L ++ [⟨a0, a1, a2, a3, a4, a5, lastB L a1, a7⟩]) ≤ 150 → ok = true ∧ L' = L ++ [⟨a0, a1, a2, a3, a4, a5, lastB L a1, a7⟩]) := by
  have hl := h.len
  obtain ⟨x, hx⟩ : ∃ x : Rc, (⟨a0, a1, a2, a3, a4, a5, lastB L a1, a7⟩ : Rc) = x := ⟨_, rfl⟩
  rw [hx] at hr ⊢
  have hp : 0 ≤ a2 ∧ a2 < 5 := by have := hr.page; rw [← hx] at this; exact this
  have hs : -1 ≤ a3 ∧ a3 < 3 := by have := hr.slot; rw [← hx] at this; exact this
  have g1 := h.l.1.app hr
  have hl1 : (L ++ [x]).length = L.length + 1 := by simp
  obtain ⟨t, ht⟩ := O1 a0
  unfold XM.f
  rw [M8 (by omega) a1 k (by omega), Option.bind_some, Option.bind_some, if_pos zb151, Option.bind_some, Option.bind_some]
  change ∃ M' L' ok, (if ([] ++ L).length + [(⟨a0, a1, a2, a3, a4, a5, lastB L a1, a7⟩ : Rc)].length < 2199023255552 then _ else none) = _ ∧ _
  rw [if_pos zb151, Option.bind_some, List.nil_append]
  change ∃ M' L' ok, (X8.f k (L ++ [(⟨a0, a1, a2, a3, a4, a5, lastB L a1, a7⟩ : Rc)])).bind _ = _ ∧ _
  rw [hx, XnS g1 (by omega) k hk, Option.bind_some, T.wrap_small (by omega) (by have n1 := NK (l := L ++ [x]) (by omega) 1; have n2 := NK (l := L ++ [x]) (by omega) 2; have n3 := NK (l := L ++ [x]) (by omega) 3; unfold Uy; omega)]
  by_cases hf : ((L ++ [x]).length : Int) + (Uy (L ++ [x]) : Int) > 150
  · refine ⟨M, L, false, by rw [if_pos hf], h, Nat.le_refl _, fun h2 => ?_⟩
    rw [hl1] at hf; omega
  · have hfit : L.length + 1 + Uy (L ++ [x]) ≤ 150 := by rw [hl1] at hf; omega
    have hI := h.l.app hr hfit; rw [if_neg hf, ht, Option.bind_some]
    cases t
    · exact ⟨M, L ++ [x], true, by rw [if_neg (by simp)], ⟨h.d, h.m.mono (by rw [hl1]; omega), hI, h.s0, by rw [hl1]; have := h.s1; omega⟩, by omega, fun _ => ⟨rfl, rfl⟩⟩
    · obtain ⟨b', l', e, hl'⟩ := XlE (Xn M a2).f0 (Xn M a2).f1 (Xn M a2).f2 a0 a1 a2 a3 a4 a5 (lastB L a1) a7 ((L ++ [x]).length : Int) (h.m.ok _ hp.1 hp.2).1 (by omega)
      refine ⟨M.set a2.toNat ⟨((L ++ [x]).length : Int), b', l'⟩, L ++ [x], true, ?_, ⟨h.d, (h.m.mono (by rw [hl1]; omega)).set hp.1 hp.2 hl' (Int.le_refl _), hI, h.s0, by rw [hl1]; have := h.s1; omega⟩, by omega, fun _ => ⟨rfl, rfl⟩⟩; rw [if_pos rfl]
      unfold Gr
      rw [if_pos hp.1, if_pos (by rw [h.m.len]; omega), e]
      rfl
theorem P5 {l : List Rc} (g : Good l) (x : Rc) (t : Int) (ht : 1 ≤ t ∧ t ≤ 3) (hx : x.f1 = t) (h : VR (l ++ [x]) t + 1 ≤ VR l t) : Uy (l ++ [x]) + 1 ≤ Uy l := by
  have := XdL g x t ht hx; omega
theorem XgC {D M : List S25} {L : List Rc} {s : Int} (h : EI D M L s) (d : Bool) (t : Int) (ht : 1 ≤ t ∧ t ≤ 3) (h0 : 0 < lastB L t) (k : Nat) (hk : 4000 ≤ k) :
    ∃ M' L', Zj.f k D M L s d t = some (D, M', L', s, d) ∧ EI D M' L' s ∧ VR L' t + 1 ≤ VR L t ∧ Uy L' + 1 ≤ Uy L := by
  have hl := h.len; have g := h.l.1; have hln := Jq L t; have hfit := h.l.len
  unfold Zj.f
  rw [M8 (by omega) t k (by omega), Option.bind_some, Qg g (by omega) k _ hln (by omega), Option.bind_some]; have hb := Gq g L.length (lastB L t) t hln (fun h => BJ h)
  by_cases hz : ZF L L.length (lastB L t) = 0
  · rw [if_pos hz]
    have hn : XdK L ⟨5, t, 0, 0, 0, 0, lastB L t, 0⟩ := ⟨ht, by show (0 : Int) ≤ 0 ∧ (0 : Int) < 5; omega, by show -1 ≤ (0 : Int) ∧ (0 : Int) < 3; omega, rfl, zb107, fun h => absurd h (by show ¬ (0 : Int) < 0; omega)⟩
    obtain ⟨M', L', ok, e, hE, _, hf⟩ := O3 h d 5 t 0 0 0 0 0 0 hn k hk; have h1 := O0 (l := L) (⟨5, t, 0, 0, 0, 0, lastB L t, 0⟩ : Rc) t rfl (.inr rfl); have h2 := Xbr (l := L) t h0 (by omega); have h3 := P5 g (⟨5, t, 0, 0, 0, 0, lastB L t, 0⟩ : Rc) t ht rfl (by omega); obtain ⟨_, rfl⟩ := hf (by omega); exact ⟨M', _, by rw [e]; rfl, hE, by omega, h3⟩
  · rw [if_neg hz]
    have hpos : 0 < ZF L L.length (lastB L t) := by omega
    have hbk := hb.2.2 hpos; obtain ⟨j, hj⟩ := GJ hpos; have o := g j (by omega)
    have hjw : (j : Int) + 1 - 1 = (j : Int) := by omega
    rw [hj] at hbk; rw [hjw] at hbk; rw [hj, Xbs (by omega), if_pos (by omega), if_pos (by omega)]; have htx : (Xa L (j : Int)).f1 = t := hbk.1; have hpb := o.Vq (by omega)
    have hn : XdK L ⟨6, (Xa L (j : Int)).f1, (Xa L (j : Int)).f2, (Xa L (j : Int)).f3, 0, (Xa L (j : Int)).f4, lastB L (Xa L (j : Int)).f1, (Xa L (j : Int)).f6⟩ := ⟨o.tx, o.page, o.slot, rfl, ⟨hpb.1, by show (Xa L (j : Int)).f6 ≤ _; have := hpb.2; have h4 : (Xa L (j : Int)).f6 = (rc L (j : Int)).f6 := rfl; omega⟩, fun hx => o.ptx (by omega) hx⟩
    obtain ⟨M', L', ok, e, hE, _, hf⟩ := O3 h d 6 (Xa L (j : Int)).f1 (Xa L (j : Int)).f2 (Xa L (j : Int)).f3 0 (Xa L (j : Int)).f4 (lastB L t) (Xa L (j : Int)).f6 hn k hk; have h1 := Xbq g (⟨6, (Xa L (j : Int)).f1, (Xa L (j : Int)).f2, (Xa L (j : Int)).f3, 0, (Xa L (j : Int)).f4, lastB L (Xa L (j : Int)).f1, (Xa L (j : Int)).f6⟩ : Rc) t htx rfl hpos (by rw [hj, hjw]); have h3 := P5 g (⟨6, (Xa L (j : Int)).f1, (Xa L (j : Int)).f2, (Xa L (j : Int)).f3, 0, (Xa L (j : Int)).f4, lastB L (Xa L (j : Int)).f1, (Xa L (j : Int)).f6⟩ : Rc) t ht htx (by omega); obtain ⟨_, rfl⟩ := hf (by omega); exact ⟨M', _, by rw [e]; rfl, hE, by omega, h3⟩
theorem XgD (d : Bool) (t : Int) (ht : 1 ≤ t ∧ t ≤ 3) : ∀ (n k : Nat) (D M : List S25) (L : List Rc) (s : Int), EI D M L s → VR L t ≤ n → 4001 + n ≤ k → ∃ M' L', Z9.l0 k D M L s d t = some (D, M', L', s, d, true) ∧ EI D M' L' s
  | n, 0, D, M, L, s, _, _, hk => absurd hk (by omega)
  | n, k + 1, D, M, L, s, h, hn, hk => by
    have hl := h.len; rw [Z9.l0, M8 (by omega) t k (by omega), Option.bind_some]
    by_cases h0 : lastB L t > 0
    · obtain ⟨M', L', e, hE, h1, _⟩ := XgC h d t ht h0 k (by omega)
      rw [if_pos h0, e, Option.bind_some]
      cases n with
      | zero => omega
      | succ n => exact XgD d t ht n k D M' L' s hE (by omega) (by omega)
    · exact ⟨M, L, by rw [if_neg h0], h⟩
theorem XnV {D M : List S25} {L : List Rc} {s : Int} (h : EI D M L s) (d : Bool) (t : Int) (k : Nat) (hk : 4500 ≤ k) : ∃ D' M' L' s' d' b, Z9.f k D M L s d t = some (D', M', L', s', d', b) ∧ EI D' M' L' s' := by
  have hl := h.len
  unfold Z9.f
  cases d
  · rw [if_neg (by simp), Qk, Option.bind_some]
    by_cases ht : 1 ≤ t ∧ t ≤ 3
    · rw [decide_eq_true ht, if_pos rfl, M8 (by omega) t k (by omega), Option.bind_some]
      split
      · exact ⟨D, M, L, s, false, false, rfl, h⟩
      · obtain ⟨M', L', e, hE⟩ := XgD false t ht 161 k D M L s h (NK (by omega) t) (by omega)
        exact ⟨D, M', L', s, false, true, e, hE⟩
    · rw [decide_eq_false ht, if_neg (by simp)]
      exact ⟨D, M, L, s, false, false, rfl, h⟩
  · exact ⟨D, M, L, s, true, false, by simp, h⟩
theorem Xdd {D M : List S25} {L : List Rc} {s : Int} (h : EI D M L s) (d : Bool) (p : Int) (hp : 0 ≤ p ∧ p < 5) : ∃ D' s', Yg.f D M L s d p = some (D', M, L, s', d) ∧ EI D' M L s' := by
  have hm := h.m.ok p hp.1 hp.2; have hs := h.s1; have hs0 := h.s0
  unfold Yg.f
  rw [if_pos hp.1, if_pos (by rw [h.m.len]; omega), if_pos (by rw [h.d.len]; omega), Xbu _ _ _ (by rw [hm.1]; omega), Option.bind_some]
  have hmx : s ≤ mx s (Xn M p).f0 ∧ (Xn M p).f0 ≤ mx s (Xn M p).f0 ∧ mx s (Xn M p).f0 ≤ (L.length : Int) := by
    unfold mx
    split <;> omega
  exact ⟨_, _, rfl, (h.d.mono hmx.1).set hp.1 hp.2 hm.1 hmx.2.1, h.m, h.l, by omega, hmx.2.2⟩
theorem Xbv (d : Bool) (M : List S25) (L : List Rc) (g : Good L) (hl : L.length ≤ 160) : ∀ (n k : Nat) (D : List S25) (s a : Int), EI D M L s → a ≤ (n : Int) → a ≤ (L.length : Int) → n + 1 ≤ k → ∃ D' s', Yu.l0 k D M L s d a = some (D', M, L, s', d) ∧ EI D' M L s'
  | 0, k + 1, D, s, a, h, ha, hl2, hk => ⟨D, s, by rw [Yu.l0, if_neg (by omega)], h⟩
  | n + 1, k + 1, D, s, a, h, ha, hl2, hk => by
    rw [Yu.l0]
    by_cases h0 : 0 < a
    · obtain ⟨j, rfl⟩ := GJ h0
      have o := g j (by omega); have hp := o.Vq (by omega); have hpg : 0 ≤ (Xa L (j : Int)).f2 ∧ (Xa L (j : Int)).f2 < 5 := o.page; rw [if_pos h0, Xbs (by omega), if_pos (by omega), if_pos (by omega)]
      split
      · obtain ⟨D', s', e, hE⟩ := Xdd h d _ hpg
        rw [e, Option.bind_some]
        change ∃ D' s', (if (j : Int) < (L.length : Int) then _ else none) = _ ∧ _
        rw [if_pos (by omega)]; exact Xbv d M L g hl n k D' s' (rc L (j : Int)).f6 hE (by omega) (by omega) (by omega)
      · exact Xbv d M L g hl n k D s (rc L (j : Int)).f6 h (by omega) (by omega) (by omega)
    · exact ⟨D, s, by rw [if_neg h0], h⟩
theorem XnW {D M : List S25} {L : List Rc} {s : Int} (h : EI D M L s) (d : Bool) (t : Int) (k : Nat) (hk : 4500 ≤ k) : ∃ D' M' L' s' d' b, Yu.f k D M L s d t = some (D', M', L', s', d', b) ∧ EI D' M' L' s' := by
  have hl := h.len; have hfit := h.l.len
  unfold Yu.f
  cases d
  · rw [if_neg (by simp), Qk, Option.bind_some]
    by_cases ht : 1 ≤ t ∧ t ≤ 3
    · have hln := Jq L t
      have hl0 := Dc L t; rw [decide_eq_true ht, if_pos rfl, M8 (by omega) t k (by omega), Option.bind_some]
      split
      · exact ⟨D, M, L, s, false, false, rfl, h⟩
      · rename_i hne
        obtain ⟨D', s', e, hE⟩ := Xbv false M L h.l.1 (by omega) L.length k D s (lastB L t) h hln hln (by omega); rw [e, Option.bind_some]
        have hn : XdK L ⟨4, t, 0, 0, 0, 0, lastB L t, 0⟩ := ⟨ht, by show (0 : Int) ≤ 0 ∧ (0 : Int) < 5; omega, by show -1 ≤ (0 : Int) ∧ (0 : Int) < 3; omega, rfl, zb107, fun h => absurd h (by show ¬ (0 : Int) < 0; omega)⟩
        obtain ⟨M', L', ok, e2, hE2, _, hf⟩ := O3 hE false 4 t 0 0 0 0 0 0 hn k (by omega); have h1 := O0 (l := L) (⟨4, t, 0, 0, 0, 0, lastB L t, 0⟩ : Rc) t rfl (.inl rfl); have h2 := (XdM (l := L) t).mp (by omega); have h3 := P5 h.l.1 (⟨4, t, 0, 0, 0, 0, lastB L t, 0⟩ : Rc) t ht rfl (by omega); obtain ⟨_, rfl⟩ := hf (by omega); refine ⟨D', M', _, _, false, true, by rw [e2]; rfl, hE2.d.mono hE2.s1, hE2.m, hE2.l, by omega, Int.le_refl _⟩
    · rw [decide_eq_false ht, if_neg (by simp)]
      exact ⟨D, M, L, s, false, false, rfl, h⟩
  · exact ⟨D, M, L, s, true, false, by simp, h⟩
theorem Xtu {D M : List S25} {L : List Rc} {s : Int} (h : EI D M L s) (d : Bool) (t p sl v : Int) (k : Nat) (hk : 4500 ≤ k) : ∃ D' M' L' s' d' b, ZG.f k D M L s d t p sl v = some (D', M', L', s', d', b) ∧ EI D' M' L' s' := by
  have hl := h.len; obtain ⟨b, e, hb⟩ := Xg9 h.l.1 (by omega) D M s d t p k (by omega)
  unfold ZG.f
  rw [e, Option.bind_some]
  cases b
  · exact ⟨D, M, L, s, d, false, by simp, h⟩
  obtain ⟨ht, hp, _⟩ := hb rfl; rw [if_pos rfl, Qk, Option.bind_some]
  by_cases hs : 0 ≤ sl ∧ sl ≤ 2
  · rw [decide_eq_true hs, if_pos rfl, Qk, Option.bind_some]
    by_cases hv : 0 ≤ v ∧ v ≤ 9
    · rw [decide_eq_true hv, if_pos rfl, if_pos hp.1, if_pos (by rw [h.m.len]; omega)]
      split
      · exact ⟨D, M, L, s, d, false, rfl, h⟩
      · have hm := h.m.ok p hp.1 (by omega)
        rw [if_pos hs.1, if_pos (by rw [hm.1]; omega)]; obtain ⟨M', L', ok, e2, hE, _⟩ := O3 h d 1 t p sl (rd (Xn M p).f2 sl) v 0 0 ⟨ht, by show 0 ≤ p ∧ p < 5; omega, by show -1 ≤ sl ∧ sl < 3; omega, rfl, zb107, fun h => absurd h (by show ¬ (0 : Int) < 0; omega)⟩ k (by omega); exact ⟨D, M', L', s, d, ok, e2, hE⟩
    · rw [decide_eq_false hv, if_neg (by simp)]
      exact ⟨D, M, L, s, d, false, rfl, h⟩
  · rw [decide_eq_false hs, if_neg (by simp)]
    exact ⟨D, M, L, s, d, false, rfl, h⟩
theorem Xtv {D M : List S25} {L : List Rc} {s : Int} (h : EI D M L s) (d : Bool) (t p v : Int) (k : Nat) (hk : 4500 ≤ k) : ∃ D' M' L' s' d' b, ZH.f k D M L s d t p v = some (D', M', L', s', d', b) ∧ EI D' M' L' s' := by
  have hl := h.len; obtain ⟨b, e, hb⟩ := Xg9 h.l.1 (by omega) D M s d t p k (by omega)
  unfold ZH.f
  rw [e, Option.bind_some]
  cases b
  · exact ⟨D, M, L, s, d, false, by simp, h⟩
  obtain ⟨ht, hp, _⟩ := hb rfl; rw [if_pos rfl, Qk, Option.bind_some]
  by_cases hv : 0 ≤ v ∧ v ≤ 3
  · have hm := h.m.ok p hp.1 (by omega)
    rw [decide_eq_true hv, if_pos rfl, if_pos hp.1, if_pos (by rw [h.m.len]; omega)]
    split
    · exact ⟨D, M, L, s, d, false, rfl, h⟩
    · obtain ⟨b2, e2⟩ := Xdc (Xn M p).f0 (Xn M p).f1 (Xn M p).f2 hm.1 k (by omega)
      rw [e2, Option.bind_some]
      cases b2
      · exact ⟨D, M, L, s, d, false, by simp, h⟩
      rw [if_pos rfl]; obtain ⟨M', L', ok, e2, hE, _⟩ := O3 h d 2 t p (-1) (Xn M p).f1 v 0 0 ⟨ht, by show 0 ≤ p ∧ p < 5; omega, by show -1 ≤ (-1 : Int) ∧ (-1 : Int) < 3; omega, rfl, zb107, fun h => absurd h (by show ¬ (0 : Int) < 0; omega)⟩ k (by omega); exact ⟨D, M', L', s, d, ok, e2, hE⟩
  · rw [decide_eq_false hv, if_neg (by simp)]
    exact ⟨D, M, L, s, d, false, rfl, h⟩
theorem XnX (va : List Int) (hl : va.length = 3) (k : Nat) (hk : 10 ≤ k) : ∃ b, Ye.l0 k va 0 = some b := by
  have key : ∀ (d i k : Nat), i + d = 3 → d < k → ∃ t, Ye.l0 k va (i : Int) = some t := by
    intro d
    induction d with
    | zero =>
      intro i k hi hk
      obtain ⟨k2, rfl⟩ : ∃ k2, k = k2 + 1 := ⟨k - 1, by omega⟩
      exact ⟨true, by rw [Ye.l0, if_neg (by omega)]⟩
    | succ d ih =>
      intro i k hi hk
      obtain ⟨k2, rfl⟩ : ∃ k2, k = k2 + 1 := ⟨k - 1, by omega⟩
      rw [Ye.l0, if_pos (by omega), if_pos (by omega), Qk, Option.bind_some, M7 (by omega) (by omega)]
      split
      · exact ih (i + 1) k2 (by omega) (by omega)
      · exact ⟨_, rfl⟩
  exact key 3 0 k (by omega) (by omega)
theorem XnY {D M : List S25} {L : List Rc} {s : Int} (h : EI D M L s) (d : Bool) (t p : Int) (va : List Int) (k : Nat) (hk : 4500 ≤ k) : ∃ D' M' L' s' d' b, Ye.f k D M L s d t p va = some (D', M', L', s', d', b) ∧ EI D' M' L' s' := by
  have hl := h.len; obtain ⟨b, e, hb⟩ := Xg9 h.l.1 (by omega) D M s d t p k (by omega)
  unfold Ye.f
  rw [e, Option.bind_some]
  cases b
  · exact ⟨D, M, L, s, d, false, by simp, h⟩
  obtain ⟨ht, hp, _⟩ := hb rfl; rw [if_pos rfl]
  by_cases hv : (va.length : Int) = 3
  · have hm := h.m.ok p hp.1 (by omega)
    rw [if_pos hv, if_pos hp.1, if_pos (by rw [h.m.len]; omega)]
    split
    · exact ⟨D, M, L, s, d, false, rfl, h⟩
    · obtain ⟨b2, e2⟩ := Xdc (Xn M p).f0 (Xn M p).f1 (Xn M p).f2 hm.1 k (by omega)
      rw [e2, Option.bind_some]
      cases b2
      · exact ⟨D, M, L, s, d, false, by simp, h⟩
      obtain ⟨b3, e3⟩ := XnT h.l.1 (by omega) t p k (by omega); rw [if_pos rfl, e3, Option.bind_some]
      cases b3
      · exact ⟨D, M, L, s, d, false, by simp, h⟩
      obtain ⟨b4, e4⟩ := XnX va (by omega) k (by omega); rw [if_pos rfl, e4, Option.bind_some]
      cases b4
      · exact ⟨D, M, L, s, d, false, by simp, h⟩
      obtain ⟨M', L', ok, e5, hE, _⟩ := O3 h d 3 t p 0 0 0 0 0 ⟨ht, by show 0 ≤ p ∧ p < 5; omega, by show -1 ≤ (0 : Int) ∧ (0 : Int) < 3; omega, rfl, zb107, fun h => absurd h (by show ¬ (0 : Int) < 0; omega)⟩ k (by omega); rw [if_pos rfl, e5, Option.bind_some]
      unfold Ye.r
      cases ok
      · exact ⟨D, M', L', s, d, false, by simp, hE⟩
      · refine ⟨D, M'.set p.toNat ⟨(L'.length : Int), (Xn M' p).f1, va⟩, L', s, d, true, ?_, hE.d, hE.m.set hp.1 (by omega) (show va.length = 3 by omega) (Int.le_refl _), hE.l, hE.s0, hE.s1⟩
        change (if true = true then (if 0 ≤ p then (if p < (M'.length : Int) then _ else none) else none) else _) = _
        rw [if_pos rfl, if_pos hp.1, if_pos (by rw [hE.m.len]; omega)]
  · exact ⟨D, M, L, s, d, false, by rw [if_neg hv], h⟩
theorem XnZ {D M : List S25} {L : List Rc} {s : Int} (h : EI D M L s) (d : Bool) (n : Int) (k : Nat) (hk : 4500 ≤ k) : ∃ D' M' L' s' d', De.f k D M L s d n = some (D', M', L', s', d') ∧ EI D' M' L' s' := by
  have hl := h.len; have h0 := h.s0; have h1 := h.s1
  obtain ⟨j, hj⟩ : ∃ j : Nat, mx s (mn n (L.length : Int)) = (j : Int) := ⟨(mx s (mn n (L.length : Int))).toNat, by
    unfold mx
    split <;> omega⟩
  have hb : s ≤ (j : Int) ∧ (j : Int) ≤ (L.length : Int) := by
    rw [← hj]
    unfold mx mn
    split <;> split at * <;> omega
  have hlen : (L.take j).length = j := by rw [List.length_take]; omega
  unfold De.f
  rw [Option.bind_some, hj, if_pos (by omega), if_pos hb.2, Option.bind_some, Int.toNat_natCast]
  change ∃ D' M' L' s' d', (if ([] : List Rc).length + (L.take j).length < 2199023255552 then _ else none) = _ ∧ _
  rw [if_pos (by rw [hlen]; simp; omega), Wo h.d k (by omega), Option.bind_some]; refine ⟨D, D, L.take j, s, true, rfl, h.d, h.d.mono (by rw [hlen]; exact hb.1), h.l.take j, h0, by rw [hlen]; exact hb.1⟩
theorem up_l (d : Bool) (st : Int) (hst : st ≤ 1000000) : ∀ (n k : Nat) (D M : List S25) (L : List Rc) (s i : Int), EI D M L s → Uy L ≤ n → 0 ≤ i → 4001 + n ≤ k → ∃ M' L', Zb.l0 k D M L s d st i = some (D, M', L', s, d) ∧ EI D M' L' s
  | n, 0, D, M, L, s, i, _, _, _, hk => absurd hk (by omega)
  | n, k + 1, D, M, L, s, i, h, hn, hi, hk => by
    have hl := h.len; rw [Zb.l0]
    by_cases hs : i < st
    · obtain ⟨t, e, ht0, ht3, htl⟩ := Xdb (l := L) (by omega) k (by omega)
      rw [if_pos hs, e, Option.bind_some]
      by_cases hp : t > 0
      · obtain ⟨M', L', e2, hE, _, h2⟩ := XgC h d t (by omega) (htl hp) k (by omega)
        rw [if_pos hp, e2, Option.bind_some, M7 hi (by omega)]
        cases n with
        | zero => omega
        | succ n => exact up_l d st hst n k D M' L' s (i + 1) hE (by omega) (by omega) (by omega)
      · exact ⟨M, L, by rw [if_neg hp], h⟩
    · exact ⟨M, L, by rw [if_neg hs], h⟩
theorem up_k {D M : List S25} {L : List Rc} {s : Int} (h : EI D M L s) (d : Bool) (st : Int) (hst : st ≤ 1000000) (k : Nat) (hk : 4500 ≤ k) : ∃ D' M' L' s' d' b, Zb.f k D M L s d st = some (D', M', L', s', d', b) ∧ EI D' M' L' s' := by
  have hl := h.len; have hf := h.l.len; obtain ⟨t, et, ht⟩ := XnU h.d h.l.1 (by omega) h.s1 k (by omega); obtain ⟨M', L', e, hE⟩ := up_l d st hst 150 k D t L s 0 ⟨h.d, ht, h.l, h.s0, h.s1⟩ (by omega) (by omega) (by omega); have hl' := hE.len; obtain ⟨n, e2, _⟩ := Xdb (l := L') (by omega) k (by omega)
  unfold Zb.f
  rw [et, Option.bind_some, e, Option.bind_some]
  change ∃ D' M'' L'' s' d' b, (Yy.f k L').bind _ = _ ∧ _
  rw [e2, Option.bind_some]
  split
  · change ∃ D' M'' L'' s' d' b, (X4.f k D).bind _ = _ ∧ _
    rw [Wo hE.d k (by omega), Option.bind_some]; exact ⟨D, D, L', s, d, false, rfl, hE.d, hE.d.mono hE.s1, hE.l, hE.s0, hE.s1⟩
  · exact ⟨D, M', L', s, false, true, rfl, hE⟩
theorem do_k {D M : List S25} {L : List Rc} {s : Int} (h : EI D M L s) (d : Bool) (ek t p sl n : Int) (va : List Int) (hn : n ≤ 1000000) (k : Nat) (hk : 4500 ≤ k) : ∃ D' M' L' s' d', FJ.f k D M L s d ek t p sl n va = some (D', M', L', s', d') ∧ EI D' M' L' s' := by
  have hsame : ∃ D' M' L' s' d', some (D, M, L, s, d) = some (D', M', L', s', d') ∧ EI D' M' L' s' := ⟨D, M, L, s, d, rfl, h⟩
  have hfive : ∀ {x : Option (List S25 × List S25 × List S41 × Int × Bool × Bool)}, (∃ D' M' L' s' d' b, x = some (D', M', L', s', d', b) ∧ EI D' M' L' s') → ∃ D' M' L' s' d', x.bind five = some (D', M', L', s', d') ∧ EI D' M' L' s' := by
    rintro x ⟨D', M', L', s', d', b, rfl, hE⟩; exact ⟨D', M', L', s', d', rfl, hE⟩
  unfold FJ.f
  by_cases q1 : ek = 1
  · rw [if_pos q1]
    exact hfive (Xtu h d t p sl n k hk)
  rw [if_neg q1]
  by_cases q2 : ek = 2
  · rw [if_pos q2]
    exact hfive (Xtv h d t p n k hk)
  rw [if_neg q2]
  by_cases q3 : ek = 3
  · rw [if_pos q3]
    exact hfive (XnY h d t p va k hk)
  rw [if_neg q3]
  by_cases q4 : ek = 4
  · rw [if_pos q4]
    exact hfive (XnW h d t k hk)
  rw [if_neg q4]
  by_cases q5 : ek = 5
  · rw [if_pos q5]
    exact hfive (XnV h d t k hk)
  rw [if_neg q5]
  by_cases q6 : ek = 6
  · rw [if_pos q6]
    by_cases qd : d = true
    · rw [if_pos qd]
      exact hsame
    · rw [if_neg qd, Qk, Option.bind_some]
      by_cases hp : 0 ≤ p ∧ p ≤ 4
      · rw [decide_eq_true hp, if_pos rfl]
        obtain ⟨D', s', e, hE⟩ := Xdd h d p (by omega); exact ⟨D', M, L, s', d, e, hE⟩
      · rw [decide_eq_false hp, if_neg (by simp)]
        exact hsame
  rw [if_neg q6]
  by_cases q7 : ek = 7
  · rw [if_pos q7]
    by_cases qd : d = true
    · rw [if_pos qd]
      exact hsame
    · rw [if_neg qd]
      exact ⟨D, M, L, _, d, rfl, h.d.mono h.s1, h.m, h.l, by omega, Int.le_refl _⟩
  rw [if_neg q7]
  by_cases q8 : ek = 8
  · rw [if_pos q8]
    by_cases qn : 0 ≤ n
    · rw [if_pos qn]
      exact XnZ h d n k hk
    · rw [if_neg qn]
      exact hsame
  rw [if_neg q8]
  by_cases q9 : ek = 9
  · rw [if_pos q9]
    by_cases qn : 0 ≤ n
    · rw [if_pos qn]
      by_cases qd : d = true
      · rw [if_pos qd]
        exact hfive (up_k h d n hn k hk)
      · rw [if_neg qd]
        exact hsame
    · rw [if_neg qn]
      exact hsame
  rw [if_neg q9]; exact hsame
end Go.Proofs.Ytcefiblpnegepaa.T
