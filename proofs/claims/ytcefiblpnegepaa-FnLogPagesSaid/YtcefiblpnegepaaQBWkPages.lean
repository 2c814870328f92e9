import Derived.Test.YtcefiblpnegepaaQBLChainP
import Derived.Test.YtcefiblpnegepaaQBPgP
import Derived.Test.YtcefiblpnegepaaQBPrLawDG
import Derived.Test.YtcefiblpnegepaaQBPuLog
namespace Go.Proofs.Ytcefiblpnegepaa.T
open Go.RowKit Go.PW Go.Proofs.Ytcefiblpnegepaa.Pr
set_option linter.unusedSimpArgs false
set_option linter.unusedVariables false
theorem XbE {l : List Rc} (hl : l.length ≤ 152) (ps c : List Int) (hc : c.length ≤ 152) (hm : ∀ y ∈ c, 1 ≤ y ∧ y ≤ (l.length : Int)) (x7 p : Int) (K : Nat) (b : Bool) (hK : ∀ k, K ≤ k → Xr.l1 k l ps c x7 p b (c.length : Int) = some true) : ∀ (d k i : Nat) (has : Bool), i + d = c.length → K + d ≤ k → (has || (c.drop i).any (fun y => (Xa l (y - 1)).f2 == p)) = b → Xr.l1 k l ps c x7 p has (i : Int) = some true
  | 0, k, i, has, hi, hk, hb => by
    obtain rfl : i = c.length := by omega
    rw [List.drop_of_length_le (Nat.le_refl _)] at hb
    simp at hb
    rw [hb]
    exact hK k (by omega)
  | d + 1, 0, i, has, hi, hk, hb => by omega
  | d + 1, k + 1, i, has, hi, hk, hb => by
    have hy := hm (rd c (i : Int)) (by rw [show rd c (i : Int) = c[i]'(by omega) by unfold rd; rw [List.getD_eq_getElem?_getD, Int.toNat_natCast, List.getElem?_eq_getElem (by omega)]; rfl]; exact List.getElem_mem _); obtain ⟨j, hj⟩ := GJ (show 0 < rd c (i : Int) by omega); rw [WL (l := c) (i := i) (by omega), List.any_cons] at hb; rw [Xr.l1, if_pos (by omega), M7 (by omega) (by omega)]
    cases has
    · rw [if_neg (by simp), if_pos (by omega), hj, Xbs (by omega), if_pos (by omega), if_pos (by omega)]
      refine XbE hl ps c hc hm x7 p K b hK d k (i + 1) _ (by omega) (by omega) ?_; rw [hj, show (j : Int) + 1 - 1 = (j : Int) by omega] at hb; rw [Bool.false_or] at hb; exact hb
    · rw [if_pos rfl]
      refine XbE hl ps c hc hm x7 p K b hK d k (i + 1) true (by omega) (by omega) ?_; rw [Bool.true_or] at hb ⊢; exact hb
theorem Xds {l : List Rc} (hl : l.length ≤ 152) (ps c : List Int) (hp : ps.length ≤ 5) (hc : c.length ≤ 152) (hm : ∀ y ∈ c, 1 ≤ y ∧ y ≤ (l.length : Int)) (f : Int → Bool) (hf : ∀ p, f p = c.any (fun y => (Xa l (y - 1)).f2 == p)) : ∀ (rest : List Int) (k i p : Nat), p + rest.length = 5 → rest = (List.range rest.length).map (fun q => ((p + q : Nat) : Int)) → ps.drop i = rest.filter f → i ≤ ps.length → 200 * rest.length + 1 ≤ k → Xr.l0 k l ps c (i : Int) (p : Int) = some true
  | [], 0, i, p, _, _, _, _, hk => by simp at hk
  | [], k + 1, i, p, h5, hr, hd, hi, hk => by
    simp at h5
    rw [Xr.l0, if_neg (by omega)]; have := congrArg List.length hd; rw [List.length_drop] at this
    simp at this
    have e : i = ps.length := by omega
    simp [e]
  | q :: rest, 0, i, p, _, _, _, _, hk => by simp at hk
  | q :: rest, k + 1, i, p, h5, hr, hd, hi, hk => by
    rw [List.length_cons] at h5 hk; have hr1 := hr; rw [List.length_cons, List.range_succ_eq_map, List.map_cons, List.map_map] at hr1; obtain ⟨h1, h2⟩ := List.cons.inj hr1; have hq : q = (p : Int) := h1
    have hr2 : rest = (List.range rest.length).map (fun q => ((p + 1 + q : Nat) : Int)) := by
      refine h2.trans (List.map_congr_left fun y _ => ?_)
      show ((p + (y + 1) : Nat) : Int) = ((p + 1 + y : Nat) : Int)
      omega
    clear hr1 h1 h2; subst hq; rw [Xr.l0, if_pos (by omega)]; have ih := Xds hl ps c hp hc hm f hf rest; refine XbE hl ps c hc hm (i : Int) (p : Int) (200 * rest.length + 2) (f (p : Int)) (fun k hk => ?_) c.length k 0 false (by omega) (by omega) (by rw [List.drop_zero, Bool.false_or, hf])
    obtain ⟨k2, rfl⟩ : ∃ k2, k = k2 + 1 := ⟨k - 1, by omega⟩
    rw [Xr.l1, if_neg (by omega), show wrap64 ((p : Int) + 1) = (p : Int) + 1 from M7 (by omega) (by omega)]; rw [List.filter_cons] at hd
    cases hfp : f (p : Int)
    · rw [hfp, if_neg (by simp)] at hd
      rw [if_neg (by simp)]; exact ih k2 i (p + 1) (by omega) hr2 hd hi (by omega)
    · rw [hfp, if_pos rfl] at hd
      have hlt : i < ps.length := by
        rcases Nat.lt_or_ge i ps.length with q | q
        · exact q
        · rw [List.drop_of_length_le q] at hd
          cases hd
      rw [WL hlt] at hd
      injection hd with hd1 hd2
      rw [if_pos rfl, if_neg (by omega), if_pos (by omega), if_pos (by omega), if_pos hd1, M7 (by omega) (by omega)]; exact ih k2 (i + 1) (p + 1) (by omega) hr2 hd2 (by omega) (by omega)
theorem Ez (l : List Int) (hby : Bytes l) : ∃ k, Xr.f k l = some true := by
  refine ⟨6000, ?_⟩
  unfold Xr.f
  split
  · rfl
  obtain ⟨x, t, e, hx⟩ := Nu l hby 6000 (by omega); have hpl := PG x t; have h2 := Xa6 x t (by omega) 6000 (by omega); have h3 := Fq x (by omega) 6000 (by omega); have h4 := Gy (Dh x t) (by omega) 6000 (by omega)
  unfold JR.f Xt.f
  simp only [e, h2, h3, h4, Option.bind_some, if_true]; rw [show (6000 : Nat) = 5999 + 1 from rfl, Xr.j0]
  cases ok : Yz x with
  | false =>
    rw [if_pos (by simp), Xa6 x t (by omega) 5999 (by omega), Option.bind_some, Gy (Dh x t) (by omega) 5999 (by omega)]
    rfl
  | true =>
    have hcl := MB x t; have hlen := VN ok
    have hmem : ∀ y ∈ JI x t, 1 ≤ y ∧ y ≤ (x.length : Int) := by
      unfold JI
      rw [if_pos ok]; exact MF ok x.length (lastB x t) (Dc _ _) (Jq _ _) (Nat.le_refl _)
    rw [if_neg (by simp), Fe x t (by omega) 5999 (by omega), Option.bind_some]; refine Xds (by omega) (Dh x t) (JI x t) hpl (by omega) hmem (fun p => (Dr x t).any (fun y => y == p)) (fun p => ?_) [0, 1, 2, 3, 4] 5999 0 0 rfl (by decide) ?_ (by omega) (by simp)
    · unfold Dr JI
      rw [if_pos ok, List.any_map]
      rfl
    · rw [List.drop_zero]
      unfold Dh
      rw [if_pos ok]
end Go.Proofs.Ytcefiblpnegepaa.T
namespace Go.Proofs.Ytcefiblpnegepaa.T
open Go.RowKit Go.PW Go.Proofs.Ytcefiblpnegepaa.Pr
set_option linter.unusedVariables false
theorem Rw (A : Option Addr) (c : Nat) (l : List Int) (w : World) (hc : l.length ≤ c) (hC : Kd.C (Kd.int .u8) w A l.length l) (hby : Bytes l) :
    Calls Try.prog 21 #[.slice A l.length c] w fun e w' => e = .returned (.bool true) ∧ Below w.heap.size w w' := by
  obtain ⟨k, h⟩ := Ez l hby
  exact Xr.calls k A c l true w hC hc h
end Go.Proofs.Ytcefiblpnegepaa.T
