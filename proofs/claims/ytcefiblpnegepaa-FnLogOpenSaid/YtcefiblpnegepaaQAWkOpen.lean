import Derived.Test.YtcefiblpnegepaaQAByq
import Derived.Test.YtcefiblpnegepaaQALLastP
import Derived.Test.YtcefiblpnegepaaQAPuLog
import Derived.Test.YtcefiblpnegepaaQAPrLawDO
namespace Go.Proofs.Ytcefiblpnegepaa.T
open Go.RowKit Go.PW Go.Proofs.Ytcefiblpnegepaa.Pr
set_option linter.unusedSimpArgs false
set_option linter.unusedVariables false
theorem Po (l : List Rc) : ∀ (d : Nat) (t y : Int), y ∈ G5 l d t → t ≤ y ∧ y < t + d ∧ 0 < lastB l y
  | 0, t, y, h => by simp [G5] at h
  | d + 1, t, y, h => by
    rw [G5] at h
    split at h
    · rcases List.mem_cons.mp h with rfl | h
      · exact ⟨by omega, by omega, by assumption⟩
      · have := Po l d (t + 1) y h
        exact ⟨by omega, by omega, this.2.2⟩
    · have := Po l d (t + 1) y h
      exact ⟨by omega, by omega, this.2.2⟩
theorem XlC {l : List Rc} (h : YW l = true) (hl : l.length < 150) (t : Int) (ht : 1 ≤ t ∧ t ≤ 3) : YW (l ++ [⟨4, t, 0, 0, 0, 0, lastB l t, 0⟩]) = true := by
  have hn := VK l t; have h0 := Mi l t; refine Xcf h _ hl ?_; rw [XhI]; have h1 : inB t 1 3 = true := Xd8.mpr ht; have h2 : inB (lastB l t) 0 150 = true := Xd8.mpr (by omega)
  simp [VQ, h1, h2]
theorem XhJ {l : List Rc} (t : Int) : ¬ t ∈ Vw (l ++ [⟨4, t, 0, 0, 0, 0, lastB l t, 0⟩]) := by
  intro h
  unfold Vw at h
  split at h
  · have := (Po _ 3 1 t h).2.2
    rw [M6] at this
    simp at this
  · simp at h
theorem j3_k {l : List Rc} (h : YW l = true) (l1 : List Int) (k : Nat) (hk : 2000 ≤ k) (b : Bool) (hb : b = false → (Vw l).length ≠ 0 ∧ l.length ≠ 150) : Xo.j3 k l1 l (Vw l) ((Vw l).length : Int) b = some true := by
  obtain ⟨k2, rfl⟩ : ∃ k2, k = k2 + 1 := ⟨k - 1, by omega⟩
  have hlen := G9 h; have hol := Pg l; rw [Xo.j3]
  cases b
  · obtain ⟨hne, h150⟩ := hb rfl
    obtain ⟨n, hn⟩ : ∃ n : Nat, (l1.length : Int) % ((Vw l).length : Int) = (n : Int) := ⟨((l1.length : Int) % ((Vw l).length : Int)).toNat, by have := Int.emod_nonneg (l1.length : Int) (show ((Vw l).length : Int) ≠ 0 by omega); omega⟩
    have hlt : (n : Int) < ((Vw l).length : Int) := by rw [← hn]; exact Int.emod_lt_of_pos _ (by omega)
    have hmem : rd (Vw l) (n : Int) ∈ Vw l := by
      unfold rd
      rw [List.getD_eq_getElem?_getD, Int.toNat_natCast, List.getElem?_eq_getElem (by omega)]; exact List.getElem_mem _
    obtain ⟨t, ht⟩ : ∃ t, rd (Vw l) (n : Int) = t := ⟨_, rfl⟩
    rw [ht] at hmem; have hm2 := hmem
    unfold Vw at hm2
    rw [if_pos h] at hm2; have hm3 := Po l 3 1 t hm2
    have ht3 : 1 ≤ t ∧ t ≤ 3 := ⟨hm3.1, by omega⟩
    have hx := XlC h (by omega) t ht3
    obtain ⟨X, hX⟩ : ∃ X : List Rc, l ++ [⟨4, t, 0, 0, 0, 0, lastB l t, 0⟩] = X := ⟨_, rfl⟩
    have hXl : X.length = l.length + 1 := by rw [← hX]; simp
    have hno := XhJ (l := l) t; rw [if_neg (by simp), if_neg (by omega), hn, if_pos (by omega), if_pos hlt, ht, Option.bind_some, if_pos zb153, Option.bind_some, List.nil_append, Uh l t (by omega) k2 (by omega), Option.bind_some, if_pos h, if_pos (by omega), Option.bind_some, if_pos rfl]; rw [hX] at hx hno ⊢; have hol2 := Pg X; rw [Vb X (by omega) k2 (by omega), Option.bind_some, hx, if_pos rfl, PN X (by omega) k2 (by omega), Option.bind_some, XlB _ _ (by omega) k2 (by omega), Option.bind_some, decide_eq_false hno]
    rfl
  · rw [if_pos rfl]
    simp
theorem TV {l : List Rc} (h : YW l = true) (l1 : List Int) : ∀ (d k i : Nat) (t : Int), t + d = 4 → 1 ≤ t → i ≤ (Vw l).length → (Vw l).drop i = G5 l d t → 3000 + d ≤ k → Xo.l0 k l1 l (Vw l) (i : Int) t = some true
  | 0, 0, i, t, ht, h1, hi, hd, hk => by omega
  | 0, k + 1, i, t, ht, h1, hi, hd, hk => by
    have : i = (Vw l).length := by
      have := congrArg List.length hd; rw [List.length_drop] at this
      simp [G5] at this
      omega
    subst this; rw [Xo.l0, if_neg (by omega)]
    split
    · exact j3_k h l1 k (by omega) true (fun h => by simp at h)
    · exact j3_k h l1 k (by omega) _ (fun hb => ⟨by omega, fun h150 => by rw [h150] at hb; simp at hb⟩)
  | d + 1, 0, i, t, ht, h1, hi, hd, hk => by omega
  | d + 1, k + 1, i, t, ht, h1, hi, hd, hk => by
    have hlen := G9 h; have hol := Pg l; rw [Xo.l0, if_pos (by omega), Uh l t (by omega) k (by omega), Option.bind_some, if_pos h, show wrap64 (t + 1) = t + 1 from Mj (by omega) (by omega)]; rw [G5] at hd
    by_cases hp : lastB l t > 0
    · rw [if_pos hp] at hd
      have hlt : i < (Vw l).length := by
        rcases Nat.lt_or_ge i (Vw l).length with q | q
        · exact q
        · rw [List.drop_of_length_le q] at hd
          cases hd
      rw [L6 hlt] at hd; obtain ⟨hd1, hd2⟩ := List.cons.inj hd; rw [if_pos hp, if_neg (by omega), if_pos (by omega), if_pos (by omega), if_pos hd1, Mj (by omega) (by omega)]; exact TV h l1 d k (i + 1) (t + 1) (by omega) (by omega) (by omega) hd2 (by omega)
    · rw [if_neg hp] at hd
      rw [if_neg hp]; exact TV h l1 d k i (t + 1) (by omega) (by omega) hi hd (by omega)
theorem OD (l l1 : List Int) (hby : Bytes l) (hby1 : Bytes l1) : ∃ k, Xo.f k l l1 = some true := by
  refine ⟨6000, ?_⟩
  have key : ∀ b, Xo.j0 6000 l l1 b = some true := by
    intro b; rw [show (6000 : Nat) = 5999 + 1 from rfl, Xo.j0]
    cases b
    · obtain ⟨x, t, e, hx⟩ := Nu l hby 5999 (by omega)
      have hol := Pg x; have h1 := PN x (by omega) 5999 (by omega); have h2 := Nt x (by omega) 5999 (by omega); have h3 := VB x (by omega) 5999 (by omega); have h4 := LD (Vw x) (by omega) 5999 (by omega); rw [if_neg (by simp)]
      unfold Vm.f
      simp only [e, h1, h2, h3, h4, Option.bind_some, if_true]; rw [show (5999 : Nat) = 5998 + 1 from rfl, Xo.j1]
      cases ok : YW x with
      | false =>
        rw [if_pos (by simp), Nt x (by omega) 5998 (by omega), Option.bind_some, LD (Vw x) (by omega) 5998 (by omega)]
        rfl
      | true =>
        rw [if_neg (by simp)]; refine TV ok l1 3 5998 0 1 (by omega) (by omega) (by omega) ?_ (by omega); rw [List.drop_zero]
        unfold Vw
        rw [if_pos ok]
    · rw [if_pos rfl]
  unfold Xo.f
  split
  · exact key _
  · exact key _
end Go.Proofs.Ytcefiblpnegepaa.T
namespace Go.Proofs.Ytcefiblpnegepaa.T
open Go.RowKit Go.PW Go.Proofs.Ytcefiblpnegepaa.Pr
set_option linter.unusedVariables false
theorem Ot (A : Option Addr) (c : Nat) (l : List Int) (A1 : Option Addr) (c1 : Nat) (l1 : List Int) (w : World) (hc : l.length ≤ c) (hC : Kd.C (Kd.int .u8) w A l.length l) (hby : Bytes l) (hc1 : l1.length ≤ c1) (hC1 : Kd.C (Kd.int .u8) w A1 l1.length l1) (hby1 : Bytes l1) :
    Calls Try.prog 19 #[.slice A l.length c, .slice A1 l1.length c1] w fun e w' => e = .returned (.bool true) ∧ Below w.heap.size w w' := by
  obtain ⟨k, h⟩ := OD l l1 hby hby1; exact Xo.calls k A c l A1 c1 l1 true w hC hc hC1 hc1 h
end Go.Proofs.Ytcefiblpnegepaa.T
