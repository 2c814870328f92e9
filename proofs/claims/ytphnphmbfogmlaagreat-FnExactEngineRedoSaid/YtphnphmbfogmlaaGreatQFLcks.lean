import Derived.Test.YtphnphmbfogmlaaGreatQFByq
import Derived.Test.YtphnphmbfogmlaaGreatQFEnK2
import Derived.Test.YtphnphmbfogmlaaGreatQFPagesOfH
import Derived.Test.YtphnphmbfogmlaaGreatQFPrSame
import Derived.Test.YtphnphmbfogmlaaGreatQFPrUndo
namespace Go.Proofs.YtphnphmbfogmlaaGreat.Pr
open Go.RowKit Go.PW Go.PL Go.PM Go.Proofs.YtphnphmbfogmlaaGreat.T Go.Sort
attribute [local go_sem] Y3 Y4 YN YO Ya Yb Y5 Y6
set_option linter.unusedVariables false
set_option linter.unusedSimpArgs false
theorem Xwg (x : S76) (w : World) : Calls Tryz.prog 62 #[PU x] w fun e w' => e = .returned (.bool true) ∧ Below w.heap.size w w' := XkR _ _ _ _ _ _ _ _ w
theorem Xrr (x : S76) (w : World) : Calls Tryz.prog 107 #[PU x] w fun e w' => e = .returned (.bool (x.f0 == 3)) ∧ Below w.heap.size w w' := by
 unfold PU
 go_enter Tryz.func107, Tryz.ntmps107
 go_wp2
 go_ret
 exact ⟨rfl, bl0 _⟩
end Go.Proofs.YtphnphmbfogmlaaGreat.Pr
namespace Go.Proofs.YtphnphmbfogmlaaGreat.T
open Go.RowKit Go.PW Go.Proofs.YtphnphmbfogmlaaGreat.Pr Go.Lib
set_option linter.unusedVariables false
set_option linter.unusedSimpArgs false
def MX (Hs : S76 → Bool) (l : List Rc) (a : Int) : List Int := ((Ux l a).filter (fun n => Hs (rc l (n - 1)))).map (UX l)
theorem Qu (l : List S76) (ok : YP l = true) : ∀ (n k : Nat) (x : Int) (acc : List Int), 0 ≤ x → x ≤ (n : Int) → n ≤ l.length → n < k → acc.length + n ≤ 150 → Ze.l0 k l acc x = some (acc ++ chainB l n x)
 | 0, k + 1, x, acc, h0, h1, _, _, _ => by
  rw [Ze.l0, if_pos (by omega)]
  simp [chainB]
 | n + 1, k + 1, x, acc, h0, h1, hn, hk, ha => by
  rw [Ze.l0, chainB]
  by_cases hx : 0 < x
  ·have hlen := ZK ok
   obtain ⟨j, rfl⟩ : ∃ j : Nat, x = (j : Int) + 1 := ⟨(x - 1).toNat, by omega⟩
   have e : (j : Int) + 1 - 1 = (j : Int) := by omega
   have b := DV ok j (by omega); rw [if_neg (by omega), if_pos hx, e, T.wrap_small (by omega) (by omega), if_pos (by omega), if_pos (by omega), if_pos (by omega), Qu l ok n k _ _ b.1 (by omega) (by omega) (by omega) zb99]
   simp
  ·rw [if_pos (by omega), if_neg hx]
   simp
theorem Tn {l : List Rc} (ok : YP l = true) : ∀ (n : Nat) (x : Int), 0 ≤ x → x ≤ (n : Int) → n ≤ l.length → ∀ y ∈ chainB l n x, 1 ≤ y ∧ y ≤ (l.length : Int)
 | 0, x, _, _, _, y, hy => by simp [chainB] at hy
 | n + 1, x, h0, h1, hn, y, hy => by
  rw [chainB] at hy
  by_cases hx : 0 < x
  ·rw [if_pos hx] at hy
   rcases List.mem_cons.mp hy with rfl | hy
   ·omega
   ·obtain ⟨j, rfl⟩ : ∃ j : Nat, x = (j : Int) + 1 := ⟨(x - 1).toNat, by omega⟩
    have e : (j : Int) + 1 - 1 = (j : Int) := by omega
    rw [e] at hy; have b := DV ok j (by omega); exact Tn ok n _ b.1 (by omega) (by omega) y hy
  ·rw [if_neg hx] at hy
   simp at hy
theorem KH (Hs : S76 → Bool) (l : List S76) (hl : l.length ≤ 150) (cl : List Int) (hcl : cl.length ≤ 150) (hm : ∀ y ∈ cl, 1 ≤ y ∧ y ≤ (l.length : Int)) : ∀ (d k i : Nat) (acc : List Int), i + d = cl.length → d < k → acc.length ≤ i → XG.l0 Hs k l acc cl (cl.length : Int) (i : Int) = some (acc ++ ((cl.drop i).filter (fun n => Hs (rc l (n - 1)))).map (UX l))
 | 0, k + 1, i, acc, hi, hk, ha => by
  rw [XG.l0, if_neg (by omega), List.drop_of_length_le (by omega)]
  simp
 | d + 1, k + 1, i, acc, hi, hk, ha => by
  have hlt : i < cl.length := by omega
  have e : cl[i] = rd cl (i : Int) := by simp [rd, List.getD_eq_getElem?_getD, List.getElem?_eq_getElem hlt]
  have hb := hm (rd cl (i : Int)) (by rw [← e]; exact List.getElem_mem hlt)
  obtain ⟨j, hj⟩ : ∃ j : Nat, rd cl (i : Int) = (j : Int) + 1 := ⟨(rd cl (i : Int) - 1).toNat, by omega⟩
  have e1 : (j : Int) + 1 - 1 = (j : Int) := by omega
  rw [XG.l0, if_pos (by omega), if_pos (by omega), if_pos (by omega), List.drop_eq_getElem_cons hlt, e, hj, e1, T.wrap_small (by omega) (by omega), if_pos (by omega), if_pos (by omega), Option.bind_some, T.wrap_small (by omega) (by omega), show (i : Int) + 1 = ((i + 1 : Nat) : Int) by omega, List.filter_cons, e1]
  cases hh : Hs (Xa l (j : Int)) with
  | true =>
   rw [if_pos rfl, if_pos (by omega), KH Hs l hl cl hcl hm d k (i + 1) _ (by omega) (by omega) zb99, if_pos rfl, List.map_cons]
   have e2 : UX l ((j : Int) + 1) = (Xa l (j : Int)).f2 := by unfold UX; rw [e1]
   rw [e2]
   simp
  | false =>
   rw [if_neg (by simp), KH Hs l hl cl hcl hm d k (i + 1) _ (by omega) (by omega) (by omega), if_neg (by simp)]
theorem Qs (Hs : S76 → Bool) (l : List S76) (ok : YP l = true) (a : Int) (k : Nat) (hk : 200 ≤ k) : XG.f Hs k l a = some (MX Hs l a) := by
 have hl := ZK ok
 have hc : Ze.f k l a = some (Ux l a) := by
  unfold Ze.f Jw.f Ux
  rw [Option.bind_some, Qu l ok l.length k _ _ (Uj _ _) (Dj _ _) (by omega) (by omega) (by simpa using hl)]
  simp
 have hlen : (Ux l a).length ≤ 150 := Nat.le_trans (WG _ _ _) hl
 unfold XG.f MX
 rw [hc, Option.bind_some]; have h := KH Hs l hl (Ux l a) hlen (fun y hy => Tn ok l.length _ (Uj _ _) (Dj _ _) (Nat.le_refl _) y hy) (Ux l a).length k 0 [] (by omega) (by omega) (by simp)
 simpa using h
theorem Mm (Hs : S76 → Bool) (l : List Rc) (a : Int) : (MX Hs l a).length ≤ l.length := by
 unfold MX
 rw [List.length_map]; exact Nat.le_trans (List.length_filter_le _ _) (WG _ _ _)
theorem Xju (l : List Int) (p : Int) (hl : l.length ≤ 9223372036854775807) : ∀ (d k i : Nat), i + d = l.length → d < k → ∃ r, XP.l0 k l p (l.length : Int) (i : Int) = some r ∧ decide (r ≥ 0) = (l.drop i).any (fun x => x == p)
 | 0, k + 1, i, hi, hk => ⟨-1, by rw [XP.l0, if_neg (by omega)], by rw [List.drop_of_length_le (by omega)]; rfl⟩
 | d + 1, k + 1, i, hi, hk => by
  have hlt : i < l.length := by omega
  have e : l[i] = rd l (i : Int) := by simp [rd, List.getD_eq_getElem?_getD, List.getElem?_eq_getElem hlt]
  rw [XP.l0, if_pos (by omega), if_pos (by omega), if_pos (by omega), List.drop_eq_getElem_cons hlt, e, List.any_cons]
  by_cases h : p = rd l (i : Int)
  ·rw [if_pos h]
   exact ⟨_, rfl, by simp [h]⟩
  ·rw [if_neg h, T.wrap_small (by omega) (by omega), show (i : Int) + 1 = ((i + 1 : Nat) : Int) by omega]
   obtain ⟨r, e1, e2⟩ := Xju l p hl d k (i + 1) (by omega) (by omega); exact ⟨r, e1, by rw [e2, beq_eq_false_iff_ne.mpr (fun q => h q.symm), Bool.false_or]⟩
theorem contains_k (l : List Int) (p : Int) (hl : l.length ≤ 9223372036854775807) (k : Nat) (hk : l.length < k) : Z9.f k l p = some (l.any (fun x => x == p)) := by
 obtain ⟨r, e1, e2⟩ := Xju l p hl l.length k 0 (by omega) hk
 unfold Z9.f XP.f
 have e1' : XP.l0 k l p (l.length : Int) 0 = some r := e1; rw [e1', Option.bind_some, e2, List.drop_zero]
theorem Qt (zs : List Int) (p : Int) : (MR zs).any (fun x => x == p) = zs.any (fun x => x == p) := by
 rw [Bool.eq_iff_iff, List.any_eq_true, List.any_eq_true]
 unfold MR
 constructor
 ·rintro ⟨x, hx, h⟩
  rw [Tp] at hx; exact ⟨x, List.mem_mergeSort.mp hx, h⟩
 ·rintro ⟨x, hx, h⟩
  exact ⟨x, by rw [Tp]; exact List.mem_mergeSort.mpr hx, h⟩
theorem Xrs (l : List Rc) (a p : Int) : (MX (fun _ => true) l a).any (fun x => x == p) = hasB l a p := by
 unfold MX hasB
 rw [List.filter_eq_self.mpr (fun _ _ => rfl)]
theorem XkP (l : List Rc) (a p : Int) : (MX (fun x => x.f0 == 3) l a).any (fun x => x == p) = loadT l a p := by
 unfold MX loadT UX
 rw [List.any_map, List.any_filter]
 rfl
def ZZ (l : List Rc) : Nat → Int → List Int
 | 0, _ => []
 | d + 1, t => if lastB l t = 0 then ZZ l d (t + 1) else t :: ZZ l d (t + 1)
theorem K9 (l : List S76) : ∀ (d k : Nat) (t : Int) (acc : List Int), t + (d : Int) = 4 → d < k → acc.length + d ≤ 10 → d ≤ 3 → Zf.l0 k l acc t = some (acc ++ ZZ l d t)
 | 0, k + 1, t, acc, h1, h2, h3, h4 => by
  rw [Zf.l0, if_neg (by omega)]
  simp [ZZ]
 | d + 1, k + 1, t, acc, h1, h2, h3, h4 => by
  rw [Zf.l0, if_pos (by omega), T.wrap_small (by omega) (by omega)]
  unfold Jw.f
  rw [Option.bind_some, ZZ]
  by_cases h : lastB l t = 0
  ·rw [if_pos h, if_pos h, K9 l d k (t + 1) acc (by omega) (by omega) (by omega) (by omega)]
  ·rw [if_neg h, if_neg h, if_pos (by omega), K9 l d k (t + 1) (acc ++ [t]) (by omega) (by omega) zb99 (by omega)]
   simp
end Go.Proofs.YtphnphmbfogmlaaGreat.T
