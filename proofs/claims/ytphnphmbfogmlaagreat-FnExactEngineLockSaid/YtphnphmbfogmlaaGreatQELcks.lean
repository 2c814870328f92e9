import Derived.Test.YtphnphmbfogmlaaGreatQEByq
import Derived.Test.YtphnphmbfogmlaaGreatQEEnK2
import Derived.Test.YtphnphmbfogmlaaGreatQEPagesOfH
import Derived.Test.YtphnphmbfogmlaaGreatQEPrSame
import Derived.Test.YtphnphmbfogmlaaGreatQEPrUndo
namespace Go.Proofs.YtphnphmbfogmlaaGreat.Pr
open Go.RowKit Go.PW Go.PL Go.PM Go.Proofs.YtphnphmbfogmlaaGreat.T Go.Sort
attribute [local go_sem] YO YP Zm Zn Yv Yw YQ YS
set_option linter.unusedVariables false
set_option linter.unusedSimpArgs false
theorem X1h (x : S76) (w : World) : Calls Tryz.prog 62 #[RZ x] w fun e w' => e = .returned (.bool true) ∧ Below w.heap.size w w' := XoW _ _ _ _ _ _ _ _ w
theorem Xv7 (x : S76) (w : World) : Calls Tryz.prog 107 #[RZ x] w fun e w' => e = .returned (.bool (x.f0 == 3)) ∧ Below w.heap.size w w' := by
 unfold RZ
 go_enter Tryz.func107, Tryz.ntmps107
 go_wp2
 go_ret
 exact ⟨rfl, bl0 _⟩
end Go.Proofs.YtphnphmbfogmlaaGreat.Pr
namespace Go.Proofs.YtphnphmbfogmlaaGreat.T
open Go.RowKit Go.PW Go.Proofs.YtphnphmbfogmlaaGreat.Pr Go.Lib
set_option linter.unusedVariables false
set_option linter.unusedSimpArgs false
def WJ (Hs : S76 → Bool) (l : List Rc) (a : Int) : List Int := ((MO l a).filter (fun n => Hs (rc l (n - 1)))).map (NK l)
theorem Xce (l : List S76) (ok : Za l = true) : ∀ (n k : Nat) (x : Int) (acc : List Int), 0 ≤ x → x ≤ (n : Int) → n ≤ l.length → n < k → acc.length + n ≤ 150 → Zv.l0 k l acc x = some (acc ++ chainB l n x)
 | 0, k + 1, x, acc, h0, h1, _, _, _ => by
  rw [Zv.l0, if_pos (by omega)]
  simp [chainB]
 | n + 1, k + 1, x, acc, h0, h1, hn, hk, ha => by
  rw [Zv.l0, chainB]
  by_cases hx : 0 < x
  ·have hlen := ZY ok
   obtain ⟨j, rfl⟩ : ∃ j : Nat, x = (j : Int) + 1 := ⟨(x - 1).toNat, by omega⟩
   have e : (j : Int) + 1 - 1 = (j : Int) := by omega
   have b := Gb ok j (by omega); rw [if_neg (by omega), if_pos hx, e, T.wrap_small (by omega) (by omega), if_pos (by omega), if_pos (by omega), if_pos (by omega), Xce l ok n k _ _ b.1 (by omega) (by omega) (by omega) zb133]
   simp
  ·rw [if_pos (by omega), if_neg hx]
   simp
theorem Ew {l : List Rc} (ok : Za l = true) : ∀ (n : Nat) (x : Int), 0 ≤ x → x ≤ (n : Int) → n ≤ l.length → ∀ y ∈ chainB l n x, 1 ≤ y ∧ y ≤ (l.length : Int)
 | 0, x, _, _, _, y, hy => by simp [chainB] at hy
 | n + 1, x, h0, h1, hn, y, hy => by
  rw [chainB] at hy
  by_cases hx : 0 < x
  ·rw [if_pos hx] at hy
   rcases List.mem_cons.mp hy with rfl | hy
   ·omega
   ·obtain ⟨j, rfl⟩ : ∃ j : Nat, x = (j : Int) + 1 := ⟨(x - 1).toNat, by omega⟩
    have e : (j : Int) + 1 - 1 = (j : Int) := by omega
    rw [e] at hy; have b := Gb ok j (by omega); exact Ew ok n _ b.1 (by omega) (by omega) y hy
  ·rw [if_neg hx] at hy
   simp at hy
theorem CR (Hs : S76 → Bool) (l : List S76) (hl : l.length ≤ 150) (cl : List Int) (hcl : cl.length ≤ 150) (hm : ∀ y ∈ cl, 1 ≤ y ∧ y ≤ (l.length : Int)) : ∀ (d k i : Nat) (acc : List Int), i + d = cl.length → d < k → acc.length ≤ i → XR.l0 Hs k l acc cl (cl.length : Int) (i : Int) = some (acc ++ ((cl.drop i).filter (fun n => Hs (rc l (n - 1)))).map (NK l))
 | 0, k + 1, i, acc, hi, hk, ha => by
  rw [XR.l0, if_neg (by omega), List.drop_of_length_le (by omega)]
  simp
 | d + 1, k + 1, i, acc, hi, hk, ha => by
  have hlt : i < cl.length := by omega
  have e : cl[i] = rd cl (i : Int) := by simp [rd, List.getD_eq_getElem?_getD, List.getElem?_eq_getElem hlt]
  have hb := hm (rd cl (i : Int)) (by rw [← e]; exact List.getElem_mem hlt)
  obtain ⟨j, hj⟩ : ∃ j : Nat, rd cl (i : Int) = (j : Int) + 1 := ⟨(rd cl (i : Int) - 1).toNat, by omega⟩
  have e1 : (j : Int) + 1 - 1 = (j : Int) := by omega
  rw [XR.l0, if_pos (by omega), if_pos (by omega), if_pos (by omega), List.drop_eq_getElem_cons hlt, e, hj, e1, T.wrap_small (by omega) (by omega), if_pos (by omega), if_pos (by omega), Option.bind_some, T.wrap_small (by omega) (by omega), show (i : Int) + 1 = ((i + 1 : Nat) : Int) by omega, List.filter_cons, e1]
  cases hh : Hs (Xa l (j : Int)) with
  | true =>
   rw [if_pos rfl, if_pos (by omega), CR Hs l hl cl hcl hm d k (i + 1) _ (by omega) (by omega) zb133, if_pos rfl, List.map_cons]
   have e2 : NK l ((j : Int) + 1) = (Xa l (j : Int)).f2 := by unfold NK; rw [e1]
   rw [e2]
   simp
  | false =>
   rw [if_neg (by simp), CR Hs l hl cl hcl hm d k (i + 1) _ (by omega) (by omega) (by omega), if_neg (by simp)]
theorem Xcc (Hs : S76 → Bool) (l : List S76) (ok : Za l = true) (a : Int) (k : Nat) (hk : 200 ≤ k) : XR.f Hs k l a = some (WJ Hs l a) := by
 have hl := ZY ok
 have hc : Zv.f k l a = some (MO l a) := by
  unfold Zv.f JE.f MO
  rw [Option.bind_some, Xce l ok l.length k _ _ (MB _ _) (Ff _ _) (by omega) (by omega) (by simpa using hl)]
  simp
 have hlen : (MO l a).length ≤ 150 := Nat.le_trans (Ta _ _ _) hl
 unfold XR.f WJ
 rw [hc, Option.bind_some]; have h := CR Hs l hl (MO l a) hlen (fun y hy => Ew ok l.length _ (MB _ _) (Ff _ _) (Nat.le_refl _) y hy) (MO l a).length k 0 [] (by omega) (by omega) (by simp)
 simpa using h
theorem Sr (Hs : S76 → Bool) (l : List Rc) (a : Int) : (WJ Hs l a).length ≤ l.length := by
 unfold WJ
 rw [List.length_map]; exact Nat.le_trans (List.length_filter_le _ _) (Ta _ _ _)
theorem Xng (l : List Int) (p : Int) (hl : l.length ≤ 9223372036854775807) : ∀ (d k i : Nat), i + d = l.length → d < k → ∃ r, Yb.l0 k l p (l.length : Int) (i : Int) = some r ∧ decide (r ≥ 0) = (l.drop i).any (fun x => x == p)
 | 0, k + 1, i, hi, hk => ⟨-1, by rw [Yb.l0, if_neg (by omega)], by rw [List.drop_of_length_le (by omega)]; rfl⟩
 | d + 1, k + 1, i, hi, hk => by
  have hlt : i < l.length := by omega
  have e : l[i] = rd l (i : Int) := by simp [rd, List.getD_eq_getElem?_getD, List.getElem?_eq_getElem hlt]
  rw [Yb.l0, if_pos (by omega), if_pos (by omega), if_pos (by omega), List.drop_eq_getElem_cons hlt, e, List.any_cons]
  by_cases h : p = rd l (i : Int)
  ·rw [if_pos h]
   exact ⟨_, rfl, by simp [h]⟩
  ·rw [if_neg h, T.wrap_small (by omega) (by omega), show (i : Int) + 1 = ((i + 1 : Nat) : Int) by omega]
   obtain ⟨r, e1, e2⟩ := Xng l p hl d k (i + 1) (by omega) (by omega); exact ⟨r, e1, by rw [e2, beq_eq_false_iff_ne.mpr (fun q => h q.symm), Bool.false_or]⟩
theorem contains_k (l : List Int) (p : Int) (hl : l.length ≤ 9223372036854775807) (k : Nat) (hk : l.length < k) : ZQ.f k l p = some (l.any (fun x => x == p)) := by
 obtain ⟨r, e1, e2⟩ := Xng l p hl l.length k 0 (by omega) hk
 unfold ZQ.f Yb.f
 have e1' : Yb.l0 k l p (l.length : Int) 0 = some r := e1; rw [e1', Option.bind_some, e2, List.drop_zero]
theorem Xcd (zs : List Int) (p : Int) : (Wx zs).any (fun x => x == p) = zs.any (fun x => x == p) := by
 rw [Bool.eq_iff_iff, List.any_eq_true, List.any_eq_true]
 unfold Wx
 constructor
 ·rintro ⟨x, hx, h⟩
  rw [Ex] at hx; exact ⟨x, List.mem_mergeSort.mp hx, h⟩
 ·rintro ⟨x, hx, h⟩
  exact ⟨x, by rw [Ex]; exact List.mem_mergeSort.mpr hx, h⟩
theorem Xv8 (l : List Rc) (a p : Int) : (WJ (fun _ => true) l a).any (fun x => x == p) = hasB l a p := by
 unfold WJ hasB
 rw [List.filter_eq_self.mpr (fun _ _ => rfl)]
theorem XoU (l : List Rc) (a p : Int) : (WJ (fun x => x.f0 == 3) l a).any (fun x => x == p) = loadT l a p := by
 unfold WJ loadT NK
 rw [List.any_map, List.any_filter]
 rfl
def Jm (l : List Rc) : Nat → Int → List Int
 | 0, _ => []
 | d + 1, t => if lastB l t = 0 then Jm l d (t + 1) else t :: Jm l d (t + 1)
theorem CF (l : List S76) : ∀ (d k : Nat) (t : Int) (acc : List Int), t + (d : Int) = 4 → d < k → acc.length + d ≤ 10 → d ≤ 3 → Zw.l0 k l acc t = some (acc ++ Jm l d t)
 | 0, k + 1, t, acc, h1, h2, h3, h4 => by
  rw [Zw.l0, if_neg (by omega)]
  simp [Jm]
 | d + 1, k + 1, t, acc, h1, h2, h3, h4 => by
  rw [Zw.l0, if_pos (by omega), T.wrap_small (by omega) (by omega)]
  unfold JE.f
  rw [Option.bind_some, Jm]
  by_cases h : lastB l t = 0
  ·rw [if_pos h, if_pos h, CF l d k (t + 1) acc (by omega) (by omega) (by omega) (by omega)]
  ·rw [if_neg h, if_neg h, if_pos (by omega), CF l d k (t + 1) (acc ++ [t]) (by omega) (by omega) zb133 (by omega)]
   simp
end Go.Proofs.YtphnphmbfogmlaaGreat.T
