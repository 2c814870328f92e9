import Derived.Test.YtphnphmbfogmlaaGreatQFByq
import Derived.Test.YtphnphmbfogmlaaGreatQFEnK
namespace Go.Proofs.YtphnphmbfogmlaaGreat.T
open Go.RowKit Go.PW Go.Proofs.YtphnphmbfogmlaaGreat.Pr
set_option linter.unusedSimpArgs false
set_option linter.unusedVariables false
def dgt (n : Int) : ByteArray := ⟨#[UInt8.ofNat (48 + n.toNat)]⟩
theorem Sm (n : Int) (h0 : 0 ≤ n) (h1 : n < 10) : dgt n = ⟨#[UInt8.ofNat (48 + n.toNat)]⟩ := rfl
theorem BJ (n : Int) (h0 : 0 ≤ n) (h1 : n < 10) : (dgt n).size = 1 := by rw [Sm n h0 h1]; rfl
def W9 (b : Int) (l : List Int) : List UInt8 := (dgt b).data.toList ++ l.flatMap (fun x => 32 :: (dgt x).data.toList)
def Sn (a b : Int) (l : List Int) : ByteArray := if Zr a b l = true then ⟨(W9 b l).toArray⟩ else ⟨#[]⟩
theorem Tj {a b : Int} {l : List Int} (h : Zr a b l = true) : l.length = 3 ∧ 0 ≤ b ∧ b ≤ 3 ∧ ∀ k : Nat, k < l.length → 0 ≤ rd l k ∧ rd l k ≤ 9 := by
 rw [VW] at h; simp only [Bool.and_eq_true, beq_iff_eq, Bool.not_eq_true'] at h; obtain ⟨⟨⟨_, hb⟩, hl⟩, hv⟩ := h; have hb2 := Db.mp hb; refine ⟨hl, hb2.1, hb2.2, fun k hk => ?_⟩
 have hx : Dv b (rd l k) = false := by
  cases hq : Dv b (rd l k) with
  | false => rfl
  | true => rw [Xb3 hk hq] at hv; exact absurd hv (by simp)
 unfold Dv at hx
 simp only [Bool.or_eq_false_iff, Bool.not_eq_false'] at hx; exact Db.mp hx.1
theorem Xcx (b : Int) (l : List Int) (k : Nat) (h : k < l.length) : W9 b (l.take (k + 1)) = W9 b (l.take k) ++ (32 :: (dgt (rd l k)).data.toList) := by
 have e : l.take (k + 1) = l.take k ++ [rd l k] := by
  rw [List.take_add_one, List.getElem?_eq_getElem h]
  simp [rd, List.getD_eq_getElem?_getD, List.getElem?_eq_getElem h]
 unfold W9
 rw [e]
 simp
theorem XiC (b : Int) (l : List Int) (hb0 : 0 ≤ b) (hb : b ≤ 3) (hv : ∀ k : Nat, k < l.length → 0 ≤ rd l k ∧ rd l k ≤ 9) : ∀ k, k ≤ l.length → (W9 b (l.take k)).length = 1 + 2 * k
 | 0, _ => by
  have := BJ b hb0 (by omega); simp only [W9, List.take_zero, List.flatMap_nil, List.append_nil]
  exact this
 | k + 1, h => by
  have hx := hv k (by omega); have h2 := BJ (rd l k) hx.1 (by omega); have h3 : (dgt (rd l k)).data.toList.length = 1 := h2; rw [Xcx b l k (by omega), List.length_append, XiC b l hb0 hb hv k (by omega), List.length_cons, h3]; omega
theorem Xrg : (List.range 10).all (fun i => (strOfNums [((48 : Int) + (i : Int)) % 256]).data.toList == [UInt8.ofNat (48 + i)]) = true := by decide
theorem OZ (n : Int) (h0 : 0 ≤ n) (h1 : n < 10) (k : Nat) : YQ.f (k + 1) n = some (dgt n) := by
 rw [YQ.f, if_neg (by omega), if_neg (by omega), if_pos h1, T.wrap_small (by omega) (by omega), Sm n h0 h1]
 obtain ⟨i, rfl⟩ : ∃ i : Nat, n = i := ⟨n.toNat, by omega⟩
 have h := Xrg; rw [List.all_eq_true] at h; have h2 := h i zb99; rw [beq_iff_eq] at h2
 have h3 : strOfNums [((48 : Int) + (i : Int)) % 256] = ⟨#[UInt8.ofNat (48 + i)]⟩ := by
  generalize strOfNums [((48 : Int) + (i : Int)) % 256] = s at h2
  cases s with
  | mk d =>
   congr 1
   exact Array.toList_inj.mp h2
 rw [Int.toNat_natCast, h3]
theorem Xcy (a b : Int) (l : List Int) (hl : l.length ≤ 3) (hb0 : 0 ≤ b) (hb : b ≤ 3) (hv : ∀ k : Nat, k < l.length → 0 ≤ rd l k ∧ rd l k ≤ 9) : ∀ (d k i : Nat) (x : ByteArray), i + d = l.length → d + 1 < k → x.data.toList = W9 b (l.take i) → ∃ s, Yd.l0 k x (i : Int) a b l = some s ∧ s.data.toList = W9 b l
 | 0, k + 1, i, x, hi, hk, hx => by
  rw [Yd.l0, if_neg (by omega)]
  exact ⟨x, rfl, by rw [hx, List.take_of_length_le (by omega)]⟩
 | d + 1, k + 1, i, x, hi, hk, hx => by
  obtain ⟨k, rfl⟩ : ∃ m, k = m + 1 := ⟨k - 1, by omega⟩
  have h2 := hv i (by omega)
  have h3 : x.size = 1 + 2 * i := by
   have := XiC b l hb0 hb hv i (by omega); rw [← hx] at this; exact this
  have h4 := BJ (rd l i) h2.1 (by omega)
  have h5 : (x ++ (⟨#[32]⟩ : ByteArray)).size = x.size + 1 := by rw [ByteArray.size_append]; rfl
  rw [Yd.l0, if_pos (by omega), if_pos (by omega), if_pos (by omega), OZ _ h2.1 (by omega)]; simp only [Option.bind_some]; rw [if_pos (by omega), T.wrap_small (by omega) (by omega), show (i : Int) + 1 = ((i + 1 : Nat) : Int) by omega]; refine Xcy a b l hl hb0 hb hv d (k + 1) (i + 1) _ (by omega) (by omega) ?_; rw [Xcx b l i (by omega), ← hx]
  simp
theorem MM (a b : Int) (l : List Int) (hl : l.length ≤ 9223372036854775807) (k : Nat) (hk : l.length + 5 < k) : Yd.f k a b l = some (Sn a b l) := by
 unfold Yd.f Sn
 rw [Dh a b l hl k (by omega)]; simp only [Option.bind_some]
 cases ok : Zr a b l with
 | false => rfl
 | true =>
  obtain ⟨hl3, hb0, hb3, hv⟩ := Tj ok
  obtain ⟨k, rfl⟩ : ∃ m, k = m + 1 := ⟨k - 1, by omega⟩
  rw [if_pos rfl, if_pos rfl, OZ b hb0 (by omega)]; simp only [Option.bind_some]; obtain ⟨s, e1, e2⟩ := Xcy a b l (by omega) hb0 hb3 hv l.length (k + 1) 0 (dgt b) (by omega) (by omega) (by simp [W9]); have e1' : Yd.l0 (k + 1) (dgt b) 0 a b l = some s := e1; rw [e1']
  congr 1
  have : s.data = (W9 b l).toArray := by rw [← e2]
  cases s
  simp_all
theorem toList_mk (l : List UInt8) : (⟨l.toArray⟩ : ByteArray).toList = l := by simp
theorem MC {a b : Int} (ha : 0 ≤ a ∧ a ≤ 9) (hb : 0 ≤ b ∧ b ≤ 9) (h : UInt8.ofNat (48 + a.toNat) = UInt8.ofNat (48 + b.toNat)) : a = b := by
 have h2 := congrArg UInt8.toNat h; simp only [UInt8.toNat_ofNat'] at h2; omega
theorem txt3 (b x y z : Int) (hb : 0 ≤ b ∧ b ≤ 9) (hx : 0 ≤ x ∧ x ≤ 9) (hy : 0 ≤ y ∧ y ≤ 9) (hz : 0 ≤ z ∧ z ≤ 9) :
 W9 b [x, y, z] = [UInt8.ofNat (48 + b.toNat), 32, UInt8.ofNat (48 + x.toNat), 32, UInt8.ofNat (48 + y.toNat), 32, UInt8.ofNat (48 + z.toNat)] := by
 unfold W9
 rw [Sm b hb.1 (by omega)]; simp only [List.flatMap_cons, List.flatMap_nil]; rw [Sm x hx.1 (by omega), Sm y hy.1 (by omega), Sm z hz.1 (by omega)]
 rfl
theorem ok3 {a b : Int} {l : List Int} (h : Zr a b l = true) : ∃ x y z, l = [x, y, z] ∧ (0 ≤ b ∧ b ≤ 9) ∧ (0 ≤ x ∧ x ≤ 9) ∧ (0 ≤ y ∧ y ≤ 9) ∧ (0 ≤ z ∧ z ≤ 9) := by
 obtain ⟨hl, h0, h3, hv⟩ := Tj h
 match l, hl with
 | [x, y, z], _ =>
  refine ⟨x, y, z, rfl, ⟨h0, by omega⟩, ?_, ?_, ?_⟩
  ·exact hv 0 (by simp)
  ·exact hv 1 (by simp)
  ·exact hv 2 (by simp)
theorem Xrh {a b a' b' : Int} {l l' : List Int} (h : Zr a b l = true) (h' : Zr a' b' l' = true) (e : W9 b l = W9 b' l') : b = b' ∧ l = l' := by
 obtain ⟨x, y, z, rfl, hb, hx, hy, hz⟩ := ok3 h; obtain ⟨x', y', z', rfl, hb', hx', hy', hz'⟩ := ok3 h'; rw [txt3 b x y z hb hx hy hz, txt3 b' x' y' z' hb' hx' hy' hz'] at e; simp only [List.cons.injEq, true_and, and_true] at e; obtain ⟨e1, e2, e3, e4⟩ := e; exact ⟨MC hb hb' e1, by rw [MC hx hx' e2, MC hy hy' e3, MC hz hz' e4]⟩
theorem SV (a b : Int) (l : List Int) : (Sn a b l).toList = if Zr a b l = true then W9 b l else [] := by
 unfold Sn
 split
 ·exact toList_mk _
 ·exact toList_mk []
theorem BL {a b : Pg} (ha : PN a = true) (hb : PN b = true) (k : Nat) (hk : 20 ≤ k) : YG.f k a.f0 a.f1 a.f2 b.f0 b.f1 b.f2 = some (VC a b) := by
 have la := (BH ha).1; have lb := (BH hb).1; have ha' : Zr a.f0 a.f1 a.f2 = true := ha; have hb' : Zr b.f0 b.f1 b.f2 = true := hb
 unfold YG.f VC
 by_cases h : a.f0 = b.f0
 ·rw [if_pos h, MM _ _ _ (by omega) k (by omega), Option.bind_some, MM _ _ _ (by omega) k (by omega), Option.bind_some, SV, SV, if_pos ha', if_pos hb', beq_iff_eq.mpr h, Bool.true_and]
  congr 1
  rw [Bool.eq_iff_iff]; simp only [beq_iff_eq, Bool.and_eq_true]
  constructor
  ·intro e
   exact Xrh ha' hb' e
  ·rintro ⟨e1, e2⟩
   rw [e1, e2]
 ·rw [if_neg h, beq_eq_false_iff_ne.mpr h]
  rfl
theorem XiD (l : List S76) (ok : YP l = true) (p : Int) : ∀ (n k : Nat) (x : Int), 0 ≤ x → x ≤ (n : Int) → n ≤ l.length → n < k → Zy.l0 k l p x = some (((chainB l n x).map (UX l)).any (fun y => y == p))
 | 0, k + 1, x, h0, h1, _, _ => by
  rw [Zy.l0, if_neg (by omega)]
  simp [chainB]
 | n + 1, k + 1, x, h0, h1, hn, hk => by
  rw [Zy.l0, chainB]
  by_cases hx : 0 < x
  ·have hlen := ZK ok
   obtain ⟨j, rfl⟩ : ∃ j : Nat, x = (j : Int) + 1 := ⟨(x - 1).toNat, by omega⟩
   have e : (j : Int) + 1 - 1 = (j : Int) := by omega
   have b := DV ok j (by omega); rw [if_pos hx, if_pos hx, e, T.wrap_small (by omega) (by omega), if_pos (by omega), if_pos (by omega), XiD l ok p n k _ b.1 (by omega) (by omega) (by omega)]; rw [List.map_cons, List.any_cons]
   have e2 : UX l ((j : Int) + 1) = (Xa l (j : Int)).f2 := by unfold UX; rw [e]
   rw [e2]
   by_cases hp : (Xa l (j : Int)).f2 = p
   ·rw [if_pos hp]
    simp [hp]
   ·rw [if_neg hp]
    simp [hp]
  ·rw [if_neg hx, if_neg hx]
   simp
theorem Xm8 (l : List S76) (ok : YP l = true) (a p : Int) (hl : l.length ≤ 9223372036854775807) (k : Nat) (hk : l.length < k) : Zy.f k l a p = some (((Ux l a).map (UX l)).any (fun y => y == p)) := by
 unfold Zy.f
 rw [PQ l a hl k hk, Option.bind_some]; exact XiD l ok p l.length k _ (Uj _ _) (Dj _ _) (Nat.le_refl _) hk
theorem XtU {l : List Rc} (ok : YP l = true) (a p : Int) (k : Nat) (hk : 200 ≤ k) : Zy.f k l a p = some (hasB l a p) := by
 have hl := ZK ok; exact Xm8 l ok a p (by omega) k (by omega)
def ME (L : List Rc) (p : Int) : Nat → Nat
 | 0 => 0
 | n + 1 => ME L p n + (if hasB L ((n : Int) + 1) p = true then 1 else 0)
theorem Xcz (L : List Rc) (p tx : Int) (h : 1 ≤ tx) : ME L p ((tx + 1).toNat - 1) = ME L p (tx.toNat - 1) + (if hasB L tx p = true then 1 else 0) := by
 obtain ⟨j, rfl⟩ : ∃ j : Nat, tx = (j : Int) + 1 := ⟨(tx - 1).toNat, by omega⟩
 rw [show ((j : Int) + 1 + 1).toNat - 1 = j + 1 by omega, show ((j : Int) + 1).toNat - 1 = j by omega]
 rfl
theorem Xm9 (L : List Rc) (p : Int) : ME L p 3 = Mj L p := by
 unfold Mj ME ME ME ME
 simp
theorem XiE {L : List Rc} (ok : YP L = true) (p t : Int) (r : Bool) (K : Nat) (hr : ∀ k, K ≤ k → Xv.l0 k L p (wrap64 (t + 1)) = some r) : ∀ (n k : Nat) (x : Int), 0 ≤ x → x ≤ (n : Int) → n ≤ L.length → K + n + 1 ≤ k → Xv.l1 k L p t x = some ((chainB L n x).any (fun n => (rc L (n - 1)).f0 == 3 && (rc L (n - 1)).f2 == p) || r)
 | 0, k + 1, x, h0, h1, _, hk => by
  rw [Xv.l1, if_neg (by omega), hr k (by omega)]
  simp [chainB]
 | n + 1, k + 1, x, h0, h1, hn, hk => by
  rw [Xv.l1, chainB]
  by_cases hx : 0 < x
  ·have hlen := ZK ok
   obtain ⟨j, rfl⟩ : ∃ j : Nat, x = (j : Int) + 1 := ⟨(x - 1).toNat, by omega⟩
   have e : (j : Int) + 1 - 1 = (j : Int) := by omega
   have b := DV ok j (by omega); have ih := XiE ok p t r K hr n k _ b.1 (by omega) (by omega) (by omega); rw [if_pos hx, if_pos hx, e, T.wrap_small (by omega) (by omega), if_pos (by omega), if_pos (by omega), List.any_cons, e]
   by_cases h3 : (Xa L (j : Int)).f0 = 3
   ·rw [if_pos h3]
    by_cases hp : (Xa L (j : Int)).f2 = p
    ·rw [if_pos hp]
     simp [rc, h3, hp]
    ·have hpb : ((Xa L (j : Int)).f2 == p) = false := beq_eq_false_iff_ne.mpr hp
     rw [if_neg hp, ih]
     simp [rc, h3, hpb]
   ·have h3b : ((Xa L (j : Int)).f0 == 3) = false := beq_eq_false_iff_ne.mpr h3
    rw [if_neg h3, ih]
    simp [rc, h3b]
  ·rw [if_neg hx, if_neg hx, hr k (by omega)]
   simp
theorem Xb4 {L : List Rc} (ok : YP L = true) (p t : Int) (h1 : 1 ≤ t) (h3 : t ≤ 3) (r : Bool) (K : Nat) (hr : ∀ k, K ≤ k → Xv.l0 k L p (t + 1) = some r) (k : Nat) (hk : K + 170 ≤ k) : Xv.l0 k L p t = some (loadT L t p || r) := by
 have hl := ZK ok
 obtain ⟨k, rfl⟩ : ∃ m, k = m + 1 := ⟨k - 1, by omega⟩
 rw [Xv.l0, if_pos h3, PQ L t (by omega) k (by omega), Option.bind_some]; exact XiE ok p t r K (fun k hk => by rw [T.wrap_small (by omega) (by omega)]; exact hr k hk) L.length k _ (Uj _ _) (Dj _ _) (Nat.le_refl _) (by omega)
theorem Jb {L : List Rc} (ok : YP L = true) (p : Int) (k : Nat) (hk : 600 ≤ k) : Xv.f k L p = some (JL L p) := by
 unfold Xv.f JL
 refine Xb4 ok p 1 (by omega) (by omega) _ 360 (fun k hk => ?_) k (by omega); refine Xb4 ok p 2 (by omega) (by omega) _ 180 (fun k hk => ?_) k (by omega)
 have := Xb4 ok p 3 (by omega) (by omega) false 1 (fun k hk => by
  obtain ⟨k, rfl⟩ : ∃ m, k = m + 1 := ⟨k - 1, by omega⟩
  rw [Xv.l0, if_neg (by omega)]) k (by omega)
 rw [Bool.or_false] at this; exact this
theorem XiF (L : List Rc) (p : Int) (hl : L.length ≤ 9223372036854775807) : ∀ (i k : Nat), i ≤ L.length → i < k → YK.l0 k L p ((i : Int) - 1) = some (Vm (L.take i) p)
 | 0, k + 1, _, _ => by
  rw [YK.l0, if_neg (by omega)]
  rfl
 | i + 1, k + 1, hi, hk => by
  have e : ((i + 1 : Nat) : Int) - 1 = (i : Int) := by omega
  have ih := XiF L p hl i k (by omega) (by omega); rw [e, YK.l0, if_pos (by omega), if_pos (by omega), if_pos (by omega), Nw L i (by omega), T.wrap_small (by omega) (by omega), T.wrap_small (by omega) (by omega)]
  unfold MW
  by_cases h1 : (Xa L (i : Int)).f2 = p
  ·rw [if_pos h1, OY, Option.bind_some, beq_iff_eq.mpr h1, Bool.true_and]
   cases hc : PH (Xa L (i : Int)).f0 with
   | true => simp
   | false =>
    by_cases h3 : (Xa L (i : Int)).f0 = 3
    ·simp [h3]
    ·rw [if_neg (by simp), if_neg h3, ih]
     simp [h3]
  ·rw [if_neg h1, ih, beq_eq_false_iff_ne.mpr h1]
   simp
theorem Xri (L : List Rc) (p : Int) (hl : L.length ≤ 9223372036854775807) (k : Nat) (hk : L.length < k) : YK.f k L p = some (Vm L p) := by
 unfold YK.f
 rw [T.wrap_small (by omega) (by omega), XiF L p hl L.length k (Nat.le_refl _) hk, List.take_length]
theorem Ny {D M : List Pg} {L : List Rc} (hD : V3 D) (hM : V3 M) (ok : YP L = true) {p : Int} (oD : PN (pg D p) = true) (oM : PN (pg M p) = true) (h0 : 0 ≤ p) (h5 : p < 5) (s : Int) (d : Bool) (k : Nat) (hk : 200 ≤ k) : YJ.f k D M L s d p = some (De D M L p) := by
 have hl := ZK ok
 unfold YJ.f De
 rw [if_pos h0, if_pos (by rw [hM.len]; exact h5), Xri L p (by omega) k (by omega), Option.bind_some]
 by_cases h1 : (Xb M p).f0 = Vm L p
 ·rw [if_pos h1, if_pos (by rw [hD.len]; exact h5), show ((pg M p).f0 == Vm L p) = true from beq_iff_eq.mpr h1, Bool.true_and]
  by_cases h2 : (Xb M p).f0 > (Xb D p).f0
  ·rw [if_pos h2, show decide ((pg D p).f0 < (pg M p).f0) = true from decide_eq_true h2]
   rfl
  ·rw [if_neg h2, BL oM oD k (by omega), Option.bind_some, show decide ((pg D p).f0 < (pg M p).f0) = false from decide_eq_false h2]
   rfl
 ·rw [if_neg h1, show ((pg M p).f0 == Vm L p) = false from beq_eq_false_iff_ne.mpr h1]
  rfl
theorem XkJ {D M : List Pg} {L : List Rc} {s : Int} {d : Bool} {p : Int} (h1 : (pg D p).f0 ≤ s) (h2 : Mj L p ≤ 1) (h3 : d = true → VC (pg M p) (pg D p) = true) (h4 : d = false → JL L p = false → VC (pg M p) (pg (XE D L) p) = true) (h5 : d = false → JL L p = true → De D M L p = true ∧ ((pg M p).f1 == (pg (XE D L) p).f1) = true) : Vq D M L s d p = true := by
 unfold Vq
 rw [decide_eq_true h1, decide_eq_true h2, Bool.true_and, Bool.true_and]
 cases d with
 | true => rw [if_pos rfl]; exact h3 rfl
 | false =>
  rw [if_neg (by simp)]
  cases hl : JL L p with
  | true =>
   obtain ⟨a, b⟩ := h5 rfl hl; rw [if_pos rfl, a, b]
   rfl
  | false => rw [if_neg (by simp)]; exact h4 rfl hl
theorem XiA {D : List Pg} (h : V3 D) {L : List Rc} (g : Good L) (j : Nat) (hj : j < L.length) : V3 (D.set (rc L (j : Int)).f2.toNat (U4 D L ((j : Int) + 1))) := by
 have hp := (g j hj).page; refine h.set hp.1 hp.2 ?_
 unfold U4
 rw [show (j : Int) + 1 - 1 = (j : Int) by omega]; exact XiB _ _ _ _ (h.ok _ hp.1 hp.2)
theorem XmA {L : List Rc} (g : Good L) (hl : L.length ≤ 160) (t : Int) (ms : List Int) (K : Nat) (hr : ∀ (k : Nat) (X : List Pg), V3 X → K ≤ k → X5.l0 k X L (wrap64 (t + 1)) = some (MV L X ms)) : ∀ (n k : Nat) (a : Int) (X : List Pg), a ≤ (n : Int) → a ≤ (L.length : Int) → K + n + 420 ≤ k → V3 X → X5.l1 k X L t (Zx L L.length a) = some (MV L X (Vp L n a ++ ms))
 | 0, k + 1, a, X, h1, h2, hk, hX => by
  have hb := VB g L.length a (rc L (a - 1)).f1 h2 (fun _ => rfl); rw [X5.l1, if_neg (by omega), hr k X hX (by omega)]
  rfl
 | n + 1, k + 1, a, X, h1, h2, hk, hX => by
  rw [X5.l1, Vp]
  by_cases hb : 0 < Zx L L.length a
  ·have bp := Mh g h2 hb
   rw [if_pos hb, if_pos hb]; obtain ⟨j, hj⟩ := Nu hb; rw [hj] at bp ⊢; rw [show (j : Int) + 1 - 1 = (j : Int) by omega] at bp ⊢
   have hjl : j < L.length := by
    have := (VB g L.length a (rc L (a - 1)).f1 h2 (fun _ => rfl)).2.1; omega
   have hp := (g j hjl).page; have hs := (g j hjl).slot; simp only [rc] at bp hp hs; have h3 : (Xb X (Xa L (j : Int)).f2).f2.length = 3 := hX.ok _ hp.1 hp.2; have hV := XiA hX g j hjl
   have hset : Xb (X.set (Xa L (j : Int)).f2.toNat (U4 X L ((j : Int) + 1))) (Xa L (j : Int)).f2 = U4 X L ((j : Int) + 1) := by
    rw [PK X _ _ _ hp.1 (by rw [hX.len]; exact hp.2) hp.1, if_pos rfl]
   have hu : (⟨(doB (Xb X (Xa L (j : Int)).f2) (Xa L (j : Int)).f3 (Xa L (j : Int)).f4 (Xb X (Xa L (j : Int)).f2).f0).f0, (doB (Xb X (Xa L (j : Int)).f2) (Xa L (j : Int)).f3 (Xa L (j : Int)).f4 (Xb X (Xa L (j : Int)).f2).f0).f1, (doB (Xb X (Xa L (j : Int)).f2) (Xa L (j : Int)).f3 (Xa L (j : Int)).f4 (Xb X (Xa L (j : Int)).f2).f0).f2⟩ : S56) = U4 X L ((j : Int) + 1) := by
    unfold U4
    rw [show (j : Int) + 1 - 1 = (j : Int) by omega]
   have hu3 : (U4 X L ((j : Int) + 1)).f2.length = 3 := by rw [← hset]; exact hV.ok _ hp.1 hp.2
   rw [T.wrap_small (by omega) (by omega), if_pos (by omega), if_pos (by omega), if_pos hp.1, if_pos (by rw [hX.len]; exact hp.2), do_f _ _ _ _ _ _ _ _ _ _ h3 hs.2, Option.bind_some]; simp only []; rw [hu, hset, Dh _ _ _ (by omega) k (by omega), Option.bind_some, List.cons_append, MV, show (j : Int) + 1 - 1 = (j : Int) by omega]; have e2 : PN (U4 X L ((j : Int) + 1)) = Zr (U4 X L ((j : Int) + 1)).f0 (U4 X L ((j : Int) + 1)).f1 (U4 X L ((j : Int) + 1)).f2 := rfl; rw [e2]
   cases Zr (U4 X L ((j : Int) + 1)).f0 (U4 X L ((j : Int) + 1)).f1 (U4 X L ((j : Int) + 1)).f2 with
   | false =>
    rw [if_neg (by simp)]
    rfl
   | true =>
    rw [if_pos rfl, BF g hl k _ (by omega) (by omega), Option.bind_some, Bool.true_and]; exact XmA g hl t ms K hr n k _ _ (by omega) (by omega) (by omega) hV
  ·rw [if_neg hb, if_neg hb, hr k X hX (by omega)]
   rfl
theorem Xfm {L : List Rc} (g : Good L) (hl : L.length ≤ 160) (t : Int) (h1 : 1 ≤ t) (h3 : t ≤ 3) (ms : List Int) (K : Nat) (hr : ∀ (k : Nat) (X : List Pg), V3 X → K ≤ k → X5.l0 k X L (t + 1) = some (MV L X ms)) (k : Nat) (X : List Pg) (hX : V3 X) (hk : K + 600 ≤ k) : X5.l0 k X L t = some (MV L X (Vp L L.length (lastB L t) ++ ms)) := by
 obtain ⟨k, rfl⟩ : ∃ m, k = m + 1 := ⟨k - 1, by omega⟩
 have hn := Dj L t; rw [X5.l0, if_pos h3, Xm3 hl t k (by omega), Option.bind_some, BF g hl k _ hn (by omega), Option.bind_some]; exact XmA g hl t ms K (fun k X hX hk => by rw [T.wrap_small (by omega) (by omega)]; exact hr k X hX hk) L.length k _ X hn hn (by omega) hX
theorem Xb5 {X : List Pg} (hX : V3 X) {L : List Rc} (ok : YP L = true) (k : Nat) (hk : 2000 ≤ k) : X5.f k X L = some (MV L X (SQ L)) := by
 have hl := ZK ok; have g := JB ok
 unfold X5.f SQ
 refine Xfm g (by omega) 1 (by omega) (by omega) _ 1300 (fun k X hX hk => ?_) k X hX (by omega); refine Xfm g (by omega) 2 (by omega) (by omega) _ 650 (fun k X hX hk => ?_) k X hX (by omega)
 have := Xfm g (by omega) 3 (by omega) (by omega) [] 1 (fun k X hX hk => by
  obtain ⟨k, rfl⟩ : ∃ m, k = m + 1 := ⟨k - 1, by omega⟩
  rw [X5.l0, if_neg (by omega)]
  rfl) k X hX (by omega)
 rw [List.append_nil] at this; exact this
end Go.Proofs.YtphnphmbfogmlaaGreat.T
