import Derived.Test.YtphnphmbfogmlaaGreatQFByq
import Derived.Test.YtphnphmbfogmlaaGreatQFPrLC2
import Derived.Test.YtphnphmbfogmlaaGreatQFEngP
import Derived.Test.YtphnphmbfogmlaaGreatQFL11R
import Derived.Test.YtphnphmbfogmlaaGreatQFLckW
import Derived.Test.YtphnphmbfogmlaaGreatQFPrRedoI
import Derived.Test.YtphnphmbfogmlaaGreatQFEokI
import Derived.Test.YtphnphmbfogmlaaGreatQFEokS
import Derived.Test.YtphnphmbfogmlaaGreatQFPrXE
set_option linter.unusedVariables false
set_option linter.unusedSimpArgs false
namespace Go.Proofs.YtphnphmbfogmlaaGreat.T
open Go.RowKit Go.PW Go.Proofs.YtphnphmbfogmlaaGreat.Pr
theorem XmC (a b : Int) (l : List Int) (hl : l.length ≤ 1048576) (k : Nat) (hk : l.length < k) : Dw.f k a b l = some (a, b, l) := by
 have h := KA (Yk.mono l) (XmD l (by omega)) (k - (l.length + 1)); rw [show l.length + 1 + (k - (l.length + 1)) = k by omega] at h
 unfold Dw.f
 rw [h]
 rfl
theorem XmE (a b : Int) (l : List Int) (hl : l.length ≤ 1048576) (k : Nat) (hk : l.length < k) : VX.f k a b l a b l = some true := by
 have h := KA (XK.mono l l) (by simpa using Xc1 l l (by omega)) (k - (l.length + 1)); rw [show l.length + 1 + (k - (l.length + 1)) = k by omega] at h
 unfold VX.f
 rw [h]
 simp
def cp (x : S73) : S56 := ⟨x.f0, x.f1, x.f2⟩
theorem Xc2 {l : List S73} {i : Nat} (h : i < l.length) : Zh l (i : Int) ∈ l := by
 have e : Zh l (i : Int) = l[i] := by simp [Zh, List.getD_eq_getElem?_getD, List.getElem?_eq_getElem h]
 rw [e]; exact List.getElem_mem h
theorem XmF {l : List S56} {i : Nat} (h : i < l.length) : Xb l (i : Int) ∈ l := by
 have e : Xb l (i : Int) = l[i] := by simp [Xb, List.getD_eq_getElem?_getD, List.getElem?_eq_getElem h]
 rw [e]; exact List.getElem_mem h
theorem Ia (l : List S73) (hl : l.length ≤ 9223372036854775807) (hv : ∀ p ∈ l, p.f2.length ≤ 9223372036854775807) : ∀ (d k i : Nat) (a : Int), i + d = l.length → d < k → 0 ≤ a → a ≤ 1048576 → ∃ r, Yq.l0 k l a (i : Int) = some r ∧ (r < 0 ∨ (0 ≤ r ∧ r ≤ a ∧ ∀ j : Nat, i ≤ j → j < l.length → (Zh l (j : Int)).f2.length ≤ 1048576))
 | 0, k + 1, i, a, hi, _, h0, h1 => ⟨a, by rw [Yq.l0, if_neg (by omega)], Or.inr ⟨h0, Int.le_refl _, fun j h1 h2 => by omega⟩⟩
 | d + 1, k + 1, i, a, hi, hk, h0, h1 => by
  have hlt : i < l.length := by omega
  have hq := hv _ (Xc2 hlt)
  have hw : wrap64 ((i : Int) + 1) = ((i + 1 : Nat) : Int) := by
   rw [T.wrap_small (by omega) (by omega)]; omega
  rw [Yq.l0, if_pos (by omega), if_pos (by omega)]
  unfold Dx.f
  rw [XmG _ a (by omega) (by omega) hq]
  unfold szB
  by_cases hn : a - ((Zh l (i : Int)).f2.length : Int) < 0
  ·rw [if_pos hn, Option.bind_some, if_pos (by omega), Option.bind_some, if_pos (by omega)]
   exact ⟨-1, rfl, Or.inl (by omega)⟩
  ·rw [if_neg hn, Option.bind_some, if_neg hn, Option.bind_some, if_neg hn, hw]
   obtain ⟨r, hr, h⟩ := Ia l hl hv d k (i + 1) (a - ((Zh l (i : Int)).f2.length : Int)) (by omega) (by omega) (by omega) (by omega); refine ⟨r, hr, ?_⟩
   rcases h with h | ⟨h2, h3, h4⟩
   ·exact Or.inl h
   ·exact Or.inr ⟨h2, by omega, fun j h5 h6 => by
     by_cases e : j = i
     ·subst e
      omega
     ·exact h4 j (by omega) h6⟩
theorem Ib (l : List S73) (hl : l.length ≤ 9223372036854775807) (hv : ∀ p ∈ l, p.f2.length ≤ 9223372036854775807) (a : Int) (h0 : 0 ≤ a) (h1 : a ≤ 1048576) (k : Nat) (hk : l.length < k) : ∃ r, Yq.f k l a = some r ∧ (r < 0 ∨ (0 ≤ r ∧ r ≤ 1048576 ∧ l.length ≤ 1048576 ∧ ∀ p ∈ l, p.f2.length ≤ 1048576)) := by
 unfold Yq.f
 have hw : wrap64 (a - (l.length : Int)) = a - (l.length : Int) := T.wrap_small (by omega) (by omega); rw [hw]
 by_cases hn : a - (l.length : Int) < 0
 ·rw [if_pos hn]
  exact ⟨-1, rfl, Or.inl (by omega)⟩
 ·rw [if_neg hn]
  obtain ⟨r, hr, h⟩ := Ia l hl hv l.length k 0 (a - (l.length : Int)) (by omega) hk (by omega) (by omega); refine ⟨r, hr, ?_⟩
  rcases h with h | ⟨h2, h3, h4⟩
  ·exact Or.inl h
  ·refine Or.inr ⟨h2, by omega, by omega, fun p hp => ?_⟩
   obtain ⟨j, hj, rfl⟩ := List.getElem_of_mem hp; have := h4 j (by omega) hj; rw [show Zh l (j : Int) = l[j] from by simp [Zh, List.getD_eq_getElem?_getD, List.getElem?_eq_getElem hj]] at this; exact this
theorem Ic (l : List S73) (m : Nat) (hm : m ≤ 1048576) (hl : l.length ≤ 1048576) (hv : ∀ p ∈ l, p.f2.length ≤ m) : ∀ (d i k : Nat), i + d = l.length → d + m < k → Y1.l0 k l ((l.take i).map cp ++ List.replicate d z56) i = some (l.map cp)
 | 0, i, k + 1, hi, _ => by
  rw [Y1.l0, if_neg (by omega), List.take_of_length_le (by omega)]
  simp
 | d + 1, i, k + 1, hi, hk => by
  have hlt : i < l.length := by omega
  have hq := hv _ (Xc2 hlt); rw [Y1.l0, if_pos (by omega), if_pos (by omega), XmC _ _ _ (Nat.le_trans hq hm) k (by omega)]; simp only [Option.bind_some]; rw [if_pos zb99, T.wrap_small (by omega) (by omega)]
  have e : ((l.take i).map cp ++ List.replicate (d + 1) z56).set ((i : Int)).toNat (cp (Zh l i)) = (l.take (i + 1)).map cp ++ List.replicate d z56 := by
   rw [Int.toNat_natCast, List.set_append_right _ _ zb99, List.length_map, List.length_take, Nat.min_eq_left (by omega), Nat.sub_self, List.replicate_succ, List.set_cons_zero]
   have e1 : l.take (i + 1) = l.take i ++ [Zh l i] := by
    rw [List.take_add_one, List.getElem?_eq_getElem hlt]
    simp [Zh, List.getD_eq_getElem?_getD, List.getElem?_eq_getElem hlt]
   rw [e1, List.map_append]
   simp
  have e2 : (i : Int) + 1 = ((i + 1 : Nat) : Int) := by omega
  rw [e2]; refine (congrArg (fun z => Y1.l0 k l z ((i + 1 : Nat) : Int)) ?_).trans (Ic l m hm hl hv d (i + 1) k (by omega) (by omega)); exact e
theorem Sq (l : List S73) (hl : l.length ≤ 1048576) (hv : ∀ p ∈ l, p.f2.length ≤ 1048576) (k : Nat) (hk : 2097152 < k) : Y1.f k l = some (l.map cp) := by
 unfold Y1.f
 rw [if_pos (by omega), if_pos (by omega), Int.toNat_natCast]; have h := Ic l 1048576 (Nat.le_refl _) hl hv l.length 0 k (by omega) (by omega)
 simpa using h
theorem Ie (l : List S56) (m : Nat) (hm : m ≤ 1048576) (hl : l.length ≤ 1048576) (hv : ∀ p ∈ l, p.f2.length ≤ m) : ∀ (d i k : Nat), i + d = l.length → d + m < k → Xw.l0 k l l i = some true
 | 0, i, k + 1, hi, _ => by
  rw [Xw.l0, if_neg (by omega)]
 | d + 1, i, k + 1, hi, hk => by
  have hlt : i < l.length := by omega
  have hq := hv _ (XmF hlt); rw [Xw.l0, if_pos (by omega), if_pos (by omega), if_pos (by omega), XmE _ _ _ (Nat.le_trans hq hm) k (by omega), Option.bind_some, if_pos rfl, T.wrap_small (by omega) (by omega), show (i : Int) + 1 = ((i + 1 : Nat) : Int) by omega]; exact Ie l m hm hl hv d (i + 1) k (by omega) (by omega)
theorem KC (l : List S56) (hl : l.length ≤ 1048576) (hv : ∀ p ∈ l, p.f2.length ≤ 1048576) (k : Nat) (hk : 2097152 < k) : Xw.f k l l = some true := by
 unfold Xw.f
 rw [if_pos rfl]; exact Ie l 1048576 (Nat.le_refl _) hl hv l.length 0 k (by omega) (by omega)
theorem N9 {l : List S73} (hv : ∀ p ∈ l, p.f2.length ≤ 1048576) : ∀ p ∈ l.map cp, p.f2.length ≤ 1048576 := by
 intro p hp; obtain ⟨q, hq, rfl⟩ := List.mem_map.mp hp; exact hv q hq
structure Fit (D M : List S73) (L : List S78) : Prop where
 d : D.length ≤ 1048576
 dv : ∀ p ∈ D, p.f2.length ≤ 1048576
 m : M.length ≤ 1048576
 mv : ∀ p ∈ M, p.f2.length ≤ 1048576
 l : L.length ≤ 1048576
theorem BN (D M : List S73) (L : List S78) (s : Int) (d : Bool) (hD : D.length ≤ 9223372036854775807) (hDv : ∀ p ∈ D, p.f2.length ≤ 9223372036854775807) (hM : M.length ≤ 9223372036854775807) (hMv : ∀ p ∈ M, p.f2.length ≤ 9223372036854775807) (hL : L.length ≤ 9223372036854775807) (k : Nat) (hk : D.length + M.length < k) : ∃ r, ZG.f k D M L s d 1048576 = some r ∧ (r < 0 ∨ (0 ≤ r ∧ Fit D M L)) := by
 unfold ZG.f
 obtain ⟨r1, e1, h1⟩ := Ib D hD hDv 1048576 (by omega) (by omega) k (by omega); rw [e1, Option.bind_some]
 rcases h1 with h1 | ⟨h1, h2, h3, h4⟩
 ·rw [if_pos h1]
  exact ⟨-1, rfl, Or.inl (by omega)⟩
 rw [if_neg (by omega)]; obtain ⟨r2, e2, g1⟩ := Ib M hM hMv r1 h1 h2 k (by omega); rw [e2, Option.bind_some]
 rcases g1 with g1 | ⟨g1, g2, g3, g4⟩
 ·rw [if_pos g1]
  exact ⟨-1, rfl, Or.inl (by omega)⟩
 rw [if_neg (by omega)]
 have hs : JE.f L r2 = some (if r2 - (L.length : Int) < 0 then (-1 : Int) else r2 - (L.length : Int)) := by
  unfold JE.f
  rw [T.wrap_small (by omega) (by omega)]
  split <;> rfl
 rw [hs, Option.bind_some]
 by_cases hn : r2 - (L.length : Int) < 0
 ·rw [if_pos hn, if_pos (by omega)]
  exact ⟨-1, rfl, Or.inl (by omega)⟩
 ·rw [if_neg hn, if_neg hn]
  exact ⟨_, rfl, Or.inr ⟨by omega, ⟨h3, h4, g3, g4, by omega⟩⟩⟩
theorem BO {D M : List S73} {L : List S78} (h : Fit D M L) (s : Int) (d : Bool) (k : Nat) (hk : 2097152 < k) : JF.f k (D.map cp) (M.map cp) (L.map cv) s d (D.map cp) (M.map cp) (L.map cv) s d = some true := by
 have := h.l; have hD := h.d; have hM := h.m
 unfold JF.f
 rw [KC (D.map cp) (by simpa using hD) (N9 h.dv) k hk, Option.bind_some, if_pos rfl, KC (M.map cp) (by simpa using hM) (N9 h.mv) k hk, Option.bind_some, if_pos rfl, XmH (L.map cv) zb99 k zb99, Option.bind_some, if_pos rfl, if_pos rfl, if_neg (by simp)]
end Go.Proofs.YtphnphmbfogmlaaGreat.T
namespace Go.Proofs.YtphnphmbfogmlaaGreat.Pr
open Go.RowKit Go.PW Go.PL Go.PM Go.Proofs.YtphnphmbfogmlaaGreat.T
def Xi.f (k : Nat) (Yc : List (S56)) (XM : List (S56)) (Xm : List (S76)) (Yu : Int) (Yt : Bool) : Option (Bool) :=
 (Yj.f k Yc).bind fun x => (Yj.f k XM).bind fun y => (Xt.f k Xm).bind fun z =>
  if x = Ji Yc ∧ y = Ji XM ∧ z = YP Xm then some (Jm Yc XM Xm Yu Yt) else none
def X3.f (k : Nat) (Yc : List (S56)) (XM : List (S56)) (Xm : List (S76)) (Yu : Int) (Yt : Bool) : Option (Bool) := some (Jm Yc XM Xm Yu Yt)
theorem Xi.calls (k : Nat) (Je : Option Addr) (Ja : Nat) (Yc : List (S56)) (J9 : Option Addr) (Jy : Nat) (XM : List (S56)) (Yg : Option Addr) (Yh : Nat) (Xm : List (S76)) (Yu : Int) (Yt : Bool) (r : Bool) (w : World) (hr0_0 : Kd.C k56 w Je Yc.length Yc) (hc0_0 : Yc.length ≤ Ja) (hr0_1 : Kd.C k56 w J9 XM.length XM) (hc0_1 : XM.length ≤ Jy) (hr0_2 : Kd.C k76 w Yg Xm.length Xm) (hc0_2 : Xm.length ≤ Yh) (h : Xi.f k Yc XM Xm Yu Yt = some r) :
 Calls Tryz.prog 26 #[.agg #[.slice Je Yc.length Ja, .slice J9 XM.length Jy, .slice Yg Xm.length Yh, .int .i64 Yu, .bool Yt]] w fun e w' => e = .returned (.bool r) ∧ Below w.heap.size w w' := by
 unfold Xi.f at h
 replace h := Option.bind_eq_some_iff.mp h; obtain ⟨x, hx, h⟩ := h; replace h := Option.bind_eq_some_iff.mp h; obtain ⟨y, hy, h⟩ := h; replace h := Option.bind_eq_some_iff.mp h; obtain ⟨z, hz, h⟩ := h
 by_cases hc : x = Ji Yc ∧ y = Ji XM ∧ z = YP Xm
 ·rw [if_pos hc] at h
  obtain ⟨rfl, rfl, rfl⟩ := hc; have e := Option.some.inj h; rw [← e]; exact Xi.to Je Ja Yc J9 Jy XM Yg Yh Xm Yu Yt w hr0_0 hc0_0 hr0_1 hc0_1 hr0_2 hc0_2 ⟨k, hx⟩ ⟨k, hy⟩ ⟨k, hz⟩
 ·rw [if_neg hc] at h
  exact absurd h (by simp)
theorem X3.calls (k : Nat) (Je : Option Addr) (Ja : Nat) (Yc : List (S56)) (J9 : Option Addr) (Jy : Nat) (XM : List (S56)) (Yg : Option Addr) (Yh : Nat) (Xm : List (S76)) (Yu : Int) (Yt : Bool) (r : Bool) (w : World) (hr0_0 : Kd.C k56 w Je Yc.length Yc) (hc0_0 : Yc.length ≤ Ja) (hr0_1 : Kd.C k56 w J9 XM.length XM) (hc0_1 : XM.length ≤ Jy) (hr0_2 : Kd.C k76 w Yg Xm.length Xm) (hc0_2 : Xm.length ≤ Yh) (h : X3.f k Yc XM Xm Yu Yt = some r) :
 Calls Tryz.prog 27 #[.agg #[.slice Je Yc.length Ja, .slice J9 XM.length Jy, .slice Yg Xm.length Yh, .int .i64 Yu, .bool Yt]] w fun e w' => e = .returned (.bool r) ∧ Below w.heap.size w w' := by
 have e := Option.some.inj h; rw [← e]; exact X3.to Je Ja Yc J9 Jy XM Yg Yh Xm Yu Yt w hr0_0 hc0_0 hr0_1 hc0_1 hr0_2 hc0_2
end Go.Proofs.YtphnphmbfogmlaaGreat.Pr
namespace Go.Proofs.YtphnphmbfogmlaaGreat.T
open Go.RowKit Go.PW Go.PL Go.PM Go.Proofs.YtphnphmbfogmlaaGreat.Pr
theorem Ig {D : List Pg} {m : Nat} (hm : ∀ p ∈ D, p.f2.length ≤ m) (hm2 : m ≤ 9223372036854775807) (hl : D.length ≤ 9223372036854775807) : ∀ (d k i : Nat), i + d = D.length → d + m + 3 < k → Yj.l0 k D (i : Int) = some (((D.length : Int) == 5) && !(D.drop i).any FO)
 | 0, k + 1, i, hi, _ => by
  rw [Yj.l0, if_neg (by omega), List.drop_of_length_le (by omega)]
  simp
 | d + 1, k + 1, i, hi, hk => by
  have hlt : i < D.length := by omega
  have e : D[i] = Xb D (i : Int) := by
   unfold Xb
   rw [List.getD_eq_getElem?_getD, Int.toNat_natCast, List.getElem?_eq_getElem hlt]
   rfl
  have h3 : (Xb D (i : Int)).f2.length ≤ m := by rw [← e]; exact hm _ (List.getElem_mem hlt)
  have hw : wrap64 ((i : Int) + 1) = ((i + 1 : Nat) : Int) := by
   rw [T.wrap_small (by omega) (by omega)]; omega
  rw [Yj.l0, if_pos (by omega), if_pos (by omega), Dh _ _ _ (by omega) _ (by omega), Option.bind_some, List.drop_eq_getElem_cons hlt, List.any_cons, e, hw]; have ih := Ig hm hm2 hl d k (i + 1) (by omega) (by omega); have e2 : FO (Xb D (i : Int)) = !Zr (Xb D (i : Int)).f0 (Xb D (i : Int)).f1 (Xb D (i : Int)).f2 := rfl; rw [e2]
  cases Zr (Xb D (i : Int)).f0 (Xb D (i : Int)).f1 (Xb D (i : Int)).f2 with
  | true =>
   rw [if_pos rfl]
   exact ih
  | false =>
   rw [if_neg (by simp)]
   simp
theorem Ih {D : List Pg} {m : Nat} (hm : ∀ p ∈ D, p.f2.length ≤ m) (hm2 : m ≤ 9223372036854775807) (hl : D.length ≤ 9223372036854775807) (k : Nat) (hk : D.length + m + 3 < k) : Yj.f k D = some (Ji D) := by
 have h1 := Ig hm hm2 hl D.length k 0 (by omega) (by omega)
 unfold Yj.f Ji
 simpa using h1
theorem BQ {D M : List Pg} {L : List Rc} {m : Nat} (hD : ∀ p ∈ D, p.f2.length ≤ m) (hM : ∀ p ∈ M, p.f2.length ≤ m) (hm : m ≤ 9223372036854775807) (hlD : D.length ≤ 9223372036854775807) (hlM : M.length ≤ 9223372036854775807) (hlL : L.length ≤ 9223372036854775807) (s : Int) (d : Bool) (k : Nat) (hk : D.length + M.length + 3 * L.length + m + 5 < k) : Xi.f k D M L s d = some (Jm D M L s d) := by
 unfold Xi.f
 rw [Ih hD hm hlD k (by omega), Ih hM hm hlM k (by omega), Xb6 L hlL k (by omega)]; rw [Option.bind_some, Option.bind_some, Option.bind_some, if_pos ⟨rfl, rfl, rfl⟩]
end Go.Proofs.YtphnphmbfogmlaaGreat.T
namespace Go.Proofs.YtphnphmbfogmlaaGreat.Pr
open Go.RowKit Go.PW Go.PL Go.PM Go.Proofs.YtphnphmbfogmlaaGreat.T
theorem XL.calls (k : Nat) (A0 : Option Addr) (c0 : Nat) (l0 : List (S56)) (A1 : Option Addr) (c1 : Nat) (l1 : List (S76)) (r : List (S56)) (w : World) (hr0 : Kd.C k56 w A0 l0.length l0) (hc0 : l0.length ≤ c0) (hr1 : Kd.C k76 w A1 l1.length l1) (hc1 : l1.length ≤ c1) (h : XL.f k l0 l1 = some r) :
 Calls Tryz.prog 39 #[.slice A0 l0.length c0, .slice A1 l1.length c1] w fun e w' => ∃ v0_ : Value, e = .returned v0_ ∧ Kd.R k56 56 w' w.heap.size (fun _ => True) v0_ r ∧ Below w.heap.size w w' := XL.to k A0 c0 l0 A1 c1 l1 r w hr0 hc0 hr1 hc1 h
end Go.Proofs.YtphnphmbfogmlaaGreat.Pr
namespace Go.Proofs.YtphnphmbfogmlaaGreat.T
open Go.RowKit Go.PW Go.Proofs.YtphnphmbfogmlaaGreat.Pr
structure Xwf (D M : List S73) (L : List S78) : Prop where
 d : D.length ≤ 9223372036854775807
 dv : ∀ p ∈ D, p.f2.length ≤ 9223372036854775807
 m : M.length ≤ 9223372036854775807
 mv : ∀ p ∈ M, p.f2.length ≤ 9223372036854775807
 l : L.length ≤ 9223372036854775807
theorem Xjo {D M : List S73} {L : List S78} (F : Fit D M L) (s : Int) (d : Bool) (k : Nat) (hk : 16777216 < k) : Xi.f k (D.map cp) (M.map cp) (L.map cv) s d = some (Jm (D.map cp) (M.map cp) (L.map cv) s d) := by
 have h1 := F.d; have h2 := F.m; have h3 := F.l; exact BQ (m := 1048576) (N9 F.dv) (N9 F.mv) (by omega) zb99 zb99 zb99 s d k zb99
end Go.Proofs.YtphnphmbfogmlaaGreat.T
namespace Go.Proofs.YtphnphmbfogmlaaGreat.T
open Go.RowKit Go.PW Go.Proofs.YtphnphmbfogmlaaGreat.Pr
theorem XjZ {w : World} {A : Option Addr} {D : List S73} (h : Kd.C k73 w A D.length D) : ∀ p ∈ D, p.f2.length ≤ 9223372036854775807 := by
 intro p hp; obtain ⟨j, hj, rfl⟩ := List.getElem_of_mem hp; obtain ⟨ad, B, c, _, _, _, _, _, hi⟩ := XbF h (j : Int) (by omega) (by omega); have := hi.2.1; rw [show Zh D (j : Int) = D[j] from by simp [Zh, List.getD_eq_getElem?_getD, List.getElem?_eq_getElem hj]] at this; exact this
theorem Xd9 {w : World} {A0 A1 A2 : Option Addr} {D M : List S73} {L : List S78} {c0 c1 c2 : Nat} (e0 : D.length ≤ c0 ∧ Kd.C k73 w A0 D.length D) (e1 : M.length ≤ c1 ∧ Kd.C k73 w A1 M.length M) (e2 : L.length ≤ c2 ∧ Kd.C k78 w A2 L.length L) : Xwf D M L :=
 ⟨e0.2.2.1, XjZ e0.2, e1.2.2.1, XjZ e1.2, e2.2.2.1⟩
end Go.Proofs.YtphnphmbfogmlaaGreat.T
namespace Go.Proofs.YtphnphmbfogmlaaGreat.Pr
open Go.RowKit Go.PW Go.PL Go.PM
attribute [local go_sem] Y3 Y4 YN YO Ya Yb Y5 Y6
theorem Xmz {α : Type} (d : Kd α) (e base : Nat) (W : World) (hb : base ≤ W.heap.size) : d.R e (W.alloc (.cells #[] e)) base (fun _ => True) (.slice (some ⟨W.heap.size, 0, none⟩) 0 0) [] :=
 ⟨fun _ _ => trivial, [], by simpa using World.ownsRow_lit (base := base) (e := e) (size := d.sz) W #[] 0 hb (by simp [maxLen]) (by simp), Zt.none _ _⟩
def JS.f (k : Nat) (Yc : List (S56)) (XM : List (S56)) (Xm : List (S76)) (Yu : Int) (Yt : Bool) : Option (List S56) := (Xi.f k Yc XM Xm Yu Yt).bind fun t => if t = true then (XL.f k Yc Xm) else some []
set_option maxHeartbeats 8000000 in
set_option maxRecDepth 100000 in
theorem JS.calls (k : Nat) (Je : Option Addr) (Ja : Nat) (Yc : List (S56)) (J9 : Option Addr) (Jy : Nat) (XM : List (S56)) (Yg : Option Addr) (Yh : Nat) (Xm : List (S76)) (Yu : Int) (Yt : Bool) (r : List S56) (w : World) (hr0_0 : Kd.C k56 w Je Yc.length Yc) (hc0_0 : Yc.length ≤ Ja) (hr0_1 : Kd.C k56 w J9 XM.length XM) (hc0_1 : XM.length ≤ Jy) (hr0_2 : Kd.C k76 w Yg Xm.length Xm) (hc0_2 : Xm.length ≤ Yh) (h : JS.f k Yc XM Xm Yu Yt = some r) :
 Calls Tryz.prog 21 #[.agg #[.slice Je Yc.length Ja, .slice J9 XM.length Jy, .slice Yg Xm.length Yh, .int .i64 Yu, .bool Yt]] w fun e w' => ∃ v0_ : Value, e = .returned v0_ ∧ Kd.R k56 56 w' w.heap.size (fun _ => True) v0_ r ∧ Below w.heap.size w w' := by
 have hu31 := Tryz.underlying31
 unfold JS.f at h
 obtain ⟨t, h1, h⟩ := Option.bind_eq_some_iff.mp h; have R0 := zz (And.intro hr0_0 hc0_0); have R1 := zz (And.intro hr0_1 hc0_1); have R2 := zz (And.intro hr0_2 hc0_2); have H1 := zz h1; have hb0 := Xj (Below.refl w.heap.size w) (.cells #[.slice Je Yc.length Ja, .slice J9 XM.length Jy, .slice Yg Xm.length Yh, .int .i64 Yu, .bool Yt] 31); have y0 := Jq w (.cells #[.slice Je Yc.length Ja, .slice J9 XM.length Jy, .slice Yg Xm.length Yh, .int .i64 Yu, .bool Yt] 31); have Y := zz y0; have HB0 := zz hb0; clear hr0_0 hc0_0 hr0_1 hc0_1 hr0_2 hc0_2 h1 hb0 y0
 cases t with
 | true =>
  rw [if_pos rfl] at h; have H := zz h; clear h
  go_enter Tryz.func21, Tryz.ntmps21
  go_wp2_with fail
  refine (Xi.calls k Je Ja Yc J9 Jy XM Yg Yh Xm Yu Yt true _ (Kd.Xg R0.out.1 HB0.out) R0.out.2 (Kd.Xg R1.out.1 HB0.out) R1.out.2 (Kd.Xg R2.out.1 HB0.out) R2.out.2 H1.out).mono ?_; rintro e w1 ⟨rfl, hb⟩; have YB := Xk Y.out hb; have z0 : w1.cell? ⟨w.heap.size, 0, none⟩ = some (.slice Je Yc.length Ja) := (Xd YB 0).trans rfl; have z2 : w1.cell? ⟨w.heap.size, 2, none⟩ = some (.slice Yg Xm.length Yh) := (Xd YB 2).trans rfl; have HB := zz (Xc HB0.out hb); clear hb YB
  go_wp2_with fail
  refine (XL.calls k Je Ja Yc Yg Yh Xm r _ (Kd.Xg R0.out.1 HB.out) R0.out.2 (Kd.Xg R2.out.1 HB.out) R2.out.2 H.out).mono ?_; rintro e w2 ⟨v, rfl, hR, hb2⟩; obtain ⟨A3, c3, rfl⟩ := Kd.Y2 hR; clear z0 z2; have HR := zz (Kd.YY hR HB.out.size); have HC := zz (Xc HB.out hb2); clear hR hb2
  go_wp2
  go_ret
  exact ⟨_, rfl, HR.out, HC.out⟩
 | false =>
  rw [if_neg (by simp)] at h; obtain rfl := Option.some.inj h
  go_enter Tryz.func21, Tryz.ntmps21
  go_wp2_with fail
  refine (Xi.calls k Je Ja Yc J9 Jy XM Yg Yh Xm Yu Yt false _ (Kd.Xg R0.out.1 HB0.out) R0.out.2 (Kd.Xg R1.out.1 HB0.out) R1.out.2 (Kd.Xg R2.out.1 HB0.out) R2.out.2 H1.out).mono ?_; rintro e w1 ⟨rfl, hb⟩; have HB := zz (Xc HB0.out hb); clear hb
  go_wp2
  go_ret
  exact ⟨_, rfl, Xmz k56 56 _ _ HB.out.size, Xj HB.out _⟩
def JA.f (k : Nat) (Yc : List (S56)) (XM : List (S56)) (Xm : List (S76)) (Yu : Int) (Yt : Bool) : Option (List S56) := (X3.f k Yc XM Xm Yu Yt).bind fun t => if t = true then ((Yv.f k Yc Xm).bind fun x => some x.1) else some []
set_option maxHeartbeats 8000000 in
set_option maxRecDepth 100000 in
theorem JA.calls (k : Nat) (Je : Option Addr) (Ja : Nat) (Yc : List (S56)) (J9 : Option Addr) (Jy : Nat) (XM : List (S56)) (Yg : Option Addr) (Yh : Nat) (Xm : List (S76)) (Yu : Int) (Yt : Bool) (r : List S56) (w : World) (hr0_0 : Kd.C k56 w Je Yc.length Yc) (hc0_0 : Yc.length ≤ Ja) (hr0_1 : Kd.C k56 w J9 XM.length XM) (hc0_1 : XM.length ≤ Jy) (hr0_2 : Kd.C k76 w Yg Xm.length Xm) (hc0_2 : Xm.length ≤ Yh) (h : JA.f k Yc XM Xm Yu Yt = some r) :
 Calls Tryz.prog 22 #[.agg #[.slice Je Yc.length Ja, .slice J9 XM.length Jy, .slice Yg Xm.length Yh, .int .i64 Yu, .bool Yt]] w fun e w' => ∃ v0_ : Value, e = .returned v0_ ∧ Kd.S k56 56 w' w.heap.size (fun _ => True) v0_ r ∧ Below w.heap.size w w' := by
 have hu31 := Tryz.underlying31
 unfold JA.f at h
 obtain ⟨t, h1, h⟩ := Option.bind_eq_some_iff.mp h; have R0 := zz (And.intro hr0_0 hc0_0); have R1 := zz (And.intro hr0_1 hc0_1); have R2 := zz (And.intro hr0_2 hc0_2); have H1 := zz h1; have hb0 := Xj (Below.refl w.heap.size w) (.cells #[.slice Je Yc.length Ja, .slice J9 XM.length Jy, .slice Yg Xm.length Yh, .int .i64 Yu, .bool Yt] 31); have y0 := Jq w (.cells #[.slice Je Yc.length Ja, .slice J9 XM.length Jy, .slice Yg Xm.length Yh, .int .i64 Yu, .bool Yt] 31); have Y := zz y0; have HB0 := zz hb0; clear hr0_0 hc0_0 hr0_1 hc0_1 hr0_2 hc0_2 h1 hb0 y0
 cases t with
 | true =>
  rw [if_pos rfl] at h; obtain ⟨⟨r2, b2⟩, h2, h3⟩ := Option.bind_eq_some_iff.mp h; replace h3 := Option.some.inj h3; replace h3 : r2 = r := h3; subst h3; replace h := h2; clear h2; have H := zz h; clear h
  go_enter Tryz.func22, Tryz.ntmps22
  go_wp2_with fail
  refine (X3.calls k Je Ja Yc J9 Jy XM Yg Yh Xm Yu Yt true _ (Kd.Xg R0.out.1 HB0.out) R0.out.2 (Kd.Xg R1.out.1 HB0.out) R1.out.2 (Kd.Xg R2.out.1 HB0.out) R2.out.2 H1.out).mono ?_; rintro e w1 ⟨rfl, hb⟩; have YB := Xk Y.out hb; have z0 : w1.cell? ⟨w.heap.size, 0, none⟩ = some (.slice Je Yc.length Ja) := (Xd YB 0).trans rfl; have z2 : w1.cell? ⟨w.heap.size, 2, none⟩ = some (.slice Yg Xm.length Yh) := (Xd YB 2).trans rfl; have HB := zz (Xc HB0.out hb); clear hb YB
  go_wp2_with fail
  refine (Yv.calls k Je Ja Yc Yg Yh Xm r2 b2 _ (Kd.Xg R0.out.1 HB.out) R0.out.2 (Kd.Xg R2.out.1 HB.out) R2.out.2 H.out).mono ?_; rintro e w2 ⟨v, rfl, hR, hb2⟩; obtain ⟨A3, c3, rfl⟩ := Kd.ZR hR; clear z0 z2; have HR := zz (Kd.Uk hR HB.out.size); have HC := zz (Xc HB.out hb2); clear hR hb2
  go_wp2
  go_ret
  exact ⟨_, rfl, HR.out, HC.out⟩
 | false =>
  rw [if_neg (by simp)] at h; obtain rfl := Option.some.inj h
  go_enter Tryz.func22, Tryz.ntmps22
  go_wp2_with fail
  refine (X3.calls k Je Ja Yc J9 Jy XM Yg Yh Xm Yu Yt false _ (Kd.Xg R0.out.1 HB0.out) R0.out.2 (Kd.Xg R1.out.1 HB0.out) R1.out.2 (Kd.Xg R2.out.1 HB0.out) R2.out.2 H1.out).mono ?_; rintro e w1 ⟨rfl, hb⟩; have HB := zz (Xc HB0.out hb); clear hb
  go_wp2
  go_ret
  exact ⟨_, rfl, Kd.Xmy _ _ _ _ _, HB.out⟩
end Go.Proofs.YtphnphmbfogmlaaGreat.Pr
