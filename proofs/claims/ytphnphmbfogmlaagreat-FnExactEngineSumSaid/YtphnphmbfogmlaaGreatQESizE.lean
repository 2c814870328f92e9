import Derived.Test.YtphnphmbfogmlaaGreatQEByq
import Derived.Test.YtphnphmbfogmlaaGreatQEPrLO2
import Derived.Test.YtphnphmbfogmlaaGreatQEEokI
import Derived.Test.YtphnphmbfogmlaaGreatQEEokS
import Derived.Test.YtphnphmbfogmlaaGreatQEPrXE
namespace Go.Proofs.YtphnphmbfogmlaaGreat.T
open Go.RowKit Go.PW Go.Proofs.YtphnphmbfogmlaaGreat.Pr
set_option linter.unusedSimpArgs false
set_option linter.unusedVariables false
theorem XqO (a b : Int) (l : List Int) (hl : l.length ≤ 1048576) (k : Nat) (hk : l.length < k) : F8.f k a b l = some (a, b, l) := by
 have h := Qo (Yr.mono l) (XqP l (by omega)) (k - (l.length + 1)); rw [show l.length + 1 + (k - (l.length + 1)) = k by omega] at h
 unfold F8.f
 rw [h]
 rfl
theorem XqQ (a b : Int) (l : List Int) (hl : l.length ≤ 1048576) (k : Nat) (hk : l.length < k) : Dx.f k a b l a b l = some true := by
 have h := Qo (Y3.mono l l) (by simpa using XqR l l (by omega)) (k - (l.length + 1)); rw [show l.length + 1 + (k - (l.length + 1)) = k by omega] at h
 unfold Dx.f
 rw [h]
 simp
def cp (x : S73) : S56 := ⟨x.f0, x.f1, x.f2⟩
theorem Xgd {l : List S73} {i : Nat} (h : i < l.length) : Z0 l (i : Int) ∈ l := by
 have e : Z0 l (i : Int) = l[i] := by simp [Z0, List.getD_eq_getElem?_getD, List.getElem?_eq_getElem h]
 rw [e]; exact List.getElem_mem h
theorem XqS {l : List S56} {i : Nat} (h : i < l.length) : Xb l (i : Int) ∈ l := by
 have e : Xb l (i : Int) = l[i] := by simp [Xb, List.getD_eq_getElem?_getD, List.getElem?_eq_getElem h]
 rw [e]; exact List.getElem_mem h
theorem Xbc (l : List S73) (hl : l.length ≤ 9223372036854775807) (hv : ∀ p ∈ l, p.f2.length ≤ 9223372036854775807) : ∀ (d k i : Nat) (a : Int), i + d = l.length → d < k → 0 ≤ a → a ≤ 1048576 → ∃ r, Y1.l0 k l a (i : Int) = some r ∧ (r < 0 ∨ (0 ≤ r ∧ r ≤ a ∧ ∀ j : Nat, i ≤ j → j < l.length → (Z0 l (j : Int)).f2.length ≤ 1048576))
 | 0, k + 1, i, a, hi, _, h0, h1 => ⟨a, by rw [Y1.l0, if_neg (by omega)], Or.inr ⟨h0, Int.le_refl _, fun j h1 h2 => by omega⟩⟩
 | d + 1, k + 1, i, a, hi, hk, h0, h1 => by
  have hlt : i < l.length := by omega
  have hq := hv _ (Xgd hlt)
  have hw : wrap64 ((i : Int) + 1) = ((i + 1 : Nat) : Int) := by
   rw [T.wrap_small (by omega) (by omega)]; omega
  rw [Y1.l0, if_pos (by omega), if_pos (by omega)]
  unfold F9.f
  rw [XqT _ a (by omega) (by omega) hq]
  unfold szB
  by_cases hn : a - ((Z0 l (i : Int)).f2.length : Int) < 0
  ·rw [if_pos hn, Option.bind_some, if_pos (by omega), Option.bind_some, if_pos (by omega)]
   exact ⟨-1, rfl, Or.inl (by omega)⟩
  ·rw [if_neg hn, Option.bind_some, if_neg hn, Option.bind_some, if_neg hn, hw]
   obtain ⟨r, hr, h⟩ := Xbc l hl hv d k (i + 1) (a - ((Z0 l (i : Int)).f2.length : Int)) (by omega) (by omega) (by omega) (by omega); refine ⟨r, hr, ?_⟩
   rcases h with h | ⟨h2, h3, h4⟩
   ·exact Or.inl h
   ·exact Or.inr ⟨h2, by omega, fun j h5 h6 => by
     by_cases e : j = i
     ·subst e
      omega
     ·exact h4 j (by omega) h6⟩
theorem Xbd (l : List S73) (hl : l.length ≤ 9223372036854775807) (hv : ∀ p ∈ l, p.f2.length ≤ 9223372036854775807) (a : Int) (h0 : 0 ≤ a) (h1 : a ≤ 1048576) (k : Nat) (hk : l.length < k) : ∃ r, Y1.f k l a = some r ∧ (r < 0 ∨ (0 ≤ r ∧ r ≤ 1048576 ∧ l.length ≤ 1048576 ∧ ∀ p ∈ l, p.f2.length ≤ 1048576)) := by
 unfold Y1.f
 have hw : wrap64 (a - (l.length : Int)) = a - (l.length : Int) := T.wrap_small (by omega) (by omega); rw [hw]
 by_cases hn : a - (l.length : Int) < 0
 ·rw [if_pos hn]
  exact ⟨-1, rfl, Or.inl (by omega)⟩
 ·rw [if_neg hn]
  obtain ⟨r, hr, h⟩ := Xbc l hl hv l.length k 0 (a - (l.length : Int)) (by omega) hk (by omega) (by omega); refine ⟨r, hr, ?_⟩
  rcases h with h | ⟨h2, h3, h4⟩
  ·exact Or.inl h
  ·refine Or.inr ⟨h2, by omega, by omega, fun p hp => ?_⟩
   obtain ⟨j, hj, rfl⟩ := List.getElem_of_mem hp; have := h4 j (by omega) hj; rw [show Z0 l (j : Int) = l[j] from by simp [Z0, List.getD_eq_getElem?_getD, List.getElem?_eq_getElem hj]] at this; exact this
theorem Xbe (l : List S73) (m : Nat) (hm : m ≤ 1048576) (hl : l.length ≤ 1048576) (hv : ∀ p ∈ l, p.f2.length ≤ m) : ∀ (d i k : Nat), i + d = l.length → d + m < k → YF.l0 k l ((l.take i).map cp ++ List.replicate d z56) i = some (l.map cp)
 | 0, i, k + 1, hi, _ => by
  rw [YF.l0, if_neg (by omega), List.take_of_length_le (by omega)]
  simp
 | d + 1, i, k + 1, hi, hk => by
  have hlt : i < l.length := by omega
  have hq := hv _ (Xgd hlt); rw [YF.l0, if_pos (by omega), if_pos (by omega), XqO _ _ _ (Nat.le_trans hq hm) k (by omega)]; simp only [Option.bind_some]; rw [if_pos zb133, T.wrap_small (by omega) (by omega)]
  have e : ((l.take i).map cp ++ List.replicate (d + 1) z56).set ((i : Int)).toNat (cp (Z0 l i)) = (l.take (i + 1)).map cp ++ List.replicate d z56 := by
   rw [Int.toNat_natCast, List.set_append_right _ _ zb133, List.length_map, List.length_take, Nat.min_eq_left (by omega), Nat.sub_self, List.replicate_succ, List.set_cons_zero]
   have e1 : l.take (i + 1) = l.take i ++ [Z0 l i] := by
    rw [List.take_add_one, List.getElem?_eq_getElem hlt]
    simp [Z0, List.getD_eq_getElem?_getD, List.getElem?_eq_getElem hlt]
   rw [e1, List.map_append]
   simp
  have e2 : (i : Int) + 1 = ((i + 1 : Nat) : Int) := by omega
  rw [e2]; refine (congrArg (fun z => YF.l0 k l z ((i + 1 : Nat) : Int)) ?_).trans (Xbe l m hm hl hv d (i + 1) k (by omega) (by omega)); exact e
theorem Xbf (l : List S73) (hl : l.length ≤ 1048576) (hv : ∀ p ∈ l, p.f2.length ≤ 1048576) (k : Nat) (hk : 2097152 < k) : YF.f k l = some (l.map cp) := by
 unfold YF.f
 rw [if_pos (by omega), if_pos (by omega), Int.toNat_natCast]; have h := Xbe l 1048576 (Nat.le_refl _) hl hv l.length 0 k (by omega) (by omega)
 simpa using h
theorem Xbg (l : List S56) (m : Nat) (hm : m ≤ 1048576) (hl : l.length ≤ 1048576) (hv : ∀ p ∈ l, p.f2.length ≤ m) : ∀ (d i k : Nat), i + d = l.length → d + m < k → XD.l0 k l l i = some true
 | 0, i, k + 1, hi, _ => by
  rw [XD.l0, if_neg (by omega)]
 | d + 1, i, k + 1, hi, hk => by
  have hlt : i < l.length := by omega
  have hq := hv _ (XqS hlt); rw [XD.l0, if_pos (by omega), if_pos (by omega), if_pos (by omega), XqQ _ _ _ (Nat.le_trans hq hm) k (by omega), Option.bind_some, if_pos rfl, T.wrap_small (by omega) (by omega), show (i : Int) + 1 = ((i + 1 : Nat) : Int) by omega]; exact Xbg l m hm hl hv d (i + 1) k (by omega) (by omega)
theorem Xbh (l : List S56) (hl : l.length ≤ 1048576) (hv : ∀ p ∈ l, p.f2.length ≤ 1048576) (k : Nat) (hk : 2097152 < k) : XD.f k l l = some true := by
 unfold XD.f
 rw [if_pos rfl]; exact Xbg l 1048576 (Nat.le_refl _) hl hv l.length 0 k (by omega) (by omega)
theorem XeF {l : List S73} (hv : ∀ p ∈ l, p.f2.length ≤ 1048576) : ∀ p ∈ l.map cp, p.f2.length ≤ 1048576 := by
 intro p hp; obtain ⟨q, hq, rfl⟩ := List.mem_map.mp hp; exact hv q hq
structure Fit (D M : List S73) (L : List S78) : Prop where
 d : D.length ≤ 1048576
 dv : ∀ p ∈ D, p.f2.length ≤ 1048576
 m : M.length ≤ 1048576
 mv : ∀ p ∈ M, p.f2.length ≤ 1048576
 l : L.length ≤ 1048576
theorem LQ (D M : List S73) (L : List S78) (s : Int) (d : Bool) (hD : D.length ≤ 9223372036854775807) (hDv : ∀ p ∈ D, p.f2.length ≤ 9223372036854775807) (hM : M.length ≤ 9223372036854775807) (hMv : ∀ p ∈ M, p.f2.length ≤ 9223372036854775807) (hL : L.length ≤ 9223372036854775807) (k : Nat) (hk : D.length + M.length < k) : ∃ r, Zt.f k D M L s d 1048576 = some r ∧ (r < 0 ∨ (0 ≤ r ∧ Fit D M L)) := by
 unfold Zt.f
 obtain ⟨r1, e1, h1⟩ := Xbd D hD hDv 1048576 (by omega) (by omega) k (by omega); rw [e1, Option.bind_some]
 rcases h1 with h1 | ⟨h1, h2, h3, h4⟩
 ·rw [if_pos h1]
  exact ⟨-1, rfl, Or.inl (by omega)⟩
 rw [if_neg (by omega)]; obtain ⟨r2, e2, g1⟩ := Xbd M hM hMv r1 h1 h2 k (by omega); rw [e2, Option.bind_some]
 rcases g1 with g1 | ⟨g1, g2, g3, g4⟩
 ·rw [if_pos g1]
  exact ⟨-1, rfl, Or.inl (by omega)⟩
 rw [if_neg (by omega)]
 have hs : Va.f L r2 = some (if r2 - (L.length : Int) < 0 then (-1 : Int) else r2 - (L.length : Int)) := by
  unfold Va.f
  rw [T.wrap_small (by omega) (by omega)]
  split <;> rfl
 rw [hs, Option.bind_some]
 by_cases hn : r2 - (L.length : Int) < 0
 ·rw [if_pos hn, if_pos (by omega)]
  exact ⟨-1, rfl, Or.inl (by omega)⟩
 ·rw [if_neg hn, if_neg hn]
  exact ⟨_, rfl, Or.inr ⟨by omega, ⟨h3, h4, g3, g4, by omega⟩⟩⟩
theorem Wm {D M : List S73} {L : List S78} (h : Fit D M L) (s : Int) (d : Bool) (k : Nat) (hk : 2097152 < k) : Xu.f k D M L s d = some (D.map cp, M.map cp, L.map cv, s, d) := by
 have := h.l
 unfold Xu.f
 rw [Xbf D h.d h.dv k hk, Option.bind_some, Xbf M h.m h.mv k hk, Option.bind_some, XqU L (by omega) k (by omega), Option.bind_some]
theorem LU {D M : List S73} {L : List S78} (h : Fit D M L) (s : Int) (d : Bool) (k : Nat) (hk : 2097152 < k) : Yl.f k (D.map cp) (M.map cp) (L.map cv) s d (D.map cp) (M.map cp) (L.map cv) s d = some true := by
 have := h.l; have hD := h.d; have hM := h.m
 unfold Yl.f
 rw [Xbh (D.map cp) (by simpa using hD) (XeF h.dv) k hk, Option.bind_some, if_pos rfl, Xbh (M.map cp) (by simpa using hM) (XeF h.mv) k hk, Option.bind_some, if_pos rfl, XqV (L.map cv) zb133 k zb133, Option.bind_some, if_pos rfl, if_pos rfl, if_neg (by simp)]
end Go.Proofs.YtphnphmbfogmlaaGreat.T
namespace Go.Proofs.YtphnphmbfogmlaaGreat.Pr
set_option linter.unusedVariables false
open Go.RowKit Go.PW Go.PL Go.PM Go.Proofs.YtphnphmbfogmlaaGreat.T
def Xj.f (k : Nat) (Xm : List (S56)) (Xh : List (S56)) (Xe : List (S76)) (Xo : Int) (Xp : Bool) : Option (Bool) :=
 (Yq.f k Xm).bind fun x => (Yq.f k Xh).bind fun y => (Xy.f k Xe).bind fun z =>
  if x = JG Xm ∧ y = JG Xh ∧ z = Za Xe then some (J7 Xm Xh Xe Xo Xp) else none
def Xx.f (k : Nat) (Xm : List (S56)) (Xh : List (S56)) (Xe : List (S76)) (Xo : Int) (Xp : Bool) : Option (Bool) := some (J7 Xm Xh Xe Xo Xp)
theorem Xj.calls (k : Nat) (YI : Option Addr) (YB : Nat) (Xm : List (S56)) (YN : Option Addr) (YJ : Nat) (Xh : List (S56)) (XE : Option Addr) (XF : Nat) (Xe : List (S76)) (Xo : Int) (Xp : Bool) (r : Bool) (w : World) (hr0_0 : Kd.C k56 w YI Xm.length Xm) (hc0_0 : Xm.length ≤ YB) (hr0_1 : Kd.C k56 w YN Xh.length Xh) (hc0_1 : Xh.length ≤ YJ) (hr0_2 : Kd.C k76 w XE Xe.length Xe) (hc0_2 : Xe.length ≤ XF) (h : Xj.f k Xm Xh Xe Xo Xp = some r) :
 Calls Tryz.prog 26 #[.agg #[.slice YI Xm.length YB, .slice YN Xh.length YJ, .slice XE Xe.length XF, .int .i64 Xo, .bool Xp]] w fun e w' => e = .returned (.bool r) ∧ Below w.heap.size w w' := by
 unfold Xj.f at h
 replace h := Option.bind_eq_some_iff.mp h; obtain ⟨x, hx, h⟩ := h; replace h := Option.bind_eq_some_iff.mp h; obtain ⟨y, hy, h⟩ := h; replace h := Option.bind_eq_some_iff.mp h; obtain ⟨z, hz, h⟩ := h
 by_cases hc : x = JG Xm ∧ y = JG Xh ∧ z = Za Xe
 ·rw [if_pos hc] at h
  obtain ⟨rfl, rfl, rfl⟩ := hc; have e := Option.some.inj h; rw [← e]; exact Xj.to YI YB Xm YN YJ Xh XE XF Xe Xo Xp w hr0_0 hc0_0 hr0_1 hc0_1 hr0_2 hc0_2 ⟨k, hx⟩ ⟨k, hy⟩ ⟨k, hz⟩
 ·rw [if_neg hc] at h
  exact absurd h (by simp)
theorem Xx.calls (k : Nat) (YI : Option Addr) (YB : Nat) (Xm : List (S56)) (YN : Option Addr) (YJ : Nat) (Xh : List (S56)) (XE : Option Addr) (XF : Nat) (Xe : List (S76)) (Xo : Int) (Xp : Bool) (r : Bool) (w : World) (hr0_0 : Kd.C k56 w YI Xm.length Xm) (hc0_0 : Xm.length ≤ YB) (hr0_1 : Kd.C k56 w YN Xh.length Xh) (hc0_1 : Xh.length ≤ YJ) (hr0_2 : Kd.C k76 w XE Xe.length Xe) (hc0_2 : Xe.length ≤ XF) (h : Xx.f k Xm Xh Xe Xo Xp = some r) :
 Calls Tryz.prog 27 #[.agg #[.slice YI Xm.length YB, .slice YN Xh.length YJ, .slice XE Xe.length XF, .int .i64 Xo, .bool Xp]] w fun e w' => e = .returned (.bool r) ∧ Below w.heap.size w w' := by
 have e := Option.some.inj h; rw [← e]; exact Xx.to YI YB Xm YN YJ Xh XE XF Xe Xo Xp w hr0_0 hc0_0 hr0_1 hc0_1 hr0_2 hc0_2
end Go.Proofs.YtphnphmbfogmlaaGreat.Pr
namespace Go.Proofs.YtphnphmbfogmlaaGreat.T
open Go.RowKit Go.PW Go.PL Go.PM Go.Proofs.YtphnphmbfogmlaaGreat.Pr
theorem Xbi {D : List Pg} {m : Nat} (hm : ∀ p ∈ D, p.f2.length ≤ m) (hm2 : m ≤ 9223372036854775807) (hl : D.length ≤ 9223372036854775807) : ∀ (d k i : Nat), i + d = D.length → d + m + 3 < k → Yq.l0 k D (i : Int) = some (((D.length : Int) == 5) && !(D.drop i).any Uo)
 | 0, k + 1, i, hi, _ => by
  rw [Yq.l0, if_neg (by omega), List.drop_of_length_le (by omega)]
  simp
 | d + 1, k + 1, i, hi, hk => by
  have hlt : i < D.length := by omega
  have e : D[i] = Xb D (i : Int) := by
   unfold Xb
   rw [List.getD_eq_getElem?_getD, Int.toNat_natCast, List.getElem?_eq_getElem hlt]
   rfl
  have h3 : (Xb D (i : Int)).f2.length ≤ m := by rw [← e]; exact hm _ (List.getElem_mem hlt)
  have hw : wrap64 ((i : Int) + 1) = ((i + 1 : Nat) : Int) := by
   rw [T.wrap_small (by omega) (by omega)]; omega
  rw [Yq.l0, if_pos (by omega), if_pos (by omega), Fb _ _ _ (by omega) _ (by omega), Option.bind_some, List.drop_eq_getElem_cons hlt, List.any_cons, e, hw]; have ih := Xbi hm hm2 hl d k (i + 1) (by omega) (by omega); have e2 : Uo (Xb D (i : Int)) = !ZH (Xb D (i : Int)).f0 (Xb D (i : Int)).f1 (Xb D (i : Int)).f2 := rfl; rw [e2]
  cases ZH (Xb D (i : Int)).f0 (Xb D (i : Int)).f1 (Xb D (i : Int)).f2 with
  | true =>
   rw [if_pos rfl]
   exact ih
  | false =>
   rw [if_neg (by simp)]
   simp
theorem Xbj {D : List Pg} {m : Nat} (hm : ∀ p ∈ D, p.f2.length ≤ m) (hm2 : m ≤ 9223372036854775807) (hl : D.length ≤ 9223372036854775807) (k : Nat) (hk : D.length + m + 3 < k) : Yq.f k D = some (JG D) := by
 have h1 := Xbi hm hm2 hl D.length k 0 (by omega) (by omega)
 unfold Yq.f JG
 simpa using h1
theorem Qp {D M : List Pg} {L : List Rc} {m : Nat} (hD : ∀ p ∈ D, p.f2.length ≤ m) (hM : ∀ p ∈ M, p.f2.length ≤ m) (hm : m ≤ 9223372036854775807) (hlD : D.length ≤ 9223372036854775807) (hlM : M.length ≤ 9223372036854775807) (hlL : L.length ≤ 9223372036854775807) (s : Int) (d : Bool) (k : Nat) (hk : D.length + M.length + 3 * L.length + m + 5 < k) : Xj.f k D M L s d = some (J7 D M L s d) := by
 unfold Xj.f
 rw [Xbj hD hm hlD k (by omega), Xbj hM hm hlM k (by omega), XeG L hlL k (by omega)]; rw [Option.bind_some, Option.bind_some, Option.bind_some, if_pos ⟨rfl, rfl, rfl⟩]
end Go.Proofs.YtphnphmbfogmlaaGreat.T
namespace Go.Proofs.YtphnphmbfogmlaaGreat.T
open Go.RowKit Go.PW Go.WideShapes Go.ChangeShapes Go.Deep Go.Proofs.YtphnphmbfogmlaaGreat.Pr
set_option linter.unusedVariables false
theorem XgS : Wy Tryz.prog 73 k73 (fun _ => True) := by
 intro H enc w base sp held fuel cs x h; obtain ⟨⟨a, b, l⟩, hk, _⟩ := XiQ (P := Tryz.prog) (t := 73) (ti := 3) (ts := 37) (e := 3) zb9 Tryz.underlying3 Tryz.underlying37 zb9 h; exact ⟨⟨a, b, l⟩, hk, trivial⟩
set_option maxRecDepth 100000 in
theorem Xrg : Wy Tryz.prog 78 k78 XwO := fun h => Xpa Tryz.underlying78 zb9 zb9 (by rfl) zb9 h
set_option maxRecDepth 100000 in
theorem PT {H : Type} {enc : TypeId × Value → H} {w : World} {base b0 : Nat} {r : Reach} {sp : Nat → Bool} {held : Bool} {v : Value} {d : DataW H} {p : List MemPlace}
 (hv : Value.okWide Tryz.prog w r b0 25 v) (h : DataW.Trod enc Tryz.prog w base sp held 25 v d p) :
 ∃ (A0 : Option Addr) (D : List S73) (c0 : Nat) (A1 : Option Addr) (M : List S73) (c1 : Nat) (A2 : Option Addr) (L : List S78) (c2 : Nat) (s : Int) (b : Bool), v = .agg #[.slice A0 D.length c0, .slice A1 M.length c1, .slice A2 L.length c2, .int .i64 s, .bool b] ∧
  (D.length ≤ c0 ∧ Kd.C k73 w A0 D.length D) ∧ (M.length ≤ c1 ∧ Kd.C k73 w A1 M.length M) ∧ (L.length ≤ c2 ∧ Kd.C k78 w A2 L.length L) ∧ I64 s := by
 obtain ⟨cs, rfl, hsz⟩ := okWide_struct Tryz.underlying25 hv; obtain ⟨fuel, hf⟩ := h; obtain ⟨xs, n, _, _, hlen, hxl, hg⟩ := DataW.trod_struct Tryz.underlying25 hf; have hx : xs.length = 5 := hxl; have e0 := hg 0 _ rfl; have e1 := hg 1 _ rfl; have e2 := hg 2 _ rfl; have e3 := hg 3 _ rfl; have e4 := hg 4 _ rfl; rw [List.getElem?_eq_getElem (by omega)] at e0 e1 e2 e3 e4; obtain ⟨D, ⟨A0, c0, k0, l0, C0⟩, _⟩ := NB (d := k73) Tryz.underlying22 zb9 XgS e0; obtain ⟨M, ⟨A1, c1, k1, l1, C1⟩, _⟩ := NB (d := k73) Tryz.underlying22 zb9 XgS e1; obtain ⟨L, ⟨A2, c2, k2, l2, C2⟩, _⟩ := NB (d := k78) Tryz.underlying23 zb9 Xrg e2; obtain ⟨s, k3, gs⟩ := KI Tryz.underlying3 e3; obtain ⟨b, k4, _⟩ := XiO Tryz.underlying4 e4; refine ⟨A0, D, c0, A1, M, c1, A2, L, c2, s, b, ?_, ⟨l0, C0⟩, ⟨l1, C1⟩, ⟨l2, C2⟩, gs⟩
 have m0 : Tryz.prog.cellsOf 22 = 1 := by kernel_rfl
 have m2 : Tryz.prog.cellsOf 23 = 1 := by kernel_rfl
 have m3 : Tryz.prog.cellsOf 3 = 1 := by kernel_rfl
 have m4 : Tryz.prog.cellsOf 4 = 1 := by kernel_rfl
 have m : Tryz.prog.cellsOf 25 = 5 := by kernel_rfl
 rw [m] at hlen; obtain ⟨l⟩ := cs
 change (l.drop 0).take (Tryz.prog.cellsOf 22) = _ at k0
 change (l.drop 1).take (Tryz.prog.cellsOf 22) = _ at k1
 change (l.drop 2).take (Tryz.prog.cellsOf 23) = _ at k2
 change (l.drop 3).take (Tryz.prog.cellsOf 3) = _ at k3
 change (l.drop 4).take (Tryz.prog.cellsOf 4) = _ at k4
 change l.length = 5 at hlen
 rw [m0] at k0 k1; rw [m2] at k2; rw [m3] at k3; rw [m4] at k4; clear hg hf hsz hv e0 e1 e2 e3 e4
 match l, hlen with
 | [x0, x1, x2, x3, x4], _ =>
  have q0 : x0 = _ := (List.cons.inj k0).1; have q1 : x1 = _ := (List.cons.inj k1).1; have q2 : x2 = _ := (List.cons.inj k2).1; have q3 : x3 = _ := (List.cons.inj k3).1; have q4 : x4 = _ := (List.cons.inj k4).1; rw [q0, q1, q2, q3, q4]
end Go.Proofs.YtphnphmbfogmlaaGreat.T
namespace Go.Proofs.YtphnphmbfogmlaaGreat.T
open Go.RowKit Go.PW Go.Proofs.YtphnphmbfogmlaaGreat.Pr
set_option linter.unusedSimpArgs false
set_option linter.unusedVariables false
structure Xna (D M : List S73) (L : List S78) : Prop where
 d : D.length ≤ 9223372036854775807
 dv : ∀ p ∈ D, p.f2.length ≤ 9223372036854775807
 m : M.length ≤ 9223372036854775807
 mv : ∀ p ∈ M, p.f2.length ≤ 9223372036854775807
 l : L.length ≤ 9223372036854775807
theorem XeK {D M : List S73} {L : List S78} (F : Fit D M L) (s : Int) (d : Bool) (k : Nat) (hk : 16777216 < k) : Xj.f k (D.map cp) (M.map cp) (L.map cv) s d = some (J7 (D.map cp) (M.map cp) (L.map cv) s d) := by
 have h1 := F.d; have h2 := F.m; have h3 := F.l; exact Qp (m := 1048576) (XeF F.dv) (XeF F.mv) (by omega) zb133 zb133 zb133 s d k zb133
end Go.Proofs.YtphnphmbfogmlaaGreat.T
namespace Go.Proofs.YtphnphmbfogmlaaGreat.T
open Go.RowKit Go.PW Go.Proofs.YtphnphmbfogmlaaGreat.Pr
set_option linter.unusedVariables false
theorem XnN {w : World} {A : Option Addr} {D : List S73} (h : Kd.C k73 w A D.length D) : ∀ p ∈ D, p.f2.length ≤ 9223372036854775807 := by
 intro p hp; obtain ⟨j, hj, rfl⟩ := List.getElem_of_mem hp; obtain ⟨ad, B, c, _, _, _, _, _, hi⟩ := XeU h (j : Int) (by omega) (by omega); have := hi.2.1; rw [show Z0 D (j : Int) = D[j] from by simp [Z0, List.getD_eq_getElem?_getD, List.getElem?_eq_getElem hj]] at this; exact this
theorem QF {w : World} {A0 A1 A2 : Option Addr} {D M : List S73} {L : List S78} {c0 c1 c2 : Nat} (e0 : D.length ≤ c0 ∧ Kd.C k73 w A0 D.length D) (e1 : M.length ≤ c1 ∧ Kd.C k73 w A1 M.length M) (e2 : L.length ≤ c2 ∧ Kd.C k78 w A2 L.length L) : Xna D M L :=
 ⟨e0.2.2.1, XnN e0.2, e1.2.2.1, XnN e1.2, e2.2.2.1⟩
end Go.Proofs.YtphnphmbfogmlaaGreat.T
