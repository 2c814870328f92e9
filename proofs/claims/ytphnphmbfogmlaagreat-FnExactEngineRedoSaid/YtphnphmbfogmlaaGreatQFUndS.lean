import Derived.Test.YtphnphmbfogmlaaGreatQFByq
import Derived.Test.YtphnphmbfogmlaaGreatQFSx
import Derived.Test.YtphnphmbfogmlaaGreatQFL2
import Derived.Test.YtphnphmbfogmlaaGreatQFPrWith
import Derived.Test.YtphnphmbfogmlaaGreatQFPrCps
import Derived.Test.YtphnphmbfogmlaaGreatQFPrNeed
import Derived.Test.YtphnphmbfogmlaaGreatQFL11R
import Derived.Test.YtphnphmbfogmlaaGreatQFPrBk
namespace Go.Proofs.YtphnphmbfogmlaaGreat.Pr
open Go.RowKit Go.PW Go.PL Go.PM
attribute [local go_sem] Y3 Y4 YN YO Ya Yb Y5 Y6
set_option linter.unusedVariables false
set_option linter.unusedSimpArgs false
abbrev XuD : Array Bool := #[nn,nn,nn,nn,nn,nn,nn,nn,nn,nn,nn,nn,nn,nn,nn,nn,nn,nn,nn,nn]
abbrev XuE : Array Bool := #[yy,nn,nn,nn,nn,nn,nn,nn,nn,nn,nn,nn,nn,nn,nn,nn,nn,nn,nn,nn]
abbrev XuF : Array Bool := #[yy,yy,nn,nn,nn,nn,nn,nn,nn,nn,nn,nn,nn,nn,nn,nn,nn,nn,nn,nn]
abbrev XuG : Array Bool := #[yy,yy,yy,nn,nn,nn,nn,nn,nn,nn,nn,nn,nn,nn,nn,nn,nn,nn,nn,nn]
abbrev XuH : Array Bool := #[yy,yy,yy,yy,nn,nn,nn,nn,nn,nn,nn,nn,nn,nn,nn,nn,nn,nn,nn,nn]
abbrev XuI : Array Bool := #[yy,yy,yy,yy,yy,nn,nn,nn,nn,nn,nn,nn,nn,nn,nn,nn,nn,nn,nn,nn]
abbrev XuJ : Array Bool := #[yy,yy,yy,yy,yy,nn,yy,nn,nn,nn,nn,nn,nn,nn,nn,nn,nn,nn,nn,nn]
abbrev XuK : Array Bool := #[yy,yy,yy,yy,yy,nn,yy,yy,nn,nn,nn,nn,nn,nn,nn,nn,nn,nn,nn,nn]
abbrev XuL : Array Bool := #[yy,yy,yy,yy,yy,nn,yy,yy,yy,nn,nn,nn,nn,nn,nn,nn,nn,nn,nn,nn]
abbrev XuM : Array Bool := #[yy,yy,yy,yy,yy,nn,yy,yy,yy,yy,nn,nn,nn,nn,nn,nn,nn,nn,nn,nn]
abbrev XrA : Array Bool := #[yy,yy,yy,yy,yy,nn,yy,yy,yy,yy,nn,nn,yy,nn,nn,nn,nn,nn,nn,nn]
abbrev XrB : Array Bool := #[yy,yy,yy,yy,yy,nn,yy,yy,yy,yy,nn,nn,yy,yy,nn,nn,nn,nn,nn,nn]
abbrev XrC : Array Bool := #[yy,yy,yy,yy,yy,nn,yy,yy,yy,yy,nn,nn,yy,yy,yy,nn,nn,nn,nn,nn]
abbrev XrD : Array Bool := #[yy,yy,yy,yy,yy,nn,yy,yy,yy,yy,nn,nn,yy,yy,yy,yy,nn,nn,nn,nn]
abbrev XrE : Array Bool := #[yy,yy,yy,yy,yy,yy,yy,yy,yy,yy,nn,nn,yy,yy,yy,yy,nn,nn,nn,nn]
abbrev XrF : Array Bool := #[yy,yy,yy,yy,yy,yy,yy,yy,yy,yy,yy,nn,yy,yy,yy,yy,nn,nn,nn,nn]
abbrev XrG : Array Bool := #[yy,yy,yy,yy,yy,yy,yy,yy,yy,yy,yy,nn,yy,yy,yy,yy,yy,nn,nn,nn]
abbrev XrH : Array Bool := #[yy,yy,yy,yy,yy,yy,yy,yy,yy,yy,yy,yy,yy,yy,yy,yy,yy,nn,nn,nn]
abbrev XrI : Array Bool := #[yy,yy,yy,yy,yy,yy,yy,yy,yy,yy,yy,yy,yy,yy,yy,yy,yy,yy,nn,nn]
abbrev XrJ : Array Bool := #[yy,yy,yy,yy,yy,yy,yy,yy,yy,yy,yy,yy,yy,yy,yy,yy,yy,yy,yy,nn]
abbrev XrK : Array Bool := #[yy,yy,yy,yy,yy,yy,yy,yy,yy,yy,yy,yy,yy,yy,yy,yy,yy,yy,yy,yy]
mutual
def X5.l0 : Nat → List S56 → List S76 → Int → Option Bool
 | 0, _, _, _ => none
 | k + 1, x0, x1, x5 => if x5 ≤ 3 then ((Yr.f k x1 x5).bind fun t1 => ((XD.f k x1 t1).bind fun t2 => (X5.l1 k x0 x1 x5 t2))) else (some true)
def X5.l1 : Nat → List S56 → List S76 → Int → Int → Option Bool
 | 0, _, _, _, _ => none
 | k + 1, x0, x1, x5, x6 => if x6 > 0 then (if 0 ≤ (wrap64 (x6 - 1)) then (if (wrap64 (x6 - 1)) < (x1.length : Int) then (if 0 ≤ (Xa x1 (wrap64 (x6 - 1))).f2 then (if (Xa x1 (wrap64 (x6 - 1))).f2 < (x0.length : Int) then ((VD.f (Xb x0 (Xa x1 (wrap64 (x6 - 1))).f2).f0 (Xb x0 (Xa x1 (wrap64 (x6 - 1))).f2).f1 (Xb x0 (Xa x1 (wrap64 (x6 - 1))).f2).f2 6 (Xa x1 (wrap64 (x6 - 1))).f1 (Xa x1 (wrap64 (x6 - 1))).f2 (Xa x1 (wrap64 (x6 - 1))).f3 0 (Xa x1 (wrap64 (x6 - 1))).f4 0 (Xa x1 (wrap64 (x6 - 1))).f6 (Xb x0 (Xa x1 (wrap64 (x6 - 1))).f2).f0).bind fun d => ((XC.f k (Xb (x0.set ((Xa x1 (wrap64 (x6 - 1))).f2 : Int).toNat (⟨d.1, d.2.1, d.2.2⟩ : S56)) (Xa x1 (wrap64 (x6 - 1))).f2).f0 (Xb (x0.set ((Xa x1 (wrap64 (x6 - 1))).f2 : Int).toNat (⟨d.1, d.2.1, d.2.2⟩ : S56)) (Xa x1 (wrap64 (x6 - 1))).f2).f1 (Xb (x0.set ((Xa x1 (wrap64 (x6 - 1))).f2 : Int).toNat (⟨d.1, d.2.1, d.2.2⟩ : S56)) (Xa x1 (wrap64 (x6 - 1))).f2).f2).bind fun ok => (if ok = true then ((XD.f k x1 (Xa x1 (wrap64 (x6 - 1))).f6).bind fun t3 => (X5.l1 k (x0.set ((Xa x1 (wrap64 (x6 - 1))).f2 : Int).toNat (⟨d.1, d.2.1, d.2.2⟩ : S56)) x1 x5 t3)) else (some false)))) else (none)) else (none)) else (none)) else (none)) else (X5.l0 k x0 x1 (wrap64 (x5 + 1)))
end
def X5.f (k : Nat) (l0 : List S56) (l1 : List S76) : Option Bool := X5.l0 k l0 l1 1
def X5.T8 : Bool × List (List Nat × List Nat) := (true, [([], []), ([], []), ([], []), ([], []), ([2, 3], [2, 3]), ([4], [4]), ([], []), ([], []), ([7], [7]), ([6, 8], [6, 8]), ([9], [9]), ([10], [10]), ([], []), ([], []), ([12, 13], [12, 13]), ([14], [14]), ([15], [15]), ([5, 11, 16, 11], [5, 11, 16]), ([0, 1, 0, 1, 2, 3, 4, 5, 6, 7, 8, 9, 10, 11, 12, 13, 14, 15, 16, 17], [0, 1]), ([18, 17, 17, 0, 1, 2, 3, 4, 5, 6, 7, 8, 9, 10, 11, 12, 13, 14, 15, 16, 17], [17, 18])])
def X5.B8 : List Nat := [0, 0, 0, 0, 12, 28, 0, 0, 128, 448, 960, 1984, 0, 0, 12288, 28672, 61440, 131068, 262143, 524287]
theorem X5.Xfo : JH .any (opsOf Tryz.f45 8) = X5.T8 := by kernel_rfl
theorem X5.BS : Z4 X5.T8.2 X5.B8 = true := by kernel_rfl
theorem XuN {Z : Act → World → Prop} {a : Act} {w : World} (F : World → Prop) (hF : F w) (h : ∀ w', F w' → Z a w') : Z a w := h w hF
set_option maxHeartbeats 8000000 in
set_option maxRecDepth 100000 in
theorem X5.to (k : Nat) (P : Nat → Prop) (A0 : Option Addr) (c0 : Nat) (l0 : List S56) (A1 : Option Addr) (c1 : Nat) (l1 : List S76) (r : Bool) (w0 w : World) (hB : Below w0.heap.size w0 w) (hr0 : Kd.R k56 56 w w0.heap.size P (.slice A0 l0.length c0) l0) (hr1 : Kd.C k76 w0 A1 l1.length l1) (hc1 : l1.length ≤ c1) (h : X5.f k l0 l1 = some r) :
 Calls Tryz.prog 45 #[.slice A0 l0.length c0, .slice A1 l1.length c1] w fun e w' => e = .returned (.bool r) ∧ Below w0.heap.size w0 w' ∧ Kept w w' P := by
 have hu41 := Tryz.underlying76; have hu25 := Tryz.underlying56; have R0 := zz (Kd.XZ hr0 (ok' := fun j => P j ∨ w.heap.size ≤ j) (fun j hj => .inl hj)); have HR1 := zz hr1; have HC1 := zz hc1; have LB0 := zz hB; have LK0 := zz (Kept.refl w P); have H := zz (show X5.l0 k l0 l1 1 = some r from h); clear hr0 hr1 hc1 hB h
 go_enter Tryz.func45, Tryz.ntmps45
 go_wp2
 go_loopg [5] k (fun kq v5 w' => ∃ (x0 : List S56) (x5 : Int), v5 = .int .i64 x5 ∧ Aside0 (X5.l0 kq x0 l1 x5 = some r) ∧ Aside0 (kq ≤ k) ∧ Aside0 (x0.length = l0.length) ∧ Aside0 (Kd.R k56 56 w' w0.heap.size (fun j => P j ∨ w.heap.size ≤ j) (.slice A0 l0.length c0) x0) ∧ Aside0 (Below w0.heap.size w0 w') ∧ Aside0 (Kept w w' P))
 case atStart => exact ⟨l0, 1, rfl, H, ⟨Nat.le_refl _⟩, ⟨rfl⟩, R0, LB0, LK0⟩
 case round =>
  clear H R0 LB0 LK0; obtain ⟨x0, x5, rfl, HA, HK1, HL, R0, LB0, LK0⟩ := hrel
  cases gk with
  | zero => exact absurd HA.out (by simp [X5.l0])
  | succ k1 =>
   have h := HA.out; clear HA; simp only [X5.l0] at h
   by_cases q : x5 ≤ 3
   rotate_left
   ·rw [if_neg q] at h
    have qb := decide_eq_false q; clear q; obtain rfl := Option.some.inj h
    go_wp2
    go_ret
    exact ⟨rfl, LB0.out, LK0.out⟩
   rw [if_pos q] at h; have qb := decide_eq_true q; replace h := Option.bind_eq_some_iff.mp h; obtain ⟨t1, h1, h⟩ := h; replace h := Option.bind_eq_some_iff.mp h; obtain ⟨t2, h2, h⟩ := h; have A1_ := zz h1; have A2_ := zz h2; have H := zz h; clear h1 h2 h q
   go_wp2_with fail
   refine (Yr.calls k1 A1 c1 l1 x5 t1 _ (Kd.Xg HR1.out LB0.out) HC1.out A1_.out).mono ?_; rintro e w1 ⟨rfl, nd, hw⟩
   have hb : Below wr.heap.size wr w1 := by rw [hw]; exact XN (Below.refl _ _) nd
   have R1 := zz (Kd.Xr R0.out hb); have LB1 := zz (Xc LB0.out hb); have LK1 := zz (LK0.out.below hb); clear hb hw nd R0 LB0 LK0
   go_wp2_with fail
   refine (XD.calls k1 A1 c1 l1 t1 t2 _ (Kd.Xg HR1.out LB1.out) HC1.out A2_.out).mono ?_; rintro e w2 ⟨rfl, hb⟩; have R2 := zz (Kd.Xr R1.out hb); have LB2 := zz (Xc LB1.out hb); have LK2 := zz (LK1.out.below hb); clear hb R1 LB1 LK1 A1_ A2_
   go_wp2
   go_loopg [6] k1 (fun kq v6 w' => ∃ (x0 : List S56) (x6 : Int), v6 = .int .i64 x6 ∧ Aside0 (X5.l1 kq x0 l1 x5 x6 = some r) ∧ Aside0 (kq ≤ k1) ∧ Aside0 (x0.length = l0.length) ∧ Aside0 (Kd.R k56 56 w' w0.heap.size (fun j => P j ∨ w.heap.size ≤ j) (.slice A0 l0.length c0) x0) ∧ Aside0 (Below w0.heap.size w0 w') ∧ Aside0 (Kept w w' P))
   case atStart => exact ⟨x0, t2, rfl, H, ⟨Nat.le_refl _⟩, HL, R2, LB2, LK2⟩
   case round =>
    clear H R2 LB2 LK2 HL; obtain ⟨x0, x6, rfl, HA, HK2, HL, R0, LB0, LK0⟩ := hrel
    cases gk with
    | zero => exact absurd HA.out (by simp [X5.l1])
    | succ k2 =>
     have h := HA.out; clear HA; simp only [X5.l1] at h
     by_cases q : x6 > 0
     rotate_left
     ·rw [if_neg q] at h
      have qc : decide (0 < x6) = false := decide_eq_false q; clear q; have H := zz h; clear h
      go_wp2
      go_roundg k2
      case measure => have := HK1.out; have := HK2.out; omega
      case rel => exact ⟨x0, _, rfl, ⟨(Xz (x5 + 1)).symm ▸ H.out⟩, ⟨zb65⟩, HL, R0, LB0, LK0⟩
     rw [if_pos q] at h; have qc : decide (0 < x6) = true := decide_eq_true q; clear q
     by_cases q0 : 0 ≤ (wrap64 (x6 - 1))
     rotate_left
     ·rw [if_neg q0] at h
      exact absurd h (by simp)
     rw [if_pos q0] at h
     by_cases q1 : (wrap64 (x6 - 1)) < (l1.length : Int)
     rotate_left
     ·rw [if_neg q1] at h
      exact absurd h (by simp)
     rw [if_pos q1] at h
     by_cases q2 : 0 ≤ (Xa l1 (wrap64 (x6 - 1))).f2
     rotate_left
     ·rw [if_neg q2] at h
      exact absurd h (by simp)
     rw [if_pos q2] at h
     by_cases q3 : (Xa l1 (wrap64 (x6 - 1))).f2 < (x0.length : Int)
     rotate_left
     ·rw [if_neg q3] at h
      exact absurd h (by simp)
     rw [if_pos q3] at h
     obtain ⟨x9, hx9⟩ : ∃ x9, wrap64 (x6 - 1) = x9 := ⟨_, rfl⟩
     have hx9w : IntKind.i64.wrap (x6 - 1) = x9 := (Xz _).trans hx9; simp only [hx9] at h q0 q1 q2 q3; replace h := Option.bind_eq_some_iff.mp h; obtain ⟨⟨d0, d1, d2⟩, hd, h⟩ := h; replace h := Option.bind_eq_some_iff.mp h; obtain ⟨ok, hok, h⟩ := h; have AD := zz hd; have AO := zz hok; have H := zz h; obtain ⟨A9, e9, u0, u1, u2, u3, u4, u5, u6, u7⟩ := Ym (Kd.Xg HR1.out LB0.out) x9 q0 q1; subst e9; have p0 := eq_true q0; have p1 := eq_true q1; have Q0 := zz q0; have Q1 := zz q1; have hlen := HL.out; obtain ⟨gm, cm, em, hgmb, hgml, hgmt⟩ := Kd.NB R0.out (by omega)
     injection em with em1 em2 em3
     subst em1 em3; clear em2 hgmt
     have q1t : (Xa l1 x9).f2 < (l0.length : Int) := by omega
     have p2 := eq_true q2; have p3 := eq_true q1t; have Q2 := zz q2; have Q3 := zz q1t; clear hd hok h q0 q1 q2 q3 q1t hlen
     go_wp2_with fail
     clear u0 u1 u2 u3 u4 u5 u6 u7; have R4 := zz (Kd.YC R0.out); have LB4 := zz (Jh LB0.out); have LK4 := zz (Kept.drew LK0.out); clear R0 LB0 LK0; obtain ⟨A8, e8, u0, u1, u2, u3, u4, u5, u6, u7⟩ := Ym (Kd.Xg HR1.out LB4.out) x9 Q0.out Q1.out
     injection e8 with e8
     subst e8; obtain ⟨ce, hcl, hM, hcc, hfr⟩ := Kd.DW R4.out z56 (Xa l1 x9).f2 Q2.out Q3.out; obtain ⟨v7, rfl, hR7⟩ := Jc hM; obtain ⟨A7, c7, e7⟩ := Kd.Y2 hR7
     change v7 = .slice A7 (Xb x0 (Xa l1 x9).f2).f2.length c7 at e7
     subst e7; have g0 : wr.drew.cell? ⟨gm, ((Xa l1 x9).f2 : Int).toNat * 3, none⟩ = some (.int .i64 (Xb x0 (Xa l1 x9).f2).f0) := hcc 0 _ rfl; have g1 : wr.drew.cell? ⟨gm, ((Xa l1 x9).f2 : Int).toNat * 3 + 1, none⟩ = some (.int .i64 (Xb x0 (Xa l1 x9).f2).f1) := hcc 1 _ rfl; have g2 : wr.drew.cell? ⟨gm, ((Xa l1 x9).f2 : Int).toNat * 3 + 2, none⟩ = some (.slice A7 (Xb x0 (Xa l1 x9).f2).f2.length c7) := hcc 2 _ rfl; have R7 := zz (show Kd.R (Kd.int .i64) 3 wr.drew w0.heap.size _ (.slice A7 (Xb x0 (Xa l1 x9).f2).f2.length c7) (Xb x0 (Xa l1 x9).f2).f2 from hR7); clear hcl hM hcc hfr hR7; refine Yw (n := 20) (S := fun w' => w'.cell? (A9.add (x9.toNat * 8)) = some (.int .i64 (Xa l1 x9).f0) ∧ w'.cell? ⟨(A9.add (x9.toNat * 8)).block, (A9.add (x9.toNat * 8)).off + 1, none⟩ = some (.int .i64 (Xa l1 x9).f1) ∧ w'.cell? ⟨(A9.add (x9.toNat * 8)).block, (A9.add (x9.toNat * 8)).off + 2, none⟩ = some (.int .i64 (Xa l1 x9).f2) ∧ w'.cell? ⟨(A9.add (x9.toNat * 8)).block, (A9.add (x9.toNat * 8)).off + 3, none⟩ = some (.int .i64 (Xa l1 x9).f3) ∧ w'.cell? ⟨(A9.add (x9.toNat * 8)).block, (A9.add (x9.toNat * 8)).off + 4, none⟩ = some (.int .i64 (Xa l1 x9).f4) ∧ w'.cell? ⟨(A9.add (x9.toNat * 8)).block, (A9.add (x9.toNat * 8)).off + 5, none⟩ = some (.int .i64 (Xa l1 x9).f5) ∧ w'.cell? ⟨(A9.add (x9.toNat * 8)).block, (A9.add (x9.toNat * 8)).off + 6, none⟩ = some (.int .i64 (Xa l1 x9).f6) ∧ w'.cell? ⟨(A9.add (x9.toNat * 8)).block, (A9.add (x9.toNat * 8)).off + 7, none⟩ = some (.int .i64 (Xa l1 x9).f7) ∧ w'.cell? ⟨gm, ((Xa l1 x9).f2 : Int).toNat * 3, none⟩ = some (.int .i64 (Xb x0 (Xa l1 x9).f2).f0) ∧ w'.cell? ⟨gm, ((Xa l1 x9).f2 : Int).toNat * 3 + 1, none⟩ = some (.int .i64 (Xb x0 (Xa l1 x9).f2).f1) ∧ w'.cell? ⟨gm, ((Xa l1 x9).f2 : Int).toNat * 3 + 2, none⟩ = some (.slice A7 (Xb x0 (Xa l1 x9).f2).f2.length c7)) (ds := [19]) XuD zb6 rfl rfl ⟨u0, u1, u2, u3, u4, u5, u6, u7, g0, g1, g2⟩ (fun hHeld => ?_); refine XH X5.Xfo X5.BS (fun HT_ HW_ => ?_)
     generalize wr.drew = w4 at R4 LB4 LK4 u0 u1 u2 u3 u4 u5 u6 u7 g0 g1 g2 R7 hHeld ⊢; refine pu 0 33 XuE HT_ ?_; refine pu 1 34 XuF HT_ ?_; refine pu 2 35 XuG HT_ ?_; refine pu 3 36 XuH HT_ ?_; refine pu 4 37 XuI HT_ ?_; refine pu 6 39 XuJ HT_ ?_; refine pu 7 40 XuK HT_ ?_; refine pu 8 41 XuL HT_ ?_; refine pu 9 42 XuM HT_ ?_; refine pu 12 45 XrA HT_ ?_; refine pu 13 46 XrB HT_ ?_; refine pu 14 47 XrC HT_ ?_; refine pu 15 48 XrD HT_ ?_; refine tk 5 38 XrE HT_ HW_ hHeld ?_; refine tk 10 43 XrF HT_ HW_ hHeld ?_; refine tk 16 49 XrG HT_ HW_ hHeld ?_; refine Zj (i := 11) (N := some 44) XrH rfl rfl (Yl HT_.out zb6) (by decide) (fun K hK => ?_); refine YI Tryz.func74 zb6 rfl #[.agg #[.int .i64 (Xa l1 x9).f0, .int .i64 (Xa l1 x9).f1, .int .i64 (Xa l1 x9).f2, .int .i64 (Xa l1 x9).f3, .int .i64 (Xa l1 x9).f4, .int .i64 (Xa l1 x9).f5, .int .i64 (Xa l1 x9).f6, .int .i64 (Xa l1 x9).f7], .int .i64 0] (by rfl) rfl rfl zb2 ?_
     with_reducible refine (NQ.calls (Xa l1 x9).f0 (Xa l1 x9).f1 (Xa l1 x9).f2 (Xa l1 x9).f3 (Xa l1 x9).f4 (Xa l1 x9).f5 (Xa l1 x9).f6 (Xa l1 x9).f7 0 6 (Xa l1 x9).f1 (Xa l1 x9).f2 (Xa l1 x9).f3 0 (Xa l1 x9).f4 0 (Xa l1 x9).f6 _ rfl).mono ?_
     rintro e w5 ⟨rfl, hb⟩; refine ⟨_, rfl, ?_⟩; have hgm4 : gm < w4.heap.size := Kd.N7 R4.out gm rfl; have hA4 := World.block_lt_of_cell? w4 _ u0; have n0 := (hb.cell zb41).trans u0; have n1 := (hb.cell zb41).trans u1; have n2 := (hb.cell zb41).trans u2; have n3 := (hb.cell zb41).trans u3; have n4 := (hb.cell zb41).trans u4; have n5 := (hb.cell zb41).trans u5; have n6 := (hb.cell zb41).trans u6; have n7 := (hb.cell zb41).trans u7; have n8 := (hb.cell zb41).trans g0; have n9 := (hb.cell zb41).trans g1; have n10 := (hb.cell zb41).trans g2; have R5 := zz (Kd.Xr R4.out hb); have R75 := zz (Kd.Xr R7.out hb); have LB5 := zz (Xc LB4.out hb); have LK5 := zz (LK4.out.below hb); clear hb R4 LB4 LK4 R7 u0 u1 u2 u3 u4 u5 u6 u7 g0 g1 g2; refine hK.out _ _ ⟨n0, n1, n2, n3, n4, n5, n6, n7, n8, n9, n10⟩ (fun hHeld => ?_); clear hK K; refine XQ (a' := ?_) ?_ ?_; rotate_left
     ·show Act.put _ (some 44) _ = _
      simp only [Act.put, List.setIfInBounds_toArray, List.set_cons_zero, List.set_cons_succ, Xz, XF]
      rfl
     refine Zj (i := 17) (N := some 50) XrI rfl rfl (Yl HT_.out zb6) (by decide) (fun K hK => ?_); refine YI Tryz.func66 zb6 rfl #[.agg #[.int .i64 (Xb x0 (Xa l1 x9).f2).f0, .int .i64 (Xb x0 (Xa l1 x9).f2).f1, .slice A7 (Xb x0 (Xa l1 x9).f2).f2.length c7], .agg #[.int .i64 6, .int .i64 (Xa l1 x9).f1, .int .i64 (Xa l1 x9).f2, .int .i64 (Xa l1 x9).f3, .int .i64 0, .int .i64 (Xa l1 x9).f4, .int .i64 0, .int .i64 (Xa l1 x9).f6], .int .i64 (Xb x0 (Xa l1 x9).f2).f0] (by rfl) rfl rfl zb2 ?_
     with_reducible refine (VD.calls (Xb x0 (Xa l1 x9).f2).f0 (Xb x0 (Xa l1 x9).f2).f1 A7 c7 (Xb x0 (Xa l1 x9).f2).f2 6 (Xa l1 x9).f1 (Xa l1 x9).f2 (Xa l1 x9).f3 0 (Xa l1 x9).f4 0 (Xa l1 x9).f6 (Xb x0 (Xa l1 x9).f2).f0 d0 d1 d2 _ (Kd.X6 R75.out).2.2 (Kd.X6 R75.out).2.1 AD.out).mono ?_
     rintro e w6 ⟨v6, rfl, ho, hb⟩; refine ⟨_, rfl, ?_⟩; have hgm4 : gm < w5.heap.size := Kd.N7 R5.out gm rfl; have hA4 := World.block_lt_of_cell? w5 _ n0; have m0 := (hb.cell zb41).trans n0; have m1 := (hb.cell zb41).trans n1; have m2 := (hb.cell zb41).trans n2; have m3 := (hb.cell zb41).trans n3; have m4 := (hb.cell zb41).trans n4; have m5 := (hb.cell zb41).trans n5; have m6 := (hb.cell zb41).trans n6; have m7 := (hb.cell zb41).trans n7; have m8 := (hb.cell zb41).trans n8; have m9 := (hb.cell zb41).trans n9; have m10 := (hb.cell zb41).trans n10; have R6 := zz (Kd.Xr R5.out hb); have LB6 := zz (Xc LB5.out hb); have LK6 := zz (LK5.out.below hb); have RV := zz (Kd.ZQ ho); have hb4 := zz LB5.out.size; have hb5 := zz LK5.out.1; obtain ⟨A6, c6, e6⟩ := Kd.Y2 ho; subst e6; clear ho hb R5 LB5 LK5 R75 n0 n1 n2 n3 n4 n5 n6 n7 n8 n9 n10; obtain ⟨ce, hcl, hM, hcc, hfr⟩ := Kd.DW R6.out z56 (Xa l1 x9).f2 Q2.out Q3.out; obtain ⟨v8, rfl, hR8⟩ := Jc hM; have hx0 : w6.cell? ⟨gm, ((Xa l1 x9).f2 : Int).toNat * 3, none⟩ = some (.int .i64 (Xb x0 (Xa l1 x9).f2).f0) := hcc 0 _ rfl; have hx1 : w6.cell? ⟨gm, ((Xa l1 x9).f2 : Int).toNat * 3 + 1, none⟩ = some (.int .i64 (Xb x0 (Xa l1 x9).f2).f1) := hcc 1 _ rfl; have hx2 : w6.cell? ⟨gm, ((Xa l1 x9).f2 : Int).toNat * 3 + 2, none⟩ = some v8 := hcc 2 _ rfl; have hf0 : w6.frozen? ⟨gm, ((Xa l1 x9).f2 : Int).toNat * 3, none⟩ = false := hfr 0; have hf1 : w6.frozen? ⟨gm, ((Xa l1 x9).f2 : Int).toNat * 3 + 1, none⟩ = false := hfr 1; have hf2 : w6.frozen? ⟨gm, ((Xa l1 x9).f2 : Int).toNat * 3 + 2, none⟩ = false := hfr 2
     have HPg := R6.out.1 gm rfl; have HP := Kd.Qq R6.out (Xa l1 x9).f2 Q2.out Q3.out (seg := [.int .i64 d0, .int .i64 d1, .slice A6 d2.length c6]) (j := 0) (okp := fun j => w5.heap.size ≤ j) hcl hcc (show 3 ≤ 3 from by decide) (x' := (⟨d0, d1, d2⟩ : S56)) (Ul _ _ _ (⟨d0, d1, d2⟩ : S56) (Kd.XZ (Kd.YY RV.out hb4.out) (fun j hj => hj.2.1))) (fun j hj => ⟨.inr (Nat.le_trans hb5.out hj), by have := hgm4; omega⟩); have HQ := zz HP.1; have HG := zz HPg; clear hcl hM hcc hfr HP hR8 HPg; refine hK.out _ _ ⟨m0, m1, m2, m3, m4, m5, m6, m7, m8, m9, m10⟩ (fun hHeld => ?_); clear hK K; refine XQ (a' := ?_) ?_ ?_; rotate_left
     ·show Act.put _ (some 50) _ = _
      simp only [Act.put, List.setIfInBounds_toArray, List.set_cons_zero, List.set_cons_succ, Xz, XF]
      rfl
     refine pu 18 51 XrJ HT_ ?_; refine Xjp (i := 19) (N := none) XrK rfl rfl (Yl HT_.out zb6) (by decide) (fun K hK => ?_); refine SX (w1 := ?_) (by rfl) rfl ?_ ?_; rotate_left
     ·go_simp
      rfl
     refine hK.out _ _ ?_; clear hK K; refine YX (YA HT_.out zb6) ?_; refine XuN (fun w' => Kd.R k56 56 w' w0.heap.size (fun j => P j ∨ w.heap.size ≤ j) (.slice (some ⟨gm, 0, none⟩) l0.length c0) (x0.set ((Xa l1 x9).f2 : Int).toNat (⟨d0, d1, d2⟩ : S56)) ∧ Below w0.heap.size w0 w' ∧ Kept w w' P) ⟨HQ.out, Xq (Xq (Xq LB6.out hgmb) hgmb) hgmb, ((LK6.out.setCell (p := ⟨gm, ((Xa l1 x9).f2 : Int).toNat * 3, none⟩) HG.out _).setCell (p := ⟨gm, ((Xa l1 x9).f2 : Int).toNat * 3 + 1, none⟩) HG.out _).setCell (p := ⟨gm, ((Xa l1 x9).f2 : Int).toNat * 3 + 2, none⟩) HG.out _⟩ ?_; clear HQ R6 LB6 LK6 RV m0 m1 m2 m3 m4 m5 m6 m7 m8 m9 m10 hx0 hx1 hx2 hf0 hf1 hf2 hHeld; rintro w7 ⟨hR7, hLB7, hLK7⟩; have R7 := zz hR7; have LB7 := zz hLB7; have LK7 := zz hLK7; clear hR7 hLB7 hLK7
     obtain ⟨y0, hy0⟩ : ∃ y0, (x0.set ((Xa l1 x9).f2 : Int).toNat (⟨d0, d1, d2⟩ : S56)) = y0 := ⟨_, rfl⟩
     have HL7 : Aside0 (y0.length = l0.length) := ⟨by rw [← hy0]; exact (List.length_set).trans HL.out⟩
     simp only [hy0] at AO H R7; have q3y : (Xa l1 x9).f2 < (l0.length : Int) := Q3.out; obtain ⟨ce, hcl, hM, hcc, hfr⟩ := Kd.DW R7.out z56 (Xa l1 x9).f2 Q2.out q3y; obtain ⟨v7, rfl, hR7⟩ := Jc hM; obtain ⟨A7, c7, e7⟩ := Kd.Y2 hR7
     change v7 = .slice A7 (Xb y0 (Xa l1 x9).f2).f2.length c7 at e7
     subst e7; have g0 : w7.cell? ⟨gm, ((Xa l1 x9).f2 : Int).toNat * 3, none⟩ = some (.int .i64 (Xb y0 (Xa l1 x9).f2).f0) := hcc 0 _ rfl; have g1 : w7.cell? ⟨gm, ((Xa l1 x9).f2 : Int).toNat * 3 + 1, none⟩ = some (.int .i64 (Xb y0 (Xa l1 x9).f2).f1) := hcc 1 _ rfl; have g2 : w7.cell? ⟨gm, ((Xa l1 x9).f2 : Int).toNat * 3 + 2, none⟩ = some (.slice A7 (Xb y0 (Xa l1 x9).f2).f2.length c7) := hcc 2 _ rfl; have RV := zz (show Kd.R (Kd.int .i64) 3 w7 w0.heap.size _ (.slice A7 (Xb y0 (Xa l1 x9).f2).f2.length c7) (Xb y0 (Xa l1 x9).f2).f2 from hR7); clear hcl hM hcc hfr hR7
     go_wp2_with fail
     refine (XC.calls k2 (Xb y0 (Xa l1 x9).f2).f0 (Xb y0 (Xa l1 x9).f2).f1 A7 c7 (Xb y0 (Xa l1 x9).f2).f2 ok _ (Kd.X6 RV.out).2.2 (Kd.X6 RV.out).2.1 AO.out).mono ?_; rintro e w8 ⟨rfl, hb⟩; have R8 := zz (Kd.Xr R7.out hb); have LB8 := zz (Xc LB7.out hb); have LK8 := zz (LK7.out.below hb); clear hb R7 LB7 LK7 RV g0 g1 g2; have h := H.out; clear H
     cases ok with
     | false =>
      simp only [Bool.false_eq_true, if_false] at h; obtain rfl := Option.some.inj h
      go_wp2
      go_ret
      exact ⟨rfl, LB8.out, LK8.out⟩
     | true =>
      simp only [if_true] at h; replace h := Option.bind_eq_some_iff.mp h; obtain ⟨t3, h3, h⟩ := h; have A3_ := zz h3; have H := zz h; clear h3 h; obtain ⟨A8, e8, u0, u1, u2, u3, u4, u5, u6, u7⟩ := Ym (Kd.Xg HR1.out LB8.out) x9 Q0.out Q1.out
      injection e8 with e8
      subst e8
      go_wp2_with fail
      refine (XD.calls k2 (some A9) c1 l1 (Xa l1 x9).f6 t3 _ (Kd.Xg HR1.out LB8.out) HC1.out A3_.out).mono ?_; rintro e w9 ⟨rfl, hb⟩; have R9 := zz (Kd.Xr R8.out hb); have LB9 := zz (Xc LB8.out hb); have LK9 := zz (LK8.out.below hb); clear hb R8 LB8 LK8 u0 u1 u2 u3 u4 u5 u6 u7
      go_wp2
      go_roundg k2
      case measure => have := HK1.out; have := HK2.out; omega
      case rel => exact ⟨y0, t3, rfl, H, ⟨zb65⟩, HL7, R9, LB9, LK9⟩
end Go.Proofs.YtphnphmbfogmlaaGreat.Pr
