import Derived.Test.YtphnphmbfogmlaaGreatQFByq
import Derived.Test.YtphnphmbfogmlaaGreatQFSx
import Derived.Test.YtphnphmbfogmlaaGreatQFPrWith
import Derived.Test.YtphnphmbfogmlaaGreatQFWith
import Derived.Test.YtphnphmbfogmlaaGreatQFPrCps
import Derived.Test.YtphnphmbfogmlaaGreatQFL11R
import Derived.Test.YtphnphmbfogmlaaGreatQFPrUndo
namespace Go.Proofs.YtphnphmbfogmlaaGreat.Pr
open Go.RowKit Go.PW Go.PL Go.PM
attribute [local go_sem] Y3 Y4 YN YO Ya Yb Y5 Y6
set_option linter.unusedVariables false
set_option linter.unusedSimpArgs false
abbrev Xu4 : Array Bool := #[nn,nn,nn,nn,nn,nn,nn,nn,nn]
abbrev Xu5 : Array Bool := #[yy,nn,nn,nn,nn,nn,nn,nn,nn]
abbrev Xu6 : Array Bool := #[yy,yy,nn,nn,nn,nn,nn,nn,nn]
abbrev Xu7 : Array Bool := #[yy,yy,yy,nn,nn,nn,nn,nn,nn]
abbrev Xu8 : Array Bool := #[yy,yy,yy,yy,nn,nn,nn,nn,nn]
abbrev Xu9 : Array Bool := #[yy,yy,yy,yy,yy,nn,nn,nn,nn]
abbrev XuA : Array Bool := #[yy,yy,yy,yy,yy,yy,nn,nn,nn]
abbrev XuB : Array Bool := #[yy,yy,yy,yy,yy,yy,nn,yy,nn]
abbrev XuC : Array Bool := #[yy,yy,yy,yy,yy,yy,yy,nn,nn]
abbrev XfO : Array Bool := #[yy,yy,yy,yy,yy,yy,yy,yy,nn]
abbrev Xr8 : Array Bool := #[yy,yy,yy,yy,yy,yy,yy,yy,yy]
mutual
def XU.l0 : Nat → List S56 → List S76 → List Int → Int → Option Bool
 | 0, _, _, _, _ => none
 | k + 1, x0, x1, x12, x14 => if x14 < (x12.length : Int) then (if 0 ≤ x14 then ((Za.f k x1 (rd x12 x14)).bind fun t => (XU.l1 k x0 x1 x12 x14 t 0)) else (none)) else (some true)
def XU.l1 : Nat → List S56 → List S76 → List Int → Int → List Int → Int → Option Bool
 | 0, _, _, _, _, _, _ => none
 | k + 1, x0, x1, x12, x14, x20, x22 => if x22 < (x20.length : Int) then (if 0 ≤ x22 then (if 0 ≤ (wrap64 (rd x20 x22 - 1)) then (if (wrap64 (rd x20 x22 - 1)) < (x1.length : Int) then (if 0 ≤ (Xa x1 (wrap64 (rd x20 x22 - 1))).f2 then (if (Xa x1 (wrap64 (rd x20 x22 - 1))).f2 < (x0.length : Int) then ((Zg.f (Xb x0 (Xa x1 (wrap64 (rd x20 x22 - 1))).f2).f0 (Xb x0 (Xa x1 (wrap64 (rd x20 x22 - 1))).f2).f1 (Xb x0 (Xa x1 (wrap64 (rd x20 x22 - 1))).f2).f2 6 (Xa x1 (wrap64 (rd x20 x22 - 1))).f1 (Xa x1 (wrap64 (rd x20 x22 - 1))).f2 (Xa x1 (wrap64 (rd x20 x22 - 1))).f3 0 (Xa x1 (wrap64 (rd x20 x22 - 1))).f4 0 (Xa x1 (wrap64 (rd x20 x22 - 1))).f6).bind fun d => ((XV.f k d.1 d.2.1 d.2.2).bind fun ok => (if ok = true then (XU.l1 k (x0.set ((Xa x1 (wrap64 (rd x20 x22 - 1))).f2 : Int).toNat (⟨d.1, d.2.1, d.2.2⟩ : S56)) x1 x12 x14 x20 (wrap64 (x22 + 1))) else (some false)))) else (none)) else (none)) else (none)) else (none)) else (none)) else (XU.l0 k x0 x1 x12 (wrap64 (x14 + 1)))
end
def XU.f (k : Nat) (l0 : List S56) (l1 : List S76) : Option Bool := (Zf.f k l1).bind fun t => XU.l0 k l0 l1 t 0
theorem Xr9 {Z : Act → World → Prop} {a : Act} {w : World} (F : World → Prop) (hF : F w) (h : ∀ w', F w' → Z a w') : Z a w := h w hF
def XU.T8 : Bool × List (List Nat × List Nat) := (true, [([], []), ([], []), ([1], [1]), ([0, 2], [0, 2]), ([3], [3]), ([], []), ([4, 5], [4, 5]), ([], []), ([7, 6, 6, 0, 1, 2, 3, 4, 5, 6, 7], [6, 7])])
def XU.B8 : List Nat := [0, 0, 2, 7, 15, 0, 63, 0, 255]
theorem XU.Xfo : JH .any (opsOf Tryz.f83 8) = XU.T8 := by kernel_rfl
theorem XU.BS : Z4 XU.T8.2 XU.B8 = true := by kernel_rfl
set_option maxHeartbeats 8000000 in
set_option maxRecDepth 100000 in
theorem XU.to (k : Nat) (P : Nat → Prop) (A0 : Option Addr) (c0 : Nat) (l0 : List S56) (A1 : Option Addr) (c1 : Nat) (l1 : List S76) (r : Bool) (w0 w : World) (hB : Below w0.heap.size w0 w) (hP : ∀ j, P j → j < w.heap.size) (hr0 : Kd.R k56 56 w w0.heap.size P (.slice A0 l0.length c0) l0) (hr1 : Kd.C k76 w0 A1 l1.length l1) (hc1 : l1.length ≤ c1) (h : XU.f k l0 l1 = some r) :
 Calls Tryz.prog 83 #[.slice A0 l0.length c0, .slice A1 l1.length c1] w fun e w' => e = .returned (.bool r) ∧ Below w0.heap.size w0 w' ∧ Kept w w' P := by
 have hu41 := Tryz.underlying76; have hu25 := Tryz.underlying56; have R0 := zz (Kd.XZ hr0 (ok' := (fun j => P j ∨ w.heap.size ≤ j)) (fun j hj => .inl hj)); have HG0 := zz hr0.1; have HPl := zz hP; have HR1 := zz hr1; have HC1 := zz hc1; have LB0 := zz hB; have HZ := zz hB.size; have LK0 := zz (Kept.refl w P)
 unfold XU.f at h
 replace h := Option.bind_eq_some_iff.mp h; obtain ⟨x12, h0, h⟩ := h; have A0_ := zz h0; have H := zz h; clear hr0 hr1 hc1 hB hP h0 h
 go_enter Tryz.func83, Tryz.ntmps83
 go_wp2_with fail
 refine (Zf.calls k A1 c1 l1 x12 _ (Kd.Xg HR1.out LB0.out) HC1.out A0_.out).mono ?_; rintro e w1 ⟨v12, rfl, ho, hb⟩; obtain ⟨A12, c12, e12⟩ := Kd.Y2 ho; subst e12; have R12 := zz (show Kd.R (Kd.int .i64) 3 w1 w.heap.size (fun j => w.heap.size ≤ j) (.slice A12 x12.length c12) x12 from Kd.XZ (Kd.ZQ ho) (fun j hj => hj.2.1)); have R1 := zz (Kd.Xr R0.out hb); have LB1 := zz (Xc LB0.out hb); have LK1 := zz (LK0.out.below hb); clear hb ho R0 LB0 LK0 A0_
 go_wp2
 go_loopg [14] k (fun kq v14 w' => ∃ (x0 : List S56) (x14 : Int), v14 = .int .i64 x14 ∧ Aside0 (XU.l0 kq x0 l1 x12 x14 = some r) ∧ Aside0 (kq ≤ k) ∧ Aside0 (x0.length = l0.length) ∧ Aside0 (Kd.R k56 56 w' w0.heap.size (fun j => P j ∨ w.heap.size ≤ j) (.slice A0 l0.length c0) x0) ∧ Aside0 (Kd.R (Kd.int .i64) 3 w' w.heap.size (fun j => w.heap.size ≤ j) (.slice A12 x12.length c12) x12) ∧ Aside0 (Below w0.heap.size w0 w') ∧ Aside0 (Kept w w' P))
 case atStart => exact ⟨l0, 0, rfl, H, ⟨Nat.le_refl _⟩, ⟨rfl⟩, R1, R12, LB1, LK1⟩
 case round =>
  clear H R1 R12 LB1 LK1; obtain ⟨x0, x14, rfl, HA, HK1, HL, R0, R12, LB0, LK0⟩ := hrel
  cases gk with
  | zero => exact absurd HA.out (by simp [XU.l0])
  | succ k1 =>
   have h := HA.out; clear HA; simp only [XU.l0] at h
   by_cases q : x14 < (x12.length : Int)
   rotate_left
   ·rw [if_neg q] at h
    have qb := decide_eq_false q; clear q; obtain rfl := Option.some.inj h
    go_wp2
    go_ret
    exact ⟨rfl, LB0.out, LK0.out⟩
   rw [if_pos q] at h
   by_cases q0 : 0 ≤ x14
   rotate_left
   ·rw [if_neg q0] at h
    exact absurd h (by simp)
   rw [if_pos q0] at h; replace h := Option.bind_eq_some_iff.mp h; obtain ⟨x20, h1, h⟩ := h; have A1_ := zz h1; have H := zz h; obtain ⟨ad, e9, hx⟩ := Kd.Jn (Kd.X6 R12.out).2.2 x14 q0 q; subst e9; have p0 := eq_true q0; have p1 := eq_true q; clear h1 h q q0
   go_wp2_with fail
   refine (Za.calls k1 A1 c1 l1 (rd x12 x14) x20 _ (Kd.Xg HR1.out LB0.out) HC1.out A1_.out).mono ?_; rintro e w2 ⟨v20, rfl, ho, hb⟩; obtain ⟨A20, c20, e20⟩ := Kd.Y2 ho; subst e20; have R20 := zz (show Kd.R (Kd.int .i64) 3 w2 w.heap.size (fun j => w.heap.size ≤ j) (.slice A20 x20.length c20) x20 from Kd.XZ (Kd.YY (Kd.ZQ ho) LK0.out.1) (fun j hj => Nat.le_trans LK0.out.1 hj.2.1)); have R2 := zz (Kd.Xr R0.out hb); have R122 := zz (Kd.Xr R12.out hb); have LB2 := zz (Xc LB0.out hb); have LK2 := zz (LK0.out.below hb); clear hb ho R0 R12 LB0 LK0 A1_ hx
   go_wp2
   go_loopg [22] k1 (fun kq v22 w' => ∃ (x0 : List S56) (x22 : Int), v22 = .int .i64 x22 ∧ Aside0 (XU.l1 kq x0 l1 x12 x14 x20 x22 = some r) ∧ Aside0 (kq ≤ k1) ∧ Aside0 (x0.length = l0.length) ∧ Aside0 (Kd.R k56 56 w' w0.heap.size (fun j => P j ∨ w.heap.size ≤ j) (.slice A0 l0.length c0) x0) ∧ Aside0 (Kd.R (Kd.int .i64) 3 w' w.heap.size (fun j => w.heap.size ≤ j) (.slice (some ad) x12.length c12) x12) ∧ Aside0 (Kd.R (Kd.int .i64) 3 w' w.heap.size (fun j => w.heap.size ≤ j) (.slice A20 x20.length c20) x20) ∧ Aside0 (Below w0.heap.size w0 w') ∧ Aside0 (Kept w w' P))
   case atStart => exact ⟨x0, 0, rfl, H, ⟨Nat.le_refl _⟩, HL, R2, R122, R20, LB2, LK2⟩
   case round =>
    clear H R2 R122 R20 LB2 LK2 HL p0 p1; obtain ⟨x0, x22, rfl, HA, HK2, HL, R0, R12, R20, LB0, LK0⟩ := hrel
    cases gk with
    | zero => exact absurd HA.out (by simp [XU.l1])
    | succ k2 =>
     have h := HA.out; clear HA; simp only [XU.l1] at h
     by_cases q : x22 < (x20.length : Int)
     rotate_left
     ·rw [if_neg q] at h
      have qc : decide (x22 < (x20.length : Int)) = false := decide_eq_false q; clear q; have H := zz h; clear h
      go_wp2
      go_roundg k2
      case measure => have := HK1.out; have := HK2.out; omega
      case rel => exact ⟨x0, _, rfl, ⟨(Xz (x14 + 1)).symm ▸ H.out⟩, ⟨zb65⟩, HL, R0, R12, LB0, LK0⟩
     rw [if_pos q] at h
     by_cases q5 : 0 ≤ x22
     rotate_left
     ·rw [if_neg q5] at h
      exact absurd h (by simp)
     rw [if_pos q5] at h
     by_cases q0 : 0 ≤ (wrap64 (rd x20 x22 - 1))
     rotate_left
     ·rw [if_neg q0] at h
      exact absurd h (by simp)
     rw [if_pos q0] at h
     by_cases q1 : (wrap64 (rd x20 x22 - 1)) < (l1.length : Int)
     rotate_left
     ·rw [if_neg q1] at h
      exact absurd h (by simp)
     rw [if_pos q1] at h
     by_cases q2 : 0 ≤ (Xa l1 (wrap64 (rd x20 x22 - 1))).f2
     rotate_left
     ·rw [if_neg q2] at h
      exact absurd h (by simp)
     rw [if_pos q2] at h
     by_cases q3 : (Xa l1 (wrap64 (rd x20 x22 - 1))).f2 < (x0.length : Int)
     rotate_left
     ·rw [if_neg q3] at h
      exact absurd h (by simp)
     rw [if_pos q3] at h
     obtain ⟨x9, hx9⟩ : ∃ x9, wrap64 (rd x20 x22 - 1) = x9 := ⟨_, rfl⟩
     have hx9w : IntKind.i64.wrap (rd x20 x22 - 1) = x9 := (Xz _).trans hx9; simp only [hx9] at h q0 q1 q2 q3; replace h := Option.bind_eq_some_iff.mp h; obtain ⟨⟨d0, d1, d2⟩, hd, h⟩ := h; replace h := Option.bind_eq_some_iff.mp h; obtain ⟨ok, hok, h⟩ := h; have AD := zz hd; have AO := zz hok; have H := zz h; obtain ⟨ad2, e8, hx⟩ := Kd.Jn (Kd.X6 R20.out).2.2 x22 q5 q; subst e8; obtain ⟨A9, e9, u0, u1, u2, u3, u4, u5, u6, u7⟩ := Ym (Kd.Xg HR1.out LB0.out) x9 q0 q1; subst e9; have p4 := eq_true q5; have p5 := eq_true q; have p0 := eq_true q0; have p1 := eq_true q1; have hlen := HL.out; obtain ⟨gm, cm, em, hgmb, hgml, hgmt⟩ := Kd.NB R0.out (by omega)
     injection em with em1 em2 em3
     subst em1 em3; clear em2 hgmt; have HG := zz (HG0.out gm rfl); have hgmw := zz (HPl.out gm HG.out)
     have q1t : (Xa l1 x9).f2 < (l0.length : Int) := by omega
     have p2 := eq_true q2; have p3 := eq_true q1t; have Q2 := zz q2; have Q3 := zz q1t; clear hd hok h q q0 q1 q2 q3 q5 q1t hlen
     go_wp2_with fail
     refine (Ma.calls (Xa l1 x9).f0 (Xa l1 x9).f1 (Xa l1 x9).f2 (Xa l1 x9).f3 (Xa l1 x9).f4 (Xa l1 x9).f5 (Xa l1 x9).f6 (Xa l1 x9).f7 0 6 (Xa l1 x9).f1 (Xa l1 x9).f2 (Xa l1 x9).f3 0 (Xa l1 x9).f4 0 (Xa l1 x9).f6 _ rfl).mono ?_; rintro e w3 ⟨rfl, hb⟩; have R3 := zz (Kd.Xr R0.out hb); have R123 := zz (Kd.Xr R12.out hb); have R203 := zz (Kd.Xr R20.out hb); have LB3 := zz (Xc LB0.out hb); have LK3 := zz (LK0.out.below hb); clear hb R0 R12 R20 LB0 LK0 u0 u1 u2 u3 u4 u5 u6 u7 hx
     go_wp2_with fail
     have ba4 : Below w3.heap.size w3 (w3.alloc (.cells #[.int .i64 6, .int .i64 (Xa l1 x9).f1, .int .i64 (Xa l1 x9).f2, .int .i64 (Xa l1 x9).f3, .int .i64 0, .int .i64 (Xa l1 x9).f4, .int .i64 0, .int .i64 (Xa l1 x9).f6] 76)).drew := Xx (Xj (Below.refl _ _) _)
     have BK4 : Aside0 ((w3.alloc (.cells #[.int .i64 6, .int .i64 (Xa l1 x9).f1, .int .i64 (Xa l1 x9).f2, .int .i64 (Xa l1 x9).f3, .int .i64 0, .int .i64 (Xa l1 x9).f4, .int .i64 0, .int .i64 (Xa l1 x9).f6] 76)).drew.heap[w3.heap.size]? = some (.cells #[.int .i64 6, .int .i64 (Xa l1 x9).f1, .int .i64 (Xa l1 x9).f2, .int .i64 (Xa l1 x9).f3, .int .i64 0, .int .i64 (Xa l1 x9).f4, .int .i64 0, .int .i64 (Xa l1 x9).f6] 76 (0, 0))) := ⟨XB (Jq _ _)⟩
     have R4 := zz (Kd.XZ (Kd.ZQ (Kd.Xr R3.out ba4)) (ok' := fun j => (P j ∨ w.heap.size ≤ j) ∧ j < (w3.alloc (.cells #[.int .i64 6, .int .i64 (Xa l1 x9).f1, .int .i64 (Xa l1 x9).f2, .int .i64 (Xa l1 x9).f3, .int .i64 0, .int .i64 (Xa l1 x9).f4, .int .i64 0, .int .i64 (Xa l1 x9).f6] 76)).drew.heap.size) (fun j hj => ⟨hj.1, hj.2.2.1⟩)); have R124 := zz (Kd.Xr R123.out ba4); have R204 := zz (Kd.Xr R203.out ba4); have LB4 := zz (Xc LB3.out ba4); have LK4 := zz (LK3.out.below ba4); have hg9 := zz LK3.out.1
     obtain ⟨g9, hg9e⟩ : ∃ g9, w3.heap.size = g9 := ⟨_, rfl⟩
     simp only [hg9e] at BK4 hg9 ⊢; clear ba4 R3 R123 R203 LB3 LK3; obtain ⟨ce, hcl, hM, hcc, hfr⟩ := Kd.DW R4.out z56 (Xa l1 x9).f2 Q2.out Q3.out; obtain ⟨v7, rfl, hR7⟩ := Jc hM; obtain ⟨A7, c7, e7⟩ := Kd.Y2 hR7
     change v7 = .slice A7 (Xb x0 (Xa l1 x9).f2).f2.length c7 at e7
     subst e7; have g0 : (w3.alloc (.cells #[.int .i64 6, .int .i64 (Xa l1 x9).f1, .int .i64 (Xa l1 x9).f2, .int .i64 (Xa l1 x9).f3, .int .i64 0, .int .i64 (Xa l1 x9).f4, .int .i64 0, .int .i64 (Xa l1 x9).f6] 76)).drew.cell? ⟨gm, ((Xa l1 x9).f2 : Int).toNat * 3, none⟩ = some (.int .i64 (Xb x0 (Xa l1 x9).f2).f0) := hcc 0 _ rfl; have g1 : (w3.alloc (.cells #[.int .i64 6, .int .i64 (Xa l1 x9).f1, .int .i64 (Xa l1 x9).f2, .int .i64 (Xa l1 x9).f3, .int .i64 0, .int .i64 (Xa l1 x9).f4, .int .i64 0, .int .i64 (Xa l1 x9).f6] 76)).drew.cell? ⟨gm, ((Xa l1 x9).f2 : Int).toNat * 3 + 1, none⟩ = some (.int .i64 (Xb x0 (Xa l1 x9).f2).f1) := hcc 1 _ rfl; have g2 : (w3.alloc (.cells #[.int .i64 6, .int .i64 (Xa l1 x9).f1, .int .i64 (Xa l1 x9).f2, .int .i64 (Xa l1 x9).f3, .int .i64 0, .int .i64 (Xa l1 x9).f4, .int .i64 0, .int .i64 (Xa l1 x9).f6] 76)).drew.cell? ⟨gm, ((Xa l1 x9).f2 : Int).toNat * 3 + 2, none⟩ = some (.slice A7 (Xb x0 (Xa l1 x9).f2).f2.length c7) := hcc 2 _ rfl; have R7 := zz (show Kd.R (Kd.int .i64) 3 (w3.alloc (.cells #[.int .i64 6, .int .i64 (Xa l1 x9).f1, .int .i64 (Xa l1 x9).f2, .int .i64 (Xa l1 x9).f3, .int .i64 0, .int .i64 (Xa l1 x9).f4, .int .i64 0, .int .i64 (Xa l1 x9).f6] 76)).drew w0.heap.size _ (.slice A7 (Xb x0 (Xa l1 x9).f2).f2.length c7) (Xb x0 (Xa l1 x9).f2).f2 from hR7); clear hcl hM hcc hfr hR7; have hn4 := zz (show g9 < (w3.alloc (.cells #[.int .i64 6, .int .i64 (Xa l1 x9).f1, .int .i64 (Xa l1 x9).f2, .int .i64 (Xa l1 x9).f3, .int .i64 0, .int .i64 (Xa l1 x9).f4, .int .i64 0, .int .i64 (Xa l1 x9).f6] 76)).drew.heap.size from Z5 BK4.out)
     refine Yw (n := 9) (S := fun w' => w'.cell? ⟨g9, 0, none⟩ = some (.int .i64 6) ∧ w'.cell? ⟨g9, 1, none⟩ = some (.int .i64 (Xa l1 x9).f1) ∧ w'.cell? ⟨g9, 2, none⟩ = some (.int .i64 (Xa l1 x9).f2) ∧ w'.cell? ⟨g9, 3, none⟩ = some (.int .i64 (Xa l1 x9).f3) ∧ w'.cell? ⟨g9, 4, none⟩ = some (.int .i64 0) ∧ w'.cell? ⟨g9, 5, none⟩ = some (.int .i64 (Xa l1 x9).f4) ∧ w'.cell? ⟨g9, 6, none⟩ = some (.int .i64 0) ∧ w'.cell? ⟨g9, 7, none⟩ = some (.int .i64 (Xa l1 x9).f6) ∧ w'.cell? ⟨gm, ((Xa l1 x9).f2 : Int).toNat * 3, none⟩ = some (.int .i64 (Xb x0 (Xa l1 x9).f2).f0) ∧ w'.cell? ⟨gm, ((Xa l1 x9).f2 : Int).toNat * 3 + 1, none⟩ = some (.int .i64 (Xb x0 (Xa l1 x9).f2).f1) ∧ w'.cell? ⟨gm, ((Xa l1 x9).f2 : Int).toNat * 3 + 2, none⟩ = some (.slice A7 (Xb x0 (Xa l1 x9).f2).f2.length c7)) (ds := [8]) Xu4 zb6 rfl rfl ⟨(Xd BK4.out 0).trans rfl, (Xd BK4.out 1).trans rfl, (Xd BK4.out 2).trans rfl, (Xd BK4.out 3).trans rfl, (Xd BK4.out 4).trans rfl, (Xd BK4.out 5).trans rfl, (Xd BK4.out 6).trans rfl, (Xd BK4.out 7).trans rfl, g0, g1, g2⟩ (fun hHeld => ?_); refine XH XU.Xfo XU.BS (fun HT_ HW_ => ?_); generalize hw4 : (w3.alloc (.cells #[.int .i64 6, .int .i64 (Xa l1 x9).f1, .int .i64 (Xa l1 x9).f2, .int .i64 (Xa l1 x9).f3, .int .i64 0, .int .i64 (Xa l1 x9).f4, .int .i64 0, .int .i64 (Xa l1 x9).f6] 76)).drew = w4 at R4 R124 R204 BK4 LB4 LK4 g0 g1 g2 R7 hn4 hHeld ⊢; clear hw4 hg9e; refine pu 0 32 Xu5 HT_ ?_; refine pu 1 33 Xu6 HT_ ?_
     refine tk 2 34 Xu7 HT_ HW_ hHeld ?_; refine pu 3 35 Xu8 HT_ ?_; refine tk 4 36 Xu9 HT_ HW_ hHeld ?_; refine tk 5 37 XuA HT_ HW_ hHeld ?_; refine Xds (σ := Value × Nat) 1 XfO (fun s_ => [(38, .agg #[.int .i64 d0, .int .i64 d1, s_.1]), (10, .pointer (some ⟨s_.2, 0, none⟩))]) (fun s_ w' => (w'.cell? ⟨g9, 0, none⟩ = some (.int .i64 6) ∧ w'.cell? ⟨g9, 1, none⟩ = some (.int .i64 (Xa l1 x9).f1) ∧ w'.cell? ⟨g9, 2, none⟩ = some (.int .i64 (Xa l1 x9).f2) ∧ w'.cell? ⟨g9, 3, none⟩ = some (.int .i64 (Xa l1 x9).f3) ∧ w'.cell? ⟨g9, 4, none⟩ = some (.int .i64 0) ∧ w'.cell? ⟨g9, 5, none⟩ = some (.int .i64 (Xa l1 x9).f4) ∧ w'.cell? ⟨g9, 6, none⟩ = some (.int .i64 0) ∧ w'.cell? ⟨g9, 7, none⟩ = some (.int .i64 (Xa l1 x9).f6) ∧ w'.cell? ⟨gm, ((Xa l1 x9).f2 : Int).toNat * 3, none⟩ = some (.int .i64 (Xb x0 (Xa l1 x9).f2).f0) ∧ w'.cell? ⟨gm, ((Xa l1 x9).f2 : Int).toNat * 3 + 1, none⟩ = some (.int .i64 (Xb x0 (Xa l1 x9).f2).f1) ∧ w'.cell? ⟨gm, ((Xa l1 x9).f2 : Int).toNat * 3 + 2, none⟩ = some (.slice A7 (Xb x0 (Xa l1 x9).f2).f2.length c7)) ∧ (Kd.R k56 56 w' w0.heap.size (fun j => (P j ∨ w.heap.size ≤ j) ∧ j < w4.heap.size) (.slice (some ⟨gm, 0, none⟩) l0.length c0) x0) ∧ (Kd.R (Kd.int .i64) 3 w' w.heap.size (fun j => w.heap.size ≤ j) (.slice (some ad) x12.length c12) x12) ∧ (Kd.R (Kd.int .i64) 3 w' w.heap.size (fun j => w.heap.size ≤ j) (.slice (some ad2) x20.length c20) x20) ∧ (Kd.R (Kd.int .i64) 3 w' w4.heap.size (fun j => w4.heap.size ≤ j) s_.1 d2) ∧ (w'.heap[g9]? = some (.cells #[.int .i64 6, .int .i64 (Xa l1 x9).f1, .int .i64 (Xa l1 x9).f2, .int .i64 (Xa l1 x9).f3, .int .i64 0, .int .i64 (Xa l1 x9).f4, .int .i64 0, .int .i64 (Xa l1 x9).f6] 76 (0, 0))) ∧ (w'.heap[s_.2]? = some (.cells #[.int .i64 0, .int .i64 0, .slice none 0 0] 56 (0, 0))) ∧ (w4.heap.size ≤ s_.2) ∧ (Below w0.heap.size w0 w') ∧ (Kept w w' P)) ?_ ?_
     rotate_left
     ·intro hCont
      refine XkU (i := 6) (j := 7) (Ni := some 38) (Nj := some 10) XuC XuB rfl rfl rfl rfl (E9 HT_.out zb6) (by decide) (by decide) (fun K hK => ?_) (fun K hK => ?_)
      ·skip
       refine YI Tryz.func69 zb6 rfl #[.agg #[.int .i64 (Xb x0 (Xa l1 x9).f2).f0, .int .i64 (Xb x0 (Xa l1 x9).f2).f1, .slice A7 (Xb x0 (Xa l1 x9).f2).f2.length c7], .agg #[.int .i64 6, .int .i64 (Xa l1 x9).f1, .int .i64 (Xa l1 x9).f2, .int .i64 (Xa l1 x9).f3, .int .i64 0, .int .i64 (Xa l1 x9).f4, .int .i64 0, .int .i64 (Xa l1 x9).f6]] (by rfl) rfl rfl zb2 ?_
       with_reducible refine (Zg.calls (Xb x0 (Xa l1 x9).f2).f0 (Xb x0 (Xa l1 x9).f2).f1 A7 c7 (Xb x0 (Xa l1 x9).f2).f2 6 (Xa l1 x9).f1 (Xa l1 x9).f2 (Xa l1 x9).f3 0 (Xa l1 x9).f4 0 (Xa l1 x9).f6 d0 d1 d2 _ (Kd.X6 R7.out).2.2 (Kd.X6 R7.out).2.1 AD.out).mono ?_
       rintro e w5 ⟨v6, rfl, ho, hb⟩; refine ⟨_, rfl, ?_⟩; have hgm_ : gm < w4.heap.size := Kd.N7 R4.out gm rfl; have hg9_ := Z5 BK4.out; have n0 := (hb.cell (p := ⟨gm, ((Xa l1 x9).f2 : Int).toNat * 3, none⟩) hgm_).trans g0; have n1 := (hb.cell (p := ⟨gm, ((Xa l1 x9).f2 : Int).toNat * 3 + 1, none⟩) hgm_).trans g1; have n2 := (hb.cell (p := ⟨gm, ((Xa l1 x9).f2 : Int).toNat * 3 + 2, none⟩) hgm_).trans g2; clear g0 g1 g2; have g0 := n0; have g1 := n1; have g2 := n2; clear n0 n1 n2; have R4a := zz (Kd.Xr R4.out hb); have R124a := zz (Kd.Xr R124.out hb); have R204a := zz (Kd.Xr R204.out hb); have R7a := zz (Kd.Xr R7.out hb); have BK4a := zz (Xk BK4.out hb); have LB4a := zz (Xc LB4.out hb); have LK4a := zz (LK4.out.below hb); have HV := zz (Kd.XZ (Kd.ZQ ho) (ok' := fun j => w4.heap.size ≤ j) (fun j hj => hj.2.1)); have hsz5 := zz hb.size; clear hb ho; refine hK.out _ _ ⟨(Xd BK4a.out 0).trans rfl, (Xd BK4a.out 1).trans rfl, (Xd BK4a.out 2).trans rfl, (Xd BK4a.out 3).trans rfl, (Xd BK4a.out 4).trans rfl, (Xd BK4a.out 5).trans rfl, (Xd BK4a.out 6).trans rfl, (Xd BK4a.out 7).trans rfl, g0, g1, g2⟩ (fun hHeld => ?_); clear hK K; refine XQ (a' := ?_) ?_ ?_; rotate_left
       ·show Act.put _ (some 38) _ = _
        simp only [Act.put, List.setIfInBounds_toArray, List.set_cons_zero, List.set_cons_succ, Xz, XF]
        rfl
       refine Zj (i := 7) (N := some 10) XfO rfl rfl (Yl HT_.out zb6) (by decide) (fun K hK => ?_)
       refine FR ?hg (N := 10) ?hd (cs := #[.int .i64 0, .int .i64 0, .slice none 0 0]) (t := 56) ?hr ?_; (case hd => rfl); (case hg => rfl); (case hr => exact zb7)
       intro g10 hg w6 hbox hb; have hgm_ : gm < w5.heap.size := Kd.N7 R4a.out gm rfl; have hg9_ := Z5 BK4a.out; have n0 := (hb.cell (p := ⟨gm, ((Xa l1 x9).f2 : Int).toNat * 3, none⟩) hgm_).trans g0; have n1 := (hb.cell (p := ⟨gm, ((Xa l1 x9).f2 : Int).toNat * 3 + 1, none⟩) hgm_).trans g1; have n2 := (hb.cell (p := ⟨gm, ((Xa l1 x9).f2 : Int).toNat * 3 + 2, none⟩) hgm_).trans g2; clear g0 g1 g2; have g0 := n0; have g1 := n1; have g2 := n2; clear n0 n1 n2; have R4b := zz (Kd.Xr R4a.out hb); have R124b := zz (Kd.Xr R124a.out hb); have R204b := zz (Kd.Xr R204a.out hb); have R7b := zz (Kd.Xr R7a.out hb); have BK4b := zz (Xk BK4a.out hb); have LB4b := zz (Xc LB4a.out hb); have LK4b := zz (LK4a.out.below hb); have HV6 := zz (Kd.Xr HV.out hb); have hle := Nat.le_trans hsz5.out (Nat.le_of_eq hg.symm); clear hb; refine hK.out _ _ ⟨(Xd BK4b.out 0).trans rfl, (Xd BK4b.out 1).trans rfl, (Xd BK4b.out 2).trans rfl, (Xd BK4b.out 3).trans rfl, (Xd BK4b.out 4).trans rfl, (Xd BK4b.out 5).trans rfl, (Xd BK4b.out 6).trans rfl, (Xd BK4b.out 7).trans rfl, g0, g1, g2⟩ (fun hHeld => ?_); clear hK K; refine XQ (a' := ?_) ?_ ?_; rotate_left
       ·show Act.put _ (some 10) _ = _
        simp only [Act.put, List.setIfInBounds_toArray, List.set_cons_zero, List.set_cons_succ, Xz, XF]
        rfl
       exact XQ zb24 (hCont (v6, g10) _ ⟨⟨(Xd BK4b.out 0).trans rfl, (Xd BK4b.out 1).trans rfl, (Xd BK4b.out 2).trans rfl, (Xd BK4b.out 3).trans rfl, (Xd BK4b.out 4).trans rfl, (Xd BK4b.out 5).trans rfl, (Xd BK4b.out 6).trans rfl, (Xd BK4b.out 7).trans rfl, g0, g1, g2⟩, R4b.out, R124b.out, R204b.out, HV6.out, BK4b.out, hbox, hle, LB4b.out, LK4b.out⟩)
      ·skip
       refine FR ?hg (N := 10) ?hd (cs := #[.int .i64 0, .int .i64 0, .slice none 0 0]) (t := 56) ?hr ?_; (case hd => rfl); (case hg => rfl); (case hr => exact zb7)
       intro g10 hg w5 hbox hb; have hgm_ : gm < w4.heap.size := Kd.N7 R4.out gm rfl; have hg9_ := Z5 BK4.out; have n0 := (hb.cell (p := ⟨gm, ((Xa l1 x9).f2 : Int).toNat * 3, none⟩) hgm_).trans g0; have n1 := (hb.cell (p := ⟨gm, ((Xa l1 x9).f2 : Int).toNat * 3 + 1, none⟩) hgm_).trans g1; have n2 := (hb.cell (p := ⟨gm, ((Xa l1 x9).f2 : Int).toNat * 3 + 2, none⟩) hgm_).trans g2; clear g0 g1 g2; have g0 := n0; have g1 := n1; have g2 := n2; clear n0 n1 n2; have R4a := zz (Kd.Xr R4.out hb); have R124a := zz (Kd.Xr R124.out hb); have R204a := zz (Kd.Xr R204.out hb); have R7a := zz (Kd.Xr R7.out hb); have BK4a := zz (Xk BK4.out hb); have LB4a := zz (Xc LB4.out hb); have LK4a := zz (LK4.out.below hb); have hle := Nat.le_of_eq hg.symm; have HX := zz hbox; have hsz5 := zz hb.size; clear hb hbox; refine hK.out _ _ ⟨(Xd BK4a.out 0).trans rfl, (Xd BK4a.out 1).trans rfl, (Xd BK4a.out 2).trans rfl, (Xd BK4a.out 3).trans rfl, (Xd BK4a.out 4).trans rfl, (Xd BK4a.out 5).trans rfl, (Xd BK4a.out 6).trans rfl, (Xd BK4a.out 7).trans rfl, g0, g1, g2⟩ (fun hHeld => ?_); clear hK K; refine XQ (a' := ?_) ?_ ?_; rotate_left
       ·show Act.put _ (some 10) _ = _
        simp only [Act.put, List.setIfInBounds_toArray, List.set_cons_zero, List.set_cons_succ, Xz, XF]
        rfl
       refine Zj (i := 6) (N := some 38) XfO rfl rfl (Yl HT_.out zb6) (by decide) (fun K hK => ?_); refine YI Tryz.func69 zb6 rfl #[.agg #[.int .i64 (Xb x0 (Xa l1 x9).f2).f0, .int .i64 (Xb x0 (Xa l1 x9).f2).f1, .slice A7 (Xb x0 (Xa l1 x9).f2).f2.length c7], .agg #[.int .i64 6, .int .i64 (Xa l1 x9).f1, .int .i64 (Xa l1 x9).f2, .int .i64 (Xa l1 x9).f3, .int .i64 0, .int .i64 (Xa l1 x9).f4, .int .i64 0, .int .i64 (Xa l1 x9).f6]] (by rfl) rfl rfl zb2 ?_
       with_reducible refine (Zg.calls (Xb x0 (Xa l1 x9).f2).f0 (Xb x0 (Xa l1 x9).f2).f1 A7 c7 (Xb x0 (Xa l1 x9).f2).f2 6 (Xa l1 x9).f1 (Xa l1 x9).f2 (Xa l1 x9).f3 0 (Xa l1 x9).f4 0 (Xa l1 x9).f6 d0 d1 d2 _ (Kd.X6 R7a.out).2.2 (Kd.X6 R7a.out).2.1 AD.out).mono ?_
       rintro e w6 ⟨v6, rfl, ho, hb⟩; refine ⟨_, rfl, ?_⟩; have hgm_ : gm < w5.heap.size := Kd.N7 R4a.out gm rfl; have hg9_ := Z5 BK4a.out; have n0 := (hb.cell (p := ⟨gm, ((Xa l1 x9).f2 : Int).toNat * 3, none⟩) hgm_).trans g0; have n1 := (hb.cell (p := ⟨gm, ((Xa l1 x9).f2 : Int).toNat * 3 + 1, none⟩) hgm_).trans g1; have n2 := (hb.cell (p := ⟨gm, ((Xa l1 x9).f2 : Int).toNat * 3 + 2, none⟩) hgm_).trans g2; clear g0 g1 g2; have g0 := n0; have g1 := n1; have g2 := n2; clear n0 n1 n2; have R4b := zz (Kd.Xr R4a.out hb); have R124b := zz (Kd.Xr R124a.out hb); have R204b := zz (Kd.Xr R204a.out hb); have R7b := zz (Kd.Xr R7a.out hb); have BK4b := zz (Xk BK4a.out hb); have LB4b := zz (Xc LB4a.out hb); have LK4b := zz (LK4a.out.below hb); have HV6 := zz (Kd.YY (Kd.XZ (Kd.ZQ ho) (ok' := fun j => w4.heap.size ≤ j) (fun j hj => Nat.le_trans hsz5.out hj.2.1)) hsz5.out); have HX6 := zz (Xk HX.out hb); clear hb ho; refine hK.out _ _ ⟨(Xd BK4b.out 0).trans rfl, (Xd BK4b.out 1).trans rfl, (Xd BK4b.out 2).trans rfl, (Xd BK4b.out 3).trans rfl, (Xd BK4b.out 4).trans rfl, (Xd BK4b.out 5).trans rfl, (Xd BK4b.out 6).trans rfl, (Xd BK4b.out 7).trans rfl, g0, g1, g2⟩ (fun hHeld => ?_); clear hK K; refine XQ (a' := ?_) ?_ ?_; rotate_left
       ·show Act.put _ (some 38) _ = _
        simp only [Act.put, List.setIfInBounds_toArray, List.set_cons_zero, List.set_cons_succ, Xz, XF]
        rfl
       exact XQ zb24 (hCont (v6, g10) _ ⟨⟨(Xd BK4b.out 0).trans rfl, (Xd BK4b.out 1).trans rfl, (Xd BK4b.out 2).trans rfl, (Xd BK4b.out 3).trans rfl, (Xd BK4b.out 4).trans rfl, (Xd BK4b.out 5).trans rfl, (Xd BK4b.out 6).trans rfl, (Xd BK4b.out 7).trans rfl, g0, g1, g2⟩, R4b.out, R124b.out, R204b.out, HV6.out, BK4b.out, HX6.out, hle, LB4b.out, LK4b.out⟩)
     rintro ⟨v6, g10⟩ w6 ⟨hHeld, hr4, hr12, hr20, hv6, hbk9, hbk10, hle, hlb, hlk⟩; simp only [M9, Act.put, List.setIfInBounds_toArray, List.set_cons_zero, List.set_cons_succ] at hv6 hbk10 hle ⊢; obtain ⟨A6, c6, e6⟩ := Kd.Y2 hv6; subst e6; have R6 := zz hr4; have R126 := zz hr12; have R206 := zz hr20; have RV := zz hv6; have BK6 := zz hbk9; have BX6 := zz hbk10; have LB6 := zz hlb; have LK6 := zz hlk; have HLE := zz hle; obtain ⟨hx0, hx1, hx2⟩ := cz3 BX6; obtain ⟨hf0, hf1, hf2⟩ := fz3 BX6; clear R4 R124 R204 R7 BK4 LB4 g0 g1 g2 hr4 hr12 hr20 hv6 hbk9 hbk10 hle hlb hlk; refine Xjp (i := 8) (N := none) Xr8 rfl rfl (Yl HT_.out zb6) (by decide) (fun K hK => ?_); refine SX (w1 := ?_) (by rfl) rfl ?_ ?_; rotate_left
     ·go_simp
      rfl
     refine hK.out _ _ ?_; clear hK K; refine YX (YA HT_.out zb6) ?_; have hw4 := zz LK4.out.1; clear LK4
     have hg10 : Aside0 (w.heap.size ≤ g10) := ⟨Nat.le_trans hw4.out HLE.out⟩
     have hg100 : Aside0 (w0.heap.size ≤ g10) := ⟨Nat.le_trans HZ.out hg10.out⟩
     refine Xr9 (fun w' => Kd.R k56 56 w' w0.heap.size (fun j => (P j ∨ w.heap.size ≤ j) ∧ j < w4.heap.size) (.slice (some ⟨gm, 0, none⟩) l0.length c0) x0 ∧ Kd.R (Kd.int .i64) 3 w' w.heap.size (fun j => w.heap.size ≤ j) (.slice (some ad) x12.length c12) x12 ∧ Kd.R (Kd.int .i64) 3 w' w.heap.size (fun j => w.heap.size ≤ j) (.slice (some ad2) x20.length c20) x20 ∧ Kd.R (Kd.int .i64) 3 w' w4.heap.size (fun j => w4.heap.size ≤ j) (.slice A6 d2.length c6) d2 ∧ w'.heap[g9]? = some (.cells #[.int .i64 6, .int .i64 (Xa l1 x9).f1, .int .i64 (Xa l1 x9).f2, .int .i64 (Xa l1 x9).f3, .int .i64 0, .int .i64 (Xa l1 x9).f4, .int .i64 0, .int .i64 (Xa l1 x9).f6] 76 (0, 0)) ∧ w'.heap[g10]? = some (.cells #[.int .i64 d0, .int .i64 d1, .slice A6 d2.length c6] 56 (0, 0)) ∧ Below w0.heap.size w0 w' ∧ Kept w w' P) ⟨Kd.YZ (p := ⟨g10, _, none⟩) (Kd.YZ (p := ⟨g10, _, none⟩) (Kd.YZ (p := ⟨g10, _, none⟩) R6.out (fun j hj => by have := HLE.out; have := hj.2; show j ≠ g10; omega) _) (fun j hj => by have := HLE.out; have := hj.2; show j ≠ g10; omega) _) (fun j hj => by have := HLE.out; have := hj.2; show j ≠ g10; omega) _, fR3 R126.out BX6.out (by decide), fR3 R206.out BX6.out (by decide), fR3 RV.out BX6.out (by decide), ZJ (ZJ (ZJ BK6.out (by have := HLE.out; have := hn4.out; show g9 ≠ g10; omega) _) (by have := HLE.out; have := hn4.out; show g9 ≠ g10; omega) _) (by have := HLE.out; have := hn4.out; show g9 ≠ g10; omega) _, XX (XX (XX BX6.out 0 _ rfl) 1 _ rfl) 2 _ rfl, Xq (Xq (Xq LB6.out hg100.out) hg100.out) hg100.out, ((LK6.out.setCell (p := ⟨g10, 0, none⟩) (.inr hg10.out) _).setCell (p := ⟨g10, 1, none⟩) (.inr hg10.out) _).setCell (p := ⟨g10, 2, none⟩) (.inr hg10.out) _⟩ ?_
     clear R6 R126 R206 RV BK6 BX6 LB6 LK6 hx0 hx1 hx2 hf0 hf1 hf2 hHeld; rintro w7 ⟨hr7, hr127, hr207, hrv, hbk9, hbk10, hlb7, hlk7⟩; have R7 := zz hr7; have R127 := zz hr127; have R207 := zz hr207; have RV := zz hrv; have BK7 := zz hbk9; have BX7 := zz hbk10; have LB7 := zz hlb7; have LK7 := zz hlk7; clear hr7 hr127 hr207 hrv hbk9 hbk10 hlb7 hlk7; obtain ⟨hx0, hx1, hx2⟩ := cz3 BX7
     go_wp2_with fail
     refine (XV.calls k2 d0 d1 A6 c6 d2 ok _ (Kd.X6 RV.out).2.2 (Kd.X6 RV.out).2.1 AO.out).mono ?_; rintro e w8 ⟨rfl, hb⟩; have R8 := zz (Kd.Xr R7.out hb); have R128 := zz (Kd.Xr R127.out hb); have R208 := zz (Kd.Xr R207.out hb); have RV8 := zz (Kd.Xr RV.out hb); have BK8 := zz (Xk BK7.out hb); have BX8 := zz (Xk BX7.out hb); have LB8 := zz (Xc LB7.out hb); have LK8 := zz (LK7.out.below hb); clear hb R7 R127 R207 RV BK7 BX7 LB7 LK7 hx0 hx1 hx2; have h := H.out; clear H
     cases ok with
     | false =>
      simp only [Bool.false_eq_true, if_false] at h; obtain rfl := Option.some.inj h
      go_wp2
      go_ret
      exact ⟨rfl, LB8.out, LK8.out⟩
     | true =>
      simp only [if_true] at h; have H := zz h; clear h; obtain ⟨hx0, hx1, hx2⟩ := cz3 BX8; obtain ⟨y0, y1, y2, y3, y4, y5, y6, y7⟩ := cz8 BK8; obtain ⟨ce, hcl, hM, hcc, hfr⟩ := Kd.DW R8.out z56 (Xa l1 x9).f2 Q2.out Q3.out; obtain ⟨v8, rfl, hR8⟩ := Jc hM; have hk0 : w8.cell? ⟨gm, ((Xa l1 x9).f2 : Int).toNat * 3, none⟩ = some (.int .i64 (Xb x0 (Xa l1 x9).f2).f0) := hcc 0 _ rfl; have hk1 : w8.cell? ⟨gm, ((Xa l1 x9).f2 : Int).toNat * 3 + 1, none⟩ = some (.int .i64 (Xb x0 (Xa l1 x9).f2).f1) := hcc 1 _ rfl; have hk2 : w8.cell? ⟨gm, ((Xa l1 x9).f2 : Int).toNat * 3 + 2, none⟩ = some v8 := hcc 2 _ rfl; have hf0 : w8.frozen? ⟨gm, ((Xa l1 x9).f2 : Int).toNat * 3, none⟩ = false := hfr 0; have hf1 : w8.frozen? ⟨gm, ((Xa l1 x9).f2 : Int).toNat * 3 + 1, none⟩ = false := hfr 1; have hf2 : w8.frozen? ⟨gm, ((Xa l1 x9).f2 : Int).toNat * 3 + 2, none⟩ = false := hfr 2; have HP := Kd.Qq (Kd.XZ R8.out (ok' := (fun j => P j ∨ w.heap.size ≤ j)) (fun j hj => hj.1)) (Xa l1 x9).f2 Q2.out Q3.out (seg := [.int .i64 d0, .int .i64 d1, .slice A6 d2.length c6]) (j := 0) (okp := fun j => w4.heap.size ≤ j) hcl hcc (show 3 ≤ 3 from by decide) (x' := (⟨d0, d1, d2⟩ : S56)) (Ul _ _ _ (⟨d0, d1, d2⟩ : S56) (Kd.YY RV8.out (Nat.le_trans HZ.out hw4.out))) (fun j hj => ⟨.inr (Nat.le_trans hw4.out hj), by have := hgmw.out; have := hw4.out; omega⟩); have HQ := zz HP.1; clear hcl hM hcc hfr HP hR8
      have hgx : Aside0 (g10 ≠ gm) := ⟨by have := hgmw.out; have := hg10.out; omega⟩
      have hg9x : Aside0 (g9 ≠ gm) := ⟨by have := hgmw.out; have := hg9.out; omega⟩
      go_wp2
      go_roundg k2
      case measure => have := HK1.out; have := HK2.out; omega
      case rel => exact ⟨_, _, rfl, ⟨(Xz (x22 + 1)).symm ▸ H.out⟩, ⟨zb65⟩, ⟨(List.length_set).trans HL.out⟩, HQ, ⟨Kd.YZ (p := ⟨gm, _, none⟩) (Kd.YZ (p := ⟨gm, _, none⟩) (Kd.YZ (p := ⟨gm, _, none⟩) R128.out (fun j hj => by have := hgmw.out; show j ≠ gm; omega) _) (fun j hj => by have := hgmw.out; show j ≠ gm; omega) _) (fun j hj => by have := hgmw.out; show j ≠ gm; omega) _⟩, ⟨Kd.YZ (p := ⟨gm, _, none⟩) (Kd.YZ (p := ⟨gm, _, none⟩) (Kd.YZ (p := ⟨gm, _, none⟩) R208.out (fun j hj => by have := hgmw.out; show j ≠ gm; omega) _) (fun j hj => by have := hgmw.out; show j ≠ gm; omega) _) (fun j hj => by have := hgmw.out; show j ≠ gm; omega) _⟩, ⟨Xq (Xq (Xq LB8.out hgmb) hgmb) hgmb⟩, ⟨((LK8.out.setCell (p := ⟨gm, _, none⟩) (.inl HG.out) _).setCell (p := ⟨gm, _, none⟩) (.inl HG.out) _).setCell (p := ⟨gm, _, none⟩) (.inl HG.out) _⟩⟩
end Go.Proofs.YtphnphmbfogmlaaGreat.Pr
