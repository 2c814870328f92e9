import Derived.Test.YtphnphmbfogmlaaGreatQFByq
import Derived.Test.YtphnphmbfogmlaaGreatQFWMore
import Derived.Test.YtphnphmbfogmlaaGreatQFSx
import Derived.Test.YtphnphmbfogmlaaGreatQFPrM
import Derived.Test.YtphnphmbfogmlaaGreatQFL2
import Derived.Test.YtphnphmbfogmlaaGreatQFPrWith
import Derived.Test.YtphnphmbfogmlaaGreatQFPrRedo
namespace Go.Proofs.YtphnphmbfogmlaaGreat.Pr
open Go.RowKit Go.PW Go.PL Go.PM
set_option linter.unusedVariables false
structure Xc0 (w0 w : World) (PD PM : Nat → Prop) (v0 v1 v2 : Value) (D M : List S56) (L : List S76) : Prop where
 d : Kd.R k56 56 w w0.heap.size PD v0 D
 m : Kd.R k56 56 w w0.heap.size PM v1 M
 l : Kd.R k76 76 w w0.heap.size (fun j => some j = v2.ownBlock) v2 L
 pd : ∀ j, PD j → j < w.heap.size ∧ some j ≠ v2.ownBlock
 pm : ∀ j, PM j → j < w.heap.size ∧ some j ≠ v2.ownBlock
 dm : ∀ j, PD j → ¬ PM j
def PE (PD PM : Nat → Prop) (v2 : Value) (j : Nat) : Prop := PD j ∨ PM j ∨ some j = v2.ownBlock
section
variable {w0 w w' : World} {PD PM S : Nat → Prop} {v0 v1 v2 : Value} {D M : List S56} {L : List S76}
theorem Xc0.below (h : Xc0 w0 w PD PM v0 v1 v2 D M L) (hb : Below w.heap.size w w') : Xc0 w0 w' PD PM v0 v1 v2 D M L :=
 ⟨Kd.Xr h.d hb, Kd.Xr h.m hb, Kd.Xr h.l hb, fun j hj => ⟨Nat.lt_of_lt_of_le (h.pd j hj).1 hb.size, (h.pd j hj).2⟩, fun j hj => ⟨Nat.lt_of_lt_of_le (h.pm j hj).1 hb.size, (h.pm j hj).2⟩, h.dm⟩
theorem Xc0.kept (h : Xc0 w0 w PD PM v0 v1 v2 D M L) (hk : Kept w w' S) (hne : ∀ j, PE PD PM v2 j → ¬ S j) : Xc0 w0 w' PD PM v0 v1 v2 D M L :=
 ⟨Kd.UY h.d hk (fun j hj => hne j (.inl hj)), Kd.UY h.m hk (fun j hj => hne j (.inr (.inl hj))), Kd.UY h.l hk (fun j hj => hne j (.inr (.inr hj))), fun j hj => ⟨Nat.lt_of_lt_of_le (h.pd j hj).1 hk.1, (h.pd j hj).2⟩, fun j hj => ⟨Nat.lt_of_lt_of_le (h.pm j hj).1 hk.1, (h.pm j hj).2⟩, h.dm⟩
theorem Xc0.lt (h : Xc0 w0 w PD PM v0 v1 v2 D M L) : ∀ j, PE PD PM v2 j → j < w.heap.size := fun j hj => by
 rcases hj with hj | hj | hj
 ·exact (h.pd j hj).1
 ·exact (h.pm j hj).1
 ·exact Kd.N7 h.l j hj.symm
end
def U5 (w : World) (g : Nat) (v0 v1 v2 : Value) (s : Int) (d : Bool) : Prop := w.heap[g]? = some (.cells #[v0, v1, v2, .int .i64 s, .bool d] 31 (0, 0))
section
variable {w w' : World} {g : Nat} {v0 v1 v2 : Value} {s : Int} {d : Bool} {S : Nat → Prop}
theorem U5.cells (h : U5 w g v0 v1 v2 s d) : w.cell? ⟨g, 0, none⟩ = some v0 ∧ w.cell? ⟨g, 1, none⟩ = some v1 ∧ w.cell? ⟨g, 2, none⟩ = some v2 ∧ w.cell? ⟨g, 3, none⟩ = some (.int .i64 s) ∧ w.cell? ⟨g, 4, none⟩ = some (.bool d) :=
 ⟨(Xd h 0).trans rfl, (Xd h 1).trans rfl, (Xd h 2).trans rfl, (Xd h 3).trans rfl, (Xd h 4).trans rfl⟩
theorem U5.frozen (h : U5 w g v0 v1 v2 s d) (i : Nat) : w.frozen? ⟨g, i, none⟩ = false := Xe h i
theorem U5.below (h : U5 w g v0 v1 v2 s d) (hb : Below w.heap.size w w') : U5 w' g v0 v1 v2 s d := Xk h hb
theorem U5.kept (h : U5 w g v0 v1 v2 s d) (hk : Kept w w' S) (hne : ¬ S g) : U5 w' g v0 v1 v2 s d := Uy h hk hne
theorem U5.lt (h : U5 w g v0 v1 v2 s d) : g < w.heap.size := Z5 h
theorem U5.new (w : World) (v0 v1 v2 : Value) (s : Int) (d : Bool) : U5 (w.alloc (.cells #[v0, v1, v2, .int .i64 s, .bool d] 31 (0, 0))) w.heap.size v0 v1 v2 s d := Jq _ _
end
end Go.Proofs.YtphnphmbfogmlaaGreat.Pr
namespace Go.Proofs.YtphnphmbfogmlaaGreat.Pr
open Go.RowKit Go.PW Go.PL Go.PM
attribute [local go_sem] Y3 Y4 YN YO Ya Yb Y5 Y6
set_option linter.unusedVariables false
set_option linter.unusedSimpArgs false
abbrev Xuh : Array Bool := #[nn,nn,nn,nn,nn,nn,nn,nn,nn,nn,nn,nn,nn,nn]
abbrev Xui : Array Bool := #[yy,nn,nn,nn,nn,nn,nn,nn,nn,nn,nn,nn,nn,nn]
abbrev Xuj : Array Bool := #[yy,yy,nn,nn,nn,nn,nn,nn,nn,nn,nn,nn,nn,nn]
abbrev Xuk : Array Bool := #[yy,yy,nn,yy,nn,nn,nn,nn,nn,nn,nn,nn,nn,nn]
abbrev Xul : Array Bool := #[yy,yy,nn,yy,yy,nn,nn,nn,nn,nn,nn,nn,nn,nn]
abbrev Xum : Array Bool := #[yy,yy,nn,yy,yy,nn,nn,nn,nn,yy,nn,nn,nn,nn]
abbrev Xun : Array Bool := #[yy,yy,yy,yy,yy,nn,nn,nn,nn,yy,nn,nn,nn,nn]
abbrev Xuo : Array Bool := #[yy,yy,yy,yy,yy,yy,nn,nn,nn,yy,nn,nn,nn,nn]
abbrev Xup : Array Bool := #[yy,yy,yy,yy,yy,yy,yy,nn,nn,yy,nn,nn,nn,nn]
abbrev Xuq : Array Bool := #[yy,yy,yy,yy,yy,yy,yy,yy,nn,yy,nn,nn,nn,nn]
abbrev Xrl : Array Bool := #[yy,yy,yy,yy,yy,yy,yy,yy,yy,yy,nn,nn,nn,nn]
abbrev Xrm : Array Bool := #[yy,yy,yy,yy,yy,yy,yy,yy,yy,yy,yy,nn,nn,nn]
abbrev Xrn : Array Bool := #[yy,yy,yy,yy,yy,yy,yy,yy,yy,yy,yy,yy,nn,nn]
abbrev Xro : Array Bool := #[yy,yy,yy,yy,yy,yy,yy,yy,yy,yy,yy,yy,yy,nn]
abbrev Xrp : Array Bool := #[yy,yy,yy,yy,yy,yy,yy,yy,yy,yy,yy,yy,yy,yy]
def XL.T7 : Bool × List (List Nat × List Nat) := (true, [([], []), ([], []), ([1], [1]), ([], []), ([], []), ([4], [4]), ([3, 5], [3, 5]), ([6], [6]), ([], []), ([], []), ([9], [9]), ([7, 8, 10], [7, 8, 10]), ([0, 2, 0, 1, 2, 3, 4, 5, 6, 7, 8, 9, 10, 11], [0, 2]), ([12, 11, 11, 0, 1, 2, 3, 4, 5, 6, 7, 8, 9, 10, 11], [11, 12])])
def XL.B7 : List Nat := [0, 0, 2, 0, 0, 16, 56, 120, 0, 0, 512, 2040, 4095, 8191]
theorem XL.Xur : JH .any (opsOf Tryz.f39 7) = XL.T7 := by kernel_rfl
theorem XL.XmO : Z4 XL.T7.2 XL.B7 = true := by kernel_rfl
theorem Xus {Z : Act → World → Prop} {a : Act} {w : World} (F : World → Prop) (hF : F w) (h : ∀ w', F w' → Z a w') : Z a w := h w hF
set_option maxHeartbeats 8000000 in
set_option maxRecDepth 100000 in
theorem XL.to (k : Nat) (A0 : Option Addr) (c0 : Nat) (l0 : List S56) (A1 : Option Addr) (c1 : Nat) (l1 : List S76) (r : List S56) (w : World) (hr0 : Kd.C k56 w A0 l0.length l0) (hc0 : l0.length ≤ c0) (hr1 : Kd.C k76 w A1 l1.length l1) (hc1 : l1.length ≤ c1) (h : XL.f k l0 l1 = some r) :
 Calls Tryz.prog 39 #[.slice A0 l0.length c0, .slice A1 l1.length c1] w fun e w' => ∃ v : Value, e = .returned v ∧ Kd.R k56 56 w' w.heap.size (fun _ => True) v r ∧ Below w.heap.size w w' := by
 have hu76 := Tryz.underlying76; have hu56 := Tryz.underlying56; have HR0 := zz hr0; have HC0 := zz hc0; have HR1 := zz hr1; have HC1 := zz hc1
 unfold XL.f at h
 replace h := Option.bind_eq_some_iff.mp h; obtain ⟨t, ht, h⟩ := h; have A0_ := zz ht; have H := zz h; clear hr0 hc0 hr1 hc1 ht h
 go_enter Tryz.func39, Tryz.ntmps39
 go_wp2_with fail
 refine (Yo.calls k A0 c0 l0 t _ HR0.out HC0.out A0_.out).mono ?_; rintro e w1 ⟨v5, rfl, hS, hb1⟩; have hR := Kd.S_R hS; obtain ⟨A5, c5, e5⟩ := Kd.Y2 hR; subst e5; have R1 := zz hR; have LB1 := zz hb1; clear hS hR hb1
 go_wp2
 go_loopg [6] k (fun kq v6 w' => ∃ (x6 : Int) (x5 : List S56), v6 = .int .i64 x6 ∧ Aside0 (x5.length = t.length) ∧ Aside0 (XL.l0 kq l1 x5 x6 = some r) ∧ Aside0 (kq ≤ k) ∧ Aside0 (Kd.R k56 56 w' w.heap.size (fun _ => True) (.slice A5 t.length c5) x5) ∧ Aside0 (Below w.heap.size w w'))
 case atStart => exact ⟨0, t, rfl, ⟨rfl⟩, H, ⟨Nat.le_refl _⟩, R1, LB1⟩
 case round =>
  clear H R1 A0_; obtain ⟨x6, x5, rfl, HL, HA, HK1, R0, LB0⟩ := hrel
  cases gk with
  | zero => exact absurd HA.out (by simp [XL.l0])
  | succ k1 =>
   have h := HA.out; clear HA; simp only [XL.l0] at h
   by_cases q : x6 < (l1.length : Int)
   rotate_left
   ·rw [if_neg q] at h
    have qb : decide (x6 < (l1.length : Int)) = false := decide_eq_false q; clear q; simp only [Option.some.injEq] at h; subst h
    go_wp2
    refine bodyPost_ret (v := .slice A5 t.length c5) (by simp [results, Tryz.results39, go_sem, *]) rfl ⟨_, rfl, R0.out, LB0.out⟩
   rw [if_pos q] at h
   by_cases q0 : 0 ≤ x6
   rotate_left
   ·rw [if_neg q0] at h
    exact absurd h (by simp)
   rw [if_pos q0] at h; replace h := Option.bind_eq_some_iff.mp h; obtain ⟨b1, hb1, h⟩ := h; have A1_ := zz hb1; have H := zz h; obtain ⟨A9, e9, u0, u1, u2, u3, u4, u5, u6, u7⟩ := Ym (Kd.Xg HR1.out LB0.out) x6 q0 q; subst e9; have p0 := eq_true q0; have p1 := eq_true q; have Q0 := zz q0; have Q1 := zz q; clear hb1 h q0 q
   go_wp2_with fail
   have BR0 : Aside0 ((wr.alloc (.cells #[.int .i64 (Xa l1 x6).f0, .int .i64 (Xa l1 x6).f1, .int .i64 (Xa l1 x6).f2, .int .i64 (Xa l1 x6).f3, .int .i64 (Xa l1 x6).f4, .int .i64 (Xa l1 x6).f5, .int .i64 (Xa l1 x6).f6, .int .i64 (Xa l1 x6).f7] 76)).heap[wr.heap.size]? = some (.cells #[.int .i64 (Xa l1 x6).f0, .int .i64 (Xa l1 x6).f1, .int .i64 (Xa l1 x6).f2, .int .i64 (Xa l1 x6).f3, .int .i64 (Xa l1 x6).f4, .int .i64 (Xa l1 x6).f5, .int .i64 (Xa l1 x6).f6, .int .i64 (Xa l1 x6).f7] 76 (0, 0))) := ⟨Jq _ _⟩
   have R1 := zz (Kd.Yp R0.out (.cells #[.int .i64 (Xa l1 x6).f0, .int .i64 (Xa l1 x6).f1, .int .i64 (Xa l1 x6).f2, .int .i64 (Xa l1 x6).f3, .int .i64 (Xa l1 x6).f4, .int .i64 (Xa l1 x6).f5, .int .i64 (Xa l1 x6).f6, .int .i64 (Xa l1 x6).f7] 76)); have LB1 := zz (Xj LB0.out (.cells #[.int .i64 (Xa l1 x6).f0, .int .i64 (Xa l1 x6).f1, .int .i64 (Xa l1 x6).f2, .int .i64 (Xa l1 x6).f3, .int .i64 (Xa l1 x6).f4, .int .i64 (Xa l1 x6).f5, .int .i64 (Xa l1 x6).f6, .int .i64 (Xa l1 x6).f7] 76)); have hwr := zz LB0.out.size; refine (ZP.calls (Xa l1 x6).f0 b1 _ A1_.out).mono ?_; rintro e w2 ⟨rfl, nd, hw⟩
   have hb : Below (wr.alloc (.cells #[.int .i64 (Xa l1 x6).f0, .int .i64 (Xa l1 x6).f1, .int .i64 (Xa l1 x6).f2, .int .i64 (Xa l1 x6).f3, .int .i64 (Xa l1 x6).f4, .int .i64 (Xa l1 x6).f5, .int .i64 (Xa l1 x6).f6, .int .i64 (Xa l1 x6).f7] 76)).heap.size (wr.alloc (.cells #[.int .i64 (Xa l1 x6).f0, .int .i64 (Xa l1 x6).f1, .int .i64 (Xa l1 x6).f2, .int .i64 (Xa l1 x6).f3, .int .i64 (Xa l1 x6).f4, .int .i64 (Xa l1 x6).f5, .int .i64 (Xa l1 x6).f6, .int .i64 (Xa l1 x6).f7] 76)) w2 := by rw [hw]; exact XN (Below.refl _ _) nd
   have R2 := zz (Kd.Xr R1.out hb); have BR2 := zz (Xk BR0.out hb); have LB2 := zz (Xc LB1.out hb); clear hb hw nd R0 R1 BR0 LB0 LB1 u0 u1 u2 u3 u4 u5 u6 u7; have h := H.out; clear H
   cases b1 with
   | false =>
    simp only [Bool.false_eq_true, if_false] at h; have H := zz h; clear h
    go_wp2
    go_roundg k1
    case measure => have := HK1.out; omega
    case rel => exact ⟨_, x5, rfl, HL, ⟨(Xz (x6 + 1)).symm ▸ H.out⟩, ⟨zb33⟩, R2, LB2⟩
   | true =>
    simp only [if_true] at h
    by_cases q0 : 0 ≤ (Xa l1 x6).f2
    rotate_left
    ·rw [if_neg q0] at h
     exact absurd h (by simp)
    rw [if_pos q0] at h
    by_cases q1 : (Xa l1 x6).f2 < (x5.length : Int)
    rotate_left
    ·rw [if_neg q1] at h
     exact absurd h (by simp)
    rw [if_pos q1] at h; have hlen := HL.out; obtain ⟨gm, cm, em, hgmb, hgml, hgmt⟩ := Kd.NB R2.out (by omega)
    injection em with em1 em2 em3
    subst em1 em3; clear em2 hgmt
    have q1t : (Xa l1 x6).f2 < (t.length : Int) := by omega
    obtain ⟨ce, hcl, hM, hcc, hfr⟩ := Kd.DW R2.out z56 (Xa l1 x6).f2 q0 q1t; obtain ⟨v7, rfl, hR7⟩ := Jc hM; obtain ⟨A7, c7, e7⟩ := Kd.Y2 hR7
    change v7 = .slice A7 (Xb x5 (Xa l1 x6).f2).f2.length c7 at e7
    subst e7; have g0 : w2.cell? ⟨gm, ((Xa l1 x6).f2 : Int).toNat * 3, none⟩ = some (.int .i64 (Xb x5 (Xa l1 x6).f2).f0) := hcc 0 _ rfl; have p2 := eq_true q0; have p3 := eq_true q1t; have Q2 := zz q0; have Q3 := zz q1t; clear hcl hM hcc hfr hR7 q0 q1 q1t hlen
    obtain ⟨y0, y1, y2, y3, y4, y5, y6, y7⟩ : w2.cell? ⟨wr.heap.size, 0, none⟩ = some (.int .i64 (Xa l1 x6).f0) ∧ w2.cell? ⟨wr.heap.size, 1, none⟩ = some (.int .i64 (Xa l1 x6).f1) ∧ w2.cell? ⟨wr.heap.size, 2, none⟩ = some (.int .i64 (Xa l1 x6).f2) ∧ w2.cell? ⟨wr.heap.size, 3, none⟩ = some (.int .i64 (Xa l1 x6).f3) ∧ w2.cell? ⟨wr.heap.size, 4, none⟩ = some (.int .i64 (Xa l1 x6).f4) ∧ w2.cell? ⟨wr.heap.size, 5, none⟩ = some (.int .i64 (Xa l1 x6).f5) ∧ w2.cell? ⟨wr.heap.size, 6, none⟩ = some (.int .i64 (Xa l1 x6).f6) ∧ w2.cell? ⟨wr.heap.size, 7, none⟩ = some (.int .i64 (Xa l1 x6).f7) := ⟨(Xd BR2.out 0).trans rfl, (Xd BR2.out 1).trans rfl, (Xd BR2.out 2).trans rfl, (Xd BR2.out 3).trans rfl, (Xd BR2.out 4).trans rfl, (Xd BR2.out 5).trans rfl, (Xd BR2.out 6).trans rfl, (Xd BR2.out 7).trans rfl⟩
    by_cases q4 : (Xb x5 (Xa l1 x6).f2).f0 < wrap64 (x6 + 1)
    rotate_left
    ·rw [if_neg q4] at h
     have q4b : decide ((Xb x5 (Xa l1 x6).f2).f0 < IntKind.i64.wrap (x6 + 1)) = false := by rw [Xz]; exact decide_eq_false q4
     have q4c := decide_eq_false q4; have H := zz h; clear q4 h
     go_wp2
     go_roundg k1
     case measure => have := HK1.out; omega
     case rel => exact ⟨_, x5, rfl, HL, ⟨(Xz (x6 + 1)).symm ▸ H.out⟩, ⟨zb33⟩, R2, LB2⟩
    rw [if_pos q4] at h
    have q4b : decide ((Xb x5 (Xa l1 x6).f2).f0 < IntKind.i64.wrap (x6 + 1)) = true := by rw [Xz]; exact decide_eq_true q4
    have q4c := decide_eq_true q4; replace h := Option.bind_eq_some_iff.mp h; obtain ⟨⟨d0, d1, d2⟩, hd, h⟩ := h; have AD := zz (show VD.f (Xb x5 (Xa l1 x6).f2).f0 (Xb x5 (Xa l1 x6).f2).f1 (Xb x5 (Xa l1 x6).f2).f2 (Xa l1 x6).f0 (Xa l1 x6).f1 (Xa l1 x6).f2 (Xa l1 x6).f3 (Xa l1 x6).f4 (Xa l1 x6).f5 (Xa l1 x6).f6 (Xa l1 x6).f7 (wrap64 (x6 + 1)) = some (d0, d1, d2) from hd); have H := zz h; clear q4 hd h
    go_wp2_with fail
    clear g0 y0 y1 y2 y3 y4 y5 y6 y7; have R4 := zz (Kd.YC R2.out); have BR4 := zz (XB BR2.out); have LB4 := zz (Jh LB2.out); clear R2 BR2 LB2; obtain ⟨ce, hcl, hM, hcc, hfr⟩ := Kd.DW R4.out z56 (Xa l1 x6).f2 Q2.out Q3.out; obtain ⟨v7, rfl, hR7⟩ := Jc hM; obtain ⟨A7, c7, e7⟩ := Kd.Y2 hR7
    change v7 = .slice A7 (Xb x5 (Xa l1 x6).f2).f2.length c7 at e7
    subst e7; have g0 : w2.drew.cell? ⟨gm, ((Xa l1 x6).f2 : Int).toNat * 3, none⟩ = some (.int .i64 (Xb x5 (Xa l1 x6).f2).f0) := hcc 0 _ rfl; have g1 : w2.drew.cell? ⟨gm, ((Xa l1 x6).f2 : Int).toNat * 3 + 1, none⟩ = some (.int .i64 (Xb x5 (Xa l1 x6).f2).f1) := hcc 1 _ rfl; have g2 : w2.drew.cell? ⟨gm, ((Xa l1 x6).f2 : Int).toNat * 3 + 2, none⟩ = some (.slice A7 (Xb x5 (Xa l1 x6).f2).f2.length c7) := hcc 2 _ rfl; have R7 := zz (show Kd.R (Kd.int .i64) 3 w2.drew w.heap.size _ (.slice A7 (Xb x5 (Xa l1 x6).f2).f2.length c7) (Xb x5 (Xa l1 x6).f2).f2 from hR7); clear hcl hM hcc hfr hR7; refine Yw (n := 14) (S := fun w' => w'.cell? ⟨wr.heap.size, 0, none⟩ = some (.int .i64 (Xa l1 x6).f0) ∧ w'.cell? ⟨wr.heap.size, 1, none⟩ = some (.int .i64 (Xa l1 x6).f1) ∧ w'.cell? ⟨wr.heap.size, 2, none⟩ = some (.int .i64 (Xa l1 x6).f2) ∧ w'.cell? ⟨wr.heap.size, 3, none⟩ = some (.int .i64 (Xa l1 x6).f3) ∧ w'.cell? ⟨wr.heap.size, 4, none⟩ = some (.int .i64 (Xa l1 x6).f4) ∧ w'.cell? ⟨wr.heap.size, 5, none⟩ = some (.int .i64 (Xa l1 x6).f5) ∧ w'.cell? ⟨wr.heap.size, 6, none⟩ = some (.int .i64 (Xa l1 x6).f6) ∧ w'.cell? ⟨wr.heap.size, 7, none⟩ = some (.int .i64 (Xa l1 x6).f7) ∧ w'.cell? ⟨gm, ((Xa l1 x6).f2 : Int).toNat * 3, none⟩ = some (.int .i64 (Xb x5 (Xa l1 x6).f2).f0) ∧ w'.cell? ⟨gm, ((Xa l1 x6).f2 : Int).toNat * 3 + 1, none⟩ = some (.int .i64 (Xb x5 (Xa l1 x6).f2).f1) ∧ w'.cell? ⟨gm, ((Xa l1 x6).f2 : Int).toNat * 3 + 2, none⟩ = some (.slice A7 (Xb x5 (Xa l1 x6).f2).f2.length c7)) (ds := [13]) Xuh zb6 rfl rfl ⟨(Xd BR4.out 0).trans rfl, (Xd BR4.out 1).trans rfl, (Xd BR4.out 2).trans rfl, (Xd BR4.out 3).trans rfl, (Xd BR4.out 4).trans rfl, (Xd BR4.out 5).trans rfl, (Xd BR4.out 6).trans rfl, (Xd BR4.out 7).trans rfl, g0, g1, g2⟩ (fun hHeld => ?_); refine XH XL.Xur XL.XmO (fun HT_ HW_ => ?_)
    generalize w2.drew = w4 at R4 BR4 LB4 g0 g1 g2 R7 hHeld ⊢; refine pu 0 34 Xui HT_ ?_; refine pu 1 35 Xuj HT_ ?_; refine pu 3 37 Xuk HT_ ?_; refine pu 4 38 Xul HT_ ?_; refine pu 9 43 Xum HT_ ?_; refine tk 2 36 Xun HT_ HW_ hHeld ?_; refine tk 5 39 Xuo HT_ HW_ hHeld ?_; refine pu 6 40 Xup HT_ ?_; refine tk 7 41 Xuq HT_ HW_ hHeld ?_; refine tk 8 42 Xrl HT_ HW_ hHeld ?_; refine pu 10 44 Xrm HT_ ?_; refine Zj (i := 11) (N := some 45) Xrn rfl rfl (Yl HT_.out zb6) (by decide) (fun K hK => ?_); refine YI Tryz.func66 zb6 rfl #[.agg #[.int .i64 (Xb x5 (Xa l1 x6).f2).f0, .int .i64 (Xb x5 (Xa l1 x6).f2).f1, .slice A7 (Xb x5 (Xa l1 x6).f2).f2.length c7], .agg #[.int .i64 (Xa l1 x6).f0, .int .i64 (Xa l1 x6).f1, .int .i64 (Xa l1 x6).f2, .int .i64 (Xa l1 x6).f3, .int .i64 (Xa l1 x6).f4, .int .i64 (Xa l1 x6).f5, .int .i64 (Xa l1 x6).f6, .int .i64 (Xa l1 x6).f7], .int .i64 (wrap64 (x6 + 1))] (by rfl) rfl rfl zb2 ?_
    with_reducible refine (VD.calls (Xb x5 (Xa l1 x6).f2).f0 (Xb x5 (Xa l1 x6).f2).f1 A7 c7 (Xb x5 (Xa l1 x6).f2).f2 (Xa l1 x6).f0 (Xa l1 x6).f1 (Xa l1 x6).f2 (Xa l1 x6).f3 (Xa l1 x6).f4 (Xa l1 x6).f5 (Xa l1 x6).f6 (Xa l1 x6).f7 (wrap64 (x6 + 1)) d0 d1 d2 _ (Kd.X6 R7.out).2.2 (Kd.X6 R7.out).2.1 AD.out).mono ?_
    rintro e w6 ⟨v6, rfl, ho, hb⟩; refine ⟨_, rfl, ?_⟩; have hgm4 : gm < w4.heap.size := Kd.N7 R4.out gm rfl; have k0 := (hb.cell (p := ⟨gm, ((Xa l1 x6).f2 : Int).toNat * 3, none⟩) hgm4).trans g0; have k1_ := (hb.cell (p := ⟨gm, ((Xa l1 x6).f2 : Int).toNat * 3 + 1, none⟩) hgm4).trans g1; have k2_ := (hb.cell (p := ⟨gm, ((Xa l1 x6).f2 : Int).toNat * 3 + 2, none⟩) hgm4).trans g2; have R6 := zz (Kd.Xr R4.out hb); have BR6 := zz (Xk BR4.out hb); have LB6 := zz (Xc LB4.out hb); have RV := zz (Kd.ZQ ho); have hb4 := zz LB4.out.size; obtain ⟨A6, c6, e6⟩ := Kd.Y2 ho; subst e6; clear ho hb R4 BR4 LB4 g0 g1 g2 R7; obtain ⟨ce, hcl, hM, hcc, hfr⟩ := Kd.DW R6.out z56 (Xa l1 x6).f2 Q2.out Q3.out; obtain ⟨v8, rfl, hR8⟩ := Jc hM; have hx0 : w6.cell? ⟨gm, ((Xa l1 x6).f2 : Int).toNat * 3, none⟩ = some (.int .i64 (Xb x5 (Xa l1 x6).f2).f0) := hcc 0 _ rfl; have hx1 : w6.cell? ⟨gm, ((Xa l1 x6).f2 : Int).toNat * 3 + 1, none⟩ = some (.int .i64 (Xb x5 (Xa l1 x6).f2).f1) := hcc 1 _ rfl; have hx2 : w6.cell? ⟨gm, ((Xa l1 x6).f2 : Int).toNat * 3 + 2, none⟩ = some v8 := hcc 2 _ rfl; have hf0 : w6.frozen? ⟨gm, ((Xa l1 x6).f2 : Int).toNat * 3, none⟩ = false := hfr 0; have hf1 : w6.frozen? ⟨gm, ((Xa l1 x6).f2 : Int).toNat * 3 + 1, none⟩ = false := hfr 1; have hf2 : w6.frozen? ⟨gm, ((Xa l1 x6).f2 : Int).toNat * 3 + 2, none⟩ = false := hfr 2; have HP := Kd.Qq R6.out (Xa l1 x6).f2 Q2.out Q3.out (seg := [.int .i64 d0, .int .i64 d1, .slice A6 d2.length c6]) (j := 0) (okp := fun j => w4.heap.size ≤ j) hcl hcc (show 3 ≤ 3 from by decide) (x' := (⟨d0, d1, d2⟩ : S56)) (Ul _ _ _ (⟨d0, d1, d2⟩ : S56) (Kd.XZ (Kd.YY RV.out hb4.out) (fun j hj => hj.2.1))) (fun j hj => ⟨trivial, by have := hgm4; omega⟩)
    have HQ := zz HP.1; clear hcl hM hcc hfr HP hR8; refine hK.out _ _ ⟨(Xd BR6.out 0).trans rfl, (Xd BR6.out 1).trans rfl, (Xd BR6.out 2).trans rfl, (Xd BR6.out 3).trans rfl, (Xd BR6.out 4).trans rfl, (Xd BR6.out 5).trans rfl, (Xd BR6.out 6).trans rfl, (Xd BR6.out 7).trans rfl, k0, k1_, k2_⟩ (fun hHeld => ?_); clear hK K; refine XQ (a' := ?_) ?_ ?_; rotate_left
    ·show Act.put _ (some 45) _ = _
     simp only [Act.put, List.setIfInBounds_toArray, List.set_cons_zero, List.set_cons_succ, Xz, XF]
     rfl
    refine pu 12 46 Xro HT_ ?_; refine Xjp (i := 13) (N := none) Xrp rfl rfl (Yl HT_.out zb6) (by decide) (fun K hK => ?_); refine SX (w1 := ?_) (by rfl) rfl ?_ ?_; rotate_left
    ·go_simp
     rfl
    refine hK.out _ _ ?_; clear hK K; refine YX (YA HT_.out zb6) ?_; refine Xus (fun w' => Kd.R k56 56 w' w.heap.size (fun _ => True) (.slice (some ⟨gm, 0, none⟩) t.length c5) (x5.set ((Xa l1 x6).f2 : Int).toNat ⟨d0, d1, d2⟩) ∧ Below w.heap.size w w') ⟨HQ.out, Xq (Xq (Xq LB6.out hgmb) hgmb) hgmb⟩ ?_; clear HQ R6 BR6 LB6 RV k0 k1_ k2_ hx0 hx1 hx2 hf0 hf1 hf2 hHeld; rintro w7 ⟨hR7, hLB7⟩; have R7 := zz hR7; have LB7 := zz hLB7; clear hR7 hLB7
    go_wp2
    go_roundg k1
    case measure => have := HK1.out; omega
    case rel => exact ⟨_, _, rfl, ⟨(List.length_set).trans HL.out⟩, ⟨(Xz (x6 + 1)).symm ▸ H.out⟩, ⟨zb33⟩, R7, LB7⟩
end Go.Proofs.YtphnphmbfogmlaaGreat.Pr
