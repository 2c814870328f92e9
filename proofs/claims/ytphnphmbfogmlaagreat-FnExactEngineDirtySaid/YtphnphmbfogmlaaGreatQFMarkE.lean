import Derived.Test.YtphnphmbfogmlaaGreatQFByq
import Derived.Test.YtphnphmbfogmlaaGreatQFWMore
import Derived.Test.YtphnphmbfogmlaaGreatQFPrInts
import Derived.Test.YtphnphmbfogmlaaGreatQFRec
namespace Go.Proofs.YtphnphmbfogmlaaGreat.Pr
open Go.RowKit Go.PW Go.PL Go.PM
attribute [local go_sem] Y3 Y4 YN YO Ya Yb Y5 Y6
set_option linter.unusedVariables false
set_option linter.unusedSimpArgs false
theorem Xuv {w : World} {base g n cap : Nat} {ok : Nat → Prop} {xs : List S76} (h : Kd.R k76 76 w base ok (.slice (some ⟨g, 0, none⟩) n cap) xs) (i : Int) (p : 0 ≤ i) (q : i < n) (j : Nat) (hj : j < 8) (v : Int) : ∃ xs' : List S76, xs'.length = xs.length ∧ Kd.R k76 76 (w.setCell ⟨g, i.toNat * 8 + j, none⟩ (.int .i64 v)) base ok (.slice (some ⟨g, 0, none⟩) n cap) xs' := by
 obtain ⟨c, hcl, hM, hcc, _⟩ := Kd.DW h z76 i p q; obtain rfl := Sr hM
 have e := fun (x : S76) (hM' : _) => (Kd.Qq h i p q (seg := [.int .i64 v]) (j := j) hcl hcc (show j + 1 ≤ 8 by omega) (x' := x) hM' (fun _ hk => hk)).1
 generalize hx : (xs.getD i.toNat z76) = x at *
 obtain rfl | rfl | rfl | rfl | rfl | rfl | rfl | rfl : j = 0 ∨ j = 1 ∨ j = 2 ∨ j = 3 ∨ j = 4 ∨ j = 5 ∨ j = 6 ∨ j = 7 := by omega
 ·exact ⟨_, by simp, e ⟨v, x.f1, x.f2, x.f3, x.f4, x.f5, x.f6, x.f7⟩ (F9 _ _ _ _)⟩
 ·exact ⟨_, by simp, e ⟨x.f0, v, x.f2, x.f3, x.f4, x.f5, x.f6, x.f7⟩ (F9 _ _ _ _)⟩
 ·exact ⟨_, by simp, e ⟨x.f0, x.f1, v, x.f3, x.f4, x.f5, x.f6, x.f7⟩ (F9 _ _ _ _)⟩
 ·exact ⟨_, by simp, e ⟨x.f0, x.f1, x.f2, v, x.f4, x.f5, x.f6, x.f7⟩ (F9 _ _ _ _)⟩
 ·exact ⟨_, by simp, e ⟨x.f0, x.f1, x.f2, x.f3, v, x.f5, x.f6, x.f7⟩ (F9 _ _ _ _)⟩
 ·exact ⟨_, by simp, e ⟨x.f0, x.f1, x.f2, x.f3, x.f4, v, x.f6, x.f7⟩ (F9 _ _ _ _)⟩
 ·exact ⟨_, by simp, e ⟨x.f0, x.f1, x.f2, x.f3, x.f4, x.f5, v, x.f7⟩ (F9 _ _ _ _)⟩
 ·exact ⟨_, by simp, e ⟨x.f0, x.f1, x.f2, x.f3, x.f4, x.f5, x.f6, v⟩ (F9 _ _ _ _)⟩
structure Mk (w0 W w : World) (P : Nat → Prop) (g n cap : Nat) (xs : List S76) : Prop where
 r : Kd.R k76 76 w w0.heap.size P (.slice (some ⟨g, 0, none⟩) n cap) xs
 k : Kept W w P
 b : Below w0.heap.size w0 w
theorem Mk.put {w0 W w : World} {P : Nat → Prop} {g n cap : Nat} {xs : List S76} (h : Mk w0 W w P g n cap xs) (hg : w0.heap.size ≤ g) (i : Int) (p : 0 ≤ i) (q : i < n) (j : Nat) (hj : j < 8) (v : Int) : ∃ xs' : List S76, xs'.length = xs.length ∧ Mk w0 W (w.setCell ⟨g, i.toNat * 8 + j, none⟩ (.int .i64 v)) P g n cap xs' := by
 obtain ⟨xs', hl, hr⟩ := Xuv h.r i p q j hj v; exact ⟨xs', hl, hr, h.k.setCell (p := ⟨g, _, none⟩) (.inl (h.r.1 g rfl)) _, Xq h.b hg⟩
set_option maxHeartbeats 8000000 in
set_option maxRecDepth 100000 in
theorem Ew (P0_ : Nat → Prop) (u_ : Value) (l0 : List S76) (a1 : Int) (w0 w : World) (hB : Below w0.heap.size w0 w) (ho0 : Kd.R k76 76 w w0.heap.size P0_ u_ l0) (ha : 0 ≤ a1) (hs : a1 + 8 * (l0.length : Int) ≤ 4398046511104) :
 Calls Tryz.prog 38 #[u_, .int .i64 a1] w fun e w' => e = .returned (.int .i64 (a1 + 8 * (l0.length : Int))) ∧ Below w0.heap.size w0 w' ∧ Kept w w' P0_ := by
 have HO0 := zz ho0; have HK := zz (Kept.refl w P0_); have HB := zz hB; have HA := zz ha; have HS := zz hs; clear hB ho0 ha hs
 go_enter Tryz.func38, Tryz.ntmps38
 go_wp2
 go_loopg [1, 5] (l0.length + 1) (fun kq v1 v5 w' => ∃ (xs : List S76) (x5 : Int), v1 = .int .i64 (a1 + 8 * x5) ∧ v5 = .int .i64 x5 ∧ Aside0 (0 ≤ x5 ∧ x5 + (kq : Int) = (l0.length : Int) + 1 ∧ x5 ≤ (l0.length : Int) ∧ xs.length = l0.length) ∧ Aside0 (Kd.R k76 76 w' w0.heap.size P0_ u_ xs) ∧ Aside0 (Kept w w' P0_) ∧ Aside0 (Below w0.heap.size w0 w'))
 case atStart => exact ⟨l0, 0, by simp, rfl, ⟨by omega, by omega, by omega, rfl⟩, HO0, HK, HB⟩
 case round =>
  clear HO0 HK HB; obtain ⟨xs, x5, rfl, rfl, HX, HO, HK, HB⟩ := hrel
  cases gk with
  | zero => exact absurd HX.out.2.1 (by have := HX.out.2.2.1; omega)
  | succ k1 =>
   obtain ⟨Ao, co, eo⟩ := Kd.Y2 HO.out
   by_cases c3 : x5 < (xs.length : Int)
   ·obtain ⟨go5, co5, eo5, gb5, gl5, cl5, HG5⟩ := Kd.NB HO.out (by have := HX.out.1; omega)
    subst eo5; clear eo; have c4 : 0 ≤ x5 := HX.out.1; obtain ⟨c, hcl, hM, hcc, hfr⟩ := Kd.DW HO.out z76 x5 c4 c3; obtain rfl := Sr hM; have hx0 : wr.cell? ⟨go5, x5.toNat * 8, none⟩ = some (.int .i64 ((Xa xs x5).f0)) := hcc 0 _ rfl; have hx1 : wr.cell? ⟨go5, x5.toNat * 8 + 1, none⟩ = some (.int .i64 ((Xa xs x5).f1)) := hcc 1 _ rfl; have hx2 : wr.cell? ⟨go5, x5.toNat * 8 + 2, none⟩ = some (.int .i64 ((Xa xs x5).f2)) := hcc 2 _ rfl; have hx3 : wr.cell? ⟨go5, x5.toNat * 8 + 3, none⟩ = some (.int .i64 ((Xa xs x5).f3)) := hcc 3 _ rfl; have hx4 : wr.cell? ⟨go5, x5.toNat * 8 + 4, none⟩ = some (.int .i64 ((Xa xs x5).f4)) := hcc 4 _ rfl; have hx5 : wr.cell? ⟨go5, x5.toNat * 8 + 5, none⟩ = some (.int .i64 ((Xa xs x5).f5)) := hcc 5 _ rfl; have hx6 : wr.cell? ⟨go5, x5.toNat * 8 + 6, none⟩ = some (.int .i64 ((Xa xs x5).f6)) := hcc 6 _ rfl; have hx7 : wr.cell? ⟨go5, x5.toNat * 8 + 7, none⟩ = some (.int .i64 ((Xa xs x5).f7)) := hcc 7 _ rfl; have hf0 : wr.frozen? ⟨go5, x5.toNat * 8, none⟩ = false := hfr 0; have hf1 : wr.frozen? ⟨go5, x5.toNat * 8 + 1, none⟩ = false := hfr 1; have hf2 : wr.frozen? ⟨go5, x5.toNat * 8 + 2, none⟩ = false := hfr 2; have hf3 : wr.frozen? ⟨go5, x5.toNat * 8 + 3, none⟩ = false := hfr 3; have hf4 : wr.frozen? ⟨go5, x5.toNat * 8 + 4, none⟩ = false := hfr 4; have hf5 : wr.frozen? ⟨go5, x5.toNat * 8 + 5, none⟩ = false := hfr 5; have hf6 : wr.frozen? ⟨go5, x5.toNat * 8 + 6, none⟩ = false := hfr 6; have hf7 : wr.frozen? ⟨go5, x5.toNat * 8 + 7, none⟩ = false := hfr 7; have GB := zz gb5; have M0 := zz (Mk.mk HO.out HK.out HB.out)
    have C3 := zz c3; have C4 := zz c4; clear hcl hM hcc hfr gb5 gl5 cl5 HG5 HO HK HB; have p5 := eq_true c4; have q5 := eq_true c3; have c3b0 : decide (x5 < (xs.length : Int)) = true := decide_eq_true c3; have hsz := HS.out; have haz := HA.out; have hxz := HX.out
    obtain ⟨z, hz⟩ : ∃ z, z = a1 + 8 * x5 := ⟨_, rfl⟩
    rw [← hz]; have w1 : wrap64 (z + 1) = z + 1 := T.wrap_small (by omega) (by omega)
    have w2 : wrap64 (z + 1 + 1) = z + 2 := by rw [T.wrap_small (by omega) (by omega)]; omega
    have w3 : wrap64 (z + 2 + 1) = z + 3 := by rw [T.wrap_small (by omega) (by omega)]; omega
    have w4 : wrap64 (z + 3 + 1) = z + 4 := by rw [T.wrap_small (by omega) (by omega)]; omega
    have w5 : wrap64 (z + 4 + 1) = z + 5 := by rw [T.wrap_small (by omega) (by omega)]; omega
    have w6 : wrap64 (z + 5 + 1) = z + 6 := by rw [T.wrap_small (by omega) (by omega)]; omega
    have w7 : wrap64 (z + 6 + 1) = z + 7 := by rw [T.wrap_small (by omega) (by omega)]; omega
    have w8 : wrap64 (z + 7 + 1) = z + 8 := by rw [T.wrap_small (by omega) (by omega)]; omega
    have wi : wrap64 (x5 + 1) = x5 + 1 := T.wrap_small (by omega) (by omega); have HZ := zz hz; clear c3 c4 hsz haz hxz hz
    go_wp2
    obtain ⟨y0, l0_, m0⟩ := M0.out.put GB.out x5 C4.out C3.out 0 (by decide) (z); obtain ⟨y1, l1, m1⟩ := m0.put GB.out x5 C4.out C3.out 1 (by decide) (z + 1); obtain ⟨y2, l2, m2⟩ := m1.put GB.out x5 C4.out C3.out 2 (by decide) (z + 2); obtain ⟨y3, l3, m3⟩ := m2.put GB.out x5 C4.out C3.out 3 (by decide) (z + 3); obtain ⟨y4, l4, m4⟩ := m3.put GB.out x5 C4.out C3.out 4 (by decide) (z + 4); obtain ⟨y5, l5, m5⟩ := m4.put GB.out x5 C4.out C3.out 5 (by decide) (z + 5); obtain ⟨y6, l6, m6⟩ := m5.put GB.out x5 C4.out C3.out 6 (by decide) (z + 6); obtain ⟨y7, l7, m7⟩ := m6.put GB.out x5 C4.out C3.out 7 (by decide) (z + 7)
    go_roundg k1
    case measure => have := HX.out; omega
    case rel => exact ⟨y7, x5 + 1, by rw [w8, HZ.out]; congr 1; omega, by rw [wi], ⟨by have := HX.out; omega, by have := HX.out; omega, by have := HX.out; have := C3.out; omega, by rw [l7, l6, l5, l4, l3, l2, l1, l0_]; exact HX.out.2.2.2⟩, ⟨m7.r⟩, ⟨m7.k⟩, ⟨m7.b⟩⟩
   ·have c3b0 : decide (x5 < (xs.length : Int)) = false := decide_eq_false c3
    have hn := HX.out; have E8 := zz (show x5 = (l0.length : Int) by omega); subst eo; clear c3 hn
    go_wp2
    go_ret
    exact ⟨by rw [← E8.out]; rfl, HB.out, HK.out⟩
end Go.Proofs.YtphnphmbfogmlaaGreat.Pr
namespace Go.Proofs.YtphnphmbfogmlaaGreat.Pr
open Go.RowKit Go.PW Go.PL Go.PM
attribute [local go_sem] Y3 Y4 YN YO Ya Yb Y5 Y6
set_option linter.unusedVariables false
set_option linter.unusedSimpArgs false
def XW.l0 : Nat → List S56 → Int → Int → Option (Int × List S56)
 | 0, _, _, _ => none
 | k + 1, xs, x, i => if i < (xs.length : Int) then (if 0 ≤ i then ((YT.f k (Xb xs i).f2 (wrap64 (wrap64 (x + 1) + 1))).bind fun m => XW.l0 k (xs.set i.toNat ⟨x, wrap64 (x + 1), m.2⟩) m.1 (wrap64 (i + 1))) else none) else some (x, xs)
def XW.f (k : Nat) (l : List S56) (a : Int) : Option (Int × List S56) := XW.l0 k l a 0
set_option maxHeartbeats 8000000 in
set_option maxRecDepth 100000 in
theorem XW.calls (k : Nat) (P0_ : Nat → Prop) (u_ : Value) (l0 : List S56) (a1 : Int) (r1 : Int) (r2 : List S56) (w0 w : World) (hB : Below w0.heap.size w0 w) (ho0 : Kd.S k56 56 w w0.heap.size P0_ u_ l0) (h : XW.f k l0 a1 = some (r1, r2)) :
 Calls Tryz.prog 24 #[u_, .int .i64 a1] w fun e w' => e = .returned (.int .i64 r1) ∧ Kd.S k56 56 w' w0.heap.size P0_ u_ r2 ∧ Below w0.heap.size w0 w' ∧ Kept w w' P0_ := by
 have HO0 := zz ho0; have HK := zz (Kept.refl w P0_); have HB := zz hB; clear hB ho0; have H : (XW.l0 k l0 a1 0) = some (r1, r2) := h; clear h; have H' := zz H; clear H
 go_enter Tryz.func24, Tryz.ntmps24
 go_wp2
 go_loopg [1, 5] k (fun kq v1 v5 w' => ∃ (xs : List S56) (x1 : Int) (x5 : Int), v1 = .int .i64 x1 ∧ v5 = .int .i64 x5 ∧ Aside0 (XW.l0 kq xs x1 x5 = some (r1, r2)) ∧ Aside0 (kq ≤ k) ∧ Aside0 (Kd.S k56 56 w' w0.heap.size P0_ u_ xs) ∧ Aside0 (Kept w w' P0_) ∧ Aside0 (Below w0.heap.size w0 w'))
 case atStart => exact ⟨l0, a1, 0, rfl, rfl, H', ⟨Nat.le_refl _⟩, HO0, HK, HB⟩
 case round =>
  clear H' HO0 HK HB; obtain ⟨xs, x1, x5, rfl, rfl, HA, HK1, HO, HK, HB⟩ := hrel
  cases gk with
  | zero => exact absurd HA.out (by simp [XW.l0])
  | succ k1 =>
   have H := HA.out; clear HA; simp only [XW.l0] at H
   by_cases c3 : x5 < (xs.length : Int)
   ·rw [if_pos c3] at H
    by_cases c4 : 0 ≤ x5
    ·rw [if_pos c4] at H
     replace H := Option.bind_eq_some_iff.mp H; obtain ⟨⟨m1, m2⟩, A50, H⟩ := H; have A5 := zz A50; have H' := zz H; clear A50 H; obtain ⟨go5, co5, eo5, gb5, gl5, HG5⟩ := Kd.Xfy HO.out (by omega); subst eo5; have hg0 := zz ((Kd.S_R HO.out).1 go5 rfl); have c3' := zz c3; have c4' := zz c4; obtain ⟨oki, c, hcl, hM, hcc, hfr, hoki, hH⟩ := Kd.Ez HO.out z56 x5 c4 c3; obtain ⟨v2, rfl, hR⟩ := Jc hM; have hx0 : wr.cell? ⟨go5, (x5 : Int).toNat * 3, none⟩ = some (.int .i64 ((Xb xs x5).f0)) := hcc 0 _ rfl; have hx1 : wr.cell? ⟨go5, (x5 : Int).toNat * 3 + 1, none⟩ = some (.int .i64 ((Xb xs x5).f1)) := hcc 1 _ rfl; have hx2 : wr.cell? ⟨go5, (x5 : Int).toNat * 3 + 2, none⟩ = some v2 := hcc 2 _ rfl; have hf0 : wr.frozen? ⟨go5, (x5 : Int).toNat * 3, none⟩ = false := hfr 0; have hf1 : wr.frozen? ⟨go5, (x5 : Int).toNat * 3 + 1, none⟩ = false := hfr 1; have h1 : Kd.H k56 56 (wr.setCell ⟨go5, (x5 : Int).toNat * 3, none⟩ (.int .i64 x1)) w0.heap.size P0_ (.slice (some ⟨go5, 0, none⟩) xs.length co5) xs x5 oki [.int .i64 x1, .int .i64 ((Xb xs x5).f1), v2] ∧ wr.grownBy (wr.setCell ⟨go5, (x5 : Int).toNat * 3, none⟩ (.int .i64 x1)) (some go5) := Kd.XmR hH c4 c3 (seg := [.int .i64 x1]) (j := 0) (show 0 + 1 ≤ 3 from by decide) (fun q hq => by simp at hq; subst hq; rfl); have h2 : Kd.H k56 56 ((wr.setCell ⟨go5, (x5 : Int).toNat * 3, none⟩ (.int .i64 x1)).setCell ⟨go5, (x5 : Int).toNat * 3 + 1, none⟩ (.int .i64 (wrap64 (x1 + 1)))) w0.heap.size P0_ (.slice (some ⟨go5, 0, none⟩) xs.length co5) xs x5 oki [.int .i64 x1, .int .i64 (wrap64 (x1 + 1)), v2] := (Kd.XmR h1.1 c4 c3 (seg := [.int .i64 (wrap64 (x1 + 1))]) (j := 1) (show 1 + 1 ≤ 3 from by decide) (fun q hq => by simp at hq; subst hq; rfl)).1
     have hR2 : Kd.R (Kd.int .i64) 3 ((wr.setCell ⟨go5, (x5 : Int).toNat * 3, none⟩ (.int .i64 x1)).setCell ⟨go5, (x5 : Int).toNat * 3 + 1, none⟩ (.int .i64 (wrap64 (x1 + 1)))) w0.heap.size oki v2 (Xb xs x5).f2 := Kd.YZ (p := ⟨go5, _, none⟩) (Kd.YZ (p := ⟨go5, _, none⟩) hR (fun k hk => (hoki k hk).2) _) (fun k hk => (hoki k hk).2) _; have HB2 := zz (Xq (g := go5) (j := (x5 : Int).toNat * 3 + 1) (v := .int .i64 (wrap64 (x1 + 1))) (Xq (g := go5) (j := (x5 : Int).toNat * 3) (v := .int .i64 x1) HB.out gb5) gb5); have HKb := zz ((HK.out.setCell (p := ⟨go5, (x5 : Int).toNat * 3, none⟩) (.inl hg0.out) (.int .i64 x1)).setCell (p := ⟨go5, (x5 : Int).toNat * 3 + 1, none⟩) (.inl hg0.out) (.int .i64 (wrap64 (x1 + 1)))); have H2 := zz h2; have R2 := zz hR2; have OK := zz hoki; clear h1 h2 hR2 hcl hM hcc hfr hH hR HO HB HK hoki HG5; have p5 := eq_true c4; have q5 := eq_true c3; have c3b0 : decide (x5 < (xs.length : Int)) = true := decide_eq_true c3; clear c3 c4
     go_wp2_with (go_at_call 19; refine (YT.calls k1 oki v2 _ _ m1 m2 w0 _ HB2.out R2.out A5.out).mono ?_; rintro e w20 ⟨rfl, hr, hb, hk⟩)
     go_roundg k1
     case measure => have := HK1.out; omega
     case rel => exact ⟨xs.set x5.toNat ⟨x1, wrap64 (x1 + 1), m2⟩, m1, wrap64 (x5 + 1), rfl, rfl, H', ⟨zb33⟩, ⟨Kd.XmS (Kd.Xuu H2.out (fun k _ hn hlt => hk.2 k hlt hn)) (Ul _ _ _ (⟨x1, wrap64 (x1 + 1), m2⟩ : S56) (Kd.XZ (Kd.PY rfl hr) (fun k hk => R2.out.1 k hk.symm))) (fun _ hk => hk)⟩, ⟨HKb.out.Eu hk (fun k hk => .inl (OK.out k hk).1)⟩, ⟨hb⟩⟩
    ·rw [if_neg c4] at H
     exact absurd H (by simp)
   ·rw [if_neg c3] at H
    have c3b0 : decide (x5 < (xs.length : Int)) = false := decide_eq_false c3; clear c3; simp only [Option.some.injEq, Prod.mk.injEq] at H; obtain ⟨rfl, rfl⟩ := H; obtain ⟨Ao9, co9, eo9⟩ := Kd.ZR HO.out; subst eo9
    go_wp2
    go_ret
    exact ⟨rfl, HO.out, HB.out, HK.out⟩
end Go.Proofs.YtphnphmbfogmlaaGreat.Pr
namespace Go.Proofs.YtphnphmbfogmlaaGreat.Pr
open Go.RowKit Go.PW Go.PL Go.PM
attribute [local go_sem] Y3 Y4 YN YO Ya Yb Y5 Y6
set_option linter.unusedVariables false
set_option linter.unusedSimpArgs false
set_option maxHeartbeats 8000000 in
set_option maxRecDepth 100000 in
theorem MP.calls (k : Nat) (P0 P1 P2 : Nat → Prop) (v0 v1 v2 : Value) (l0 l1 : List S56) (l2 : List S76) (s : Int) (d : Bool) (a x1 x2 : Int) (m0 m1 : List S56) (w0 w : World) (hB : Below w0.heap.size w0 w)
 (h0 : Kd.S k56 56 w w0.heap.size P0 v0 l0) (h1 : Kd.S k56 56 w w0.heap.size P1 v1 l1) (h2 : Kd.R k76 76 w w0.heap.size P2 v2 l2)
 (hP0 : ∀ j, P0 j → j < w.heap.size) (hP1 : ∀ j, P1 j → j < w.heap.size) (hP2 : ∀ j, P2 j → j < w.heap.size) (h01 : ∀ j, P0 j → ¬ P1 j) (h02 : ∀ j, P0 j → ¬ P2 j) (h12 : ∀ j, P1 j → ¬ P2 j)
 (e0 : XW.f k l0 a = some (x1, m0)) (e1 : XW.f k l1 x1 = some (x2, m1)) (e2 : 0 ≤ x2 ∧ x2 + 8 * (l2.length : Int) ≤ 4398046511104) :
 Calls Tryz.prog 18 #[.agg #[v0, v1, v2, .int .i64 s, .bool d], .int .i64 a] w fun e w' => e = .returned (.int .i64 (x2 + 8 * (l2.length : Int))) ∧ Below w0.heap.size w0 w' ∧ Kept w w' (fun j => P0 j ∨ P1 j ∨ P2 j) := by
 have hsz := hB.size; have H0 := zz h0; have H1 := zz h1; have H2 := zz h2; have HB := zz hB; have E0 := zz e0; have E1 := zz e1; have E2 := zz e2; have Q0 := zz hP0; have Q1 := zz hP1; have Q2 := zz hP2; have Q01 := zz h01; have Q02 := zz h02; have Q12 := zz h12; have hu := Tryz.underlying31; clear h0 h1 h2 hB e0 e1 e2 hP0 hP1 hP2 h01 h02 h12
 go_enter Tryz.func18, Tryz.ntmps18
 go_wp2_with fail
 refine (XW.calls k P0 v0 l0 a x1 m0 w0 _ (Xj HB.out _) (Kd.J7 H0.out _) E0.out).mono ?_; rintro e w1 ⟨rfl, hs0, hb1, hk1⟩; have BK1 := Uy (Jq _ _) hk1 (fun hp => Nat.lt_irrefl _ (Q0.out _ hp)); have K1 := zz ((Kept.alloc (Kept.refl w (fun j => P0 j ∨ P1 j ∨ P2 j)) _).Eu hk1 (fun j hj => .inl (.inl hj))); have S1 := zz (Kd.XmQ (Kd.J7 H1.out _) hk1 (fun j hj hp => Q01.out j hp hj)); have R1 := zz (Kd.UY (Kd.Yp H2.out _) hk1 (fun j hj hp => Q02.out j hp hj)); have B1 := zz hb1; have C1 := zz BK1; have hc0 : w1.cell? ⟨w.heap.size, 1, none⟩ = some v1 := (Xd BK1 1).trans rfl; clear hs0 hb1 hk1 BK1
 go_wp2_with fail
 refine (XW.calls k P1 v1 l1 x1 x2 m1 w0 _ B1.out S1.out E1.out).mono ?_; rintro e w2 ⟨rfl, hs1, hb2, hk2⟩; clear hc0; have BK2 := Uy C1.out hk2 (fun hp => Nat.lt_irrefl _ (Q1.out _ hp)); have K2 := zz (K1.out.Eu hk2 (fun j hj => .inl (.inr (.inl hj)))); have R2 := zz (Kd.UY R1.out hk2 (fun j hj hp => Q12.out j hp hj)); have B2 := zz hb2; have hc1 : w2.cell? ⟨w.heap.size, 2, none⟩ = some v2 := (Xd BK2 2).trans rfl; clear hs1 hb2 hk2 BK2 S1 R1 B1 C1 K1
 go_wp2_with fail
 refine (Ew P2 v2 l2 x2 w0 _ B2.out R2.out E2.out.1 E2.out.2).mono ?_; rintro e w3 ⟨rfl, hb3, hk3⟩; clear hc1
 go_wp2
 go_ret
 exact ⟨rfl, hb3, K2.out.Eu hk3 (fun j hj => .inl (.inr (.inr hj)))⟩
end Go.Proofs.YtphnphmbfogmlaaGreat.Pr
