import Derived.Test.YtcefiblpnegepaaQBByq
import Derived.Test.YtcefiblpnegepaaQBSx
import Derived.Test.YtcefiblpnegepaaQBL13D
import Derived.Test.YtcefiblpnegepaaQBPrRedo
import Derived.Test.YtcefiblpnegepaaQBL11R
namespace Go.Proofs.Ytcefiblpnegepaa.Pr
open Go.RowKit Go.PW Go.PL Go.PM
attribute [local go_sem] Y3 Y4 YV YW Yk Yl Y5 Y6
set_option linter.unusedVariables false
set_option linter.unusedSimpArgs false
def De.f (k : Nat) (Y2 : List (S25)) (Yi : List (S25)) (XE : List (S41)) (Yr : Int) (Y7 : Bool) (a1 : Int) : Option ((List (S25)) × (List (S25)) × (List (S41)) × Int × Bool) := (some (([] : List (S41)) : List (S41))).bind fun Xl2 => (if 0 ≤ (mx Yr (mn a1 (XE.length : Int))) then (if (mx Yr (mn a1 (XE.length : Int))) ≤ (XE.length : Int) then ((some (XE.take ((mx Yr (mn a1 (XE.length : Int))) : Int).toNat : List (S41))).bind fun Xl3 => (if Xl2.length + Xl3.length < 2199023255552 then ((X4.f k Y2).bind fun XrD => (some (Y2, XrD, (Xl2 ++ Xl3), Yr, true))) else (none))) else (none)) else (none))
end Go.Proofs.Ytcefiblpnegepaa.Pr
namespace Go.Proofs.Ytcefiblpnegepaa.Pr
open Go.RowKit Go.PW Go.PL Go.PM
attribute [local go_sem] Y3 Y4 YV YW Yk Yl Y5 Y6
set_option linter.unusedVariables false
set_option linter.unusedSimpArgs false
set_option maxHeartbeats 8000000 in
set_option maxRecDepth 100000 in
theorem De.to (k : Nat) (PD PM : Nat → Prop) (v0 v1 v2 : Value) (l0 l1 : List S25) (l2 : List S41) (a3 : Int) (a4 : Bool) (left : Int) (r1 r2 : List S25) (r3 : List S41) (r4 : Int) (r5 : Bool) (w0 w : World) (hB : Below w0.heap.size w0 w) (hE : VG w0 w PD PM v0 v1 v2 l0 l1 l2)
    (h : De.f k l0 l1 l2 a3 a4 left = some (r1, r2, r3, r4, r5)) :
    Calls Try.prog 138 #[.agg #[v0, v1, v2, .int .i64 a3, .bool a4], .int .i64 left] w (Qd w0 w (PE PD PM v2) r1 r2 r3 r4 r5) := by
  obtain ⟨A0, c0, e0⟩ := Kd.Xx hE.d; obtain ⟨A1, c1, e1⟩ := Kd.Xx hE.m; obtain ⟨A2, c2, e2⟩ := Kd.Xx hE.l; subst e0 e1 e2; have HE := zz hE; have HB := zz hB; have HZ := zz hB.size; have HZ1 := zz (Nat.le_trans hB.size (Nat.le_succ _)); have hu52 := Try.underlying52
  have nE : ¬ PE PD PM (.slice A2 l2.length c2) w.heap.size := fun h => Nat.lt_irrefl _ (hE.lt _ h)
  have nQ : ¬ PE PD PM (.slice A2 l2.length c2) (w.heap.size + 1) := fun h => by have := hE.lt _ h; omega
  clear hE hB
  unfold De.f at h
  rw [Option.bind_some] at h
  obtain ⟨ji3, hji3⟩ : ∃ j_ : Int, (mn left (l2.length : Int)) = j_ := ⟨_, rfl⟩
  rw [hji3] at h; have hji3_ : (if (l2.length : Int) < left then (l2.length : Int) else left) = ji3 := hji3
  obtain ⟨ji, hji⟩ : ∃ j_ : Int, mx a3 ji3 = j_ := ⟨_, rfl⟩
  rw [hji] at h; have hji_ : (if a3 < ji3 then ji3 else a3) = ji := hji; have hc2 := (Kd.Xi HE.out.l).2.1
  by_cases q0 : 0 ≤ ji
  rotate_left
  · rw [if_neg q0] at h
    exact absurd h (by simp)
  rw [if_pos q0] at h
  by_cases q1 : ji ≤ (l2.length : Int)
  rotate_left
  · rw [if_neg q1] at h
    exact absurd h (by simp)
  rw [if_pos q1] at h; rw [Option.bind_some] at h
  obtain ⟨y, hy⟩ : ∃ y_ : List S41, l2.take ji.toNat = y_ := ⟨_, rfl⟩
  rw [hy] at h; have HY := zz hy
  by_cases c7 : ([] : List S41).length + y.length < 2199023255552
  rotate_left
  · rw [if_neg c7] at h
    exact absurd h (by simp)
  rw [if_pos c7] at h; replace h := Option.bind_eq_some_iff.mp h; obtain ⟨t, ht, h⟩ := h; have A0_ := zz ht; simp only [Option.some.injEq, Prod.mk.injEq] at h; obtain ⟨rfl, rfl, rfl, rfl, rfl⟩ := h; have C7 := zz c7; have p0 := eq_true q0; have p1 := eq_true q1; have Q0 := zz q0; have Q1 := zz q1; have HJ := zz hji; have p2 := eq_true (show ji ≤ (c2 : Int) by omega); clear ht hy c7 q0 q1 hji3 hji hc2
  go_enter Try.func138, Try.ntmps138
  have E0 := zz (HE.out.below (Xd (Xd (Below.refl w.heap.size w) (.cells #[.slice A0 l0.length c0, .slice A1 l1.length c1, .slice A2 l2.length c2, .int .i64 a3, .bool a4] 52)) (.cells #[.slice none 0 0, .slice none 0 0, .slice none 0 0, .int .i64 0, .bool false] 52)))
  have BE0 : Aside0 (Ym ((w.alloc (.cells #[.slice A0 l0.length c0, .slice A1 l1.length c1, .slice A2 l2.length c2, .int .i64 a3, .bool a4] 52)).alloc (.cells #[.slice none 0 0, .slice none 0 0, .slice none 0 0, .int .i64 0, .bool false] 52)) w.heap.size (.slice A0 l0.length c0) (.slice A1 l1.length c1) (.slice A2 l2.length c2) a3 a4) := ⟨XY (Ym.new _ _ _ _ _ _) _⟩
  have BQ0 : Aside0 (Ym ((w.alloc (.cells #[.slice A0 l0.length c0, .slice A1 l1.length c1, .slice A2 l2.length c2, .int .i64 a3, .bool a4] 52)).alloc (.cells #[.slice none 0 0, .slice none 0 0, .slice none 0 0, .int .i64 0, .bool false] 52)) (w.heap.size + 1) (.slice none 0 0) (.slice none 0 0) (.slice none 0 0) 0 false) := ⟨zb37⟩
  have LB0 := zz (Xd (Xd HB.out (.cells #[.slice A0 l0.length c0, .slice A1 l1.length c1, .slice A2 l2.length c2, .int .i64 a3, .bool a4] 52)) (.cells #[.slice none 0 0, .slice none 0 0, .slice none 0 0, .int .i64 0, .bool false] 52)); have LK0 := zz (((Kept.refl w (PE PD PM (.slice A2 l2.length c2))).alloc (.cells #[.slice A0 l0.length c0, .slice A1 l1.length c1, .slice A2 l2.length c2, .int .i64 a3, .bool a4] 52)).alloc (.cells #[.slice none 0 0, .slice none 0 0, .slice none 0 0, .int .i64 0, .bool false] 52)); clear HB
  go_wp2_with (first | ((with_reducible refine XZ (N := 5) rfl ?_); refine Kd.Gb k41 (w0 := ((w.alloc (.cells #[.slice A0 l0.length c0, .slice A1 l1.length c1, .slice A2 l2.length c2, .int .i64 a3, .bool a4] 52)).alloc (.cells #[.slice none 0 0, .slice none 0 0, .slice none 0 0, .int .i64 0, .bool false] 52))) _ 41 ?hg (N := 5) ?hd (xs := ([] : List S41)) (inner := []) (ok := fun _ => True) (okp := fun _ => True) ?hr ?hp (fun _ hk => hk) trivial (Below.refl (((w.alloc (.cells #[.slice A0 l0.length c0, .slice A1 l1.length c1, .slice A2 l2.length c2, .int .i64 a3, .bool a4] 52)).alloc (.cells #[.slice none 0 0, .slice none 0 0, .slice none 0 0, .int .i64 0, .bool false] 52))).heap.size ((w.alloc (.cells #[.slice A0 l0.length c0, .slice A1 l1.length c1, .slice A2 l2.length c2, .int .i64 a3, .bool a4] 52)).alloc (.cells #[.slice none 0 0, .slice none 0 0, .slice none 0 0, .int .i64 0, .bool false] 52))) (Nat.le_refl _) (by simp) ?_; (case hd => rfl); (case hg => rfl); (case hr => exact zb21); (case hp => exact zb121); intro v5 w5 ho5 hb hg5 hat5; have HR5 := zz ho5; have HB5 := zz hb; have E5 := zz (HE.out.below (Xe (Xd (Xd (Below.refl w.heap.size w) (.cells #[.slice A0 l0.length c0, .slice A1 l1.length c1, .slice A2 l2.length c2, .int .i64 a3, .bool a4] 52)) (.cells #[.slice none 0 0, .slice none 0 0, .slice none 0 0, .int .i64 0, .bool false] 52)) hb)); have BE5 := zz (BE0.out.below hb); obtain ⟨x0, x1, x2, x3, x4⟩ := BE5.out.cells; have xf2 := BE5.out.frozen 2; clear ho5 hb hg5 hat5) | ((with_reducible refine Zk (b := .append) (xs := #[.tmp 5, .tmp 16]) rfl ?_); at_builtin; have hlen : (l2.take ji.toNat).length = ji.toNat := (by rw [List.length_take]; have h1_ := Q1.out; have h0_ := Q0.out; omega); have hr16 := Kd.Xb1 (m := ji.toNat) (Kd.Xi E5.out.l).2.2 (by have h1_ := Q1.out; have h0_ := Q0.out; omega); rw [hlen, HY.out] at hr16; refine Kd.Ve k41 (w0 := ((w.alloc (.cells #[.slice A0 l0.length c0, .slice A1 l1.length c1, .slice A2 l2.length c2, .int .i64 a3, .bool a4] 52)).alloc (.cells #[.slice none 0 0, .slice none 0 0, .slice none 0 0, .int .i64 0, .bool false] 52))) (((w.alloc (.cells #[.slice A0 l0.length c0, .slice A1 l1.length c1, .slice A2 l2.length c2, .int .i64 a3, .bool a4] 52)).alloc (.cells #[.slice none 0 0, .slice none 0 0, .slice none 0 0, .int .i64 0, .bool false] 52))).heap.size rfl (.tmp 5) (.tmp 16) 34 41 (.agg #[(.int .i64 0), (.int .i64 0), (.int .i64 0), (.int .i64 0), (.int .i64 0), (.int .i64 0), (.int .i64 0), (.int .i64 0)]) 64 rfl Try.underlying34 FP rfl (by decide) (by omega) v5 [] y _ _ _ (fun _ => True) (fun _ => False) rfl rfl ?aO ?aR (fun _ _ h => h) (fun _ h => h.elim) ?aF ?aB ?aS ?aL ?_; (case aR => exact hr16); (case aB => exact HB5.out); (case aF => exact zb139); (case aO => exact HR5.out); (case aS => exact HB5.out.size); (case aL => have := hlen; rw [HY.out] at this; have := C7.out; simp only [List.length_nil] at *; omega); intro v6 w6 ho6 hb hg hat; rw [List.nil_append] at ho6; obtain ⟨A6, c6, e6⟩ := Kd.Xx ho6; subst e6; have R6 := zz (Kd.Zv ho6); have E6 := zz (E0.out.below hb); have BE6 := zz (BE0.out.below hb); have BQ6 := zz (BQ0.out.below hb); have LB6 := zz (Xe LB0.out hb); have LK6 := zz (LK0.out.below hb); have hsz := zz hb.size; clear ho6 hb hg hat hr16 hlen x0 x1 x2 x3 x4 xf2 E5 BE5 HR5 HB5; obtain ⟨x0, x1, x2, x3, x4⟩ := BE6.out.cells; have xf2 := BE6.out.frozen 2))
  refine (X4.calls k A0 c0 l0 t _ (Kd.Xi (E6.out.far nE 2 (.slice A6 y.length c6)).d).2.2 (Kd.Xi E6.out.d).2.1 A0_.out).mono ?_; rintro e w7 ⟨v7, rfl, hS, hb⟩; have hR := Kd.Zv (Kd.S_R hS); obtain ⟨A7, c7, e7⟩ := Kd.Xx hR; subst e7; have R7 := zz hR; have R67 := zz (Kd.Xz (eR1 (j := 2) (u := .slice A6 y.length c6) R6.out BE6.out (by decide)) hb); have E7 := zz ((E6.out.far nE 2 (.slice A6 y.length c6)).below hb)
  have BE7 : Aside0 (Ym w7 w.heap.size (.slice A0 l0.length c0) (.slice A1 l1.length c1) (.slice A6 y.length c6) a3 a4) := ⟨Z7 (X9 BE6.out 2 (.slice A6 y.length c6) rfl) hb⟩
  have BQ7 := zz ((BQ6.out.far (by omega) 2 (.slice A6 y.length c6)).below hb); have LB7 := zz (Xe (Xc LB6.out HZ.out) hb); have LK7 := zz ((LK6.out.setCell (p := ⟨w.heap.size, 2, none⟩) (.inr (Nat.le_refl _)) (.slice A6 y.length c6)).below hb); have hs6 := zz (Kd.J2 R6.out)
  have hg6 : Aside0 (∀ j, some j = (.slice A6 y.length c6 : Value).ownBlock → w.heap.size + 2 ≤ j ∧ j < w6.heap.size) := ⟨fun j hj => ⟨by have h_ := Kd.YR R6.out j hj.symm; simpa using h_, Kd.J2 R6.out j hj.symm⟩⟩
  have hlt6 := zz E6.out.lt; have hle6 := zz LK6.out.1; have hsb := zz hb.size; clear hS hR hb x0 x1 x2 x3 x4 xf2 E6 BE6 BQ6 LB6 LK6 R6 E0 BE0 BQ0 LB0 LK0; obtain ⟨x0, x1, x2, x3, x4⟩ := BE7.out.cells; obtain ⟨k0, k1, k2, k3, k4⟩ := BE7.out.XC; obtain ⟨y0, y1, y2, y3, y4⟩ := BQ7.out.cells; obtain ⟨f0, f1, f2, f3, f4⟩ := BQ7.out.XC
  go_wp2
  have hsz7 : w6.heap.size ≤ w7.heap.size := by have h_ := hsb.out; simpa using h_
  have hsw : w.heap.size + 2 ≤ w6.heap.size := by have h_ := hsz.out; simpa using h_
  have hw0 := HZ.out; have RM : Kd.R k25 25 w7 w0.heap.size (fun j => w6.heap.size ≤ j ∧ j < w7.heap.size) (.slice A7 t.length c7) t := Kd.XN (Kd.XT R7.out zb151) (fun j hj => ⟨by have h_ := hj.2.1; simpa using h_, hj.2.2.1⟩); have RL : Kd.R k41 41 w7 w0.heap.size (fun j => some j = (.slice A6 y.length c6 : Value).ownBlock) (.slice A6 y.length c6) y := Kd.Ul rfl (Kd.XT R67.out zb151)
  have EN : VG w0 w7 PD (fun j => w6.heap.size ≤ j ∧ j < w7.heap.size) (.slice A0 l0.length c0) (.slice A7 t.length c7) (.slice A6 y.length c6) l0 t y := ⟨E7.out.d, RM, RL, fun j hj => ⟨(E7.out.pd j hj).1, fun e_ => by have h1 := HE.out.lt j (.inl hj); have h2 := hg6.out j e_; omega⟩, fun j hj => ⟨hj.2, fun e_ => by have h2 := hg6.out j e_; omega⟩, fun j hj hp => by have h1 := HE.out.lt j (.inl hj); omega⟩
  have SN : ∀ j, PE PD (fun j => w6.heap.size ≤ j ∧ j < w7.heap.size) (.slice A6 y.length c6) j → PE PD PM (.slice A2 l2.length c2) j ∨ w.heap.size ≤ j := by
    rintro j (h_ | h_ | h_)
    · exact .inl (.inl h_)
    · exact .inr (by omega)
    · exact .inr (by have h2 := hg6.out j h_; omega)
  have nE7 : ¬ PE PD (fun j => w6.heap.size ≤ j ∧ j < w7.heap.size) (.slice A6 y.length c6) w.heap.size := by
    rintro (h_ | h_ | h_)
    · exact nE (.inl h_)
    · omega
    · have h2 := hg6.out _ h_; omega
  have nQ7 : ¬ PE PD (fun j => w6.heap.size ≤ j ∧ j < w7.heap.size) (.slice A6 y.length c6) (w.heap.size + 1) := by
    rintro (h_ | h_ | h_)
    · exact nQ (.inl h_)
    · omega
    · have h2 := hg6.out _ h_; omega
  refine bodyPost_ret (v := .agg #[.slice A0 l0.length c0, .slice A7 t.length c7, .slice A6 y.length c6, .int .i64 a3, .bool true]) (by simp [results, Try.results138, go_sem, *]) rfl ⟨A0, c0, A7, c7, A6, c6, rfl, PD, _, ((EN.far nE7 1 _).far nE7 4 _).Jj nQ7, SN, ?_, ?_⟩
  · exact (Xc (Xc (Xc (Xc (Xc (Xc (Xc LB7.out HZ.out) HZ.out) HZ1.out) HZ1.out) HZ1.out) HZ1.out) HZ1.out)
  · exact (((((((LK7.out.setCell (p := ⟨w.heap.size, 1, none⟩) (.inr (Nat.le_refl _)) _).setCell (p := ⟨w.heap.size, 4, none⟩) (.inr (Nat.le_refl _)) _).setCell (p := ⟨w.heap.size + 1, 0, none⟩) (.inr (Nat.le_succ _)) _).setCell (p := ⟨w.heap.size + 1, 1, none⟩) (.inr (Nat.le_succ _)) _).setCell (p := ⟨w.heap.size + 1, 2, none⟩) (.inr (Nat.le_succ _)) _).setCell (p := ⟨w.heap.size + 1, 3, none⟩) (.inr (Nat.le_succ _)) _).setCell (p := ⟨w.heap.size + 1, 4, none⟩) (.inr (Nat.le_succ _)) _)
end Go.Proofs.Ytcefiblpnegepaa.Pr
