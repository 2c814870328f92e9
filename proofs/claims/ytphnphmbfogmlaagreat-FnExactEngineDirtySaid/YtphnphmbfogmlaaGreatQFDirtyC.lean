import Derived.Test.YtphnphmbfogmlaaGreatQFByq
import Derived.Test.YtphnphmbfogmlaaGreatQFSx
import Derived.Test.YtphnphmbfogmlaaGreatQFRedoC
namespace Go.Proofs.YtphnphmbfogmlaaGreat.Pr
open Go.RowKit Go.PW Go.PL Go.PM
attribute [local go_sem] Y3 Y4 YN YO Ya Yb Y5 Y6
set_option linter.unusedVariables false
set_option linter.unusedSimpArgs false
def Vg (X Y : List S56) : Nat → List Int
 | 0 => []
 | n + 1 => if (Xb Y (n : Int)).f0 = (Xb X (n : Int)).f0 then Vg X Y n else Vg X Y n ++ [(n : Int)]
theorem Wx (X Y : List S56) : ∀ n, (Vg X Y n).length ≤ n
 | 0 => Nat.le_refl _
 | n + 1 => by
  have := Wx X Y n
  unfold Vg
  split
  ·omega
  ·simp
   omega
theorem OU {X Y : List S56} {x : Int} (h : 0 ≤ x) (e : (Xb Y x).f0 = (Xb X x).f0) : Vg X Y (x + 1).toNat = Vg X Y x.toNat := by
 obtain ⟨n, rfl⟩ : ∃ n : Nat, x = (n : Int) := ⟨x.toNat, by omega⟩
 rw [show ((n : Int) + 1).toNat = n + 1 by omega, Int.toNat_natCast, Vg, if_pos e]
theorem OV {X Y : List S56} {x : Int} (h : 0 ≤ x) (e : ¬ (Xb Y x).f0 = (Xb X x).f0) : Vg X Y (x + 1).toNat = Vg X Y x.toNat ++ [x] := by
 obtain ⟨n, rfl⟩ : ∃ n : Nat, x = (n : Int) := ⟨x.toNat, by omega⟩
 rw [show ((n : Int) + 1).toNat = n + 1 by omega, Int.toNat_natCast, Vg, if_neg e]
def K8 (X Y : List S56) (t : Bool) : Option (List Int) := if t = true then (if X.length = 5 ∧ Y.length = 5 then some (Vg X Y 5) else none) else some []
def JG.f (k : Nat) (X Y : List S56) (Z : List S76) (s : Int) (d : Bool) : Option (List Int) := (Xi.f k X Y Z s d).bind (K8 X Y)
set_option maxHeartbeats 8000000 in
set_option maxRecDepth 100000 in
theorem JG.calls (k : Nat) (A0 : Option Addr) (c0 : Nat) (X : List S56) (A1 : Option Addr) (c1 : Nat) (Y : List S56) (A2 : Option Addr) (c2 : Nat) (Z : List S76) (s : Int) (d : Bool) (r : List Int) (w : World) (hr0 : Kd.C k56 w A0 X.length X) (hc0 : X.length ≤ c0) (hr1 : Kd.C k56 w A1 Y.length Y) (hc1 : Y.length ≤ c1) (hr2 : Kd.C k76 w A2 Z.length Z) (hc2 : Z.length ≤ c2) (h : JG.f k X Y Z s d = some r) :
 Calls Tryz.prog 15 #[.agg #[.slice A0 X.length c0, .slice A1 Y.length c1, .slice A2 Z.length c2, .int .i64 s, .bool d]] w fun e w' => ∃ v0_ : Value, e = .returned v0_ ∧ Kd.R (Kd.int .i64) 3 w' w.heap.size (fun _ => True) v0_ r ∧ Below w.heap.size w w' := by
 have hu31 := Tryz.underlying31; have hu56 := Tryz.underlying56
 unfold JG.f at h
 obtain ⟨t, h1, h⟩ := Option.bind_eq_some_iff.mp h; have R0 := zz (And.intro hr0 hc0); have R1 := zz (And.intro hr1 hc1); have R2 := zz (And.intro hr2 hc2); have H1 := zz h1; have hb0 := Xj (Below.refl w.heap.size w) (.cells #[.slice A0 X.length c0, .slice A1 Y.length c1, .slice A2 Z.length c2, .int .i64 s, .bool d] 31); have y0 := Jq w (.cells #[.slice A0 X.length c0, .slice A1 Y.length c1, .slice A2 Z.length c2, .int .i64 s, .bool d] 31)
 unfold K8 at h
 have x0 := Kd.YY (Xmz (Kd.int .i64) 3 (w.alloc (.cells #[.slice A0 X.length c0, .slice A1 Y.length c1, .slice A2 Z.length c2, .int .i64 s, .bool d] 31)).heap.size (w.alloc (.cells #[.slice A0 X.length c0, .slice A1 Y.length c1, .slice A2 Z.length c2, .int .i64 s, .bool d] 31)) (Nat.le_refl _)) hb0.size; rw [show (w.alloc (.cells #[.slice A0 X.length c0, .slice A1 Y.length c1, .slice A2 Z.length c2, .int .i64 s, .bool d] 31)).heap.size = w.heap.size + 1 from by simp] at x0; have X0 := zz x0; have YB := zz (Ye y0 (.cells #[] 3)); have HB0 := zz (Xj hb0 (.cells #[] 3)); clear hr0 hc0 hr1 hc1 hr2 hc2 h1 hb0 y0 x0
 cases t with
 | false =>
  rw [if_neg (by simp)] at h; obtain rfl := Option.some.inj h
  go_enter Tryz.func15, Tryz.ntmps15
  go_wp2_with fail
  refine (Xi.calls k A0 c0 X A1 c1 Y A2 c2 Z s d false _ (Kd.Xg R0.out.1 HB0.out) R0.out.2 (Kd.Xg R1.out.1 HB0.out) R1.out.2 (Kd.Xg R2.out.1 HB0.out) R2.out.2 H1.out).mono ?_; rintro e w1 ⟨rfl, hb⟩; have HB := zz (Xc HB0.out hb); have X1 := zz (Kd.Xr X0.out hb); clear hb
  go_wp2
  go_ret
  exact ⟨_, rfl, X1.out, HB.out⟩
 | true =>
  rw [if_pos rfl] at h
  by_cases hl : X.length = 5 ∧ Y.length = 5
  ·rw [if_pos hl] at h
   obtain rfl := Option.some.inj h; obtain ⟨hlX, hlY⟩ := hl; have LX := zz hlX; have LY := zz hlY; clear h hlX hlY
   go_enter Tryz.func15, Tryz.ntmps15
   go_wp2_with fail
   refine (Xi.calls k A0 c0 X A1 c1 Y A2 c2 Z s d true _ (Kd.Xg R0.out.1 HB0.out) R0.out.2 (Kd.Xg R1.out.1 HB0.out) R1.out.2 (Kd.Xg R2.out.1 HB0.out) R2.out.2 H1.out).mono ?_; rintro e w1 ⟨rfl, hb⟩; have BK := zz (Xk YB.out hb); have HB := zz (Xc HB0.out hb); have HO := zz (Kd.Xr X0.out hb); clear hb
   go_wp2
   go_loopg [3, 4] 6 (fun kq v3 v4 w' => ∃ x : Int, v4 = .int .i64 x ∧ Aside0 (0 ≤ x ∧ x + (kq : Int) = 6 ∧ x ≤ 5) ∧ Aside0 (Kd.R (Kd.int .i64) 3 w' w.heap.size (fun _ => True) v3 (Vg X Y x.toNat)) ∧ Aside0 (w'.heap[w.heap.size]? = some (.cells #[.slice A0 X.length c0, .slice A1 Y.length c1, .slice A2 Z.length c2, .int .i64 s, .bool d] 31 (0, 0))) ∧ Aside0 (Below w.heap.size w w'))
   case atStart => exact ⟨0, rfl, ⟨by omega, by omega, by omega⟩, HO, BK, HB⟩
   case round =>
    clear HO BK HB; obtain ⟨x, rfl, hx, HO, BK, HB⟩ := hrel
    cases gk with
    | zero => exact absurd hx.out.2.1 (by have := hx.out.2.2; omega)
    | succ k1 =>
     have z0 : wr.cell? ⟨w.heap.size, 0, none⟩ = some (.slice A0 X.length c0) := (Xd BK.out 0).trans rfl; have z1 : wr.cell? ⟨w.heap.size, 1, none⟩ = some (.slice A1 Y.length c1) := (Xd BK.out 1).trans rfl; have z2 : wr.cell? ⟨w.heap.size, 2, none⟩ = some (.slice A2 Z.length c2) := (Xd BK.out 2).trans rfl; have z3 : wr.cell? ⟨w.heap.size, 3, none⟩ = some (.int .i64 s) := (Xd BK.out 3).trans rfl; have z4 : wr.cell? ⟨w.heap.size, 4, none⟩ = some (.bool d) := (Xd BK.out 4).trans rfl
     by_cases c3 : x < 5
     ·have c3b : decide (x < 5) = true := decide_eq_true c3
      have hx0 := hx.out.1; have wi : wrap64 (x + 1) = x + 1 := T.wrap_small (by omega) zb45
      have hxY : x < (Y.length : Int) := by have := LY.out; have := hx.out; omega
      have hxX : x < (X.length : Int) := by have := LX.out; have := hx.out; have := LY.out; omega
      obtain ⟨ad, B_, b_, e_, g0, g1, g2, _, _⟩ := Zl R1.out.1 x hx0 hxY
      cases e_
      obtain ⟨ae, C_, c_, e_, f0, f1, f2, _, _⟩ := Zl R0.out.1 x hx0 hxX
      cases e_
      replace g0 := cb HB g0; replace g1 := cb HB g1; replace g2 := cb HB g2; replace f0 := cb HB f0; have HX0 := zz hx0; have p0 := eq_true hx0; have p1 := eq_true hxY; have p2 := eq_true hxX; clear hx0 hxY hxX f1 f2
      by_cases ce : (Xb Y x).f0 = (Xb X x).f0
      ·have ceb : ((Xb Y x).f0 == (Xb X x).f0) = true := beq_iff_eq.mpr ce
       have cen : ((Xb Y x).f0 != (Xb X x).f0) = false := bne_eq_false_iff_eq.mpr ce; have CE := zz ce; clear ce c3
       go_wp2
       repeat (go_quiet (fail); try go_wp2)
       go_roundg k1
       case measure => have := hx.out; omega
       case rel => exact ⟨x + 1, by rw [wi], ⟨zb45, zb45, zb68⟩, ⟨by rw [OU HX0.out CE.out]; exact zb40⟩, ⟨zb34⟩, ⟨zb11⟩⟩
      ·have ceb : ((Xb Y x).f0 == (Xb X x).f0) = false := beq_eq_false_iff_ne.mpr ce
       have cen : ((Xb Y x).f0 != (Xb X x).f0) = true := bne_iff_ne.mpr ce; have CE := zz ce; clear ce c3
       go_wp2_with (first | ((with_reducible refine Z0 (b := .append) (xs := #[.tmp 27, .tmp 29]) rfl ?_); at_builtin; refine Kd.VV (Kd.int .i64) (w0 := w) w.heap.size rfl (.tmp 27) (.tmp 29) 37 3 (.int .i64 0) 8 rfl Tryz.underlying37 info3 rfl (by decide) (by omega) u3 (Vg X Y x.toNat) x [.int .i64 x] (fun _ => True) (fun _ => False) rfl rfl ?aP (fun _ hk => hk.elim) ?aF ?aO ?aB ?aS ?aL ?_; (case aP => exact rfl); (case aB => exact zb11); (case aF => exact zb89); (case aO => exact zb40); (case aS => exact (XA zb11)); (case aL => exact zb107); intro v20 w7 ho hb hg hat; replace BK := zz (JQ (g := w.heap.size) zb34 hg (Kd.O4 HO.out BK.out (by decide))); replace HB := zz hb; have HP := zz ho; clear HO ho hb hg hat))
       repeat (go_quiet (first | ((with_reducible refine Z0 (b := .append) (xs := #[.tmp 27, .tmp 29]) rfl ?_); at_builtin; refine Kd.VV (Kd.int .i64) (w0 := w) w.heap.size rfl (.tmp 27) (.tmp 29) 37 3 (.int .i64 0) 8 rfl Tryz.underlying37 info3 rfl (by decide) (by omega) u3 (Vg X Y x.toNat) x [.int .i64 x] (fun _ => True) (fun _ => False) rfl rfl ?aP (fun _ hk => hk.elim) ?aF ?aO ?aB ?aS ?aL ?_; (case aP => exact rfl); (case aB => exact zb11); (case aF => exact zb89); (case aO => exact zb40); (case aS => exact (XA zb11)); (case aL => exact zb107); intro v20 w7 ho hb hg hat; replace BK := zz (JQ (g := w.heap.size) zb34 hg (Kd.O4 HO.out BK.out (by decide))); replace HB := zz hb; have HP := zz ho; clear HO ho hb hg hat)); try go_wp2_with (first | ((with_reducible refine Z0 (b := .append) (xs := #[.tmp 27, .tmp 29]) rfl ?_); at_builtin; refine Kd.VV (Kd.int .i64) (w0 := w) w.heap.size rfl (.tmp 27) (.tmp 29) 37 3 (.int .i64 0) 8 rfl Tryz.underlying37 info3 rfl (by decide) (by omega) u3 (Vg X Y x.toNat) x [.int .i64 x] (fun _ => True) (fun _ => False) rfl rfl ?aP (fun _ hk => hk.elim) ?aF ?aO ?aB ?aS ?aL ?_; (case aP => exact rfl); (case aB => exact zb11); (case aF => exact zb89); (case aO => exact zb40); (case aS => exact (XA zb11)); (case aL => exact zb107); intro v20 w7 ho hb hg hat; replace BK := zz (JQ (g := w.heap.size) zb34 hg (Kd.O4 HO.out BK.out (by decide))); replace HB := zz hb; have HP := zz ho; clear HO ho hb hg hat)))
       go_roundg k1
       case measure => have := hx.out; omega
       case rel => exact ⟨x + 1, by rw [wi], ⟨zb45, zb45, zb68⟩, ⟨by rw [OV HX0.out CE.out]; exact HP.out⟩, BK, HB⟩
     ·have c3b : decide (x < 5) = false := decide_eq_false c3
      have e5 : x = 5 := by have := LY.out; have := hx.out; omega
      have HP := zz (show Kd.R (Kd.int .i64) 3 wr w.heap.size (fun _ => True) u3 (Vg X Y 5) from by have h_ := HO.out; rw [e5] at h_; exact h_); clear c3 e5
      go_wp2
      go_ret
      exact ⟨_, rfl, HP.out, HB.out⟩
  ·rw [if_neg hl] at h
   exact absurd h (by simp)
def Jv.f (k : Nat) (X Y : List S56) (Z : List S76) (s : Int) (d : Bool) : Option (List Int) := (X3.f k X Y Z s d).bind (K8 X Y)
set_option maxHeartbeats 8000000 in
set_option maxRecDepth 100000 in
theorem Jv.calls (k : Nat) (A0 : Option Addr) (c0 : Nat) (X : List S56) (A1 : Option Addr) (c1 : Nat) (Y : List S56) (A2 : Option Addr) (c2 : Nat) (Z : List S76) (s : Int) (d : Bool) (r : List Int) (w : World) (hr0 : Kd.C k56 w A0 X.length X) (hc0 : X.length ≤ c0) (hr1 : Kd.C k56 w A1 Y.length Y) (hc1 : Y.length ≤ c1) (hr2 : Kd.C k76 w A2 Z.length Z) (hc2 : Z.length ≤ c2) (h : Jv.f k X Y Z s d = some r) :
 Calls Tryz.prog 16 #[.agg #[.slice A0 X.length c0, .slice A1 Y.length c1, .slice A2 Z.length c2, .int .i64 s, .bool d]] w fun e w' => ∃ v0_ : Value, e = .returned v0_ ∧ Kd.R (Kd.int .i64) 3 w' w.heap.size (fun _ => True) v0_ r ∧ Below w.heap.size w w' := by
 have hu31 := Tryz.underlying31; have hu56 := Tryz.underlying56
 unfold Jv.f at h
 obtain ⟨t, h1, h⟩ := Option.bind_eq_some_iff.mp h; have R0 := zz (And.intro hr0 hc0); have R1 := zz (And.intro hr1 hc1); have R2 := zz (And.intro hr2 hc2); have H1 := zz h1; have hb0 := Xj (Below.refl w.heap.size w) (.cells #[.slice A0 X.length c0, .slice A1 Y.length c1, .slice A2 Z.length c2, .int .i64 s, .bool d] 31); have y0 := Jq w (.cells #[.slice A0 X.length c0, .slice A1 Y.length c1, .slice A2 Z.length c2, .int .i64 s, .bool d] 31)
 unfold K8 at h
 have YB := zz y0; have HB0 := zz hb0; clear hr0 hc0 hr1 hc1 hr2 hc2 h1 hb0 y0
 cases t with
 | false =>
  rw [if_neg (by simp)] at h; obtain rfl := Option.some.inj h
  go_enter Tryz.func16, Tryz.ntmps16
  go_wp2_with fail
  refine (X3.calls k A0 c0 X A1 c1 Y A2 c2 Z s d false _ (Kd.Xg R0.out.1 HB0.out) R0.out.2 (Kd.Xg R1.out.1 HB0.out) R1.out.2 (Kd.Xg R2.out.1 HB0.out) R2.out.2 H1.out).mono ?_; rintro e w1 ⟨rfl, hb⟩; have HB := zz (Xc HB0.out hb); clear hb
  go_wp2
  go_ret
  exact ⟨_, rfl, Kd.PG _ _ _ _ _, HB.out⟩
 | true =>
  rw [if_pos rfl] at h
  by_cases hl : X.length = 5 ∧ Y.length = 5
  ·rw [if_pos hl] at h
   obtain rfl := Option.some.inj h; obtain ⟨hlX, hlY⟩ := hl; have LX := zz hlX; have LY := zz hlY; clear h hlX hlY
   go_enter Tryz.func16, Tryz.ntmps16
   go_wp2_with fail
   refine (X3.calls k A0 c0 X A1 c1 Y A2 c2 Z s d true _ (Kd.Xg R0.out.1 HB0.out) R0.out.2 (Kd.Xg R1.out.1 HB0.out) R1.out.2 (Kd.Xg R2.out.1 HB0.out) R2.out.2 H1.out).mono ?_; rintro e w1 ⟨rfl, hb⟩; have BK := zz (Xk YB.out hb); have HB := zz (Xc HB0.out hb); have z1 : w1.cell? ⟨w.heap.size, 1, none⟩ = some (.slice A1 Y.length c1) := (Xd BK.out 1).trans rfl; clear hb
   go_wp2
   go_loopg [3, 12] 6 (fun kq v3 v12 w' => ∃ x : Int, v12 = .int .i64 x ∧ Aside0 (0 ≤ x ∧ x + (kq : Int) = 6 ∧ x ≤ 5) ∧ Aside0 (Kd.R (Kd.int .i64) 3 w' w.heap.size (fun _ => True) v3 (Vg X Y x.toNat)) ∧ Aside0 (w'.heap[w.heap.size]? = some (.cells #[.slice A0 X.length c0, .slice A1 Y.length c1, .slice A2 Z.length c2, .int .i64 s, .bool d] 31 (0, 0))) ∧ Aside0 (Below w.heap.size w w'))
   case atStart => exact ⟨0, rfl, ⟨by omega, by omega, by omega⟩, ⟨Kd.PG _ _ _ _ _⟩, BK, HB⟩
   case round =>
    clear z1 BK HB; obtain ⟨x, rfl, hx, HO, BK, HB⟩ := hrel
    cases gk with
    | zero => exact absurd hx.out.2.1 (by have := hx.out.2.2; omega)
    | succ k1 =>
     have z0 : wr.cell? ⟨w.heap.size, 0, none⟩ = some (.slice A0 X.length c0) := (Xd BK.out 0).trans rfl; have z1 : wr.cell? ⟨w.heap.size, 1, none⟩ = some (.slice A1 Y.length c1) := (Xd BK.out 1).trans rfl; have z2 : wr.cell? ⟨w.heap.size, 2, none⟩ = some (.slice A2 Z.length c2) := (Xd BK.out 2).trans rfl; have z3 : wr.cell? ⟨w.heap.size, 3, none⟩ = some (.int .i64 s) := (Xd BK.out 3).trans rfl; have z4 : wr.cell? ⟨w.heap.size, 4, none⟩ = some (.bool d) := (Xd BK.out 4).trans rfl
     by_cases c3 : x < (Y.length : Int)
     ·have c3b : decide (x < (Y.length : Int)) = true := decide_eq_true c3
      have hx0 := hx.out.1; have wi : wrap64 (x + 1) = x + 1 := T.wrap_small (by omega) zb45
      have hxY : x < (Y.length : Int) := by have := LY.out; have := hx.out; omega
      have hxX : x < (X.length : Int) := by have := LX.out; have := hx.out; have := LY.out; omega
      obtain ⟨ad, B_, b_, e_, g0, g1, g2, _, _⟩ := Zl R1.out.1 x hx0 hxY
      cases e_
      obtain ⟨ae, C_, c_, e_, f0, f1, f2, _, _⟩ := Zl R0.out.1 x hx0 hxX
      cases e_
      replace g0 := cb HB g0; replace g1 := cb HB g1; replace g2 := cb HB g2; replace f0 := cb HB f0; have HX0 := zz hx0; have p0 := eq_true hx0; have p1 := eq_true hxY; have p2 := eq_true hxX; clear hx0 hxY hxX f1 f2
      by_cases ce : (Xb Y x).f0 = (Xb X x).f0
      ·have ceb : ((Xb Y x).f0 == (Xb X x).f0) = true := beq_iff_eq.mpr ce
       have cen : ((Xb Y x).f0 != (Xb X x).f0) = false := bne_eq_false_iff_eq.mpr ce; have CE := zz ce; clear ce c3
       go_wp2
       have hba := Xj (Below.refl wr.heap.size wr) (.cells #[.int .i64 (Xb Y x).f0, .int .i64 (Xb Y x).f1, .slice B_ (Xb Y x).f2.length b_] 56); have q0 : (wr.alloc (.cells #[.int .i64 (Xb Y x).f0, .int .i64 (Xb Y x).f1, .slice B_ (Xb Y x).f2.length b_] 56)).cell? ⟨wr.heap.size, 0, none⟩ = some (.int .i64 (Xb Y x).f0) := (Xd (Jq wr _) 0).trans rfl; replace z0 := cb ⟨hba⟩ z0; replace f0 := cb ⟨hba⟩ f0; replace BK := zz (Xk BK.out hba); replace HO := zz (Kd.Xr HO.out hba); replace HB := zz (Xc HB.out hba); clear hba z1 z2 z3 z4 g0 g1 g2; generalize wr.alloc (.cells #[.int .i64 (Xb Y x).f0, .int .i64 (Xb Y x).f1, .slice B_ (Xb Y x).f2.length b_] 56) = w7 at z0 f0 q0 BK HO HB ⊢
       repeat (go_quiet (fail); try go_wp2)
       go_roundg k1
       case measure => have := hx.out; omega
       case rel => exact ⟨x + 1, by rw [wi], ⟨zb45, zb45, zb68⟩, ⟨by rw [OU HX0.out CE.out]; exact zb40⟩, ⟨zb34⟩, ⟨zb11⟩⟩
      ·have ceb : ((Xb Y x).f0 == (Xb X x).f0) = false := beq_eq_false_iff_ne.mpr ce
       have cen : ((Xb Y x).f0 != (Xb X x).f0) = true := bne_iff_ne.mpr ce; have CE := zz ce; clear ce c3
       go_wp2
       have hba := Xj (Below.refl wr.heap.size wr) (.cells #[.int .i64 (Xb Y x).f0, .int .i64 (Xb Y x).f1, .slice B_ (Xb Y x).f2.length b_] 56); have q0 : (wr.alloc (.cells #[.int .i64 (Xb Y x).f0, .int .i64 (Xb Y x).f1, .slice B_ (Xb Y x).f2.length b_] 56)).cell? ⟨wr.heap.size, 0, none⟩ = some (.int .i64 (Xb Y x).f0) := (Xd (Jq wr _) 0).trans rfl; replace z0 := cb ⟨hba⟩ z0; replace f0 := cb ⟨hba⟩ f0; replace BK := zz (Xk BK.out hba); replace HO := zz (Kd.Xr HO.out hba); replace HB := zz (Xc HB.out hba); clear hba z1 z2 z3 z4 g0 g1 g2; generalize wr.alloc (.cells #[.int .i64 (Xb Y x).f0, .int .i64 (Xb Y x).f1, .slice B_ (Xb Y x).f2.length b_] 56) = w7 at z0 f0 q0 BK HO HB ⊢
       repeat (go_quiet (first | ((with_reducible refine Z0 (b := .append) (xs := #[.tmp 26, .tmp 28]) rfl ?_); at_builtin; refine Kd.VV (Kd.int .i64) (w0 := w) w.heap.size rfl (.tmp 26) (.tmp 28) 37 3 (.int .i64 0) 8 rfl Tryz.underlying37 info3 rfl (by decide) (by omega) u3 (Vg X Y x.toNat) x [.int .i64 x] (fun _ => True) (fun _ => False) rfl rfl ?aP (fun _ hk => hk.elim) ?aF ?aO ?aB ?aS ?aL ?_; (case aP => exact rfl); (case aB => exact zb11); (case aF => exact zb89); (case aO => exact zb40); (case aS => exact (XA zb11)); (case aL => exact zb107); intro v20 w7 ho hb hg hat; replace BK := zz (JQ (g := w.heap.size) zb34 hg (Kd.O4 HO.out BK.out (by decide))); replace HB := zz hb; have HP := zz ho; clear HO ho hb hg hat)); try go_wp2_with (first | ((with_reducible refine Z0 (b := .append) (xs := #[.tmp 26, .tmp 28]) rfl ?_); at_builtin; refine Kd.VV (Kd.int .i64) (w0 := w) w.heap.size rfl (.tmp 26) (.tmp 28) 37 3 (.int .i64 0) 8 rfl Tryz.underlying37 info3 rfl (by decide) (by omega) u3 (Vg X Y x.toNat) x [.int .i64 x] (fun _ => True) (fun _ => False) rfl rfl ?aP (fun _ hk => hk.elim) ?aF ?aO ?aB ?aS ?aL ?_; (case aP => exact rfl); (case aB => exact zb11); (case aF => exact zb89); (case aO => exact zb40); (case aS => exact (XA zb11)); (case aL => exact zb107); intro v20 w7 ho hb hg hat; replace BK := zz (JQ (g := w.heap.size) zb34 hg (Kd.O4 HO.out BK.out (by decide))); replace HB := zz hb; have HP := zz ho; clear HO ho hb hg hat)))
       go_roundg k1
       case measure => have := hx.out; omega
       case rel => exact ⟨x + 1, by rw [wi], ⟨zb45, zb45, zb68⟩, ⟨by rw [OV HX0.out CE.out]; exact HP.out⟩, BK, HB⟩
     ·have c3b : decide (x < (Y.length : Int)) = false := decide_eq_false c3
      have e5 : x = 5 := by have := LY.out; have := hx.out; omega
      have HP := zz (show Kd.R (Kd.int .i64) 3 wr w.heap.size (fun _ => True) u3 (Vg X Y 5) from by have h_ := HO.out; rw [e5] at h_; exact h_); clear c3 e5
      go_wp2
      go_ret
      exact ⟨_, rfl, HP.out, HB.out⟩
  ·rw [if_neg hl] at h
   exact absurd h (by simp)
end Go.Proofs.YtphnphmbfogmlaaGreat.Pr
