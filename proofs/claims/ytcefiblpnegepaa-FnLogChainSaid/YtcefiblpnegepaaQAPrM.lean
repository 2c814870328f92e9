import Derived.Test.YtcefiblpnegepaaQAByq
import Derived.Test.YtcefiblpnegepaaQASx
namespace Go.Proofs.Ytcefiblpnegepaa.Pr
open Go.RowKit Go.PW Go.PL Go.PM
attribute [local go_sem] YB YC Zc Zd Yn Yo YD YE
set_option linter.unusedVariables false
set_option linter.unusedSimpArgs false
def X7 (w0 W : World) (g : Nat) (f0 : List Int) (f1 : Int) : Prop := ∃ A0 c0, W.heap[g]? = some (.cells #[.slice A0 f0.length c0, .int .i64 f1] 96 (0, 0)) ∧ w0.heap.size ≤ g ∧ Kd.C (Kd.int .u8) w0 A0 f0.length f0
theorem X7.grown {w0 W : World} {g : Nat} {f0 : List Int} {f1 : Int} {W1 : World} {row : Option Nat} (h : X7 w0 W g f0 f1) (hw : W.grownBy W1 row) (hne : some g ≠ row) : X7 w0 W1 g f0 f1 := by
 obtain ⟨A0, c0, hb, hg, hr0⟩ := h; exact ⟨A0, c0, Ju hb hw hne, hg, hr0⟩
theorem X7.kept {w0 W : World} {g : Nat} {f0 : List Int} {f1 : Int} {W1 : World} {S : Nat → Prop} (h : X7 w0 W g f0 f1) (hk : Kept W W1 S) (hne : ¬ S g) : X7 w0 W1 g f0 f1 := by
 obtain ⟨A0, c0, hb, hg, hr0⟩ := h; exact ⟨A0, c0, EA hb hk hne, hg, hr0⟩
theorem X7.below {w0 W : World} {g : Nat} {f0 : List Int} {f1 : Int} {W1 : World} (h : X7 w0 W g f0 f1) (hw : Below W.heap.size W W1) : X7 w0 W1 g f0 f1 := h.grown (WT hw none) (by simp)
theorem X7.alloc {w0 W : World} {g : Nat} {f0 : List Int} {f1 : Int} (h : X7 w0 W g f0 f1) (o : Obj) : X7 w0 (W.alloc o) g f0 f1 := h.below (Xd (Below.refl _ _) o)
theorem X7.drewN {w0 W : World} {g : Nat} {f0 : List Int} {f1 : Int} (h : X7 w0 W g f0 f1) (m : Nat) : X7 w0 (W.drewN m) g f0 f1 := h
theorem X7.drew {w0 W : World} {g : Nat} {f0 : List Int} {f1 : Int} (h : X7 w0 W g f0 f1) : X7 w0 W.drew g f0 f1 := h
theorem X7.at_ {w0 W : World} {g : Nat} {f0 : List Int} {f1 : Int} {w' : World} {m : Nat} (hq : W.drewN m = w') (h : X7 w0 W g f0 f1) : X7 w0 w' g f0 f1 := by subst hq; exact X7.drewN h m
theorem X7.apart {w0 W : World} {g : Nat} {f0 : List Int} {f1 : Int} {α : Type} {d : Kd α} {e : Nat} {base : Nat} {ok : Nat → Prop} {v : Value} {xs : List α} (h : X7 w0 W g f0 f1) (ho : d.R e W base ok v xs) (ht : ∀ q, q ∈ e :: d.E → q ≠ 96) : d.R e W base (fun k => ok k ∧ k ≠ g) v xs := by
 obtain ⟨A0, c0, hb, hg, hr0⟩ := h; exact Kd.FE ho hb ht
theorem X7.own_ne {w0 W : World} {g : Nat} {f0 : List Int} {f1 : Int} {α : Type} {d : Kd α} {e : Nat} {base : Nat} {ok : Nat → Prop} {v : Value} {xs : List α} (h : X7 w0 W g f0 f1) (ho : d.R e W base ok v xs) (ht : e ≠ 96) : some g ≠ v.ownBlock := by
 obtain ⟨A0, c0, hb, hg, hr0⟩ := h; exact Kd.JK ho hb ht
theorem X7.lt {w0 W : World} {g : Nat} {f0 : List Int} {f1 : Int} (h : X7 w0 W g f0 f1) : g < W.heap.size := by
 obtain ⟨A0, c0, hb, hg, hr0⟩ := h; exact Dv hb
theorem X7.ge {w0 W : World} {g : Nat} {f0 : List Int} {f1 : Int} (h : X7 w0 W g f0 f1) : w0.heap.size ≤ g := by
 obtain ⟨A0, c0, hb, hg, hr0⟩ := h; exact hg
theorem X7.far {w0 W : World} {g : Nat} {f0 : List Int} {f1 : Int} {p : Addr} (h : X7 w0 W g f0 f1) (hne : g ≠ p.block) (u : Value) : X7 w0 (W.setCell p u) g f0 f1 := by
 obtain ⟨A0, c0, hb, hg, hr0⟩ := h; exact ⟨A0, c0, FH hb hne u, hg, hr0⟩
theorem Pm {W : World} {g : Nat} {A0 : Option Addr} {c0 : Nat} {f0 : List Int} {f1 : Int} (h : W.heap[g]? = some (.cells #[.slice A0 f0.length c0, .int .i64 f1] 96 (0, 0))) : W.cell? ⟨g, 0, none⟩ = some (.slice A0 f0.length c0) := (Xt h 0).trans rfl
theorem Pn {W : World} {g : Nat} {A0 : Option Addr} {c0 : Nat} {f0 : List Int} {f1 : Int} (h : W.heap[g]? = some (.cells #[.slice A0 f0.length c0, .int .i64 f1] 96 (0, 0))) : W.cell? ⟨g, 1, none⟩ = some (.int .i64 f1) := (Xt h 1).trans rfl
theorem X7.Ez {w0 W : World} {g : Nat} {f0 : List Int} {f1 : Int} (h : X7 w0 W g f0 f1) (x : Int) : X7 w0 (W.setCell ⟨g, 1, none⟩ (.int .i64 x)) g f0 x := by
 obtain ⟨A0, c0, hb, hg, hr0⟩ := h; exact ⟨A0, c0, by simpa using QX hb 1 (.int .i64 x), hg, hr0⟩
theorem X7.new (w0 W : World) (A0 : Option Addr) (c0 : Nat) (f0 : List Int) (f1 : Int) (hB : Below w0.heap.size w0 W) (hr0 : Kd.C (Kd.int .u8) w0 A0 f0.length f0) : X7 w0 (W.alloc (.cells #[.slice A0 f0.length c0, .int .i64 f1] 96)) W.heap.size f0 f1 := ⟨A0, c0, by simpa using heap_alloc_new W _, hB.size, hr0⟩
def VU.f (l0 : List Int) : Option (List Int × Int) := if (l0.length : Int) > 2000 then (if 2000 ≤ (l0.length : Int) then (some (l0.take 2000, 0)) else (none)) else (some (l0, 0))
set_option maxHeartbeats 8000000 in
set_option maxRecDepth 100000 in
theorem VU.calls (A0 : Option Addr) (c0 : Nat) (l0 : List Int) (r1 : List Int) (r2 : Int) (w0 w : World) (hB : Below w0.heap.size w0 w) (hr0 : Kd.C (Kd.int .u8) w0 A0 l0.length l0) (hc0 : l0.length ≤ c0) (h : VU.f l0 = some (r1, r2)) :
 Calls Try.prog 75 #[.slice A0 l0.length c0] w fun e w' => ∃ g_ : Nat, e = .returned (.pointer (some ⟨g_, 0, none⟩)) ∧ X7 w0 w' g_ r1 r2 ∧ Below w0.heap.size w0 w' ∧ Below w.heap.size w w' := by
 have hu96 := Try.underlying96; have HR0 := zz hr0; have HC0 := zz hc0; clear hr0 hc0; have HBW := zz (Below.refl w.heap.size w); have HW0 := zz hB.size; have HB := zz hB; clear hB; have H : (if (l0.length : Int) > 2000 then (if 2000 ≤ (l0.length : Int) then (some (l0.take 2000, 0)) else (none)) else (some (l0, 0))) = some (r1, r2) := h; clear h
 by_cases c2 : (l0.length : Int) > 2000
 ·rw [if_pos c2] at H
  have c2b0 : decide (2000 < (l0.length : Int)) = true := decide_eq_true c2; have c2b1 : decide (2000 < l0.length) = true := decide_eq_true (by omega); clear c2
  by_cases c3 : 2000 ≤ (l0.length : Int)
  ·rw [if_pos c3] at H
   have c3b0 := eq_true c3; have c3b1 : decide (2000 ≤ (l0.length : Int)) = true := decide_eq_true c3; clear c3; simp only [Option.some.injEq, Prod.mk.injEq] at H; obtain ⟨rfl, rfl⟩ := H; obtain ⟨i04, hi04, _, hsz4, _⟩ := info_parts info5; obtain ⟨hcut4, hA4, hC4⟩ := OB (P := Try.prog) (Value.int .u8) 0 22 5 .i64 Try.underlying22 hi04 hsz4 A0 c0 l0 2000 (by omega) (of_decide_eq_true zb7) HC0.out; have Xtj := zz (Kd.Xcd (h1 := fun _ => rfl) (hA4 _ (Kd.Oj HR0.out))); have HC101 := zz hC4; clear hA4 hC4 hi04 hsz4
   go_enter Try.func75, Try.ntmps75
   go_wp2_with (first | ((with_reducible refine XO (N := 10) rfl ?_); refine Y4 ?hg (N := 10) ?hd (cs := #[.slice A0 (l0.take 2000).length c0, .int .i64 0]) (t := 96) ?hr ?_; (case hd => rfl); (case hg => rfl); (case hr => exact zb22); intro Xdt hg w5 hbox hb; have n0_ := zz (Xe HBW.out hb); have n1_ := zz (Xe zb4 hb); have n2_ := zz (hbox); have n3_ := zz ((zb59 : w.heap.size ≤ Xdt)); have n4_ := zz ((Nat.le_trans HW0.out (zb59 : w.heap.size ≤ Xdt) : w0.heap.size ≤ Xdt)); clear HBW; clear HB; have HBW := n0_; have HB := n1_; have Xtk := n2_; have Xtl := n3_; have Xm1 := n4_; clear n0_ n1_ n2_ n3_ n4_; clear hb hbox hg))
   go_ret
   exact ⟨_, rfl, (show X7 w0 _ Xdt (l0.take 2000) 0 from ⟨_, _, by (with_reducible repeat (first | refine Zp ?_ _ | refine XZ ?_ | refine XN ?_ _)); exact Xtk.out, Xm1.out, Xtj.out⟩), by repeat (first | (with_reducible first | exact HB.out | apply Xd | apply XD | apply Yq | refine Xc ?_ Xm1.out) | exact HB.out), by repeat (first | (with_reducible first | exact HBW.out | apply Xd | apply XD | apply Yq | refine Xc ?_ Xtl.out) | exact HBW.out)⟩
  ·rw [if_neg c3] at H
   exact absurd H (by simp)
 ·rw [if_neg c2] at H
  have c2b0 : decide (2000 < (l0.length : Int)) = false := decide_eq_false c2; have c2b1 : decide (2000 < l0.length) = false := decide_eq_false (by omega); clear c2; simp only [Option.some.injEq, Prod.mk.injEq] at H; obtain ⟨rfl, rfl⟩ := H
  go_enter Try.func75, Try.ntmps75
  go_wp2_with (first | ((with_reducible refine XO (N := 10) rfl ?_); refine Y4 ?hg (N := 10) ?hd (cs := #[.slice A0 l0.length c0, .int .i64 0]) (t := 96) ?hr ?_; (case hd => rfl); (case hg => rfl); (case hr => exact zb22); intro Xdu hg w6 hbox hb; have n0_ := zz (Xe HBW.out hb); have n1_ := zz (Xe zb4 hb); have n2_ := zz (hbox); have n3_ := zz ((zb59 : w.heap.size ≤ Xdu)); have n4_ := zz ((Nat.le_trans HW0.out (zb59 : w.heap.size ≤ Xdu) : w0.heap.size ≤ Xdu)); clear HBW; clear HB; have HBW := n0_; have HB := n1_; have Xtm := n2_; have Xtn := n3_; have Xm2 := n4_; clear n0_ n1_ n2_ n3_ n4_; clear hb hbox hg))
  go_ret
  exact ⟨_, rfl, (show X7 w0 _ Xdu l0 0 from ⟨_, _, by (with_reducible repeat (first | refine Zp ?_ _ | refine XZ ?_ | refine XN ?_ _)); exact Xtm.out, Xm2.out, HR0.out⟩), by repeat (first | (with_reducible first | exact HB.out | apply Xd | apply XD | apply Yq | refine Xc ?_ Xm2.out) | exact HB.out), by repeat (first | (with_reducible first | exact HBW.out | apply Xd | apply XD | apply Yq | refine Xc ?_ Xtn.out) | exact HBW.out)⟩
def Xb.j0 : Nat → Int → Bool → List Int → Int → Option (Int × Int)
 | 0, _, _, _, _ => none
 | k + 1, x1, x24, Zu, Jm => if x24 = true then (some (0, Jm)) else (if (wrap64 (Jm - 1)) < (Zu.length : Int) then (if 0 ≤ (wrap64 (Jm - 1)) then (if x1 = 0 then (none) else (some (Int.tmod (wrap64 (rd Zu (wrap64 (Jm - 1)))) x1, Jm))) else (none)) else (if (Zu.length : Int) = 0 then (none) else (if 0 ≤ (Int.tmod (wrap64 (Jm - 1)) (Zu.length : Int)) then (if (Int.tmod (wrap64 (Jm - 1)) (Zu.length : Int)) < (Zu.length : Int) then (if 0 ≤ (Int.tmod (wrap64 ((wrap64 ((wrap64 (Jm - 1)) * 7)) + 3)) (Zu.length : Int)) then (if (Int.tmod (wrap64 ((wrap64 ((wrap64 (Jm - 1)) * 7)) + 3)) (Zu.length : Int)) < (Zu.length : Int) then (if x1 = 0 then (none) else (some (Int.tmod (Go.bits .xor .i64 (wrap64 ((wrap64 ((wrap64 ((wrap64 ((wrap64 (rd Zu (Int.tmod (wrap64 (Jm - 1)) (Zu.length : Int)))) * 131)) + (wrap64 ((wrap64 (rd Zu (Int.tmod (wrap64 ((wrap64 ((wrap64 (Jm - 1)) * 7)) + 3)) (Zu.length : Int)))) * 1117)))) + (wrap64 ((wrap64 (Jm - 1)) * 29)))) + (wrap64 ((wrap64 (Int.tdiv (wrap64 (Jm - 1)) (Zu.length : Int))) * 53)))) (wrap64 (Int.tdiv (wrap64 ((wrap64 ((wrap64 ((wrap64 ((wrap64 (rd Zu (Int.tmod (wrap64 (Jm - 1)) (Zu.length : Int)))) * 131)) + (wrap64 ((wrap64 (rd Zu (Int.tmod (wrap64 ((wrap64 ((wrap64 (Jm - 1)) * 7)) + 3)) (Zu.length : Int)))) * 1117)))) + (wrap64 ((wrap64 (Jm - 1)) * 29)))) + (wrap64 ((wrap64 (Int.tdiv (wrap64 (Jm - 1)) (Zu.length : Int))) * 53)))) 64))) x1, Jm))) else (none)) else (none)) else (none)) else (none))))
def Xb.f (k : Nat) (Xm : List Int) (ZQ : Int) (a1 : Int) : Option (Int × Int) := if a1 < 1 then (Xb.j0 k a1 true Xm (wrap64 (ZQ + 1))) else (Xb.j0 k a1 ((Xm.length : Int) == 0) Xm (wrap64 (ZQ + 1)))
theorem Xb.Gu : ∀ k, (∀ y0 y1 y2 y3, LeO (Xb.j0 k y0 y1 y2 y3) (Xb.j0 (k + 1) y0 y1 y2 y3))
 | 0 => fun _ _ _ _ r h => by simp [Xb.j0] at h
 | k + 1 => by
  have ih0 := Xb.Gu k
  ·intro y0 y1 y2 y3
   unfold Xb.j0
   repeat' first
   | (with_reducible exact ih0 _ _ _ _)
   | (with_reducible exact LeO.refl _)
   | (with_reducible exact LeO.none _)
   | (with_reducible refine LeO.ite ?_ ?_)
   | (with_reducible refine LeO.bind ?_ (fun _ => ?_))
   | exact ih0 _ _ _ _
   | exact LeO.none _
   | refine LeO.ite ?_ ?_
   | refine LeO.bind ?_ (fun _ => ?_)
theorem Xb.mono : ∀ a0 a1 a2 k, LeO (Xb.f k a0 a1 a2) (Xb.f (k + 1) a0 a1 a2) := by
 intro a0 a1 a2 k; have ih0 := Xb.Gu k
 unfold Xb.f
 repeat' first
  | (with_reducible exact ih0 _ _ _ _)
  | (with_reducible exact LeO.refl _)
  | (with_reducible exact LeO.none _)
  | (with_reducible refine LeO.ite ?_ ?_)
  | (with_reducible refine LeO.bind ?_ (fun _ => ?_))
  | exact ih0 _ _ _ _
  | exact LeO.none _
  | refine LeO.ite ?_ ?_
  | refine LeO.bind ?_ (fun _ => ?_)
set_option maxHeartbeats 8000000 in
set_option maxRecDepth 100000 in
theorem Xb.calls (k : Nat) (g : Nat) (Xm : List Int) (ZQ : Int) (a1 : Int) (r1 : Int) (r2 : Int) (w0 w : World) (hI : X7 w0 w g Xm ZQ) (hB : Below w0.heap.size w0 w) (h : Xb.f k Xm ZQ a1 = some (r1, r2)) :
 Calls Try.prog 77 #[.pointer (some ⟨g, 0, none⟩), .int .i64 a1] w fun e w' => e = .returned (.int .i64 r1) ∧ X7 w0 w' g Xm r2 ∧ Below w0.heap.size w0 w' ∧ Xj w w' g none := by
 have HI0 := zz hI; have HK := zz (Xj.refl w g none); have HL := zz hB.size; clear hI; have HW0 := zz hB.size; have HB := zz hB; clear hB; have H : (if a1 < 1 then (Xb.j0 k a1 true Xm (wrap64 (ZQ + 1))) else (Xb.j0 k a1 ((Xm.length : Int) == 0) Xm (wrap64 (ZQ + 1)))) = some (r1, r2) := h; clear h; have HC3 := zz H; clear H; obtain ⟨ASz4_0, cSz4_0, HGz4, hgz4, HSz4_0⟩ := HI0.out; have XnK := Pm HGz4; have XnL := Pn HGz4; have XnM := Xf HGz4 1; clear HGz4 hgz4
 go_enter Try.func77, Try.ntmps77
 go_upto_region 2 with (fail)
 repeat (go_quiet (fail); go_upto_region 2 with (fail))
 go_cut [24] (fun v24 wc => ∃ (kq : Nat) (Xdv : Bool), v24 = .bool Xdv ∧ Aside0 (Xb.j0 kq a1 Xdv Xm (wrap64 (ZQ + 1)) = some (r1, r2)) ∧ Aside0 (kq ≤ k) ∧ Aside0 (X7 w0 wc g Xm (wrap64 (ZQ + 1))) ∧ Aside0 (Xj w wc g none) ∧ Aside0 (Below w0.heap.size w0 wc))
 case first =>
  have H := HC3.out; clear HC3
  by_cases c5 : a1 < 1
  ·rw [if_pos c5] at H
   have c5b0 : decide (a1 < 1) = true := decide_eq_true c5; clear c5
   (first | rw [c5b0] | (simp only [XB, XK]; rw [c5b0]) | skip)
   have H' := zz H; clear H
   go_wp2
   repeat (go_quiet (fail); try go_wp2)
   go_meet
   case rel => exact ⟨_, (true), zb12, H', ⟨zb51⟩, ⟨zb19⟩, ⟨zb20⟩, ⟨zb46⟩⟩
  ·rw [if_neg c5] at H
   have c5b0 : decide (a1 < 1) = false := decide_eq_false c5; clear c5
   (first | rw [c5b0] | (simp only [XB, XK]; rw [c5b0]) | skip)
   have H' := zz H; clear H; obtain ⟨ASz6_0, cSz6_0, HGz6, hgz6, HSz6_0⟩ := HI0.out; have Bd := Pm HGz6; have Be := Pn HGz6; have Bf := Xf HGz6 1; clear HGz6 hgz6
   go_wp2
   repeat (go_quiet (fail); try go_wp2)
   go_meet
   case rel => exact ⟨_, (((Xm.length : Int) == 0)), zb12, H', ⟨zb51⟩, ⟨zb19⟩, ⟨zb20⟩, ⟨zb46⟩⟩
 case rest =>
  clear HC3
  try clear p2
  try clear c5
  try clear c5b0
  try clear p6
  try clear XnK
  try clear XnL
  try clear Bd
  try clear Be
  try clear XnM
  try clear Bf
  obtain ⟨kq, Xdv, rfl, HA, HJ2, HI0, HK, HB⟩ := hcut
  cases kq with
  | zero => exact absurd HA.out (by simp [Xb.j0])
  | succ kj2 =>
   have H := HA.out; clear HA; simp only [Xb.j0] at H
   by_cases c7 : Xdv = true
   ·subst c7
    have H1 : (some (0, (wrap64 (ZQ + 1)))) = some (r1, r2) := by rw [if_pos rfl] at H; exact H
    clear H; have H := H1; clear H1; simp only [Option.some.injEq, Prod.mk.injEq] at H; obtain ⟨rfl, rfl⟩ := H
    go_wp2
    repeat (go_quiet (fail); try go_wp2)
    go_ret
    exact ⟨zb8, zb19, zb46, zb20⟩
   ·replace c7 := Bool.eq_false_iff.mpr c7
    subst c7
    have H1 : (if (wrap64 ((wrap64 (ZQ + 1)) - 1)) < (Xm.length : Int) then (if 0 ≤ (wrap64 ((wrap64 (ZQ + 1)) - 1)) then (if a1 = 0 then (none) else (some (Int.tmod (wrap64 (rd Xm (wrap64 ((wrap64 (ZQ + 1)) - 1)))) a1, (wrap64 (ZQ + 1))))) else (none)) else (if (Xm.length : Int) = 0 then (none) else (if 0 ≤ (Int.tmod (wrap64 ((wrap64 (ZQ + 1)) - 1)) (Xm.length : Int)) then (if (Int.tmod (wrap64 ((wrap64 (ZQ + 1)) - 1)) (Xm.length : Int)) < (Xm.length : Int) then (if 0 ≤ (Int.tmod (wrap64 ((wrap64 ((wrap64 ((wrap64 (ZQ + 1)) - 1)) * 7)) + 3)) (Xm.length : Int)) then (if (Int.tmod (wrap64 ((wrap64 ((wrap64 ((wrap64 (ZQ + 1)) - 1)) * 7)) + 3)) (Xm.length : Int)) < (Xm.length : Int) then (if a1 = 0 then (none) else (some (Int.tmod (Go.bits .xor .i64 (wrap64 ((wrap64 ((wrap64 ((wrap64 ((wrap64 (rd Xm (Int.tmod (wrap64 ((wrap64 (ZQ + 1)) - 1)) (Xm.length : Int)))) * 131)) + (wrap64 ((wrap64 (rd Xm (Int.tmod (wrap64 ((wrap64 ((wrap64 ((wrap64 (ZQ + 1)) - 1)) * 7)) + 3)) (Xm.length : Int)))) * 1117)))) + (wrap64 ((wrap64 ((wrap64 (ZQ + 1)) - 1)) * 29)))) + (wrap64 ((wrap64 (Int.tdiv (wrap64 ((wrap64 (ZQ + 1)) - 1)) (Xm.length : Int))) * 53)))) (wrap64 (Int.tdiv (wrap64 ((wrap64 ((wrap64 ((wrap64 ((wrap64 (rd Xm (Int.tmod (wrap64 ((wrap64 (ZQ + 1)) - 1)) (Xm.length : Int)))) * 131)) + (wrap64 ((wrap64 (rd Xm (Int.tmod (wrap64 ((wrap64 ((wrap64 ((wrap64 (ZQ + 1)) - 1)) * 7)) + 3)) (Xm.length : Int)))) * 1117)))) + (wrap64 ((wrap64 ((wrap64 (ZQ + 1)) - 1)) * 29)))) + (wrap64 ((wrap64 (Int.tdiv (wrap64 ((wrap64 (ZQ + 1)) - 1)) (Xm.length : Int))) * 53)))) 64))) a1, (wrap64 (ZQ + 1))))) else (none)) else (none)) else (none)) else (none)))) = some (r1, r2) := by rw [if_neg (show ¬ (false = true) by decide)] at H; exact H
    clear H; have H := H1; clear H1
    by_cases c8 : (wrap64 ((wrap64 (ZQ + 1)) - 1)) < (Xm.length : Int)
    ·rw [if_pos c8] at H
     have c8b0 : decide ((wrap64 ((wrap64 (ZQ + 1)) - 1)) < (Xm.length : Int)) = true := decide_eq_true c8; clear c8
     obtain ⟨ji9, hji9⟩ : ∃ j_ : Int, (wrap64 ((wrap64 (ZQ + 1)) - 1)) = j_ := ⟨_, rfl⟩
     replace H : (if 0 ≤ (ji9) then (if a1 = 0 then (none) else (some (Int.tmod (wrap64 (rd Xm (ji9))) a1, (wrap64 (ZQ + 1))))) else (none)) = some (r1, r2) := by first | (rw [hji9] at H; exact H) | (simp only [hji9] at H ⊢; exact H)
     (try rw [hji9] at c8b0)
     have hji9w : (IntKind.i64.wrap ((wrap64 (ZQ + 1)) - 1)) = ji9 := (XB _).trans hji9
     by_cases c10 : 0 ≤ (ji9)
     ·rw [if_pos c10] at H
      have Fq : decide (0 ≤ (ji9)) = true := decide_eq_true c10; clear c10
      by_cases c11 : a1 = 0
      ·rw [if_pos c11] at H
       exact absurd H (by simp)
      ·rw [if_neg c11] at H
       have Xgq : (a1 == 0) = false := beq_eq_false_iff_ne.mpr c11; have c11b1 : (a1 != 0) = true := bne_iff_ne.mpr c11; simp only [Option.some.injEq, Prod.mk.injEq] at H; obtain ⟨rfl, rfl⟩ := H; obtain ⟨ASz12_0, cSz12_0, HGz12, hgz12, HSz12_0⟩ := HI0.out; have Xkn := Pm HGz12; have Xko := Pn HGz12; have Xkp := Xf HGz12 1; clear HGz12 hgz12; have XnN : 0 ≤ ((ji9) : Int) := of_decide_eq_true zb7; have XnO : (ji9) < (Xm.length : Int) := of_decide_eq_true zb7; obtain ⟨ad104, e104, Xdw⟩ := Kd.Jl HSz12_0 (ji9) XnN XnO
       cases e104
       replace Xdw := Dt HB.out Xdw; replace XnN := eq_true XnN; replace XnO := eq_true XnO
       go_wp2
       repeat (go_quiet (fail); try go_wp2)
       go_ret
       exact ⟨by first | rfl | (simp [YN, YO] <;> rfl) | (simp only [← hji9]; first | rfl | (simp [YN, YO] <;> rfl)) | (simp [*, YN, YO] <;> rfl), zb19, zb46, zb20⟩
     ·rw [if_neg c10] at H
      exact absurd H (by simp)
    ·rw [if_neg c8] at H
     have c8b0 : decide ((wrap64 ((wrap64 (ZQ + 1)) - 1)) < (Xm.length : Int)) = false := decide_eq_false c8; clear c8
     by_cases c13 : (Xm.length : Int) = 0
     ·rw [if_pos c13] at H
      exact absurd H (by simp)
     ·rw [if_neg c13] at H
      have P8 : ((Xm.length : Int) == 0) = false := beq_eq_false_iff_ne.mpr c13; have Xa6 : ((Xm.length : Int) != 0) = true := bne_iff_ne.mpr c13
      have Xa7 : ¬ (Xm = []) := fun h_ => c13 (by rw [h_]; rfl)
      obtain ⟨LY, Xgr⟩ : ∃ j_ : Int, (Int.tmod (wrap64 ((wrap64 (ZQ + 1)) - 1)) (Xm.length : Int)) = j_ := ⟨_, rfl⟩
      replace H : (if 0 ≤ (LY) then (if (LY) < (Xm.length : Int) then (if 0 ≤ (Int.tmod (wrap64 ((wrap64 ((wrap64 ((wrap64 (ZQ + 1)) - 1)) * 7)) + 3)) (Xm.length : Int)) then (if (Int.tmod (wrap64 ((wrap64 ((wrap64 ((wrap64 (ZQ + 1)) - 1)) * 7)) + 3)) (Xm.length : Int)) < (Xm.length : Int) then (if a1 = 0 then (none) else (some (Int.tmod (Go.bits .xor .i64 (wrap64 ((wrap64 ((wrap64 ((wrap64 ((wrap64 (rd Xm (LY))) * 131)) + (wrap64 ((wrap64 (rd Xm (Int.tmod (wrap64 ((wrap64 ((wrap64 ((wrap64 (ZQ + 1)) - 1)) * 7)) + 3)) (Xm.length : Int)))) * 1117)))) + (wrap64 ((wrap64 ((wrap64 (ZQ + 1)) - 1)) * 29)))) + (wrap64 ((wrap64 (Int.tdiv (wrap64 ((wrap64 (ZQ + 1)) - 1)) (Xm.length : Int))) * 53)))) (wrap64 (Int.tdiv (wrap64 ((wrap64 ((wrap64 ((wrap64 ((wrap64 (rd Xm (LY))) * 131)) + (wrap64 ((wrap64 (rd Xm (Int.tmod (wrap64 ((wrap64 ((wrap64 ((wrap64 (ZQ + 1)) - 1)) * 7)) + 3)) (Xm.length : Int)))) * 1117)))) + (wrap64 ((wrap64 ((wrap64 (ZQ + 1)) - 1)) * 29)))) + (wrap64 ((wrap64 (Int.tdiv (wrap64 ((wrap64 (ZQ + 1)) - 1)) (Xm.length : Int))) * 53)))) 64))) a1, (wrap64 (ZQ + 1))))) else (none)) else (none)) else (none)) else (none)) = some (r1, r2) := by first | (rw [Xgr] at H; exact H) | (simp only [Xgr] at H ⊢; exact H)
      by_cases c15 : 0 ≤ (LY)
      ·rw [if_pos c15] at H
       have c15b0 : decide (0 ≤ (LY)) = true := decide_eq_true c15; clear c15
       by_cases c16 : (LY) < (Xm.length : Int)
       ·rw [if_pos c16] at H
        have c16b0 : decide ((LY) < (Xm.length : Int)) = true := decide_eq_true c16; clear c16
        obtain ⟨Ec, Xgs⟩ : ∃ j_ : Int, (Int.tmod (wrap64 ((wrap64 ((wrap64 ((wrap64 (ZQ + 1)) - 1)) * 7)) + 3)) (Xm.length : Int)) = j_ := ⟨_, rfl⟩
        replace H : (if 0 ≤ (Ec) then (if (Ec) < (Xm.length : Int) then (if a1 = 0 then (none) else (some (Int.tmod (Go.bits .xor .i64 (wrap64 ((wrap64 ((wrap64 ((wrap64 ((wrap64 (rd Xm (LY))) * 131)) + (wrap64 ((wrap64 (rd Xm (Ec))) * 1117)))) + (wrap64 ((wrap64 ((wrap64 (ZQ + 1)) - 1)) * 29)))) + (wrap64 ((wrap64 (Int.tdiv (wrap64 ((wrap64 (ZQ + 1)) - 1)) (Xm.length : Int))) * 53)))) (wrap64 (Int.tdiv (wrap64 ((wrap64 ((wrap64 ((wrap64 ((wrap64 (rd Xm (LY))) * 131)) + (wrap64 ((wrap64 (rd Xm (Ec))) * 1117)))) + (wrap64 ((wrap64 ((wrap64 (ZQ + 1)) - 1)) * 29)))) + (wrap64 ((wrap64 (Int.tdiv (wrap64 ((wrap64 (ZQ + 1)) - 1)) (Xm.length : Int))) * 53)))) 64))) a1, (wrap64 (ZQ + 1))))) else (none)) else (none)) = some (r1, r2) := by first | (rw [Xgs] at H; exact H) | (simp only [Xgs] at H ⊢; exact H)
        by_cases c18 : 0 ≤ (Ec)
        ·rw [if_pos c18] at H
         have Xmt : decide (0 ≤ (Ec)) = true := decide_eq_true c18; clear c18
         by_cases c19 : (Ec) < (Xm.length : Int)
         ·rw [if_pos c19] at H
          have XsY : decide ((Ec) < (Xm.length : Int)) = true := decide_eq_true c19; clear c19
          by_cases c20 : a1 = 0
          ·rw [if_pos c20] at H
           exact absurd H (by simp)
          ·rw [if_neg c20] at H
           have BS : (a1 == 0) = false := beq_eq_false_iff_ne.mpr c20; have XfQ : (a1 != 0) = true := bne_iff_ne.mpr c20; simp only [Option.some.injEq, Prod.mk.injEq] at H; obtain ⟨rfl, rfl⟩ := H; obtain ⟨ASz21_0, cSz21_0, HGz21, hgz21, HSz21_0⟩ := HI0.out; have XzO := Pm HGz21; have XzP := Pn HGz21; have XzQ := Xf HGz21 1; clear HGz21 hgz21; have XnP : 0 ≤ ((LY) : Int) := of_decide_eq_true zb7; have XnQ : (LY) < (Xm.length : Int) := of_decide_eq_true zb7; obtain ⟨Xto, e105, Xdx⟩ := Kd.Jl HSz21_0 (LY) XnP XnQ
           cases e105
           replace Xdx := Dt HB.out Xdx; replace XnP := eq_true XnP; replace XnQ := eq_true XnQ; have XnR : 0 ≤ ((Ec) : Int) := of_decide_eq_true zb7; have XnS : (Ec) < (Xm.length : Int) := of_decide_eq_true zb7; obtain ⟨Xtp, e106, Xdy⟩ := Kd.Jl HSz21_0 (Ec) XnR XnS
           obtain rfl : Xto = Xtp := (by injection e106)
           replace Xdy := Dt HB.out Xdy; replace XnR := eq_true XnR; replace XnS := eq_true XnS
           go_wp2
           repeat (go_quiet (fail); try go_wp2)
           go_ret
           exact ⟨by first | rfl | (simp [YN, YO] <;> rfl) | (simp only [← Xgr, ← Xgs]; first | rfl | (simp [YN, YO] <;> rfl)) | (simp [*, YN, YO] <;> rfl), zb19, zb46, zb20⟩
         ·rw [if_neg c19] at H
          exact absurd H (by simp)
        ·rw [if_neg c18] at H
         exact absurd H (by simp)
       ·rw [if_neg c16] at H
        exact absurd H (by simp)
      ·rw [if_neg c15] at H
       exact absurd H (by simp)
def Fj.f  : Option (Int × Int × List Int) := if 3 ≤ 35184372088832 then (some (0, 0, (List.replicate 3 0))) else (none)
set_option maxHeartbeats 8000000 in
set_option maxRecDepth 100000 in
theorem Fj.calls  (r1 : Int) (r2 : Int) (r3 : List Int) (w : World) (h : Fj.f  = some (r1, r2, r3)) :
 Calls Try.prog 111 #[] w fun e w' => ∃ v2_ : Value, e = .returned (.agg #[.int .i64 r1, .int .i64 r2, v2_]) ∧ Kd.R (Kd.int .i64) 3 w' w.heap.size (fun _ => True) v2_ r3 ∧ Below w.heap.size w w' := by
 have hu25 := Try.underlying25; have HB := zz (Below.refl w.heap.size w); have H : (if 3 ≤ 35184372088832 then (some (0, 0, (List.replicate 3 0))) else (none)) = some (r1, r2, r3) := h; clear h
 by_cases c1 : 3 ≤ 35184372088832
 ·rw [if_pos c1] at H
  have c1b0 := eq_true c1; have c1b1 : decide (3 ≤ 35184372088832) = true := decide_eq_true c1; clear c1
  obtain ⟨XnT, hy108⟩ : ∃ y_ : List Int, y_ = (List.replicate 3 0) := ⟨_, rfl⟩
  replace H : (some (0, 0, XnT)) = some (r1, r2, r3) := by first | (rw [hy108]; with_reducible exact H) | (have H2_ := (Option.bind_some _ _).symm.trans H; rw [hy108]; with_reducible exact H2_) | (have H2_ := (Option.bind_some _ _).symm.trans H; with_reducible exact H2_) | with_reducible exact H | (rw [hy108]; exact H) | exact H
  have Ny108 := zz hy108; clear hy108; simp only [Option.some.injEq, Prod.mk.injEq] at H; obtain ⟨rfl, rfl, rfl⟩ := H
  go_enter Try.func111, Try.ntmps111
  go_wp2_with (first | ((with_reducible refine XO (N := 0) rfl ?_); refine Y4 ?hg (N := 0) ?hd (cs := #[.int .i64 0, .int .i64 0, .slice none 0 0]) (t := 25) ?hr ?_; (case hd => rfl); (case hg => rfl); (case hr => exact zb22); intro PI hg w2 hbox hb; have n0_ := zz (Xe zb4 hb); have n1_ := zz (hbox); have n2_ := zz ((zb154 : w.heap.size ≤ PI)); have n3_ := zz ((zb154 : w.heap.size ≤ PI)); clear HB; have HB := n0_; have WA := n1_; have GW107 := n2_; have Xql := n3_; clear n0_ n1_ n2_ n3_; clear hb hbox hg) | ((with_reducible refine XO (N := 1) rfl ?_); refine Kd.Xhw (Kd.int .i64) _ 3 rfl (N := 1) rfl 23 _ _ rfl 3 rfl rfl Try.underlying23 (.int .i64 0) 8 info3 rfl (by decide) (by omega) 0 (ok := fun _ => True) (okp := fun _ => True) rfl (fun _ hk => hk) trivial (by omega) (by omega) (Below.refl _ _) (Nat.le_refl _) ?_; intro v109 w3 ho4 hb hg_ hnew_; clear hg_ hnew_; (first | rw [← Ny108.out] at ho4 | (simp only [Int.reduceToNat] at ho4; rw [← Ny108.out] at ho4)); have n0_ := zz (Kd.Ye ho4 (Xr zb90)); have n1_ := zz (ZJ (g := PI) (o := .cells #[.int .i64 0, .int .i64 0, .slice none 0 0] 25 (0, 0)) (by (with_reducible repeat (first | refine Zp ?_ _ | refine XZ ?_ | refine XN ?_ _)); exact WA.out) hb); have n2_ := zz (Xe zb90 hb); clear WA; clear HB; have Xm3 := n0_; have WA := n1_; have HB := n2_; clear n0_ n1_ n2_; clear hb ho4; obtain ⟨Ao5, co5, eo5⟩ := Kd.Xx Xm3.out; subst eo5; have Bd : w3.cell? ⟨PI, 0, none⟩ = some (.int .i64 0) := (Xt WA.out 0).trans rfl; have Be : w3.cell? ⟨PI, 1, none⟩ = some (.int .i64 0) := (Xt WA.out 1).trans rfl; have Xbo : w3.cell? ⟨PI, 2, none⟩ = some (.slice none 0 0) := (Xt WA.out 2).trans rfl; have Xbp := Xf WA.out 0; have Bf := Xf WA.out 1; have Xbq := Xf WA.out 2))
  refine bodyPost_ret (results_cell_row rfl _ _ PI 25 #[.int .i64 0, .int .i64 0, .slice Ao5 XnT.length co5] (0, 0) _ rfl (by (with_reducible repeat (first | refine Zp ?_ _ | refine XZ ?_ | refine XN ?_ _)); refine X5 (cs := #[.int .i64 0, .int .i64 0, .slice none 0 0]) ?_ 2 _ rfl; (with_reducible repeat (first | refine Zp ?_ _ | refine XZ ?_ | refine XN ?_ _)); refine X5 (cs := #[.int .i64 0, .int .i64 0, .slice none 0 0]) ?_ 1 _ rfl; (with_reducible repeat (first | refine Zp ?_ _ | refine XZ ?_ | refine XN ?_ _)); refine X5 (cs := #[.int .i64 0, .int .i64 0, .slice none 0 0]) ?_ 0 _ rfl; (with_reducible repeat (first | refine Zp ?_ _ | refine XZ ?_ | refine XN ?_ _)); exact WA.out) Try.underlying25 rfl zb14) rfl ?_; exact ⟨_, zb8, by (with_reducible repeat (first | apply Kd.Yf | apply Kd.Ym | apply Kd.Y3)); exact Kd.XY (Kd.Je (p := ⟨PI, 2, none⟩) (Kd.Je (p := ⟨PI, 1, none⟩) (Kd.Je (p := ⟨PI, 0, none⟩) (Kd.FE Xm3.out WA.out (by decide)) (fun _ hk => hk.2) (.int .i64 0)) (fun _ hk => hk.2) (.int .i64 0)) (fun _ hk => hk.2) (.slice Ao5 XnT.length co5)) (fun _ hk => trivial), zb90⟩
 ·rw [if_neg c1] at H
  exact absurd H (by simp)
def XX.f (a0 : Int) (a1 : Int) (a2 : Int) : Option (Bool) := if a0 ≥ a1 then (some (decide (a0 ≤ a2))) else (some false)
set_option maxHeartbeats 8000000 in
set_option maxRecDepth 100000 in
theorem XX.calls (a0 : Int) (a1 : Int) (a2 : Int) (r : Bool) (w : World) (h : XX.f a0 a1 a2 = some r) :
 Calls Try.prog 81 #[.int .i64 a0, .int .i64 a1, .int .i64 a2] w fun e w' => e = .returned (.bool r) ∧ Vp w w' := by
 have H : (if a0 ≥ a1 then (some (decide (a0 ≤ a2))) else (some false)) = some r := h; clear h
 by_cases c4 : a0 ≥ a1
 ·rw [if_pos c4] at H
  have c4b0 : decide (a1 ≤ a0) = true := decide_eq_true c4; clear c4; obtain rfl := Option.some.inj H
  go_enter Try.func81, Try.ntmps81
  go_wp2
  go_ret
  exact ⟨zb12, zb25⟩
 ·rw [if_neg c4] at H
  have c4b0 : decide (a1 ≤ a0) = false := decide_eq_false c4; clear c4; obtain rfl := Option.some.inj H
  go_enter Try.func81, Try.ntmps81
  go_wp2
  go_ret
  exact ⟨zb12, zb25⟩
def Zq.l0 : Nat → Int → Int → Int → List Int → Option (Bool)
 | 0, _, _, _, _ => none
 | k + 1, x3, Xkq, Xkr, Q9 => if x3 < (Q9.length : Int) then (if 0 ≤ x3 then (if (rd Q9 x3) = 0 then (Zq.l0 k (wrap64 (x3 + 1)) Xkq Xkr Q9) else (some false)) else (none)) else (some true)
def Zq.f (k : Nat) (J2 : Int) (Ji : Int) (X9 : List Int) : Option (Bool) := Zq.l0 k 0 J2 Ji X9
set_option maxHeartbeats 8000000 in
set_option maxRecDepth 100000 in
theorem Zq.calls (k : Nat) (J2 : Int) (Ji : Int) (Vi : Option Addr) (Vj : Nat) (X9 : List Int) (r : Bool) (w : World) (hr0_2 : Kd.C (Kd.int .i64) w Vi X9.length X9) (hc0_2 : X9.length ≤ Vj) (h : Zq.f k J2 Ji X9 = some r) :
 Calls Try.prog 82 #[.agg #[.int .i64 J2, .int .i64 Ji, .slice Vi X9.length Vj]] w fun e w' => e = .returned (.bool r) ∧ Below w.heap.size w w' := by
 have hu25 := Try.underlying25; have Rb := zz hr0_2; have Rh := zz hc0_2; clear hr0_2 hc0_2; have HB := zz (Below.refl w.heap.size w); have H : (Zq.l0 k 0 J2 Ji X9) = some r := h; clear h; have H' := zz H; clear H
 go_enter Try.func82, Try.ntmps82
 go_wp2_with (first | ((with_reducible refine XO (N := 1) rfl ?_); refine Y4 ?hg (N := 1) ?hd (cs := #[.int .i64 J2, .int .i64 Ji, .slice Vi X9.length Vj]) (t := 25) ?hr ?_; (case hd => rfl); (case hg => rfl); (case hr => exact zb22); intro SX hg w2 hbox hb; have n0_ := zz (Xe zb4 hb); have n1_ := zz (hbox); have n2_ := zz ((zb154 : w.heap.size ≤ SX)); have n3_ := zz ((zb154 : w.heap.size ≤ SX)); clear HB; have HB := n0_; have FV := n1_; have GW172 := n2_; have Xqk := n3_; clear n0_ n1_ n2_ n3_; clear hb hbox hg))
 go_loopg [3] k (fun kq v3 w' => ∃ (Xv : Int), v3 = .int .i64 Xv ∧ Aside0 (Zq.l0 kq Xv J2 Ji X9 = some r) ∧ Aside0 (kq ≤ k) ∧ Aside0 (w'.heap[SX]? = some (.cells #[.int .i64 J2, .int .i64 Ji, (.slice Vi X9.length Vj)] 25 (0, 0))) ∧ Aside0 (Below w.heap.size w w'))
 case atStart => exact ⟨(0), zb12, H', ⟨Nat.le_refl _⟩, ⟨zb144⟩, ⟨zb60⟩⟩
 case round =>
  clear H'
  try clear p2
  obtain ⟨Xv, rfl, HA, HK1, FV, HB⟩ := hrel
  cases gk with
  | zero => exact absurd HA.out (by simp [Zq.l0])
  | succ k1 =>
   have H := HA.out; clear HA; simp only [Zq.l0] at H
   by_cases c3 : Xv < (X9.length : Int)
   ·rw [if_pos c3] at H
    have c3b0 : decide (Xv < (X9.length : Int)) = true := decide_eq_true c3; clear c3
    by_cases c4 : 0 ≤ Xv
    ·rw [if_pos c4] at H
     have c4b0 : decide (0 ≤ Xv) = true := decide_eq_true c4; clear c4
     by_cases c5 : (rd X9 Xv) = 0
     ·rw [if_pos c5] at H
      have c5b0 : ((rd X9 Xv) == 0) = true := beq_iff_eq.mpr c5; have c5b1 : ((rd X9 Xv) != 0) = false := bne_eq_false_iff_eq.mpr c5; clear c5; have H' := zz H; clear H; have Bd : wr.cell? ⟨SX, 0, none⟩ = some (.int .i64 J2) := (Xt FV.out 0).trans rfl; have Be : wr.cell? ⟨SX, 1, none⟩ = some (.int .i64 Ji) := (Xt FV.out 1).trans rfl; have Xbo : wr.cell? ⟨SX, 2, none⟩ = some (.slice Vi X9.length Vj) := (Xt FV.out 2).trans rfl; have Xbp := Xf FV.out 0; have Bf := Xf FV.out 1; have Xbq := Xf FV.out 2; have Xb7 : 0 ≤ (Xv : Int) := of_decide_eq_true zb7; have Xb8 : Xv < (X9.length : Int) := of_decide_eq_true zb7; obtain ⟨Xtq, XnU, Sr⟩ := Kd.Jl Rb.out Xv Xb7 Xb8
      cases XnU
      replace Sr := (HB.out.cell (World.block_lt_of_cell? w _ Sr)).trans Sr; replace Xb7 := eq_true Xb7; replace Xb8 := eq_true Xb8
      go_wp2
      go_roundg k1
      case measure => have := HK1.out; omega
      case rel => exact ⟨(wrap64 (Xv + 1)), zb12, H', ⟨zb54⟩, ⟨zb144⟩, ⟨zb60⟩⟩
     ·rw [if_neg c5] at H
      have c5b0 : ((rd X9 Xv) == 0) = false := beq_eq_false_iff_ne.mpr c5; have c5b1 : ((rd X9 Xv) != 0) = true := bne_iff_ne.mpr c5; obtain rfl := Option.some.inj H; have XeY : wr.cell? ⟨SX, 0, none⟩ = some (.int .i64 J2) := (Xt FV.out 0).trans rfl; have XeZ : wr.cell? ⟨SX, 1, none⟩ = some (.int .i64 Ji) := (Xt FV.out 1).trans rfl; have Xfa : wr.cell? ⟨SX, 2, none⟩ = some (.slice Vi X9.length Vj) := (Xt FV.out 2).trans rfl; have Xfb := Xf FV.out 0; have Xfc := Xf FV.out 1; have Xfd := Xf FV.out 2; have Xb7 : 0 ≤ (Xv : Int) := of_decide_eq_true zb7; have Xb8 : Xv < (X9.length : Int) := of_decide_eq_true zb7; obtain ⟨Xtq, XnU, Sr⟩ := Kd.Jl Rb.out Xv Xb7 Xb8
      cases XnU
      replace Sr := (HB.out.cell (World.block_lt_of_cell? w _ Sr)).trans Sr; replace Xb7 := eq_true Xb7; replace Xb8 := eq_true Xb8
      go_wp2
      go_ret
      exact ⟨zb8, zb60⟩
    ·rw [if_neg c4] at H
     exact absurd H (by simp)
   ·rw [if_neg c3] at H
    have c3b0 : decide (Xv < (X9.length : Int)) = false := decide_eq_false c3; clear c3; obtain rfl := Option.some.inj H; have Xgt : wr.cell? ⟨SX, 0, none⟩ = some (.int .i64 J2) := (Xt FV.out 0).trans rfl; have Xgu : wr.cell? ⟨SX, 1, none⟩ = some (.int .i64 Ji) := (Xt FV.out 1).trans rfl; have Xgv : wr.cell? ⟨SX, 2, none⟩ = some (.slice Vi X9.length Vj) := (Xt FV.out 2).trans rfl; have Xgw := Xf FV.out 0; have Xgx := Xf FV.out 1; have Xgy := Xf FV.out 2
    go_wp2
    go_ret
    exact ⟨zb8, zb60⟩
def Zt.j0 : Nat → Bool → Int → Int → Int → Int → Int → Int → Int → Int → Option (Bool)
 | 0, _, _, _, _, _, _, _, _, _ => none
 | k + 1, x13, XzR, XzS, XzT, Xks, Xdz, Xd0, XzU, XzV => if x13 = true then (some false) else (if Xks < 0 then ((XX.f Xdz 0 3).bind fun t252 => (if t252 = true then ((XX.f Xd0 0 3).bind fun ZV => (some ZV)) else (some false))) else ((XX.f Xdz 0 9).bind fun Gc => (if Gc = true then ((XX.f Xd0 0 9).bind fun t255 => (some t255)) else (some false))))
def Zt.f (k : Nat) (J2 : Int) (Ji : Int) (Gv : Int) (Yl : Int) (Y6 : Int) (NR : Int) (Mo : Int) (Nz : Int) : Option (Bool) := (XX.f Gv 0 4).bind fun t250 => (if t250 = true then ((XX.f Yl (-1) 2).bind fun t251 => (Zt.j0 k (!t251) J2 Ji Gv Yl Y6 NR Mo Nz)) else (Zt.j0 k true J2 Ji Gv Yl Y6 NR Mo Nz))
theorem Zt.Gu : ∀ k, (∀ y0 y1 y2 y3 y4 y5 y6 y7 y8, LeO (Zt.j0 k y0 y1 y2 y3 y4 y5 y6 y7 y8) (Zt.j0 (k + 1) y0 y1 y2 y3 y4 y5 y6 y7 y8))
 | 0 => fun _ _ _ _ _ _ _ _ _ r h => by simp [Zt.j0] at h
 | k + 1 => by
  have ih0 := Zt.Gu k
  ·intro y0 y1 y2 y3 y4 y5 y6 y7 y8
   unfold Zt.j0
   repeat' first
   | (with_reducible exact ih0 _ _ _ _ _ _ _ _ _)
   | (with_reducible exact LeO.refl _)
   | (with_reducible exact LeO.none _)
   | (with_reducible refine LeO.ite ?_ ?_)
   | (with_reducible refine LeO.bind ?_ (fun _ => ?_))
   | exact ih0 _ _ _ _ _ _ _ _ _
   | exact LeO.none _
   | refine LeO.ite ?_ ?_
   | refine LeO.bind ?_ (fun _ => ?_)
theorem Zt.mono : ∀ a0 a1 a2 a3 a4 a5 a6 a7 k, LeO (Zt.f k a0 a1 a2 a3 a4 a5 a6 a7) (Zt.f (k + 1) a0 a1 a2 a3 a4 a5 a6 a7) := by
 intro a0 a1 a2 a3 a4 a5 a6 a7 k; have ih0 := Zt.Gu k
 unfold Zt.f
 repeat' first
  | (with_reducible exact ih0 _ _ _ _ _ _ _ _ _)
  | (with_reducible exact LeO.refl _)
  | (with_reducible exact LeO.none _)
  | (with_reducible refine LeO.ite ?_ ?_)
  | (with_reducible refine LeO.bind ?_ (fun _ => ?_))
  | exact ih0 _ _ _ _ _ _ _ _ _
  | exact LeO.none _
  | refine LeO.ite ?_ ?_
  | refine LeO.bind ?_ (fun _ => ?_)
def Yy.j0 : Nat → Bool → Int → Int → Int → Int → Int → Int → Int → Int → Option (Bool)
 | 0, _, _, _, _, _, _, _, _, _ => none
 | k + 1, x18, Md, QA, WX, MS, Su, WY, QB, MU => if x18 = true then (some false) else (if Md = 1 then ((Zt.f k Md QA WX MS Su WY QB MU).bind fun XaC => (if XaC = true then (if MS ≥ 0 then (some (MU == 0)) else (some false)) else (some false))) else (if Md = 2 then ((Zt.f k Md QA WX MS Su WY QB MU).bind fun t261 => (if t261 = true then (if MS < 0 then (some (MU == 0)) else (some false)) else (some false))) else (if Md = 6 then ((Zt.f k Md QA WX MS Su WY QB MU).bind fun t262 => (if t262 = true then (some (Su == 0)) else (some false))) else (if Md = 3 then ((XX.f WX 0 4).bind fun t263 => (if t263 = true then (if MS = 0 then (if Su = 0 then (if WY = 0 then (some (MU == 0)) else (some false)) else (some false)) else (some false)) else (some false))) else (if Md = 4 then (if WX = 0 then (if MS = 0 then (if Su = 0 then (if WY = 0 then (some (MU == 0)) else (some false)) else (some false)) else (some false)) else (some false)) else (if Md = 5 then (if WX = 0 then (if MS = 0 then (if Su = 0 then (if WY = 0 then (some (MU == 0)) else (some false)) else (some false)) else (some false)) else (some false)) else (some false)))))))
def Yy.f (k : Nat) (J2 : Int) (Ji : Int) (Gv : Int) (Yl : Int) (Y6 : Int) (NR : Int) (Mo : Int) (Nz : Int) : Option (Bool) := (XX.f Ji 1 3).bind fun JA => (if JA = true then ((XX.f Mo 0 150).bind fun We => (if We = true then ((XX.f Nz 0 150).bind fun PZ => (Yy.j0 k (!PZ) J2 Ji Gv Yl Y6 NR Mo Nz)) else (Yy.j0 k true J2 Ji Gv Yl Y6 NR Mo Nz))) else (Yy.j0 k true J2 Ji Gv Yl Y6 NR Mo Nz))
theorem Yy.Gu : ∀ k, (∀ y0 y1 y2 y3 y4 y5 y6 y7 y8, LeO (Yy.j0 k y0 y1 y2 y3 y4 y5 y6 y7 y8) (Yy.j0 (k + 1) y0 y1 y2 y3 y4 y5 y6 y7 y8))
 | 0 => fun _ _ _ _ _ _ _ _ _ r h => by simp [Yy.j0] at h
 | k + 1 => by
  have ih0 := Yy.Gu k
  ·intro y0 y1 y2 y3 y4 y5 y6 y7 y8
   unfold Yy.j0
   repeat' first
   | (with_reducible exact ih0 _ _ _ _ _ _ _ _ _)
   | (with_reducible exact Zt.mono _ _ _ _ _ _ _ _ _)
   | (with_reducible exact LeO.refl _)
   | (with_reducible exact LeO.none _)
   | (with_reducible refine LeO.ite ?_ ?_)
   | (with_reducible refine LeO.bind ?_ (fun _ => ?_))
   | exact ih0 _ _ _ _ _ _ _ _ _
   | exact Zt.mono _ _ _ _ _ _ _ _ _
   | exact LeO.none _
   | refine LeO.ite ?_ ?_
   | refine LeO.bind ?_ (fun _ => ?_)
theorem Yy.mono : ∀ a0 a1 a2 a3 a4 a5 a6 a7 k, LeO (Yy.f k a0 a1 a2 a3 a4 a5 a6 a7) (Yy.f (k + 1) a0 a1 a2 a3 a4 a5 a6 a7) := by
 intro a0 a1 a2 a3 a4 a5 a6 a7 k; have ih0 := Yy.Gu k
 unfold Yy.f
 repeat' first
  | (with_reducible exact ih0 _ _ _ _ _ _ _ _ _)
  | (with_reducible exact Zt.mono _ _ _ _ _ _ _ _ _)
  | (with_reducible exact LeO.refl _)
  | (with_reducible exact LeO.none _)
  | (with_reducible refine LeO.ite ?_ ?_)
  | (with_reducible refine LeO.bind ?_ (fun _ => ?_))
  | exact ih0 _ _ _ _ _ _ _ _ _
  | exact Zt.mono _ _ _ _ _ _ _ _ _
  | exact LeO.none _
  | refine LeO.ite ?_ ?_
  | refine LeO.bind ?_ (fun _ => ?_)
def XP.l0 : Nat → List Int → List Int → Int → Option (Bool)
 | 0, _, _, _ => none
 | k + 1, x0, x1, x5 => if x5 < (x0.length : Int) then (if 0 ≤ x5 then (if x5 < (x1.length : Int) then (if (rd x0 x5) = (rd x1 x5) then (XP.l0 k x0 x1 (wrap64 (x5 + 1))) else (some false)) else (none)) else (none)) else (some true)
def XP.f (k : Nat) (l0 : List Int) (l1 : List Int) : Option (Bool) := if (l0.length : Int) = (l1.length : Int) then (XP.l0 k l0 l1 0) else (some false)
set_option maxHeartbeats 8000000 in
set_option maxRecDepth 100000 in
theorem XP.calls (k : Nat) (A0 : Option Addr) (c0 : Nat) (l0 : List Int) (A1 : Option Addr) (c1 : Nat) (l1 : List Int) (r : Bool) (w : World) (hr0 : Kd.C (Kd.int .i64) w A0 l0.length l0) (hc0 : l0.length ≤ c0) (hr1 : Kd.C (Kd.int .i64) w A1 l1.length l1) (hc1 : l1.length ≤ c1) (h : XP.f k l0 l1 = some r) :
 Calls Try.prog 64 #[.slice A0 l0.length c0, .slice A1 l1.length c1] w fun e w' => e = .returned (.bool r) ∧ Vp w w' := by
 have HR0 := zz hr0; have HC0 := zz hc0; clear hr0 hc0; have HR1 := zz hr1; have HC1 := zz hc1; clear hr1 hc1; have H : (if (l0.length : Int) = (l1.length : Int) then (XP.l0 k l0 l1 0) else (some false)) = some r := h; clear h
 by_cases c3 : (l0.length : Int) = (l1.length : Int)
 ·rw [if_pos c3] at H
  have c3b0 : ((l0.length : Int) == (l1.length : Int)) = true := beq_iff_eq.mpr c3; have c3b1 : ((l0.length : Int) != (l1.length : Int)) = false := bne_eq_false_iff_eq.mpr c3
  have c3b2 : (l0.length == l1.length) = true := by first | simpa using c3 | (simp at c3 ⊢; omega)
  clear c3; have H' := zz H; clear H
  go_enter Try.func64, Try.ntmps64
  go_wp2
  repeat (go_quiet (fail); try go_wp2)
  go_loopg [5] k (fun kq v5 w' => ∃ (Yj : Int), v5 = .int .i64 Yj ∧ Aside0 (XP.l0 kq l0 l1 Yj = some r) ∧ Aside0 (kq ≤ k) ∧ Vp w w')
  case atStart => exact ⟨(0), zb12, H', ⟨Nat.le_refl _⟩, zb25⟩
  case round =>
   clear H'
   try clear c1
   try clear p2
   try clear c3
   try clear c3b0
   try clear c3b1
   try clear c3b2
   obtain ⟨Yj, rfl, HA, HK1, ⟨m1, rfl⟩⟩ := hrel
   cases gk with
   | zero => exact absurd HA.out (by simp [XP.l0])
   | succ k1 =>
    have H := HA.out; clear HA; simp only [XP.l0] at H
    by_cases c4 : Yj < (l0.length : Int)
    ·rw [if_pos c4] at H
     have c4b0 : decide (Yj < (l0.length : Int)) = true := decide_eq_true c4; clear c4
     by_cases c5 : 0 ≤ Yj
     ·rw [if_pos c5] at H
      have c5b0 : decide (0 ≤ Yj) = true := decide_eq_true c5; clear c5
      by_cases c6 : Yj < (l1.length : Int)
      ·rw [if_pos c6] at H
       have c6b0 : decide (Yj < (l1.length : Int)) = true := decide_eq_true c6; clear c6
       by_cases c7 : (rd l0 Yj) = (rd l1 Yj)
       ·rw [if_pos c7] at H
        have c7b0 : ((rd l0 Yj) == (rd l1 Yj)) = true := beq_iff_eq.mpr c7; have c7b1 : ((rd l0 Yj) != (rd l1 Yj)) = false := bne_eq_false_iff_eq.mpr c7; clear c7; have H' := zz H; clear H; have Xb9 : 0 ≤ (Yj : Int) := of_decide_eq_true zb7; have XbA : Yj < (l0.length : Int) := of_decide_eq_true zb7; obtain ⟨Xtr, XnV, Xkt⟩ := Kd.Jl HR0.out Yj Xb9 XbA
        cases XnV
        replace Xb9 := eq_true Xb9; replace XbA := eq_true XbA; have XbB : 0 ≤ (Yj : Int) := of_decide_eq_true zb7; have XbC : Yj < (l1.length : Int) := of_decide_eq_true zb7; obtain ⟨Xts, XnW, Xku⟩ := Kd.Jl HR1.out Yj XbB XbC
        cases XnW
        replace XbB := eq_true XbB; replace XbC := eq_true XbC
        go_wp2
        repeat (go_quiet (fail); try go_wp2)
        go_roundg k1
        case measure => have := HK1.out; omega
        case rel => exact ⟨(wrap64 (Yj + 1)), zb12, H', ⟨zb54⟩, zb25⟩
       ·rw [if_neg c7] at H
        have c7b0 : ((rd l0 Yj) == (rd l1 Yj)) = false := beq_eq_false_iff_ne.mpr c7; have c7b1 : ((rd l0 Yj) != (rd l1 Yj)) = true := bne_iff_ne.mpr c7; obtain rfl := Option.some.inj H; have Xb9 : 0 ≤ (Yj : Int) := of_decide_eq_true zb7; have XbA : Yj < (l0.length : Int) := of_decide_eq_true zb7; obtain ⟨Xtr, XnV, Xkt⟩ := Kd.Jl HR0.out Yj Xb9 XbA
        cases XnV
        replace Xb9 := eq_true Xb9; replace XbA := eq_true XbA; have XbB : 0 ≤ (Yj : Int) := of_decide_eq_true zb7; have XbC : Yj < (l1.length : Int) := of_decide_eq_true zb7; obtain ⟨Xts, XnW, Xku⟩ := Kd.Jl HR1.out Yj XbB XbC
        cases XnW
        replace XbB := eq_true XbB; replace XbC := eq_true XbC
        go_wp2
        repeat (go_quiet (fail); try go_wp2)
        go_ret
        exact ⟨zb12, zb25⟩
      ·rw [if_neg c6] at H
       exact absurd H (by simp)
     ·rw [if_neg c5] at H
      exact absurd H (by simp)
    ·rw [if_neg c4] at H
     have c4b0 : decide (Yj < (l0.length : Int)) = false := decide_eq_false c4; clear c4; obtain rfl := Option.some.inj H
     go_wp2
     repeat (go_quiet (fail); try go_wp2)
     go_ret
     exact ⟨zb12, zb25⟩
 ·rw [if_neg c3] at H
  have c3b0 : ((l0.length : Int) == (l1.length : Int)) = false := beq_eq_false_iff_ne.mpr c3; have c3b1 : ((l0.length : Int) != (l1.length : Int)) = true := bne_iff_ne.mpr c3
  have c3b2 : (l0.length == l1.length) = false := by first | simpa using c3 | (simp at c3 ⊢; omega)
  obtain rfl := Option.some.inj H
  go_enter Try.func64, Try.ntmps64
  go_wp2
  repeat (go_quiet (fail); try go_wp2)
  go_ret
  exact ⟨zb12, zb25⟩
def Zg.f (a0 : Int) : Option (Bool) := if a0 = 1 then (some true) else (if a0 = 2 then (some true) else (some (a0 == 6)))
set_option maxHeartbeats 8000000 in
set_option maxRecDepth 100000 in
theorem Zg.calls (a0 : Int) (r : Bool) (w : World) (h : Zg.f a0 = some r) :
 Calls Try.prog 102 #[.int .i64 a0] w fun e w' => e = .returned (.bool r) ∧ Vp w w' := by
 have H : (if a0 = 1 then (some true) else (if a0 = 2 then (some true) else (some (a0 == 6)))) = some r := h; clear h
 by_cases c2 : a0 = 1
 ·rw [if_pos c2] at H
  have c2b0 : (a0 == 1) = true := beq_iff_eq.mpr c2; have c2b1 : (a0 != 1) = false := bne_eq_false_iff_eq.mpr c2; clear c2; obtain rfl := Option.some.inj H
  go_enter Try.func102, Try.ntmps102
  go_wp2
  go_ret
  exact ⟨zb12, zb25⟩
 ·rw [if_neg c2] at H
  have c2b0 : (a0 == 1) = false := beq_eq_false_iff_ne.mpr c2; have c2b1 : (a0 != 1) = true := bne_iff_ne.mpr c2
  by_cases c3 : a0 = 2
  ·rw [if_pos c3] at H
   have c3b0 : (a0 == 2) = true := beq_iff_eq.mpr c3; have c3b1 : (a0 != 2) = false := bne_eq_false_iff_eq.mpr c3; clear c3; obtain rfl := Option.some.inj H
   go_enter Try.func102, Try.ntmps102
   go_wp2
   go_ret
   exact ⟨zb12, zb25⟩
  ·rw [if_neg c3] at H
   have c3b0 : (a0 == 2) = false := beq_eq_false_iff_ne.mpr c3; have c3b1 : (a0 != 2) = true := bne_iff_ne.mpr c3; obtain rfl := Option.some.inj H
   go_enter Try.func102, Try.ntmps102
   go_wp2
   go_ret
   exact ⟨zb12, zb25⟩
def J8.f (J2 : Int) (Ji : Int) (X9 : List Int) : Option (Int × Int × List Int) := (some (([] : List Int) : List Int)).bind fun Ed => (if Ed.length + X9.length < 17592186044416 then (some (J2, Ji, (Ed ++ X9))) else (none))
set_option maxHeartbeats 8000000 in
set_option maxRecDepth 100000 in
theorem J8.calls (J2 : Int) (Ji : Int) (Vi : Option Addr) (Vj : Nat) (X9 : List Int) (r1 : Int) (r2 : Int) (r3 : List Int) (w : World) (hr0_2 : Kd.C (Kd.int .i64) w Vi X9.length X9) (hc0_2 : X9.length ≤ Vj) (h : J8.f J2 Ji X9 = some (r1, r2, r3)) :
 Calls Try.prog 118 #[.agg #[.int .i64 J2, .int .i64 Ji, .slice Vi X9.length Vj]] w fun e w' => ∃ v2_ : Value, e = .returned (.agg #[.int .i64 r1, .int .i64 r2, v2_]) ∧ Kd.R (Kd.int .i64) 3 w' w.heap.size (fun _ => True) v2_ r3 ∧ Below w.heap.size w w' := by
 have hu25 := Try.underlying25; have Rb := zz hr0_2; have Rh := zz hc0_2; clear hr0_2 hc0_2; have HB := zz (Below.refl w.heap.size w); have H : ((some (([] : List Int) : List Int)).bind fun Ed => (if Ed.length + X9.length < 17592186044416 then (some (J2, Ji, (Ed ++ X9))) else (none))) = some (r1, r2, r3) := h; clear h
 obtain ⟨Ed, hy703⟩ : ∃ y_ : List Int, y_ = (([] : List Int)) := ⟨_, rfl⟩
 replace H : (if Ed.length + X9.length < 17592186044416 then (some (J2, Ji, (Ed ++ X9))) else (none)) = some (r1, r2, r3) := by first | (rw [hy703]; with_reducible exact H) | (have H2_ := (Option.bind_some _ _).symm.trans H; rw [hy703]; with_reducible exact H2_) | (have H2_ := (Option.bind_some _ _).symm.trans H; with_reducible exact H2_) | with_reducible exact H | (rw [hy703]; exact H) | exact H
 have Ny703 := zz hy703; clear hy703
 by_cases c2 : Ed.length + X9.length < 17592186044416
 ·rw [if_pos c2] at H
  have LMc2 := zz c2; clear c2
  obtain ⟨Xkv, hy706⟩ : ∃ y_ : List Int, y_ = (Ed ++ X9) := ⟨_, rfl⟩
  replace H : (some (J2, Ji, Xkv)) = some (r1, r2, r3) := by first | (rw [hy706]; with_reducible exact H) | (have H2_ := (Option.bind_some _ _).symm.trans H; rw [hy706]; with_reducible exact H2_) | (have H2_ := (Option.bind_some _ _).symm.trans H; with_reducible exact H2_) | with_reducible exact H | (rw [hy706]; exact H) | exact H
  have Ny706 := zz hy706; clear hy706; simp only [Option.some.injEq, Prod.mk.injEq] at H; obtain ⟨rfl, rfl, rfl⟩ := H
  go_enter Try.func118, Try.ntmps118
  go_wp2_with (first | ((with_reducible refine XO (N := 1) rfl ?_); refine Y4 ?hg (N := 1) ?hd (cs := #[.int .i64 J2, .int .i64 Ji, .slice Vi X9.length Vj]) (t := 25) ?hr ?_; (case hd => rfl); (case hg => rfl); (case hr => exact zb22); intro U9 hg w3 hbox hb; have n0_ := zz (Xe zb4 hb); have n1_ := zz (hbox); have n2_ := zz ((zb154 : w.heap.size ≤ U9)); have n3_ := zz ((zb154 : w.heap.size ≤ U9)); clear HB; have HB := n0_; have Fu := n1_; have GW701 := n2_; have XlU := n3_; clear n0_ n1_ n2_ n3_; clear hb hbox hg) | ((with_reducible refine XO (N := 2) rfl ?_); refine Y4 ?hg (N := 2) ?hd (cs := #[.int .i64 0, .int .i64 0, .slice none 0 0]) (t := 25) ?hr ?_; (case hd => rfl); (case hg => rfl); (case hr => exact zb22); intro NF hg w4 hbox hb; have n0_ := zz (ZJ (g := U9) (o := .cells #[.int .i64 J2, .int .i64 Ji, .slice Vi X9.length Vj] 25 (0, 0)) zb75 hb); have n1_ := zz (Xe zb88 hb); have n2_ := zz (hbox); have n3_ := zz ((by rw [hg]; exact (Xr zb88) : w.heap.size ≤ NF)); have n4_ := zz ((by rw [hg]; exact (Xr zb88) : w.heap.size ≤ NF)); have n5_ := zz ((by rw [hg]; exact Nat.ne_of_lt (Dv (g := U9) (o := .cells #[.int .i64 J2, .int .i64 Ji, .slice Vi X9.length Vj] 25 (0, 0)) zb75) : U9 ≠ NF)); have n6_ := zz ((by rw [hg]; exact Nat.ne_of_gt (Dv (g := U9) (o := .cells #[.int .i64 J2, .int .i64 Ji, .slice Vi X9.length Vj] 25 (0, 0)) zb75) : NF ≠ U9)); clear Fu; clear HB; have Fu := n0_; have HB := n1_; have ME := n2_; have GW702 := n3_; have Xqj := n4_; have Xeo := n5_; have Ia := n6_; clear n0_ n1_ n2_ n3_ n4_ n5_ n6_; clear hb hbox hg) | ((with_reducible refine XO (N := 3) rfl ?_); refine Kd.Gp (Kd.int .i64) _ 3 ?hg (N := 3) ?hd (xs := ([] : List Int)) (inner := []) (ok := fun _ => True) (okp := fun _ => True) ?hr ?hp (fun _ hk => hk) trivial (Below.refl _ _) (Nat.le_refl _) (by simp) ?_; (case hd => rfl); (case hg => rfl); (case hr => exact zb22); (case hp => exact zb121); intro v704 w5 ho6 hb hg_ hnew_; clear hg_ hnew_; (first | rw [← Ny703.out] at ho6 | (simp only [Int.reduceToNat] at ho6; rw [← Ny703.out] at ho6)); have n0_ := zz (Kd.Ye ho6 (Xr zb43)); have n1_ := zz (ZJ (g := U9) (o := .cells #[.int .i64 J2, .int .i64 Ji, .slice Vi X9.length Vj] 25 (0, 0)) zb75 hb); have n2_ := zz (ZJ (g := NF) (o := .cells #[.int .i64 0, .int .i64 0, .slice none 0 0] 25 (0, 0)) zb143 hb); have n3_ := zz (Xe zb43 hb); clear Fu; clear ME; clear HB; have Xd1 := n0_; have Fu := n1_; have ME := n2_; have HB := n3_; clear n0_ n1_ n2_ n3_; clear hb ho6; have hnb7 := Xeo.out; have hnc7 := Ia.out; have Xgt : w5.cell? ⟨U9, 0, none⟩ = some (.int .i64 J2) := (Xt Fu.out 0).trans rfl; have Xgu : w5.cell? ⟨U9, 1, none⟩ = some (.int .i64 Ji) := (Xt Fu.out 1).trans rfl; have Xgv : w5.cell? ⟨U9, 2, none⟩ = some (.slice Vi X9.length Vj) := (Xt Fu.out 2).trans rfl; have Xgw := Xf Fu.out 0; have Xgx := Xf Fu.out 1; have Xgy := Xf Fu.out 2) | ((with_reducible refine Zh (b := .append) (xs := #[.tmp 3, .tmp 5]) rfl ?_); at_builtin; refine Kd.Ve (Kd.int .i64) (w0 := w) w.heap.size rfl (.tmp 3) (.tmp 5) 23 3 (.int .i64 0) 8 rfl Try.underlying23 info3 rfl (by decide) (by omega) v704 Ed X9 _ _ _ (fun _ => True) (fun _ => False) rfl rfl ?aO ?aR (fun _ _ h => h) (fun _ h => h.elim) ?aF ?aB ?aS ?aL ?_; (case aR => exact zb61); (case aB => exact zb43); (case aF => exact zb135); (case aO => exact (by (with_reducible repeat (first | apply Kd.Yf | apply Kd.Ym | apply Kd.Y3)); exact Xd1.out)); (case aS => exact (Xr zb43)); (case aL => have := LMc2.out; omega); intro v707 w9 ho hb hg hat; rw [← Ny706.out] at ho; have n0_ := zz (Ju (g := U9) (o := .cells #[.int .i64 J2, .int .i64 Ji, .slice Vi X9.length Vj] 25 (0, 0)) zb75 hg (Kd.JK Xd1.out Fu.out (by decide))); have n1_ := zz (Ju (g := NF) (o := .cells #[.int .i64 0, .int .i64 0, .slice none 0 0] 25 (0, 0)) zb143 hg (Kd.JK Xd1.out ME.out (by decide))); have n2_ := zz (hb); have n3_ := zz (ho); clear Fu; clear ME; clear HB; clear Xd1; have Fu := n0_; have ME := n1_; have HB := n2_; have Xm4 := n3_; clear n0_ n1_ n2_ n3_; clear ho hb hg hat; obtain ⟨VL, Vk, eo10⟩ := Kd.Xx Xm4.out; subst eo10; have XzW : w9.cell? ⟨U9, 0, none⟩ = some (.int .i64 J2) := (Xt Fu.out 0).trans rfl; have XzX : w9.cell? ⟨U9, 1, none⟩ = some (.int .i64 Ji) := (Xt Fu.out 1).trans rfl; have XzY : w9.cell? ⟨U9, 2, none⟩ = some (.slice Vi X9.length Vj) := (Xt Fu.out 2).trans rfl; have XzZ := Xf Fu.out 0; have X0a := Xf Fu.out 1; have X0b := Xf Fu.out 2; have Xkn : w9.cell? ⟨NF, 0, none⟩ = some (.int .i64 0) := (Xt ME.out 0).trans rfl; have Xko : w9.cell? ⟨NF, 1, none⟩ = some (.int .i64 0) := (Xt ME.out 1).trans rfl; have X0c : w9.cell? ⟨NF, 2, none⟩ = some (.slice none 0 0) := (Xt ME.out 2).trans rfl; have X0d := Xf ME.out 0; have Xkp := Xf ME.out 1; have X0e := Xf ME.out 2))
  refine bodyPost_ret (results_cell_row rfl _ _ NF 25 #[.int .i64 J2, .int .i64 Ji, .slice VL Xkv.length Vk] (0, 0) _ rfl (by (with_reducible repeat (first | refine Zp ?_ _ | refine XZ ?_ | refine XN ?_ _)); refine X5 (cs := #[.int .i64 J2, .int .i64 Ji, .slice none 0 0]) ?_ 2 _ rfl; (with_reducible repeat (first | refine Zp ?_ _ | refine XZ ?_ | refine XN ?_ _)); refine X5 (cs := #[.int .i64 J2, .int .i64 0, .slice none 0 0]) ?_ 1 _ rfl; (with_reducible repeat (first | refine Zp ?_ _ | refine XZ ?_ | refine XN ?_ _)); refine X5 (cs := #[.int .i64 0, .int .i64 0, .slice none 0 0]) ?_ 0 _ rfl; (with_reducible repeat (first | refine Zp ?_ _ | refine XZ ?_ | refine XN ?_ _)); refine FH ?_ Ia.out _; (with_reducible repeat (first | refine Zp ?_ _ | refine XZ ?_ | refine XN ?_ _)); exact ME.out) Try.underlying25 rfl zb14) rfl ?_; exact ⟨_, zb8, by (with_reducible repeat (first | apply Kd.Yf | apply Kd.Ym | apply Kd.Y3)); exact Kd.XY (Kd.Je (p := ⟨NF, 2, none⟩) (Kd.Je (p := ⟨NF, 1, none⟩) (Kd.Je (p := ⟨NF, 0, none⟩) (Kd.Je (p := ⟨U9, 2, none⟩) (Kd.FE (Kd.FE Xm4.out Fu.out (by decide)) ME.out (by decide)) (fun _ hk => hk.1.2) (.slice VL Xkv.length Vk)) (fun _ hk => hk.2) (.int .i64 J2)) (fun _ hk => hk.2) (.int .i64 Ji)) (fun _ hk => hk.2) (.slice VL Xkv.length Vk)) (fun _ hk => trivial), zb43⟩
 ·rw [if_neg c2] at H
  exact absurd H (by simp)
def Dr.f (J2 : Int) (Ji : Int) (X9 : List Int) (Jd : Int) (Jq : Int) (YH : Int) (Yu : Int) (Zz : Int) (Jb : Int) (PT : Int) (Jw : Int) (a2 : Int) : Option (Int × Int × List Int) := (J8.f J2 Ji X9).bind fun Xd2 => (if Yu ≥ 0 then (if 0 ≤ Yu then (if Yu < (Xd2.2.2.length : Int) then (some (a2, Xd2.2.1, (Xd2.2.2.set (Yu : Int).toNat Jb))) else (none)) else (none)) else (if Jb = 0 then (if 3 ≤ 35184372088832 then (some (a2, Jb, (List.replicate 3 0))) else (none)) else (some (a2, Jb, Xd2.2.2))))
end Go.Proofs.Ytcefiblpnegepaa.Pr
