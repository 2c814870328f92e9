import Derived.Test.YtcefiblpnegepaaQBByq
import Derived.Test.YtcefiblpnegepaaQBSx
namespace Go.Proofs.Ytcefiblpnegepaa.Pr
open Go.RowKit Go.PW Go.PL Go.PM
attribute [local go_sem] Y3 Y4 YV YW Yk Yl Y5 Y6
set_option linter.unusedVariables false
set_option linter.unusedSimpArgs false
def XA (w0 W : World) (g : Nat) (f0 : List Int) (f1 : Int) : Prop := ∃ A0 c0, W.heap[g]? = some (.cells #[.slice A0 f0.length c0, .int .i64 f1] 96 (0, 0)) ∧ w0.heap.size ≤ g ∧ Kd.C (Kd.int .u8) w0 A0 f0.length f0
theorem XA.grown {w0 W : World} {g : Nat} {f0 : List Int} {f1 : Int} {W1 : World} {row : Option Nat} (h : XA w0 W g f0 f1) (hw : W.grownBy W1 row) (hne : some g ≠ row) : XA w0 W1 g f0 f1 := by
 obtain ⟨A0, c0, hb, hg, hr0⟩ := h; exact ⟨A0, c0, Jk hb hw hne, hg, hr0⟩
theorem XA.kept {w0 W : World} {g : Nat} {f0 : List Int} {f1 : Int} {W1 : World} {S : Nat → Prop} (h : XA w0 W g f0 f1) (hk : Kept W W1 S) (hne : ¬ S g) : XA w0 W1 g f0 f1 := by
 obtain ⟨A0, c0, hb, hg, hr0⟩ := h; exact ⟨A0, c0, BI hb hk hne, hg, hr0⟩
theorem XA.below {w0 W : World} {g : Nat} {f0 : List Int} {f1 : Int} {W1 : World} (h : XA w0 W g f0 f1) (hw : Below W.heap.size W W1) : XA w0 W1 g f0 f1 := h.grown (Ww hw none) (by simp)
theorem XA.alloc {w0 W : World} {g : Nat} {f0 : List Int} {f1 : Int} (h : XA w0 W g f0 f1) (o : Obj) : XA w0 (W.alloc o) g f0 f1 := h.below (Xd (Below.refl _ _) o)
theorem XA.drewN {w0 W : World} {g : Nat} {f0 : List Int} {f1 : Int} (h : XA w0 W g f0 f1) (m : Nat) : XA w0 (W.drewN m) g f0 f1 := h
theorem XA.drew {w0 W : World} {g : Nat} {f0 : List Int} {f1 : Int} (h : XA w0 W g f0 f1) : XA w0 W.drew g f0 f1 := h
theorem XA.at_ {w0 W : World} {g : Nat} {f0 : List Int} {f1 : Int} {w' : World} {m : Nat} (hq : W.drewN m = w') (h : XA w0 W g f0 f1) : XA w0 w' g f0 f1 := by subst hq; exact XA.drewN h m
theorem XA.apart {w0 W : World} {g : Nat} {f0 : List Int} {f1 : Int} {α : Type} {d : Kd α} {e : Nat} {base : Nat} {ok : Nat → Prop} {v : Value} {xs : List α} (h : XA w0 W g f0 f1) (ho : d.R e W base ok v xs) (ht : ∀ q, q ∈ e :: d.E → q ≠ 96) : d.R e W base (fun k => ok k ∧ k ≠ g) v xs := by
 obtain ⟨A0, c0, hb, hg, hr0⟩ := h; exact Kd.F9 ho hb ht
theorem XA.own_ne {w0 W : World} {g : Nat} {f0 : List Int} {f1 : Int} {α : Type} {d : Kd α} {e : Nat} {base : Nat} {ok : Nat → Prop} {v : Value} {xs : List α} (h : XA w0 W g f0 f1) (ho : d.R e W base ok v xs) (ht : e ≠ 96) : some g ≠ v.ownBlock := by
 obtain ⟨A0, c0, hb, hg, hr0⟩ := h; exact Kd.Pf ho hb ht
theorem XA.lt {w0 W : World} {g : Nat} {f0 : List Int} {f1 : Int} (h : XA w0 W g f0 f1) : g < W.heap.size := by
 obtain ⟨A0, c0, hb, hg, hr0⟩ := h; exact Dq hb
theorem XA.ge {w0 W : World} {g : Nat} {f0 : List Int} {f1 : Int} (h : XA w0 W g f0 f1) : w0.heap.size ≤ g := by
 obtain ⟨A0, c0, hb, hg, hr0⟩ := h; exact hg
theorem XA.far {w0 W : World} {g : Nat} {f0 : List Int} {f1 : Int} {p : Addr} (h : XA w0 W g f0 f1) (hne : g ≠ p.block) (u : Value) : XA w0 (W.setCell p u) g f0 f1 := by
 obtain ⟨A0, c0, hb, hg, hr0⟩ := h; exact ⟨A0, c0, FB hb hne u, hg, hr0⟩
theorem WO {W : World} {g : Nat} {A0 : Option Addr} {c0 : Nat} {f0 : List Int} {f1 : Int} (h : W.heap[g]? = some (.cells #[.slice A0 f0.length c0, .int .i64 f1] 96 (0, 0))) : W.cell? ⟨g, 0, none⟩ = some (.slice A0 f0.length c0) := (Xy h 0).trans rfl
theorem WQ {W : World} {g : Nat} {A0 : Option Addr} {c0 : Nat} {f0 : List Int} {f1 : Int} (h : W.heap[g]? = some (.cells #[.slice A0 f0.length c0, .int .i64 f1] 96 (0, 0))) : W.cell? ⟨g, 1, none⟩ = some (.int .i64 f1) := (Xy h 1).trans rfl
theorem XA.BH {w0 W : World} {g : Nat} {f0 : List Int} {f1 : Int} (h : XA w0 W g f0 f1) (x : Int) : XA w0 (W.setCell ⟨g, 1, none⟩ (.int .i64 x)) g f0 x := by
 obtain ⟨A0, c0, hb, hg, hr0⟩ := h; exact ⟨A0, c0, by simpa using Qw hb 1 (.int .i64 x), hg, hr0⟩
theorem XA.new (w0 W : World) (A0 : Option Addr) (c0 : Nat) (f0 : List Int) (f1 : Int) (hB : Below w0.heap.size w0 W) (hr0 : Kd.C (Kd.int .u8) w0 A0 f0.length f0) : XA w0 (W.alloc (.cells #[.slice A0 f0.length c0, .int .i64 f1] 96)) W.heap.size f0 f1 := ⟨A0, c0, by simpa using heap_alloc_new W _, hB.size, hr0⟩
def Ga.f (l0 : List Int) : Option (List Int × Int) := if (l0.length : Int) > 2000 then (if 2000 ≤ (l0.length : Int) then (some (l0.take 2000, 0)) else (none)) else (some (l0, 0))
set_option maxHeartbeats 8000000 in
set_option maxRecDepth 100000 in
theorem Ga.calls (A0 : Option Addr) (c0 : Nat) (l0 : List Int) (r1 : List Int) (r2 : Int) (w0 w : World) (hB : Below w0.heap.size w0 w) (hr0 : Kd.C (Kd.int .u8) w0 A0 l0.length l0) (hc0 : l0.length ≤ c0) (h : Ga.f l0 = some (r1, r2)) :
 Calls Try.prog 75 #[.slice A0 l0.length c0] w fun e w' => ∃ g_ : Nat, e = .returned (.pointer (some ⟨g_, 0, none⟩)) ∧ XA w0 w' g_ r1 r2 ∧ Below w0.heap.size w0 w' ∧ Below w.heap.size w w' := by
 have hu96 := Try.underlying96; have HR0 := zz hr0; have HC0 := zz hc0; clear hr0 hc0; have HBW := zz (Below.refl w.heap.size w); have HW0 := zz hB.size; have HB := zz hB; clear hB; have H : (if (l0.length : Int) > 2000 then (if 2000 ≤ (l0.length : Int) then (some (l0.take 2000, 0)) else (none)) else (some (l0, 0))) = some (r1, r2) := h; clear h
 by_cases c2 : (l0.length : Int) > 2000
 ·rw [if_pos c2] at H
  have c2b0 : decide (2000 < (l0.length : Int)) = true := decide_eq_true c2; have c2b1 : decide (2000 < l0.length) = true := decide_eq_true (by omega); clear c2
  by_cases c3 : 2000 ≤ (l0.length : Int)
  ·rw [if_pos c3] at H
   have c3b0 := eq_true c3; have c3b1 : decide (2000 ≤ (l0.length : Int)) = true := decide_eq_true c3; clear c3; simp only [Option.some.injEq, Prod.mk.injEq] at H; obtain ⟨rfl, rfl⟩ := H; obtain ⟨i04, hi04, _, hsz4, _⟩ := info_parts info5; obtain ⟨hcut4, hA4, hC4⟩ := EY (P := Try.prog) (Value.int .u8) 0 22 5 .i64 Try.underlying22 hi04 hsz4 A0 c0 l0 2000 (by omega) (of_decide_eq_true zb9) HC0.out; have XsD := zz (Kd.XbD (h1 := fun _ => rfl) (hA4 _ (Kd.Er HR0.out))); have HC101 := zz hC4; clear hA4 hC4 hi04 hsz4
   go_enter Try.func75, Try.ntmps75
   go_wp2_with (first | ((with_reducible refine XZ (N := 10) rfl ?_); refine YL ?hg (N := 10) ?hd (cs := #[.slice A0 (l0.take 2000).length c0, .int .i64 0]) (t := 96) ?hr ?_; (case hd => rfl); (case hg => rfl); (case hr => exact zb21); intro XcK hg w5 hbox hb; have n0_ := zz (Xe HBW.out hb); have n1_ := zz (Xe zb5 hb); have n2_ := zz (hbox); have n3_ := zz ((zb69 : w.heap.size ≤ XcK)); have n4_ := zz ((Nat.le_trans HW0.out (zb69 : w.heap.size ≤ XcK) : w0.heap.size ≤ XcK)); clear HBW; clear HB; have HBW := n0_; have HB := n1_; have XsE := n2_; have XsF := n3_; have Xl7 := n4_; clear n0_ n1_ n2_ n3_ n4_; clear hb hbox hg))
   go_ret
   exact ⟨_, rfl, (show XA w0 _ XcK (l0.take 2000) 0 from ⟨_, _, by (with_reducible repeat (first | refine Zq ?_ _ | refine Yd ?_ | refine XY ?_ _)); exact XsE.out, Xl7.out, XsD.out⟩), by repeat (first | (with_reducible first | exact HB.out | apply Xd | apply XF | apply Yt | refine Xc ?_ Xl7.out) | exact HB.out), by repeat (first | (with_reducible first | exact HBW.out | apply Xd | apply XF | apply Yt | refine Xc ?_ XsF.out) | exact HBW.out)⟩
  ·rw [if_neg c3] at H
   exact absurd H (by simp)
 ·rw [if_neg c2] at H
  have c2b0 : decide (2000 < (l0.length : Int)) = false := decide_eq_false c2; have c2b1 : decide (2000 < l0.length) = false := decide_eq_false (by omega); clear c2; simp only [Option.some.injEq, Prod.mk.injEq] at H; obtain ⟨rfl, rfl⟩ := H
  go_enter Try.func75, Try.ntmps75
  go_wp2_with (first | ((with_reducible refine XZ (N := 10) rfl ?_); refine YL ?hg (N := 10) ?hd (cs := #[.slice A0 l0.length c0, .int .i64 0]) (t := 96) ?hr ?_; (case hd => rfl); (case hg => rfl); (case hr => exact zb21); intro XcL hg w6 hbox hb; have n0_ := zz (Xe HBW.out hb); have n1_ := zz (Xe zb5 hb); have n2_ := zz (hbox); have n3_ := zz ((zb69 : w.heap.size ≤ XcL)); have n4_ := zz ((Nat.le_trans HW0.out (zb69 : w.heap.size ≤ XcL) : w0.heap.size ≤ XcL)); clear HBW; clear HB; have HBW := n0_; have HB := n1_; have XsG := n2_; have XsH := n3_; have Xl8 := n4_; clear n0_ n1_ n2_ n3_ n4_; clear hb hbox hg))
  go_ret
  exact ⟨_, rfl, (show XA w0 _ XcL l0 0 from ⟨_, _, by (with_reducible repeat (first | refine Zq ?_ _ | refine Yd ?_ | refine XY ?_ _)); exact XsG.out, Xl8.out, HR0.out⟩), by repeat (first | (with_reducible first | exact HB.out | apply Xd | apply XF | apply Yt | refine Xc ?_ Xl8.out) | exact HB.out), by repeat (first | (with_reducible first | exact HBW.out | apply Xd | apply XF | apply Yt | refine Xc ?_ XsH.out) | exact HBW.out)⟩
def Xb.j0 : Nat → Int → Bool → List Int → Int → Option (Int × Int)
 | 0, _, _, _, _ => none
 | k + 1, x1, x24, Zu, Jg => if x24 = true then (some (0, Jg)) else (if (wrap64 (Jg - 1)) < (Zu.length : Int) then (if 0 ≤ (wrap64 (Jg - 1)) then (if x1 = 0 then (none) else (some (Int.tmod (wrap64 (rd Zu (wrap64 (Jg - 1)))) x1, Jg))) else (none)) else (if (Zu.length : Int) = 0 then (none) else (if 0 ≤ (Int.tmod (wrap64 (Jg - 1)) (Zu.length : Int)) then (if (Int.tmod (wrap64 (Jg - 1)) (Zu.length : Int)) < (Zu.length : Int) then (if 0 ≤ (Int.tmod (wrap64 ((wrap64 ((wrap64 (Jg - 1)) * 7)) + 3)) (Zu.length : Int)) then (if (Int.tmod (wrap64 ((wrap64 ((wrap64 (Jg - 1)) * 7)) + 3)) (Zu.length : Int)) < (Zu.length : Int) then (if x1 = 0 then (none) else (some (Int.tmod (Go.bits .xor .i64 (wrap64 ((wrap64 ((wrap64 ((wrap64 ((wrap64 (rd Zu (Int.tmod (wrap64 (Jg - 1)) (Zu.length : Int)))) * 131)) + (wrap64 ((wrap64 (rd Zu (Int.tmod (wrap64 ((wrap64 ((wrap64 (Jg - 1)) * 7)) + 3)) (Zu.length : Int)))) * 1117)))) + (wrap64 ((wrap64 (Jg - 1)) * 29)))) + (wrap64 ((wrap64 (Int.tdiv (wrap64 (Jg - 1)) (Zu.length : Int))) * 53)))) (wrap64 (Int.tdiv (wrap64 ((wrap64 ((wrap64 ((wrap64 ((wrap64 (rd Zu (Int.tmod (wrap64 (Jg - 1)) (Zu.length : Int)))) * 131)) + (wrap64 ((wrap64 (rd Zu (Int.tmod (wrap64 ((wrap64 ((wrap64 (Jg - 1)) * 7)) + 3)) (Zu.length : Int)))) * 1117)))) + (wrap64 ((wrap64 (Jg - 1)) * 29)))) + (wrap64 ((wrap64 (Int.tdiv (wrap64 (Jg - 1)) (Zu.length : Int))) * 53)))) 64))) x1, Jg))) else (none)) else (none)) else (none)) else (none))))
def Xb.f (k : Nat) (Xp : List Int) (ZK : Int) (a1 : Int) : Option (Int × Int) := if a1 < 1 then (Xb.j0 k a1 true Xp (wrap64 (ZK + 1))) else (Xb.j0 k a1 ((Xp.length : Int) == 0) Xp (wrap64 (ZK + 1)))
theorem Xb.Gx : ∀ k, (∀ y0 y1 y2 y3, LeO (Xb.j0 k y0 y1 y2 y3) (Xb.j0 (k + 1) y0 y1 y2 y3))
 | 0 => fun _ _ _ _ r h => by simp [Xb.j0] at h
 | k + 1 => by
  have ih0 := Xb.Gx k
  ·intro y0 y1 y2 y3
   unfold Xb.j0
   repeat' first
   | (with_reducible exact ih0 _ _ _ _)
   | (with_reducible exact LeO.refl _)
   | (with_reducible exact LeO.none _)
   | (with_reducible refine LeO.ite ?_ ?_)
   | (with_reducible refine LeO.bind ?_ (fun _ => ?_))
   | exact ih0 _ _ _ _
   | exact LeO.none _
   | refine LeO.ite ?_ ?_
   | refine LeO.bind ?_ (fun _ => ?_)
theorem Xb.mono : ∀ a0 a1 a2 k, LeO (Xb.f k a0 a1 a2) (Xb.f (k + 1) a0 a1 a2) := by
 intro a0 a1 a2 k; have ih0 := Xb.Gx k
 unfold Xb.f
 repeat' first
  | (with_reducible exact ih0 _ _ _ _)
  | (with_reducible exact LeO.refl _)
  | (with_reducible exact LeO.none _)
  | (with_reducible refine LeO.ite ?_ ?_)
  | (with_reducible refine LeO.bind ?_ (fun _ => ?_))
  | exact ih0 _ _ _ _
  | exact LeO.none _
  | refine LeO.ite ?_ ?_
  | refine LeO.bind ?_ (fun _ => ?_)
set_option maxHeartbeats 8000000 in
set_option maxRecDepth 100000 in
theorem Xb.calls (k : Nat) (g : Nat) (Xp : List Int) (ZK : Int) (a1 : Int) (r1 : Int) (r2 : Int) (w0 w : World) (hI : XA w0 w g Xp ZK) (hB : Below w0.heap.size w0 w) (h : Xb.f k Xp ZK a1 = some (r1, r2)) :
 Calls Try.prog 77 #[.pointer (some ⟨g, 0, none⟩), .int .i64 a1] w fun e w' => e = .returned (.int .i64 r1) ∧ XA w0 w' g Xp r2 ∧ Below w0.heap.size w0 w' ∧ Xl w w' g none := by
 have HI0 := zz hI; have HK := zz (Xl.refl w g none); have HL := zz hB.size; clear hI; have HW0 := zz hB.size; have HB := zz hB; clear hB; have H : (if a1 < 1 then (Xb.j0 k a1 true Xp (wrap64 (ZK + 1))) else (Xb.j0 k a1 ((Xp.length : Int) == 0) Xp (wrap64 (ZK + 1)))) = some (r1, r2) := h; clear h; have HC3 := zz H; clear H; obtain ⟨ASz4_0, cSz4_0, HGz4, hgz4, HSz4_0⟩ := HI0.out; have Xne := WO HGz4; have Xnf := WQ HGz4; have Xng := Xf HGz4 1; clear HGz4 hgz4
 go_enter Try.func77, Try.ntmps77
 go_upto_region 2 with (fail)
 repeat (go_quiet (fail); go_upto_region 2 with (fail))
 go_cut [24] (fun v24 wc => ∃ (kq : Nat) (XcM : Bool), v24 = .bool XcM ∧ Aside0 (Xb.j0 kq a1 XcM Xp (wrap64 (ZK + 1)) = some (r1, r2)) ∧ Aside0 (kq ≤ k) ∧ Aside0 (XA w0 wc g Xp (wrap64 (ZK + 1))) ∧ Aside0 (Xl w wc g none) ∧ Aside0 (Below w0.heap.size w0 wc))
 case first =>
  have H := HC3.out; clear HC3
  by_cases c5 : a1 < 1
  ·rw [if_pos c5] at H
   have c5b0 : decide (a1 < 1) = true := decide_eq_true c5; clear c5
   (first | rw [c5b0] | (simp only [XG, XW]; rw [c5b0]) | skip)
   have H' := zz H; clear H
   go_wp2
   repeat (go_quiet (fail); try go_wp2)
   go_meet
   case rel => exact ⟨_, (true), zb12, H', ⟨zb70⟩, ⟨zb17⟩, ⟨zb18⟩, ⟨zb50⟩⟩
  ·rw [if_neg c5] at H
   have c5b0 : decide (a1 < 1) = false := decide_eq_false c5; clear c5
   (first | rw [c5b0] | (simp only [XG, XW]; rw [c5b0]) | skip)
   have H' := zz H; clear H; obtain ⟨ASz6_0, cSz6_0, HGz6, hgz6, HSz6_0⟩ := HI0.out; have Ci := WO HGz6; have Cj := WQ HGz6; have Ck := Xf HGz6 1; clear HGz6 hgz6
   go_wp2
   repeat (go_quiet (fail); try go_wp2)
   go_meet
   case rel => exact ⟨_, (((Xp.length : Int) == 0)), zb12, H', ⟨zb70⟩, ⟨zb17⟩, ⟨zb18⟩, ⟨zb50⟩⟩
 case rest =>
  clear HC3
  try clear p2
  try clear c5
  try clear c5b0
  try clear p6
  try clear Xne
  try clear Xnf
  try clear Ci
  try clear Cj
  try clear Xng
  try clear Ck
  obtain ⟨kq, XcM, rfl, HA, HJ2, HI0, HK, HB⟩ := hcut
  cases kq with
  | zero => exact absurd HA.out (by simp [Xb.j0])
  | succ kj2 =>
   have H := HA.out; clear HA; simp only [Xb.j0] at H
   by_cases c7 : XcM = true
   ·subst c7
    have H1 : (some (0, (wrap64 (ZK + 1)))) = some (r1, r2) := by rw [if_pos rfl] at H; exact H
    clear H; have H := H1; clear H1; simp only [Option.some.injEq, Prod.mk.injEq] at H; obtain ⟨rfl, rfl⟩ := H
    go_wp2
    repeat (go_quiet (fail); try go_wp2)
    go_ret
    exact ⟨zb11, zb17, zb50, zb18⟩
   ·replace c7 := Bool.eq_false_iff.mpr c7
    subst c7
    have H1 : (if (wrap64 ((wrap64 (ZK + 1)) - 1)) < (Xp.length : Int) then (if 0 ≤ (wrap64 ((wrap64 (ZK + 1)) - 1)) then (if a1 = 0 then (none) else (some (Int.tmod (wrap64 (rd Xp (wrap64 ((wrap64 (ZK + 1)) - 1)))) a1, (wrap64 (ZK + 1))))) else (none)) else (if (Xp.length : Int) = 0 then (none) else (if 0 ≤ (Int.tmod (wrap64 ((wrap64 (ZK + 1)) - 1)) (Xp.length : Int)) then (if (Int.tmod (wrap64 ((wrap64 (ZK + 1)) - 1)) (Xp.length : Int)) < (Xp.length : Int) then (if 0 ≤ (Int.tmod (wrap64 ((wrap64 ((wrap64 ((wrap64 (ZK + 1)) - 1)) * 7)) + 3)) (Xp.length : Int)) then (if (Int.tmod (wrap64 ((wrap64 ((wrap64 ((wrap64 (ZK + 1)) - 1)) * 7)) + 3)) (Xp.length : Int)) < (Xp.length : Int) then (if a1 = 0 then (none) else (some (Int.tmod (Go.bits .xor .i64 (wrap64 ((wrap64 ((wrap64 ((wrap64 ((wrap64 (rd Xp (Int.tmod (wrap64 ((wrap64 (ZK + 1)) - 1)) (Xp.length : Int)))) * 131)) + (wrap64 ((wrap64 (rd Xp (Int.tmod (wrap64 ((wrap64 ((wrap64 ((wrap64 (ZK + 1)) - 1)) * 7)) + 3)) (Xp.length : Int)))) * 1117)))) + (wrap64 ((wrap64 ((wrap64 (ZK + 1)) - 1)) * 29)))) + (wrap64 ((wrap64 (Int.tdiv (wrap64 ((wrap64 (ZK + 1)) - 1)) (Xp.length : Int))) * 53)))) (wrap64 (Int.tdiv (wrap64 ((wrap64 ((wrap64 ((wrap64 ((wrap64 (rd Xp (Int.tmod (wrap64 ((wrap64 (ZK + 1)) - 1)) (Xp.length : Int)))) * 131)) + (wrap64 ((wrap64 (rd Xp (Int.tmod (wrap64 ((wrap64 ((wrap64 ((wrap64 (ZK + 1)) - 1)) * 7)) + 3)) (Xp.length : Int)))) * 1117)))) + (wrap64 ((wrap64 ((wrap64 (ZK + 1)) - 1)) * 29)))) + (wrap64 ((wrap64 (Int.tdiv (wrap64 ((wrap64 (ZK + 1)) - 1)) (Xp.length : Int))) * 53)))) 64))) a1, (wrap64 (ZK + 1))))) else (none)) else (none)) else (none)) else (none)))) = some (r1, r2) := by rw [if_neg (show ¬ (false = true) by decide)] at H; exact H
    clear H; have H := H1; clear H1
    by_cases c8 : (wrap64 ((wrap64 (ZK + 1)) - 1)) < (Xp.length : Int)
    ·rw [if_pos c8] at H
     have c8b0 : decide ((wrap64 ((wrap64 (ZK + 1)) - 1)) < (Xp.length : Int)) = true := decide_eq_true c8; clear c8
     obtain ⟨ji9, hji9⟩ : ∃ j_ : Int, (wrap64 ((wrap64 (ZK + 1)) - 1)) = j_ := ⟨_, rfl⟩
     replace H : (if 0 ≤ (ji9) then (if a1 = 0 then (none) else (some (Int.tmod (wrap64 (rd Xp (ji9))) a1, (wrap64 (ZK + 1))))) else (none)) = some (r1, r2) := by first | (rw [hji9] at H; exact H) | (simp only [hji9] at H ⊢; exact H)
     (try rw [hji9] at c8b0)
     have hji9w : (IntKind.i64.wrap ((wrap64 (ZK + 1)) - 1)) = ji9 := (XG _).trans hji9
     by_cases c10 : 0 ≤ (ji9)
     ·rw [if_pos c10] at H
      have MN : decide (0 ≤ (ji9)) = true := decide_eq_true c10; clear c10
      by_cases c11 : a1 = 0
      ·rw [if_pos c11] at H
       exact absurd H (by simp)
      ·rw [if_neg c11] at H
       have Xcb : (a1 == 0) = false := beq_eq_false_iff_ne.mpr c11; have c11b1 : (a1 != 0) = true := bne_iff_ne.mpr c11; simp only [Option.some.injEq, Prod.mk.injEq] at H; obtain ⟨rfl, rfl⟩ := H; obtain ⟨ASz12_0, cSz12_0, HGz12, hgz12, HSz12_0⟩ := HI0.out; have Xjy := WO HGz12; have Xjz := WQ HGz12; have Xj0 := Xf HGz12 1; clear HGz12 hgz12; have Xnh : 0 ≤ ((ji9) : Int) := of_decide_eq_true zb9; have Xni : (ji9) < (Xp.length : Int) := of_decide_eq_true zb9; obtain ⟨ad104, e104, XcN⟩ := Kd.Vv HSz12_0 (ji9) Xnh Xni
       cases e104
       replace XcN := Dn HB.out XcN; replace Xnh := eq_true Xnh; replace Xni := eq_true Xni
       go_wp2
       repeat (go_quiet (fail); try go_wp2)
       go_ret
       exact ⟨by first | rfl | (simp [Zz, Z0] <;> rfl) | (simp only [← hji9]; first | rfl | (simp [Zz, Z0] <;> rfl)) | (simp [*, Zz, Z0] <;> rfl), zb17, zb50, zb18⟩
     ·rw [if_neg c10] at H
      exact absurd H (by simp)
    ·rw [if_neg c8] at H
     have c8b0 : decide ((wrap64 ((wrap64 (ZK + 1)) - 1)) < (Xp.length : Int)) = false := decide_eq_false c8; clear c8
     by_cases c13 : (Xp.length : Int) = 0
     ·rw [if_pos c13] at H
      exact absurd H (by simp)
     ·rw [if_neg c13] at H
      have Xsw : ((Xp.length : Int) == 0) = false := beq_eq_false_iff_ne.mpr c13; have c13b1 : ((Xp.length : Int) != 0) = true := bne_iff_ne.mpr c13
      have c13b2 : ¬ (Xp = []) := fun h_ => c13 (by rw [h_]; rfl)
      obtain ⟨Lm, XfO⟩ : ∃ j_ : Int, (Int.tmod (wrap64 ((wrap64 (ZK + 1)) - 1)) (Xp.length : Int)) = j_ := ⟨_, rfl⟩
      replace H : (if 0 ≤ (Lm) then (if (Lm) < (Xp.length : Int) then (if 0 ≤ (Int.tmod (wrap64 ((wrap64 ((wrap64 ((wrap64 (ZK + 1)) - 1)) * 7)) + 3)) (Xp.length : Int)) then (if (Int.tmod (wrap64 ((wrap64 ((wrap64 ((wrap64 (ZK + 1)) - 1)) * 7)) + 3)) (Xp.length : Int)) < (Xp.length : Int) then (if a1 = 0 then (none) else (some (Int.tmod (Go.bits .xor .i64 (wrap64 ((wrap64 ((wrap64 ((wrap64 ((wrap64 (rd Xp (Lm))) * 131)) + (wrap64 ((wrap64 (rd Xp (Int.tmod (wrap64 ((wrap64 ((wrap64 ((wrap64 (ZK + 1)) - 1)) * 7)) + 3)) (Xp.length : Int)))) * 1117)))) + (wrap64 ((wrap64 ((wrap64 (ZK + 1)) - 1)) * 29)))) + (wrap64 ((wrap64 (Int.tdiv (wrap64 ((wrap64 (ZK + 1)) - 1)) (Xp.length : Int))) * 53)))) (wrap64 (Int.tdiv (wrap64 ((wrap64 ((wrap64 ((wrap64 ((wrap64 (rd Xp (Lm))) * 131)) + (wrap64 ((wrap64 (rd Xp (Int.tmod (wrap64 ((wrap64 ((wrap64 ((wrap64 (ZK + 1)) - 1)) * 7)) + 3)) (Xp.length : Int)))) * 1117)))) + (wrap64 ((wrap64 ((wrap64 (ZK + 1)) - 1)) * 29)))) + (wrap64 ((wrap64 (Int.tdiv (wrap64 ((wrap64 (ZK + 1)) - 1)) (Xp.length : Int))) * 53)))) 64))) a1, (wrap64 (ZK + 1))))) else (none)) else (none)) else (none)) else (none)) = some (r1, r2) := by first | (rw [XfO] at H; exact H) | (simp only [XfO] at H ⊢; exact H)
      by_cases c15 : 0 ≤ (Lm)
      ·rw [if_pos c15] at H
       have c15b0 : decide (0 ≤ (Lm)) = true := decide_eq_true c15; clear c15
       by_cases c16 : (Lm) < (Xp.length : Int)
       ·rw [if_pos c16] at H
        have c16b0 : decide ((Lm) < (Xp.length : Int)) = true := decide_eq_true c16; clear c16
        obtain ⟨Bh, XfP⟩ : ∃ j_ : Int, (Int.tmod (wrap64 ((wrap64 ((wrap64 ((wrap64 (ZK + 1)) - 1)) * 7)) + 3)) (Xp.length : Int)) = j_ := ⟨_, rfl⟩
        replace H : (if 0 ≤ (Bh) then (if (Bh) < (Xp.length : Int) then (if a1 = 0 then (none) else (some (Int.tmod (Go.bits .xor .i64 (wrap64 ((wrap64 ((wrap64 ((wrap64 ((wrap64 (rd Xp (Lm))) * 131)) + (wrap64 ((wrap64 (rd Xp (Bh))) * 1117)))) + (wrap64 ((wrap64 ((wrap64 (ZK + 1)) - 1)) * 29)))) + (wrap64 ((wrap64 (Int.tdiv (wrap64 ((wrap64 (ZK + 1)) - 1)) (Xp.length : Int))) * 53)))) (wrap64 (Int.tdiv (wrap64 ((wrap64 ((wrap64 ((wrap64 ((wrap64 (rd Xp (Lm))) * 131)) + (wrap64 ((wrap64 (rd Xp (Bh))) * 1117)))) + (wrap64 ((wrap64 ((wrap64 (ZK + 1)) - 1)) * 29)))) + (wrap64 ((wrap64 (Int.tdiv (wrap64 ((wrap64 (ZK + 1)) - 1)) (Xp.length : Int))) * 53)))) 64))) a1, (wrap64 (ZK + 1))))) else (none)) else (none)) = some (r1, r2) := by first | (rw [XfP] at H; exact H) | (simp only [XfP] at H ⊢; exact H)
        by_cases c18 : 0 ≤ (Bh)
        ·rw [if_pos c18] at H
         have c18b0 : decide (0 ≤ (Bh)) = true := decide_eq_true c18; clear c18
         by_cases c19 : (Bh) < (Xp.length : Int)
         ·rw [if_pos c19] at H
          have c19b0 : decide ((Bh) < (Xp.length : Int)) = true := decide_eq_true c19; clear c19
          by_cases c20 : a1 = 0
          ·rw [if_pos c20] at H
           exact absurd H (by simp)
          ·rw [if_neg c20] at H
           have Xs9 : (a1 == 0) = false := beq_eq_false_iff_ne.mpr c20; have c20b1 : (a1 != 0) = true := bne_iff_ne.mpr c20; simp only [Option.some.injEq, Prod.mk.injEq] at H; obtain ⟨rfl, rfl⟩ := H; obtain ⟨ASz21_0, cSz21_0, HGz21, hgz21, HSz21_0⟩ := HI0.out; have Xzp := WO HGz21; have Xzq := WQ HGz21; have Xzr := Xf HGz21 1; clear HGz21 hgz21; have Xnj : 0 ≤ ((Lm) : Int) := of_decide_eq_true zb9; have Xnk : (Lm) < (Xp.length : Int) := of_decide_eq_true zb9; obtain ⟨XsI, e105, XcO⟩ := Kd.Vv HSz21_0 (Lm) Xnj Xnk
           cases e105
           replace XcO := Dn HB.out XcO; replace Xnj := eq_true Xnj; replace Xnk := eq_true Xnk; have Xnl : 0 ≤ ((Bh) : Int) := of_decide_eq_true zb9; have Xnm : (Bh) < (Xp.length : Int) := of_decide_eq_true zb9; obtain ⟨XsJ, e106, XcP⟩ := Kd.Vv HSz21_0 (Bh) Xnl Xnm
           obtain rfl : XsI = XsJ := (by injection e106)
           replace XcP := Dn HB.out XcP; replace Xnl := eq_true Xnl; replace Xnm := eq_true Xnm
           go_wp2
           repeat (go_quiet (fail); try go_wp2)
           go_ret
           exact ⟨by first | rfl | (simp [Zz, Z0] <;> rfl) | (simp only [← XfO, ← XfP]; first | rfl | (simp [Zz, Z0] <;> rfl)) | (simp [*, Zz, Z0] <;> rfl), zb17, zb50, zb18⟩
         ·rw [if_neg c19] at H
          exact absurd H (by simp)
        ·rw [if_neg c18] at H
         exact absurd H (by simp)
       ·rw [if_neg c16] at H
        exact absurd H (by simp)
      ·rw [if_neg c15] at H
       exact absurd H (by simp)
def Fh.f  : Option (Int × Int × List Int) := if 3 ≤ 35184372088832 then (some (0, 0, (List.replicate 3 0))) else (none)
set_option maxHeartbeats 8000000 in
set_option maxRecDepth 100000 in
theorem Fh.calls  (r1 : Int) (r2 : Int) (r3 : List Int) (w : World) (h : Fh.f  = some (r1, r2, r3)) :
 Calls Try.prog 111 #[] w fun e w' => ∃ v2_ : Value, e = .returned (.agg #[.int .i64 r1, .int .i64 r2, v2_]) ∧ Kd.R (Kd.int .i64) 3 w' w.heap.size (fun _ => True) v2_ r3 ∧ Below w.heap.size w w' := by
 have hu25 := Try.underlying25; have HB := zz (Below.refl w.heap.size w); have H : (if 3 ≤ 35184372088832 then (some (0, 0, (List.replicate 3 0))) else (none)) = some (r1, r2, r3) := h; clear h
 by_cases c1 : 3 ≤ 35184372088832
 ·rw [if_pos c1] at H
  have c1b0 := eq_true c1; have c1b1 : decide (3 ≤ 35184372088832) = true := decide_eq_true c1; clear c1
  obtain ⟨Xnn, hy108⟩ : ∃ y_ : List Int, y_ = (List.replicate 3 0) := ⟨_, rfl⟩
  replace H : (some (0, 0, Xnn)) = some (r1, r2, r3) := by first | (rw [hy108]; with_reducible exact H) | (have H2_ := (Option.bind_some _ _).symm.trans H; rw [hy108]; with_reducible exact H2_) | (have H2_ := (Option.bind_some _ _).symm.trans H; with_reducible exact H2_) | with_reducible exact H | (rw [hy108]; exact H) | exact H
  have Ny108 := zz hy108; clear hy108; simp only [Option.some.injEq, Prod.mk.injEq] at H; obtain ⟨rfl, rfl, rfl⟩ := H
  go_enter Try.func111, Try.ntmps111
  go_wp2_with (first | ((with_reducible refine XZ (N := 0) rfl ?_); refine YL ?hg (N := 0) ?hd (cs := #[.int .i64 0, .int .i64 0, .slice none 0 0]) (t := 25) ?hr ?_; (case hd => rfl); (case hg => rfl); (case hr => exact zb21); intro Pk hg w2 hbox hb; have n0_ := zz (Xe zb5 hb); have n1_ := zz (hbox); have n2_ := zz ((zb156 : w.heap.size ≤ Pk)); have n3_ := zz ((zb156 : w.heap.size ≤ Pk)); clear HB; have HB := n0_; have Wd := n1_; have GW107 := n2_; have XpA := n3_; clear n0_ n1_ n2_ n3_; clear hb hbox hg) | ((with_reducible refine XZ (N := 1) rfl ?_); refine Kd.XgQ (Kd.int .i64) _ 3 rfl (N := 1) rfl 23 _ _ rfl 3 rfl rfl Try.underlying23 (.int .i64 0) 8 info3 rfl (by decide) (by omega) 0 (ok := fun _ => True) (okp := fun _ => True) rfl (fun _ hk => hk) trivial (by omega) (by omega) (Below.refl _ _) (Nat.le_refl _) ?_; intro v109 w3 ho4 hb hg_ hnew_; clear hg_ hnew_; (first | rw [← Ny108.out] at ho4 | (simp only [Int.reduceToNat] at ho4; rw [← Ny108.out] at ho4)); have n0_ := zz (Kd.XT ho4 (Xq zb92)); have n1_ := zz (Z7 (g := Pk) (o := .cells #[.int .i64 0, .int .i64 0, .slice none 0 0] 25 (0, 0)) (by (with_reducible repeat (first | refine Zq ?_ _ | refine Yd ?_ | refine XY ?_ _)); exact Wd.out) hb); have n2_ := zz (Xe zb92 hb); clear Wd; clear HB; have Xl9 := n0_; have Wd := n1_; have HB := n2_; clear n0_ n1_ n2_; clear hb ho4; obtain ⟨Ao5, co5, eo5⟩ := Kd.Xx Xl9.out; subst eo5; have Ci : w3.cell? ⟨Pk, 0, none⟩ = some (.int .i64 0) := (Xy Wd.out 0).trans rfl; have Cj : w3.cell? ⟨Pk, 1, none⟩ = some (.int .i64 0) := (Xy Wd.out 1).trans rfl; have XaN : w3.cell? ⟨Pk, 2, none⟩ = some (.slice none 0 0) := (Xy Wd.out 2).trans rfl; have XaO := Xf Wd.out 0; have Ck := Xf Wd.out 1; have XaP := Xf Wd.out 2))
  refine bodyPost_ret (results_cell_row rfl _ _ Pk 25 #[.int .i64 0, .int .i64 0, .slice Ao5 Xnn.length co5] (0, 0) _ rfl (by (with_reducible repeat (first | refine Zq ?_ _ | refine Yd ?_ | refine XY ?_ _)); refine X9 (cs := #[.int .i64 0, .int .i64 0, .slice none 0 0]) ?_ 2 _ rfl; (with_reducible repeat (first | refine Zq ?_ _ | refine Yd ?_ | refine XY ?_ _)); refine X9 (cs := #[.int .i64 0, .int .i64 0, .slice none 0 0]) ?_ 1 _ rfl; (with_reducible repeat (first | refine Zq ?_ _ | refine Yd ?_ | refine XY ?_ _)); refine X9 (cs := #[.int .i64 0, .int .i64 0, .slice none 0 0]) ?_ 0 _ rfl; (with_reducible repeat (first | refine Zq ?_ _ | refine Yd ?_ | refine XY ?_ _)); exact Wd.out) Try.underlying25 rfl zb13) rfl ?_; exact ⟨_, zb11, by (with_reducible repeat (first | apply Kd.XI | apply Kd.XJ | apply Kd.XR)); exact Kd.XN (Kd.ZZ (p := ⟨Pk, 2, none⟩) (Kd.ZZ (p := ⟨Pk, 1, none⟩) (Kd.ZZ (p := ⟨Pk, 0, none⟩) (Kd.F9 Xl9.out Wd.out (by decide)) (fun _ hk => hk.2) (.int .i64 0)) (fun _ hk => hk.2) (.int .i64 0)) (fun _ hk => hk.2) (.slice Ao5 Xnn.length co5)) (fun _ hk => trivial), zb92⟩
 ·rw [if_neg c1] at H
  exact absurd H (by simp)
def Ya.f (a0 : Int) (a1 : Int) (a2 : Int) : Option (Bool) := if a0 ≥ a1 then (some (decide (a0 ≤ a2))) else (some false)
set_option maxHeartbeats 8000000 in
set_option maxRecDepth 100000 in
theorem Ya.calls (a0 : Int) (a1 : Int) (a2 : Int) (r : Bool) (w : World) (h : Ya.f a0 a1 a2 = some r) :
 Calls Try.prog 81 #[.int .i64 a0, .int .i64 a1, .int .i64 a2] w fun e w' => e = .returned (.bool r) ∧ Vk w w' := by
 have H : (if a0 ≥ a1 then (some (decide (a0 ≤ a2))) else (some false)) = some r := h; clear h
 by_cases c4 : a0 ≥ a1
 ·rw [if_pos c4] at H
  have c4b0 : decide (a1 ≤ a0) = true := decide_eq_true c4; clear c4; obtain rfl := Option.some.inj H
  go_enter Try.func81, Try.ntmps81
  go_wp2
  go_ret
  exact ⟨zb12, zb24⟩
 ·rw [if_neg c4] at H
  have c4b0 : decide (a1 ≤ a0) = false := decide_eq_false c4; clear c4; obtain rfl := Option.some.inj H
  go_enter Try.func81, Try.ntmps81
  go_wp2
  go_ret
  exact ⟨zb12, zb24⟩
def Zr.l0 : Nat → Int → Int → Int → List Int → Option (Bool)
 | 0, _, _, _, _ => none
 | k + 1, x3, Xj1, Xj2, IX => if x3 < (IX.length : Int) then (if 0 ≤ x3 then (if (rd IX x3) = 0 then (Zr.l0 k (wrap64 (x3 + 1)) Xj1 Xj2 IX) else (some false)) else (none)) else (some true)
def Zr.f (k : Nat) (Jv : Int) (Jd : Int) (XE : List Int) : Option (Bool) := Zr.l0 k 0 Jv Jd XE
set_option maxHeartbeats 8000000 in
set_option maxRecDepth 100000 in
theorem Zr.calls (k : Nat) (Jv : Int) (Jd : Int) (Vf : Option Addr) (Vg : Nat) (XE : List Int) (r : Bool) (w : World) (hr0_2 : Kd.C (Kd.int .i64) w Vf XE.length XE) (hc0_2 : XE.length ≤ Vg) (h : Zr.f k Jv Jd XE = some r) :
 Calls Try.prog 82 #[.agg #[.int .i64 Jv, .int .i64 Jd, .slice Vf XE.length Vg]] w fun e w' => e = .returned (.bool r) ∧ Below w.heap.size w w' := by
 have hu25 := Try.underlying25; have TA := zz hr0_2; have TD := zz hc0_2; clear hr0_2 hc0_2; have HB := zz (Below.refl w.heap.size w); have H : (Zr.l0 k 0 Jv Jd XE) = some r := h; clear h; have H' := zz H; clear H
 go_enter Try.func82, Try.ntmps82
 go_wp2_with (first | ((with_reducible refine XZ (N := 1) rfl ?_); refine YL ?hg (N := 1) ?hd (cs := #[.int .i64 Jv, .int .i64 Jd, .slice Vf XE.length Vg]) (t := 25) ?hr ?_; (case hd => rfl); (case hg => rfl); (case hr => exact zb21); intro Sz hg w2 hbox hb; have n0_ := zz (Xe zb5 hb); have n1_ := zz (hbox); have n2_ := zz ((zb156 : w.heap.size ≤ Sz)); have n3_ := zz ((zb156 : w.heap.size ≤ Sz)); clear HB; have HB := n0_; have FU := n1_; have GW172 := n2_; have Xp9 := n3_; clear n0_ n1_ n2_ n3_; clear hb hbox hg))
 go_loopg [3] k (fun kq v3 w' => ∃ (X5 : Int), v3 = .int .i64 X5 ∧ Aside0 (Zr.l0 kq X5 Jv Jd XE = some r) ∧ Aside0 (kq ≤ k) ∧ Aside0 (w'.heap[Sz]? = some (.cells #[.int .i64 Jv, .int .i64 Jd, (.slice Vf XE.length Vg)] 25 (0, 0))) ∧ Aside0 (Below w.heap.size w w'))
 case atStart => exact ⟨(0), zb12, H', ⟨Nat.le_refl _⟩, ⟨zb146⟩, ⟨zb71⟩⟩
 case round =>
  clear H'
  try clear p2
  obtain ⟨X5, rfl, HA, HK1, FU, HB⟩ := hrel
  cases gk with
  | zero => exact absurd HA.out (by simp [Zr.l0])
  | succ k1 =>
   have H := HA.out; clear HA; simp only [Zr.l0] at H
   by_cases c3 : X5 < (XE.length : Int)
   ·rw [if_pos c3] at H
    have c3b0 : decide (X5 < (XE.length : Int)) = true := decide_eq_true c3; clear c3
    by_cases c4 : 0 ≤ X5
    ·rw [if_pos c4] at H
     have c4b0 : decide (0 ≤ X5) = true := decide_eq_true c4; clear c4
     by_cases c5 : (rd XE X5) = 0
     ·rw [if_pos c5] at H
      have c5b0 : ((rd XE X5) == 0) = true := beq_iff_eq.mpr c5; have c5b1 : ((rd XE X5) != 0) = false := bne_eq_false_iff_eq.mpr c5; clear c5; have H' := zz H; clear H; have Ci : wr.cell? ⟨Sz, 0, none⟩ = some (.int .i64 Jv) := (Xy FU.out 0).trans rfl; have Cj : wr.cell? ⟨Sz, 1, none⟩ = some (.int .i64 Jd) := (Xy FU.out 1).trans rfl; have XaN : wr.cell? ⟨Sz, 2, none⟩ = some (.slice Vf XE.length Vg) := (Xy FU.out 2).trans rfl; have XaO := Xf FU.out 0; have Ck := Xf FU.out 1; have XaP := Xf FU.out 2; have Xbf : 0 ≤ (X5 : Int) := of_decide_eq_true zb9; have Xbg : X5 < (XE.length : Int) := of_decide_eq_true zb9; obtain ⟨XsK, Xno, NZ⟩ := Kd.Vv TA.out X5 Xbf Xbg
      cases Xno
      replace NZ := (HB.out.cell (World.block_lt_of_cell? w _ NZ)).trans NZ; replace Xbf := eq_true Xbf; replace Xbg := eq_true Xbg
      go_wp2
      go_roundg k1
      case measure => have := HK1.out; omega
      case rel => exact ⟨(wrap64 (X5 + 1)), zb12, H', ⟨zb61⟩, ⟨zb146⟩, ⟨zb71⟩⟩
     ·rw [if_neg c5] at H
      have c5b0 : ((rd XE X5) == 0) = false := beq_eq_false_iff_ne.mpr c5; have c5b1 : ((rd XE X5) != 0) = true := bne_iff_ne.mpr c5; obtain rfl := Option.some.inj H; have Xe8 : wr.cell? ⟨Sz, 0, none⟩ = some (.int .i64 Jv) := (Xy FU.out 0).trans rfl; have Xe9 : wr.cell? ⟨Sz, 1, none⟩ = some (.int .i64 Jd) := (Xy FU.out 1).trans rfl; have XeA : wr.cell? ⟨Sz, 2, none⟩ = some (.slice Vf XE.length Vg) := (Xy FU.out 2).trans rfl; have XeB := Xf FU.out 0; have XeC := Xf FU.out 1; have XeD := Xf FU.out 2; have Xbf : 0 ≤ (X5 : Int) := of_decide_eq_true zb9; have Xbg : X5 < (XE.length : Int) := of_decide_eq_true zb9; obtain ⟨XsK, Xno, NZ⟩ := Kd.Vv TA.out X5 Xbf Xbg
      cases Xno
      replace NZ := (HB.out.cell (World.block_lt_of_cell? w _ NZ)).trans NZ; replace Xbf := eq_true Xbf; replace Xbg := eq_true Xbg
      go_wp2
      go_ret
      exact ⟨zb11, zb71⟩
    ·rw [if_neg c4] at H
     exact absurd H (by simp)
   ·rw [if_neg c3] at H
    have c3b0 : decide (X5 < (XE.length : Int)) = false := decide_eq_false c3; clear c3; obtain rfl := Option.some.inj H; have XfQ : wr.cell? ⟨Sz, 0, none⟩ = some (.int .i64 Jv) := (Xy FU.out 0).trans rfl; have XfR : wr.cell? ⟨Sz, 1, none⟩ = some (.int .i64 Jd) := (Xy FU.out 1).trans rfl; have XfS : wr.cell? ⟨Sz, 2, none⟩ = some (.slice Vf XE.length Vg) := (Xy FU.out 2).trans rfl; have XfT := Xf FU.out 0; have XfU := Xf FU.out 1; have XfV := Xf FU.out 2
    go_wp2
    go_ret
    exact ⟨zb11, zb71⟩
def Zt.j0 : Nat → Bool → Int → Int → Int → Int → Int → Int → Int → Int → Option (Bool)
 | 0, _, _, _, _, _, _, _, _, _ => none
 | k + 1, x13, Xzs, Xzt, Xzu, Xj3, XcQ, XcR, Xzv, Xzw => if x13 = true then (some false) else (if Xj3 < 0 then ((Ya.f XcQ 0 3).bind fun t252 => (if t252 = true then ((Ya.f XcR 0 3).bind fun t253 => (some t253)) else (some false))) else ((Ya.f XcQ 0 9).bind fun t254 => (if t254 = true then ((Ya.f XcR 0 9).bind fun t255 => (some t255)) else (some false))))
def Zt.f (k : Nat) (Jv : Int) (Jd : Int) (Gz : Int) (Yr : Int) (Y7 : Int) (NU : Int) (Mq : Int) (N7 : Int) : Option (Bool) := (Ya.f Gz 0 4).bind fun t250 => (if t250 = true then ((Ya.f Yr (-1) 2).bind fun t251 => (Zt.j0 k (!t251) Jv Jd Gz Yr Y7 NU Mq N7)) else (Zt.j0 k true Jv Jd Gz Yr Y7 NU Mq N7))
theorem Zt.Gx : ∀ k, (∀ y0 y1 y2 y3 y4 y5 y6 y7 y8, LeO (Zt.j0 k y0 y1 y2 y3 y4 y5 y6 y7 y8) (Zt.j0 (k + 1) y0 y1 y2 y3 y4 y5 y6 y7 y8))
 | 0 => fun _ _ _ _ _ _ _ _ _ r h => by simp [Zt.j0] at h
 | k + 1 => by
  have ih0 := Zt.Gx k
  ·intro y0 y1 y2 y3 y4 y5 y6 y7 y8
   unfold Zt.j0
   repeat' first
   | (with_reducible exact ih0 _ _ _ _ _ _ _ _ _)
   | (with_reducible exact LeO.refl _)
   | (with_reducible exact LeO.none _)
   | (with_reducible refine LeO.ite ?_ ?_)
   | (with_reducible refine LeO.bind ?_ (fun _ => ?_))
   | exact ih0 _ _ _ _ _ _ _ _ _
   | exact LeO.none _
   | refine LeO.ite ?_ ?_
   | refine LeO.bind ?_ (fun _ => ?_)
theorem Zt.mono : ∀ a0 a1 a2 a3 a4 a5 a6 a7 k, LeO (Zt.f k a0 a1 a2 a3 a4 a5 a6 a7) (Zt.f (k + 1) a0 a1 a2 a3 a4 a5 a6 a7) := by
 intro a0 a1 a2 a3 a4 a5 a6 a7 k; have ih0 := Zt.Gx k
 unfold Zt.f
 repeat' first
  | (with_reducible exact ih0 _ _ _ _ _ _ _ _ _)
  | (with_reducible exact LeO.refl _)
  | (with_reducible exact LeO.none _)
  | (with_reducible refine LeO.ite ?_ ?_)
  | (with_reducible refine LeO.bind ?_ (fun _ => ?_))
  | exact ih0 _ _ _ _ _ _ _ _ _
  | exact LeO.none _
  | refine LeO.ite ?_ ?_
  | refine LeO.bind ?_ (fun _ => ?_)
def Y0.j0 : Nat → Bool → Int → Int → Int → Int → Int → Int → Int → Int → Option (Bool)
 | 0, _, _, _, _, _, _, _, _, _ => none
 | k + 1, x18, Mh, IY, W9, MV, Sa, WA, IZ, MW => if x18 = true then (some false) else (if Mh = 1 then ((Zt.f k Mh IY W9 MV Sa WA IZ MW).bind fun t260 => (if t260 = true then (if MV ≥ 0 then (some (MW == 0)) else (some false)) else (some false))) else (if Mh = 2 then ((Zt.f k Mh IY W9 MV Sa WA IZ MW).bind fun t261 => (if t261 = true then (if MV < 0 then (some (MW == 0)) else (some false)) else (some false))) else (if Mh = 6 then ((Zt.f k Mh IY W9 MV Sa WA IZ MW).bind fun t262 => (if t262 = true then (some (Sa == 0)) else (some false))) else (if Mh = 3 then ((Ya.f W9 0 4).bind fun t263 => (if t263 = true then (if MV = 0 then (if Sa = 0 then (if WA = 0 then (some (MW == 0)) else (some false)) else (some false)) else (some false)) else (some false))) else (if Mh = 4 then (if W9 = 0 then (if MV = 0 then (if Sa = 0 then (if WA = 0 then (some (MW == 0)) else (some false)) else (some false)) else (some false)) else (some false)) else (if Mh = 5 then (if W9 = 0 then (if MV = 0 then (if Sa = 0 then (if WA = 0 then (some (MW == 0)) else (some false)) else (some false)) else (some false)) else (some false)) else (some false)))))))
def Y0.f (k : Nat) (Jv : Int) (Jd : Int) (Gz : Int) (Yr : Int) (Y7 : Int) (NU : Int) (Mq : Int) (N7 : Int) : Option (Bool) := (Ya.f Jd 1 3).bind fun t257 => (if t257 = true then ((Ya.f Mq 0 150).bind fun t258 => (if t258 = true then ((Ya.f N7 0 150).bind fun t259 => (Y0.j0 k (!t259) Jv Jd Gz Yr Y7 NU Mq N7)) else (Y0.j0 k true Jv Jd Gz Yr Y7 NU Mq N7))) else (Y0.j0 k true Jv Jd Gz Yr Y7 NU Mq N7))
theorem Y0.Gx : ∀ k, (∀ y0 y1 y2 y3 y4 y5 y6 y7 y8, LeO (Y0.j0 k y0 y1 y2 y3 y4 y5 y6 y7 y8) (Y0.j0 (k + 1) y0 y1 y2 y3 y4 y5 y6 y7 y8))
 | 0 => fun _ _ _ _ _ _ _ _ _ r h => by simp [Y0.j0] at h
 | k + 1 => by
  have ih0 := Y0.Gx k
  ·intro y0 y1 y2 y3 y4 y5 y6 y7 y8
   unfold Y0.j0
   repeat' first
   | (with_reducible exact ih0 _ _ _ _ _ _ _ _ _)
   | (with_reducible exact Zt.mono _ _ _ _ _ _ _ _ _)
   | (with_reducible exact LeO.refl _)
   | (with_reducible exact LeO.none _)
   | (with_reducible refine LeO.ite ?_ ?_)
   | (with_reducible refine LeO.bind ?_ (fun _ => ?_))
   | exact ih0 _ _ _ _ _ _ _ _ _
   | exact Zt.mono _ _ _ _ _ _ _ _ _
   | exact LeO.none _
   | refine LeO.ite ?_ ?_
   | refine LeO.bind ?_ (fun _ => ?_)
theorem Y0.mono : ∀ a0 a1 a2 a3 a4 a5 a6 a7 k, LeO (Y0.f k a0 a1 a2 a3 a4 a5 a6 a7) (Y0.f (k + 1) a0 a1 a2 a3 a4 a5 a6 a7) := by
 intro a0 a1 a2 a3 a4 a5 a6 a7 k; have ih0 := Y0.Gx k
 unfold Y0.f
 repeat' first
  | (with_reducible exact ih0 _ _ _ _ _ _ _ _ _)
  | (with_reducible exact Zt.mono _ _ _ _ _ _ _ _ _)
  | (with_reducible exact LeO.refl _)
  | (with_reducible exact LeO.none _)
  | (with_reducible refine LeO.ite ?_ ?_)
  | (with_reducible refine LeO.bind ?_ (fun _ => ?_))
  | exact ih0 _ _ _ _ _ _ _ _ _
  | exact Zt.mono _ _ _ _ _ _ _ _ _
  | exact LeO.none _
  | refine LeO.ite ?_ ?_
  | refine LeO.bind ?_ (fun _ => ?_)
def Xj.l0 : Nat → List Int → List Int → Int → Option (Bool)
 | 0, _, _, _ => none
 | k + 1, x0, x1, x5 => if x5 < (x0.length : Int) then (if 0 ≤ x5 then (if x5 < (x1.length : Int) then (if (rd x0 x5) = (rd x1 x5) then (Xj.l0 k x0 x1 (wrap64 (x5 + 1))) else (some false)) else (none)) else (none)) else (some true)
def Xj.f (k : Nat) (l0 : List Int) (l1 : List Int) : Option (Bool) := if (l0.length : Int) = (l1.length : Int) then (Xj.l0 k l0 l1 0) else (some false)
set_option maxHeartbeats 8000000 in
set_option maxRecDepth 100000 in
theorem Xj.calls (k : Nat) (A0 : Option Addr) (c0 : Nat) (l0 : List Int) (A1 : Option Addr) (c1 : Nat) (l1 : List Int) (r : Bool) (w : World) (hr0 : Kd.C (Kd.int .i64) w A0 l0.length l0) (hc0 : l0.length ≤ c0) (hr1 : Kd.C (Kd.int .i64) w A1 l1.length l1) (hc1 : l1.length ≤ c1) (h : Xj.f k l0 l1 = some r) :
 Calls Try.prog 64 #[.slice A0 l0.length c0, .slice A1 l1.length c1] w fun e w' => e = .returned (.bool r) ∧ Vk w w' := by
 have HR0 := zz hr0; have HC0 := zz hc0; clear hr0 hc0; have HR1 := zz hr1; have HC1 := zz hc1; clear hr1 hc1; have H : (if (l0.length : Int) = (l1.length : Int) then (Xj.l0 k l0 l1 0) else (some false)) = some r := h; clear h
 by_cases c3 : (l0.length : Int) = (l1.length : Int)
 ·rw [if_pos c3] at H
  have c3b0 : ((l0.length : Int) == (l1.length : Int)) = true := beq_iff_eq.mpr c3; have c3b1 : ((l0.length : Int) != (l1.length : Int)) = false := bne_eq_false_iff_eq.mpr c3
  have c3b2 : (l0.length == l1.length) = true := by first | simpa using c3 | (simp at c3 ⊢; omega)
  clear c3; have H' := zz H; clear H
  go_enter Try.func64, Try.ntmps64
  go_wp2
  repeat (go_quiet (fail); try go_wp2)
  go_loopg [5] k (fun kq v5 w' => ∃ (Yh : Int), v5 = .int .i64 Yh ∧ Aside0 (Xj.l0 kq l0 l1 Yh = some r) ∧ Aside0 (kq ≤ k) ∧ Vk w w')
  case atStart => exact ⟨(0), zb12, H', ⟨Nat.le_refl _⟩, zb24⟩
  case round =>
   clear H'
   try clear c1
   try clear p2
   try clear c3
   try clear c3b0
   try clear c3b1
   try clear c3b2
   obtain ⟨Yh, rfl, HA, HK1, ⟨m1, rfl⟩⟩ := hrel
   cases gk with
   | zero => exact absurd HA.out (by simp [Xj.l0])
   | succ k1 =>
    have H := HA.out; clear HA; simp only [Xj.l0] at H
    by_cases c4 : Yh < (l0.length : Int)
    ·rw [if_pos c4] at H
     have c4b0 : decide (Yh < (l0.length : Int)) = true := decide_eq_true c4; clear c4
     by_cases c5 : 0 ≤ Yh
     ·rw [if_pos c5] at H
      have c5b0 : decide (0 ≤ Yh) = true := decide_eq_true c5; clear c5
      by_cases c6 : Yh < (l1.length : Int)
      ·rw [if_pos c6] at H
       have c6b0 : decide (Yh < (l1.length : Int)) = true := decide_eq_true c6; clear c6
       by_cases c7 : (rd l0 Yh) = (rd l1 Yh)
       ·rw [if_pos c7] at H
        have c7b0 : ((rd l0 Yh) == (rd l1 Yh)) = true := beq_iff_eq.mpr c7; have c7b1 : ((rd l0 Yh) != (rd l1 Yh)) = false := bne_eq_false_iff_eq.mpr c7; clear c7; have H' := zz H; clear H; have Xbh : 0 ≤ (Yh : Int) := of_decide_eq_true zb9; have Xbi : Yh < (l0.length : Int) := of_decide_eq_true zb9; obtain ⟨XsL, Xnp, Xj4⟩ := Kd.Vv HR0.out Yh Xbh Xbi
        cases Xnp
        replace Xbh := eq_true Xbh; replace Xbi := eq_true Xbi; have Xbj : 0 ≤ (Yh : Int) := of_decide_eq_true zb9; have Xbk : Yh < (l1.length : Int) := of_decide_eq_true zb9; obtain ⟨XsM, Xnq, Xj5⟩ := Kd.Vv HR1.out Yh Xbj Xbk
        cases Xnq
        replace Xbj := eq_true Xbj; replace Xbk := eq_true Xbk
        go_wp2
        repeat (go_quiet (fail); try go_wp2)
        go_roundg k1
        case measure => have := HK1.out; omega
        case rel => exact ⟨(wrap64 (Yh + 1)), zb12, H', ⟨zb61⟩, zb24⟩
       ·rw [if_neg c7] at H
        have c7b0 : ((rd l0 Yh) == (rd l1 Yh)) = false := beq_eq_false_iff_ne.mpr c7; have c7b1 : ((rd l0 Yh) != (rd l1 Yh)) = true := bne_iff_ne.mpr c7; obtain rfl := Option.some.inj H; have Xbh : 0 ≤ (Yh : Int) := of_decide_eq_true zb9; have Xbi : Yh < (l0.length : Int) := of_decide_eq_true zb9; obtain ⟨XsL, Xnp, Xj4⟩ := Kd.Vv HR0.out Yh Xbh Xbi
        cases Xnp
        replace Xbh := eq_true Xbh; replace Xbi := eq_true Xbi; have Xbj : 0 ≤ (Yh : Int) := of_decide_eq_true zb9; have Xbk : Yh < (l1.length : Int) := of_decide_eq_true zb9; obtain ⟨XsM, Xnq, Xj5⟩ := Kd.Vv HR1.out Yh Xbj Xbk
        cases Xnq
        replace Xbj := eq_true Xbj; replace Xbk := eq_true Xbk
        go_wp2
        repeat (go_quiet (fail); try go_wp2)
        go_ret
        exact ⟨zb12, zb24⟩
      ·rw [if_neg c6] at H
       exact absurd H (by simp)
     ·rw [if_neg c5] at H
      exact absurd H (by simp)
    ·rw [if_neg c4] at H
     have c4b0 : decide (Yh < (l0.length : Int)) = false := decide_eq_false c4; clear c4; obtain rfl := Option.some.inj H
     go_wp2
     repeat (go_quiet (fail); try go_wp2)
     go_ret
     exact ⟨zb12, zb24⟩
 ·rw [if_neg c3] at H
  have c3b0 : ((l0.length : Int) == (l1.length : Int)) = false := beq_eq_false_iff_ne.mpr c3; have c3b1 : ((l0.length : Int) != (l1.length : Int)) = true := bne_iff_ne.mpr c3
  have c3b2 : (l0.length == l1.length) = false := by first | simpa using c3 | (simp at c3 ⊢; omega)
  obtain rfl := Option.some.inj H
  go_enter Try.func64, Try.ntmps64
  go_wp2
  repeat (go_quiet (fail); try go_wp2)
  go_ret
  exact ⟨zb12, zb24⟩
def Zg.f (a0 : Int) : Option (Bool) := if a0 = 1 then (some true) else (if a0 = 2 then (some true) else (some (a0 == 6)))
set_option maxHeartbeats 8000000 in
set_option maxRecDepth 100000 in
theorem Zg.calls (a0 : Int) (r : Bool) (w : World) (h : Zg.f a0 = some r) :
 Calls Try.prog 102 #[.int .i64 a0] w fun e w' => e = .returned (.bool r) ∧ Vk w w' := by
 have H : (if a0 = 1 then (some true) else (if a0 = 2 then (some true) else (some (a0 == 6)))) = some r := h; clear h
 by_cases c2 : a0 = 1
 ·rw [if_pos c2] at H
  have c2b0 : (a0 == 1) = true := beq_iff_eq.mpr c2; have c2b1 : (a0 != 1) = false := bne_eq_false_iff_eq.mpr c2; clear c2; obtain rfl := Option.some.inj H
  go_enter Try.func102, Try.ntmps102
  go_wp2
  go_ret
  exact ⟨zb12, zb24⟩
 ·rw [if_neg c2] at H
  have c2b0 : (a0 == 1) = false := beq_eq_false_iff_ne.mpr c2; have c2b1 : (a0 != 1) = true := bne_iff_ne.mpr c2
  by_cases c3 : a0 = 2
  ·rw [if_pos c3] at H
   have c3b0 : (a0 == 2) = true := beq_iff_eq.mpr c3; have c3b1 : (a0 != 2) = false := bne_eq_false_iff_eq.mpr c3; clear c3; obtain rfl := Option.some.inj H
   go_enter Try.func102, Try.ntmps102
   go_wp2
   go_ret
   exact ⟨zb12, zb24⟩
  ·rw [if_neg c3] at H
   have c3b0 : (a0 == 2) = false := beq_eq_false_iff_ne.mpr c3; have c3b1 : (a0 != 2) = true := bne_iff_ne.mpr c3; obtain rfl := Option.some.inj H
   go_enter Try.func102, Try.ntmps102
   go_wp2
   go_ret
   exact ⟨zb12, zb24⟩
def J5.f (Jv : Int) (Jd : Int) (XE : List Int) : Option (Int × Int × List Int) := (some (([] : List Int) : List Int)).bind fun Bi => (if Bi.length + XE.length < 17592186044416 then (some (Jv, Jd, (Bi ++ XE))) else (none))
set_option maxHeartbeats 8000000 in
set_option maxRecDepth 100000 in
theorem J5.calls (Jv : Int) (Jd : Int) (Vf : Option Addr) (Vg : Nat) (XE : List Int) (r1 : Int) (r2 : Int) (r3 : List Int) (w : World) (hr0_2 : Kd.C (Kd.int .i64) w Vf XE.length XE) (hc0_2 : XE.length ≤ Vg) (h : J5.f Jv Jd XE = some (r1, r2, r3)) :
 Calls Try.prog 118 #[.agg #[.int .i64 Jv, .int .i64 Jd, .slice Vf XE.length Vg]] w fun e w' => ∃ v2_ : Value, e = .returned (.agg #[.int .i64 r1, .int .i64 r2, v2_]) ∧ Kd.R (Kd.int .i64) 3 w' w.heap.size (fun _ => True) v2_ r3 ∧ Below w.heap.size w w' := by
 have hu25 := Try.underlying25; have TA := zz hr0_2; have TD := zz hc0_2; clear hr0_2 hc0_2; have HB := zz (Below.refl w.heap.size w); have H : ((some (([] : List Int) : List Int)).bind fun Bi => (if Bi.length + XE.length < 17592186044416 then (some (Jv, Jd, (Bi ++ XE))) else (none))) = some (r1, r2, r3) := h; clear h
 obtain ⟨Bi, hy703⟩ : ∃ y_ : List Int, y_ = (([] : List Int)) := ⟨_, rfl⟩
 replace H : (if Bi.length + XE.length < 17592186044416 then (some (Jv, Jd, (Bi ++ XE))) else (none)) = some (r1, r2, r3) := by first | (rw [hy703]; with_reducible exact H) | (have H2_ := (Option.bind_some _ _).symm.trans H; rw [hy703]; with_reducible exact H2_) | (have H2_ := (Option.bind_some _ _).symm.trans H; with_reducible exact H2_) | with_reducible exact H | (rw [hy703]; exact H) | exact H
 have Ny703 := zz hy703; clear hy703
 by_cases c2 : Bi.length + XE.length < 17592186044416
 ·rw [if_pos c2] at H
  have LMc2 := zz c2; clear c2
  obtain ⟨Xj6, hy706⟩ : ∃ y_ : List Int, y_ = (Bi ++ XE) := ⟨_, rfl⟩
  replace H : (some (Jv, Jd, Xj6)) = some (r1, r2, r3) := by first | (rw [hy706]; with_reducible exact H) | (have H2_ := (Option.bind_some _ _).symm.trans H; rw [hy706]; with_reducible exact H2_) | (have H2_ := (Option.bind_some _ _).symm.trans H; with_reducible exact H2_) | with_reducible exact H | (rw [hy706]; exact H) | exact H
  have Ny706 := zz hy706; clear hy706; simp only [Option.some.injEq, Prod.mk.injEq] at H; obtain ⟨rfl, rfl, rfl⟩ := H
  go_enter Try.func118, Try.ntmps118
  go_wp2_with (first | ((with_reducible refine XZ (N := 1) rfl ?_); refine YL ?hg (N := 1) ?hd (cs := #[.int .i64 Jv, .int .i64 Jd, .slice Vf XE.length Vg]) (t := 25) ?hr ?_; (case hd => rfl); (case hg => rfl); (case hr => exact zb21); intro UB hg w3 hbox hb; have n0_ := zz (Xe zb5 hb); have n1_ := zz (hbox); have n2_ := zz ((zb156 : w.heap.size ≤ UB)); have n3_ := zz ((zb156 : w.heap.size ≤ UB)); clear HB; have HB := n0_; have Fz := n1_; have GW701 := n2_; have Xlf := n3_; clear n0_ n1_ n2_ n3_; clear hb hbox hg) | ((with_reducible refine XZ (N := 2) rfl ?_); refine YL ?hg (N := 2) ?hd (cs := #[.int .i64 0, .int .i64 0, .slice none 0 0]) (t := 25) ?hr ?_; (case hd => rfl); (case hg => rfl); (case hr => exact zb21); intro NG hg w4 hbox hb; have n0_ := zz (Z7 (g := UB) (o := .cells #[.int .i64 Jv, .int .i64 Jd, .slice Vf XE.length Vg] 25 (0, 0)) zb79 hb); have n1_ := zz (Xe zb90 hb); have n2_ := zz (hbox); have n3_ := zz ((by rw [hg]; exact (Xq zb90) : w.heap.size ≤ NG)); have n4_ := zz ((by rw [hg]; exact (Xq zb90) : w.heap.size ≤ NG)); have n5_ := zz ((by rw [hg]; exact Nat.ne_of_lt (Dq (g := UB) (o := .cells #[.int .i64 Jv, .int .i64 Jd, .slice Vf XE.length Vg] 25 (0, 0)) zb79) : UB ≠ NG)); have n6_ := zz ((by rw [hg]; exact Nat.ne_of_gt (Dq (g := UB) (o := .cells #[.int .i64 Jv, .int .i64 Jd, .slice Vf XE.length Vg] 25 (0, 0)) zb79) : NG ≠ UB)); clear Fz; clear HB; have Fz := n0_; have HB := n1_; have MO := n2_; have GW702 := n3_; have Xp8 := n4_; have XdF := n5_; have Ox := n6_; clear n0_ n1_ n2_ n3_ n4_ n5_ n6_; clear hb hbox hg) | ((with_reducible refine XZ (N := 3) rfl ?_); refine Kd.Gb (Kd.int .i64) _ 3 ?hg (N := 3) ?hd (xs := ([] : List Int)) (inner := []) (ok := fun _ => True) (okp := fun _ => True) ?hr ?hp (fun _ hk => hk) trivial (Below.refl _ _) (Nat.le_refl _) (by simp) ?_; (case hd => rfl); (case hg => rfl); (case hr => exact zb21); (case hp => exact zb121); intro v704 w5 ho6 hb hg_ hnew_; clear hg_ hnew_; (first | rw [← Ny703.out] at ho6 | (simp only [Int.reduceToNat] at ho6; rw [← Ny703.out] at ho6)); have n0_ := zz (Kd.XT ho6 (Xq zb47)); have n1_ := zz (Z7 (g := UB) (o := .cells #[.int .i64 Jv, .int .i64 Jd, .slice Vf XE.length Vg] 25 (0, 0)) zb79 hb); have n2_ := zz (Z7 (g := NG) (o := .cells #[.int .i64 0, .int .i64 0, .slice none 0 0] 25 (0, 0)) zb145 hb); have n3_ := zz (Xe zb47 hb); clear Fz; clear MO; clear HB; have XcS := n0_; have Fz := n1_; have MO := n2_; have HB := n3_; clear n0_ n1_ n2_ n3_; clear hb ho6; have hnb7 := XdF.out; have hnc7 := Ox.out; have XfQ : w5.cell? ⟨UB, 0, none⟩ = some (.int .i64 Jv) := (Xy Fz.out 0).trans rfl; have XfR : w5.cell? ⟨UB, 1, none⟩ = some (.int .i64 Jd) := (Xy Fz.out 1).trans rfl; have XfS : w5.cell? ⟨UB, 2, none⟩ = some (.slice Vf XE.length Vg) := (Xy Fz.out 2).trans rfl; have XfT := Xf Fz.out 0; have XfU := Xf Fz.out 1; have XfV := Xf Fz.out 2) | ((with_reducible refine Zk (b := .append) (xs := #[.tmp 3, .tmp 5]) rfl ?_); at_builtin; refine Kd.Ve (Kd.int .i64) (w0 := w) w.heap.size rfl (.tmp 3) (.tmp 5) 23 3 (.int .i64 0) 8 rfl Try.underlying23 info3 rfl (by decide) (by omega) v704 Bi XE _ _ _ (fun _ => True) (fun _ => False) rfl rfl ?aO ?aR (fun _ _ h => h) (fun _ h => h.elim) ?aF ?aB ?aS ?aL ?_; (case aR => exact zb72); (case aB => exact zb47); (case aF => exact zb139); (case aO => exact (by (with_reducible repeat (first | apply Kd.XI | apply Kd.XJ | apply Kd.XR)); exact XcS.out)); (case aS => exact (Xq zb47)); (case aL => have := LMc2.out; omega); intro v707 w9 ho hb hg hat; rw [← Ny706.out] at ho; have n0_ := zz (Jk (g := UB) (o := .cells #[.int .i64 Jv, .int .i64 Jd, .slice Vf XE.length Vg] 25 (0, 0)) zb79 hg (Kd.Pf XcS.out Fz.out (by decide))); have n1_ := zz (Jk (g := NG) (o := .cells #[.int .i64 0, .int .i64 0, .slice none 0 0] 25 (0, 0)) zb145 hg (Kd.Pf XcS.out MO.out (by decide))); have n2_ := zz (hb); have n3_ := zz (ho); clear Fz; clear MO; clear HB; clear XcS; have Fz := n0_; have MO := n1_; have HB := n2_; have XlA := n3_; clear n0_ n1_ n2_ n3_; clear ho hb hg hat; obtain ⟨DJ, DK, eo10⟩ := Kd.Xx XlA.out; subst eo10; have Xzx : w9.cell? ⟨UB, 0, none⟩ = some (.int .i64 Jv) := (Xy Fz.out 0).trans rfl; have Xzy : w9.cell? ⟨UB, 1, none⟩ = some (.int .i64 Jd) := (Xy Fz.out 1).trans rfl; have Xzz : w9.cell? ⟨UB, 2, none⟩ = some (.slice Vf XE.length Vg) := (Xy Fz.out 2).trans rfl; have Xz0 := Xf Fz.out 0; have Xz1 := Xf Fz.out 1; have Xz2 := Xf Fz.out 2; have Xjy : w9.cell? ⟨NG, 0, none⟩ = some (.int .i64 0) := (Xy MO.out 0).trans rfl; have Xjz : w9.cell? ⟨NG, 1, none⟩ = some (.int .i64 0) := (Xy MO.out 1).trans rfl; have Xz3 : w9.cell? ⟨NG, 2, none⟩ = some (.slice none 0 0) := (Xy MO.out 2).trans rfl; have Xz4 := Xf MO.out 0; have Xj0 := Xf MO.out 1; have Xz5 := Xf MO.out 2))
  refine bodyPost_ret (results_cell_row rfl _ _ NG 25 #[.int .i64 Jv, .int .i64 Jd, .slice DJ Xj6.length DK] (0, 0) _ rfl (by (with_reducible repeat (first | refine Zq ?_ _ | refine Yd ?_ | refine XY ?_ _)); refine X9 (cs := #[.int .i64 Jv, .int .i64 Jd, .slice none 0 0]) ?_ 2 _ rfl; (with_reducible repeat (first | refine Zq ?_ _ | refine Yd ?_ | refine XY ?_ _)); refine X9 (cs := #[.int .i64 Jv, .int .i64 0, .slice none 0 0]) ?_ 1 _ rfl; (with_reducible repeat (first | refine Zq ?_ _ | refine Yd ?_ | refine XY ?_ _)); refine X9 (cs := #[.int .i64 0, .int .i64 0, .slice none 0 0]) ?_ 0 _ rfl; (with_reducible repeat (first | refine Zq ?_ _ | refine Yd ?_ | refine XY ?_ _)); refine FB ?_ Ox.out _; (with_reducible repeat (first | refine Zq ?_ _ | refine Yd ?_ | refine XY ?_ _)); exact MO.out) Try.underlying25 rfl zb13) rfl ?_; exact ⟨_, zb11, by (with_reducible repeat (first | apply Kd.XI | apply Kd.XJ | apply Kd.XR)); exact Kd.XN (Kd.ZZ (p := ⟨NG, 2, none⟩) (Kd.ZZ (p := ⟨NG, 1, none⟩) (Kd.ZZ (p := ⟨NG, 0, none⟩) (Kd.ZZ (p := ⟨UB, 2, none⟩) (Kd.F9 (Kd.F9 XlA.out Fz.out (by decide)) MO.out (by decide)) (fun _ hk => hk.1.2) (.slice DJ Xj6.length DK)) (fun _ hk => hk.2) (.int .i64 Jv)) (fun _ hk => hk.2) (.int .i64 Jd)) (fun _ hk => hk.2) (.slice DJ Xj6.length DK)) (fun _ hk => trivial), zb47⟩
 ·rw [if_neg c2] at H
  exact absurd H (by simp)
def Dm.f (Jv : Int) (Jd : Int) (XE : List Int) (ZY : Int) (Jl : Int) (YH : Int) (Yw : Int) (Z4 : Int) (ZW : Int) (Pq : Int) (Js : Int) (a2 : Int) : Option (Int × Int × List Int) := (J5.f Jv Jd XE).bind fun XcT => (if Yw ≥ 0 then (if 0 ≤ Yw then (if Yw < (XcT.2.2.length : Int) then (some (a2, XcT.2.1, (XcT.2.2.set (Yw : Int).toNat ZW))) else (none)) else (none)) else (if ZW = 0 then (if 3 ≤ 35184372088832 then (some (a2, ZW, (List.replicate 3 0))) else (none)) else (some (a2, ZW, XcT.2.2))))
end Go.Proofs.Ytcefiblpnegepaa.Pr
