import Derived.Test.YtphnphmbfogmlaaGreatQFByq
import Derived.Test.YtphnphmbfogmlaaGreatQFSx
import Derived.Test.YtphnphmbfogmlaaGreatQFLast
namespace Go.Proofs.YtphnphmbfogmlaaGreat.T
open Go.RowKit Go.Shelf Go.PW Go.Proofs.YtphnphmbfogmlaaGreat.Pr
set_option linter.unusedSimpArgs false
set_option linter.unusedVariables false
attribute [local go_sem] Oper.semAt_some
def PH (k : Int) : Bool := k == 1 || k == 2 || k == 6
def MW (r : S76) (p : Int) : Bool := r.f2 == p && (PH r.f0 || r.f0 == 3)
def Xfr (p : Int) : List S76 → Int
 | [] => 0
 | r :: q => if MW r p = true then (q.length : Int) + 1 else Xfr p q
def Vm (l : List S76) (p : Int) : Int := Xfr p l.reverse
theorem Nw (l : List S76) (i : Nat) (hi : i < l.length) (p : Int) : Vm (l.take (i + 1)) p = if MW (Xa l (i : Int)) p = true then (i : Int) + 1 else Vm (l.take i) p := by
 have e : l.take (i + 1) = l.take i ++ [Xa l (i : Int)] := by
  rw [List.take_add_one, List.getElem?_eq_getElem hi]
  simp [Xa, List.getD_eq_getElem?_getD, List.getElem?_eq_getElem hi]
 unfold Vm
 rw [e, List.reverse_append, List.reverse_singleton, List.singleton_append, Xfr, List.length_reverse, List.length_take, Nat.min_eq_left (Nat.le_of_lt hi)]
def Xdk (xs : List S76) (pre : List Nat) : Int := match pre.getLast? with
 | some x => wrap64 ((x : Int) + 1)
 | none => 0
theorem WB (xs : List S76) (pre : List Nat) (x : Nat) : Xdk xs (pre ++ [x]) = wrap64 ((x : Int) + 1) := by simp [Xdk]
theorem WC (F : Fence) (n : Nat) (h6 : F.fn 68) (hro : F.round = none) (y0 y1 y2 y3 y4 y5 y6 y7 : Int) (w : World) :
 CallsIn F n Tryz.prog 68 #[.agg #[.int .i64 y0, .int .i64 y1, .int .i64 y2, .int .i64 y3, .int .i64 y4, .int .i64 y5, .int .i64 y6, .int .i64 y7]] w fun e w' => e = .returned (.bool (y0 == 1 || y0 == 2 || y0 == 6)) ∧ w' = w.alloc (.cells #[.int .i64 y0, .int .i64 y1, .int .i64 y2, .int .i64 y3, .int .i64 y4, .int .i64 y5, .int .i64 y6, .int .i64 y7] 76) := by
 refine callsIn_of_wp Tryz.func68 rfl h6 ?_ hro; simp only [Tryz.ntmps68, List.size_toArray, List.length_cons, List.length_nil, Nat.reduceAdd, Nat.reduceSub, Array.replicate_succ, Array.replicate_zero, List.push_toArray, List.append_toArray, List.nil_append, List.cons_append]
 gi_wp2
 all_goals go_ret
 all_goals refine ⟨congrArg (fun b => Ending.returned (.bool b)) ?_, ?_⟩
 all_goals first | rfl | (simp_all; done) | simp_all
set_option maxRecDepth 100000 in
set_option maxHeartbeats 4000000 in
theorem XkN (F : Fence) (n : Nat) (h3 : F.fn 86) (h4 : F.fn 108) (h5 : F.fn 116) (h6 : F.fn 68) (hro : F.round = none) (hn : 6 ≤ n) (A : Option Addr) (cap : Nat) (xs : List S76) (tx : Int) (w : World) (hC : Kd.C k76 w A xs.length xs) :
 CallsIn F n Tryz.prog 86 #[.slice A xs.length cap, .int .i64 tx] w fun e W' => (∃ r, e = .returned (.int .i64 r) ∧ ((r = 0 ∧ ∀ j ∈ VF xs.length xs.length, MW (Xa xs (j : Int)) tx = false) ∨ ∃ k, k < xs.length ∧ (∀ j ∈ VF xs.length k, MW (Xa xs (j : Int)) tx = false) ∧ MW (Xa xs ((xs.length - 1 - k : Nat) : Int)) tx = true ∧
  r = ((xs.length - 1 - k : Nat) : Int) + 1)) ∧ Below w.heap.size w W' := by
 have h1 : 1 ≤ n := by omega
 refine callsIn_of_wp_marks Tryz.func86 rfl h3 ?_ hro; simp only [Tryz.ntmps86, List.size_toArray, List.length_cons, List.length_nil, Nat.reduceAdd, Nat.reduceSub, Array.replicate_succ, Array.replicate_zero, List.push_toArray, List.append_toArray, List.nil_append, List.cons_append]
 gi_wp2_with (gi_at_call 108; refine (Xjq F (n - 1) h4 hro _ _ _ _).mono ?_; rintro e w' ⟨rfl, rfl⟩)
 have bT := ((Boxed.new w 3 (.int .i64 tx)).alloc (.cells #[.int .i64 0] 3)).alloc (.cells #[.slice A xs.length cap] 29); have bR := (Boxed.new (w.alloc (.cells #[.int .i64 tx] 3)) 3 (.int .i64 0)).alloc (.cells #[.slice A xs.length cap] 29); have bS := Boxed.new ((w.alloc (.cells #[.int .i64 tx] 3)).alloc (.cells #[.int .i64 0] 3)) 29 (.slice A xs.length cap); simp only [World.size_alloc] at bR bS; have hB0 : Below w.heap.size w (((w.alloc (.cells #[.int .i64 tx] 3)).alloc (.cells #[.int .i64 0] 3)).alloc (.cells #[.slice A xs.length cap] 29)) := (((Below.refl _ w).alloc (Nat.le_refl _) _).alloc (by simp) _).alloc zb99 _
 have hsz : (((w.alloc (.cells #[.int .i64 tx] 3)).alloc (.cells #[.int .i64 0] 3)).alloc (.cells #[.slice A xs.length cap] 29)).heap.size = w.heap.size + 3 := by simp
 obtain ⟨W0, hW0⟩ : ∃ W0, ((w.alloc (.cells #[.int .i64 tx] 3)).alloc (.cells #[.int .i64 0] 3)).alloc (.cells #[.slice A xs.length cap] 29) = W0 := ⟨_, rfl⟩
 rw [hW0] at bT bR bS hB0 hsz ⊢; clear hW0
 refine wpIn_rangeFunc_ownH hro h1 (gf := 116) (lb := #[.pointer (some ⟨w.heap.size + 1 + 1, 0, none⟩)]) rfl h5 (enters_of Tryz.func116 zb6 rfl)
  (Ep F (n - 1) h5 hro (by omega) (w.heap.size + 1 + 1) (w.heap.size + 3) cap A xs w W0 hC hB0 (by omega) (by omega) (by omega) bS.cell) belowK_t (belowK_b (by omega)) (Below.refl _ _) (fun _ => rfl)
  (fun pre W => ((((∀ j ∈ pre, MW (Xa xs (j : Int)) tx = false) ∧ Boxed W (w.heap.size + 1) 3 (.int .i64 0)) ∧ Boxed W w.heap.size 3 (.int .i64 tx)) ∧ Boxed W (w.heap.size + 1 + 1) 29 (.slice A xs.length cap)) ∧ Below w.heap.size w W)
  (fun c pre W => ((c = .ret ∧ ∃ (pre' : List Nat) (x : Nat), pre = pre' ++ [x] ∧ (∀ j ∈ pre', MW (Xa xs (j : Int)) tx = false) ∧ MW (Xa xs (x : Int)) tx = true) ∧ Boxed W (w.heap.size + 1) 3 (.int .i64 (Xdk xs pre))) ∧ Below w.heap.size w W)
  (OwnFrom.and (OwnFrom.and (OwnFrom.and (OwnFrom.and (ownFrom_pure _ _) (Own.from (boxed_own _ _ _) _)) (Own.from (boxed_own _ _ _) _)) (Own.from (boxed_own _ _ _) _)) (ownFrom_below (Nat.le_refl _) (by omega)))
  (fun c => OwnFrom.and (OwnFrom.and (ownFrom_pure _ _) (Own.from (boxed_own _ _ (fun pre => Value.int .i64 (Xdk xs pre))) _)) (ownFrom_below (Nat.le_refl _) (by omega)))
  ⟨⟨⟨⟨by simp, bR⟩, bT⟩, bS⟩, hB0⟩
  (fun x a' W => ∃ Bx, w.heap.size + 1 + 1 < Bx ∧ Xjr W Bx (Xa xs (x : Int)) ∧ a' = { tmps := #[.slice A xs.length cap, .int .i64 tx, undef, .pointer (some ⟨w.heap.size, 0, none⟩), .pointer (some ⟨w.heap.size + 1, 0, none⟩), .int .i64 (x : Int), .pointer (some ⟨Bx, 0, none⟩), .slice A xs.length cap, .func (.func 116) #[] #[.pointer (some ⟨w.heap.size + 1 + 1, 0, none⟩)], .int .i64 (x : Int), PU (Xa xs (x : Int)), undef, undef, undef, undef, undef, undef, undef, undef, undef, undef, undef, undef, undef, undef, undef], defers := [] })
  (fun x a' _ X Y row hs hg hr => by
   obtain ⟨Bx, e1, ⟨q0, q1, q2, q3, q4, q5, q6, q7⟩, e3⟩ := hs
   exact ⟨Bx, e1, ⟨cell_kept q0 hg (fun r e => (hr r e).2), cell_kept q1 hg (fun r e => (hr r e).2), cell_kept q2 hg (fun r e => (hr r e).2), cell_kept q3 hg (fun r e => (hr r e).2), cell_kept q4 hg (fun r e => (hr r e).2), cell_kept q5 hg (fun r e => (hr r e).2), cell_kept q6 hg (fun r e => (hr r e).2), cell_kept q7 hg (fun r e => (hr r e).2)⟩, e3⟩)
  ?assign ?body ?done ?stop
 case assign =>
  rintro l pre x W K ⟨⟨⟨⟨hp, bR1⟩, bT1⟩, bS1⟩, hB1⟩ hK
  unfold PU
  gi_wp2
  exact hK _ _ ((KeepsOthers.alloc _ _).from _) ((Below.refl _ W).alloc (by have := bS1.lt; omega) _) ⟨⟨⟨⟨hp, bR1.alloc _⟩, bT1.alloc _⟩, bS1.alloc _⟩, hB1.alloc hB1.size _⟩ ⟨W.heap.size, bS1.lt, by unfold Xjr; refine ⟨?_, ?_, ?_, ?_, ?_, ?_, ?_, ?_⟩ <;> go_simp, rfl⟩
 case body =>
  rintro l pre x a' W hl ⟨r, hr⟩ ⟨⟨⟨⟨hp, bR1⟩, bT1⟩, bS1⟩, hB1⟩ ⟨Bx, hBx, ⟨q0, q1, q2, q3, q4, q5, q6, q7⟩, rfl⟩ hlt; have cT := bT1.cell; have cR := bR1.cell; have fR := bR1.frozen; have hsW := bS1.lt; have ltR := bR1.lt; have ltT := bT1.lt; have ltB : Bx < W.heap.size := World.block_lt_of_cell? W _ q0
  unfold PU
  by_cases ht : (Xa xs (x : Int)).f2 = tx
  ·have htb : ((Xa xs (x : Int)).f2 == tx) = true := beq_iff_eq.mpr ht
   by_cases hc : ((Xa xs (x : Int)).f0 == 1 || (Xa xs (x : Int)).f0 == 2 || (Xa xs (x : Int)).f0 == 6) = true
   ·have hh : MW (Xa xs (x : Int)) tx = true := by unfold MW PH; rw [htb, hc]; rfl
    gi_wp2_with (refine ⟨fun _ => by omega, ?_⟩; gi_at_call 68; refine (CallsIn.inRound l (WC F (n - 1 - 1 - 1) h6 hro _ _ _ _ _ _ _ _ _)).mono ?_; rintro e w' ⟨rfl, rfl⟩)
    exact ⟨zb48, ⟨⟨rfl, pre, x, rfl, hp, hh⟩, by rw [WB]; first | exact (bR1.alloc _).set _ | exact (bR1.set _).alloc _⟩, zb39⟩
   ·have hc2 : ((Xa xs (x : Int)).f0 == 1 || (Xa xs (x : Int)).f0 == 2 || (Xa xs (x : Int)).f0 == 6) = false := by simpa using hc
    clear hc
    by_cases h3 : ((Xa xs (x : Int)).f0 == 3) = true
    ·have hh : MW (Xa xs (x : Int)) tx = true := by unfold MW PH; rw [htb, hc2, h3]; rfl
     gi_wp2_with (refine ⟨fun _ => by omega, ?_⟩; gi_at_call 68; refine (CallsIn.inRound l (WC F (n - 1 - 1 - 1) h6 hro _ _ _ _ _ _ _ _ _)).mono ?_; rintro e w' ⟨rfl, rfl⟩)
     exact ⟨zb48, ⟨⟨rfl, pre, x, rfl, hp, hh⟩, by rw [WB]; first | exact (bR1.alloc _).set _ | exact (bR1.set _).alloc _⟩, zb39⟩
    ·have h32 : ((Xa xs (x : Int)).f0 == 3) = false := by simpa using h3
     clear h3
     have hh : MW (Xa xs (x : Int)) tx = false := by unfold MW PH; rw [htb, hc2, h32]; rfl
     gi_wp2_with (refine ⟨fun _ => by omega, ?_⟩; gi_at_call 68; refine (CallsIn.inRound l (WC F (n - 1 - 1 - 1) h6 hro _ _ _ _ _ _ _ _ _)).mono ?_; rintro e w' ⟨rfl, rfl⟩)
     exact ⟨(KeepsOthers.alloc _ _).from _, (Below.refl _ W).alloc (by have := bS1.lt; omega) _, ⟨⟨⟨fun z hz => (List.mem_append.1 hz).elim (hp z) (fun e => by simp at e; subst e; exact hh), bR1.alloc _⟩, bT1.alloc _⟩, bS1.alloc _⟩, hB1.alloc hB1.size _⟩
  ·have htb : ((Xa xs (x : Int)).f2 == tx) = false := beq_eq_false_iff_ne.mpr ht
   have hh : MW (Xa xs (x : Int)) tx = false := by unfold MW; rw [htb]; rfl
   gi_wp2
   exact ⟨KeepsFrom.refl _ _, Below.refl _ _, ⟨⟨⟨fun z hz => (List.mem_append.1 hz).elim (hp z) (fun e => by simp at e; subst e; exact hh), bR1⟩, bT1⟩, bS1⟩, hB1⟩
 case done =>
  rintro D zs W hD rfl ⟨⟨⟨⟨hp, bR1⟩, bT1⟩, bS1⟩, hB1⟩ hK; have cR := bR1.cell; have fR := bR1.frozen
  gi_wp2
  have hK' := (KeepsOthers.setCell W ⟨w.heap.size + 1, 0, none⟩ (.int .i64 0)).same D _ hK rfl; refine ⟨by simp, .inl ⟨_, _, rfl, run_takeDeferred hK', ?_⟩⟩; have hc5 := cell_kept (bR1.set (.int .i64 0)).cell (grownBy_putObj' _ D (.deferred none)) (fun r e => by cases e; exact ⟨_, hK', rfl⟩); refine ⟨.int .i64 0, ?_, ⟨0, rfl, .inl ⟨rfl, hp⟩⟩, (hB1.setCell (p := ⟨w.heap.size + 1, 0, none⟩) (by simp) _).trans (belowK_b (w := w) (Nat.le_refl _) _ D _ _ (by omega) hK' rfl rfl)⟩
  simp [results, Tryz.f86, go_sem, hc5]
 case stop =>
  rintro D c pre W hD ⟨k, hk, hpre⟩ ⟨⟨⟨rfl, pre', x, he, hp, ht⟩, bR1⟩, hB1⟩ hK
  gi_wp2
  have hc5 := cell_kept bR1.cell (grownBy_putObj' _ D (.deferred none)) (fun r e => by cases e; exact ⟨_, hK, rfl⟩); refine ⟨by simp, .inl ⟨_, _, rfl, run_takeDeferred hK, ?_⟩⟩; refine ⟨.int .i64 (Xdk xs pre), ?_, ⟨_, rfl, .inr ?_⟩, hB1.trans (belowK_b (w := w) (Nat.le_refl _) _ D _ _ (by omega) hK rfl rfl)⟩
  ·simp [results, Tryz.f86, go_sem, hc5]
  ·have hm : xs.length ≤ 9223372036854775807 := hC.2.1
   obtain ⟨k1, rfl⟩ : ∃ j, k = j + 1 := ⟨k - 1, by
    cases k with
    | zero => rw [he] at hpre; simp [VF] at hpre
    | succ k => rfl⟩
   rw [Dy, he] at hpre; obtain ⟨e1, e2⟩ := List.append_inj' hpre rfl; simp only [List.cons.injEq, and_true] at e2; subst e1; subst e2; refine ⟨k1, by omega, hp, ht, ?_⟩; rw [he, WB, T.wrap_small (by omega) (by omega)]
theorem NG (xs : List S76) (tx : Int) : ∀ k, k ≤ xs.length → (∀ j ∈ VF xs.length k, MW (Xa xs (j : Int)) tx = false) → Vm xs tx = Vm (xs.take (xs.length - k)) tx
 | 0, _, _ => by rw [Nat.sub_zero, List.take_length]
 | k + 1, hk, h => by
  rw [Dy] at h; rw [NG xs tx k (by omega) (fun j hj => h j (List.mem_append.2 (.inl hj)))]
  have e : xs.length - k = (xs.length - (k + 1)) + 1 := by omega
  have e2 : xs.length - 1 - k = xs.length - (k + 1) := by omega
  rw [e, Nw xs (xs.length - (k + 1)) (by omega), if_neg (by rw [← e2, h _ (List.mem_append.2 (.inr (by simp)))]; simp)]
theorem XbA (A : Option Addr) (cap : Nat) (xs : List S76) (tx : Int) (w : World) (hC : Kd.C k76 w A xs.length xs) :
 Calls Tryz.prog 86 #[.slice A xs.length cap, .int .i64 tx] w fun e W' => e = .returned (.int .i64 (Vm xs tx)) ∧ Below w.heap.size w W' := by
 refine (callsIn_wide (n := 6)).1 ((XkN _ 6 trivial trivial trivial trivial rfl (by omega) A cap xs tx w hC).mono ?_); rintro e W' ⟨⟨r, rfl, hr⟩, hb⟩; refine ⟨?_, hb⟩
 rcases hr with ⟨rfl, hp⟩ | ⟨k, hk, hp, ht, rfl⟩
 ·rw [NG xs tx xs.length (Nat.le_refl _) hp, Nat.sub_self, List.take_zero]
  rfl
 ·rw [NG xs tx k (by omega) hp]
  have e : xs.length - k = (xs.length - 1 - k) + 1 := by omega
  rw [e, Nw xs (xs.length - 1 - k) (by omega), if_pos ht]
end Go.Proofs.YtphnphmbfogmlaaGreat.T
namespace Go.Proofs.YtphnphmbfogmlaaGreat.Pr
open Go.RowKit Go.PW Go.Proofs.YtphnphmbfogmlaaGreat.T
set_option linter.unusedVariables false
def Dz.f (k : Nat) (l0 : List S76) (a1 : Int) : Option Int := some (Vm l0 a1)
theorem Dz.calls (k : Nat) (A0 : Option Addr) (c0 : Nat) (l0 : List S76) (a1 : Int) (r : Int) (w : World) (hr0 : Kd.C k76 w A0 l0.length l0) (hc0 : l0.length ≤ c0) (h : Dz.f k l0 a1 = some r) :
 Calls Tryz.prog 86 #[.slice A0 l0.length c0, .int .i64 a1] w fun e w' => e = .returned (.int .i64 r) ∧ Below w.heap.size w w' := by
 unfold Dz.f at h
 obtain rfl := Option.some.inj h; exact XbA _ _ _ _ _ hr0
end Go.Proofs.YtphnphmbfogmlaaGreat.Pr
