/- A slice of one's own that was clipped: its block may be longer than its capacity. Its laws, out of those of slices of one's own; and markIntS at such a slice. -/
import Derived.Test.YtcefiblpnegepaaPrInts
import Derived.Test.YtcefiblpnegepaaWLogB
import Derived.Test.YtcefiblpnegepaaSq
namespace Go.Proofs.Ytcefiblpnegepaa.Pr
open Go.RowKit Go.Proofs.YtcefiblpnegepaaW.PrintWords Go.Proofs.YtcefiblpnegepaaW.PrintLast Go.Proofs.YtcefiblpnegepaaW.PrintMore
attribute [local go_sem] max2_int min2_int max_two min_two max_three min_three max_four min_four
set_option linter.unusedVariables false
set_option linter.unusedSimpArgs false
/-- A slice of one's own, perhaps clipped. -/
def Z {α : Type} (d : Kd α) (e : Nat) (w : World) (base : Nat) (ok : Nat → Prop) (v : Value) (xs : List α) : Prop :=
  (∀ k, v.ownBlock = some k → ok k) ∧ ∃ A c c', v = .slice A xs.length c ∧ xs.length ≤ c ∧ d.R e w base ok (.slice A xs.length c') xs
section
variable {α : Type} {d : Kd α} {e base : Nat} {ok ok1 ok' : Nat → Prop} {w w1 W W2 : World} {u v : Value} {xs ys : List α} {S : Nat → Prop}
theorem Z_of_R (h : d.R e w base ok v xs) : Z d e w base ok v xs := by
  obtain ⟨A, c, he, hc, _⟩ := Kd.R_reads h
  subst he
  exact ⟨h.1, A, c, c, rfl, hc, h⟩
theorem Z_map (h : Z d e w base ok v xs) (f : ∀ v', v'.ownBlock = v.ownBlock → d.R e w base ok v' xs → d.R e w1 base ok' v' xs) (g : ∀ k, ok k → v.ownBlock = some k → ok' k) : Z d e w1 base ok' v xs := by
  obtain ⟨h0, A, c, c', rfl, hc, hr⟩ := h
  exact ⟨fun k hk => g k (h0 k hk) hk, A, c, c', rfl, hc, f _ (by cases A <;> rfl) hr⟩
theorem Z_mono (h : Z d e w base ok v xs) (hok : ∀ k, ok k → ok' k) : Z d e w base ok' v xs := Z_map h (fun _ _ r => Kd.R_mono r hok) (fun k hk _ => hok k hk)
theorem Z_below (h : Z d e w base ok v xs) (hb : Below w.heap.size w w1) : Z d e w1 base ok v xs := Z_map h (fun _ _ r => Kd.R_below r hb) (fun k hk _ => hk)
theorem Z_alloc {o : Obj} (h : Z d e w base ok v xs) : Z d e (w.alloc o) base ok v xs := Z_below h (below_alloc (Below.refl _ _) o)
theorem Z_drew (h : Z d e w base ok v xs) : Z d e w.drew base ok v xs := Z_below h (below_drew (Below.refl _ _))
theorem Z_drewN {m : Nat} (h : Z d e w base ok v xs) : Z d e (w.drewN m) base ok v xs := Z_below h (pw_below_drewN (Below.refl _ _) m)
theorem Z_lower {base' : Nat} (h : Z d e w base ok v xs) (hb : base' ≤ base) : Z d e w base' ok v xs := by
  obtain ⟨h0, A, c, c', rfl, hc, hr⟩ := h
  exact ⟨h0, A, c, c', rfl, hc, Kd.R_lower hr hb⟩
theorem Z_own (h : Z d e w base ok v xs) : ∃ v', v'.ownBlock = v.ownBlock ∧ d.R e w base ok v' xs := by
  obtain ⟨h0, A, c, c', rfl, hc, hr⟩ := h
  exact ⟨_, (by cases A <;> rfl), hr⟩
theorem Z_base (h : Z d e w base ok v xs) : ∀ k, v.ownBlock = some k → base ≤ k := by
  obtain ⟨v', e1, hr⟩ := Z_own h
  exact fun k hk => Kd.R_base hr k (e1.trans hk)
theorem Z_lt (h : Z d e w base ok v xs) : ∀ k, v.ownBlock = some k → k < w.heap.size := by
  obtain ⟨v', e1, hr⟩ := Z_own h
  exact fun k hk => Kd.R_lt hr k (e1.trans hk)
theorem Z_slice (h : Z d e w base ok v xs) : ∃ A c, v = .slice A xs.length c := by
  obtain ⟨h0, A, c, c', rfl, hc, hr⟩ := h
  exact ⟨A, c, rfl⟩
theorem Z_reads' {A : Option Addr} {n c : Nat} (h : Z d e w base ok (.slice A n c) xs) : n = xs.length ∧ n ≤ c ∧ d.C w A xs.length xs := by
  obtain ⟨h0, A1, c1, c', he, hc, hr⟩ := h
  injection he with e1 e2 e3
  subst e1 e2 e3
  exact ⟨rfl, hc, (Kd.R_reads' hr).2.2⟩
theorem Z_elder' (hu : Z d e W base ok u xs) (hbase : ∀ k, v.ownBlock = some k → W.heap.size ≤ k) (hb : Below W.heap.size W w1) : Z d e w1 base (fun k => ok k ∧ some k ≠ v.ownBlock) u xs :=
  Z_map hu (fun _ _ r => Kd.R_elder' r hbase hb) (fun k hk e => ⟨hk, fun e2 => by have := hbase k e2.symm; have := Z_lt hu k e; omega⟩)
theorem Z_new' (h : Z d e w1 W.heap.size ok v xs) (hlt : ∀ k, u.ownBlock = some k → k < W.heap.size) : Z d e w1 W.heap.size (fun k => ok k ∧ some k ≠ u.ownBlock) v xs :=
  Z_map h (fun _ _ r => Kd.R_new' r hlt) (fun k hk e => ⟨hk, fun e2 => by have := hlt k e2.symm; have := Z_base h k e; omega⟩)
theorem Z_tight (hE : d.E = []) (h : Z d e w base ok v xs) : Z d e w base (fun k => some k = v.ownBlock) v xs :=
  Z_map h (fun v' e1 r => Kd.R_mono (Kd.R_tight hE r) (fun k hk => hk.trans e1)) (fun k _ e => e.symm)
theorem Z_reok (hE : d.E = []) (h : Z d e w base ok1 v xs) (hok : ∀ k, v.ownBlock = some k → ok k) : Z d e w base ok v xs :=
  Z_mono (Z_tight hE h) (fun k hk => hok k hk.symm)
theorem Z_apart' {e' : Nat} (h : Z d e W base ok u xs) (hty : ∀ k, v.ownBlock = some k → ∃ cells, W.heap[k]? = some (.cells cells e' (0, 0))) (ht : ∀ q, q ∈ e :: d.E → q ≠ e') : Z d e W base (fun k => ok k ∧ some k ≠ v.ownBlock) u xs := by
  obtain ⟨h0, A, c, c', rfl, hc, hr⟩ := h
  have hq := Kd.R_apart' hr hty ht
  exact ⟨fun k hk => hq.1 k (by rw [← hk]; cases A <;> rfl), A, c, c', rfl, hc, hq⟩
theorem Z_keptB (h : Z d e W base ok v xs) (hk : Kept W W2 S) (hne : ∀ k, ok k → ¬ S k) : Z d e W2 base (fun k => ok k ∧ (¬ S k ∧ k < W.heap.size)) v xs :=
  Z_map h (fun _ _ r => Kd.R_keptB r hk hne) (fun k hk e => ⟨hk, hne k hk, Z_lt h k e⟩)
end
theorem Z_form {e base : Nat} {w : World} {ok : Nat → Prop} {v : Value} {xs : List Int} (h : Z (Kd.int .i64) e w base ok v xs) (hp : 0 < xs.length) : ∃ g cap, v = .slice (some ⟨g, 0, none⟩) xs.length cap ∧ base ≤ g ∧ g < w.heap.size ∧ ∃ cells, w.heap[g]? = some (.cells cells e (0, 0)) := by
  obtain ⟨h0, A, c, c', rfl, hc, hr⟩ := h
  obtain ⟨g, cap, he, h1, h2, h3⟩ := Kd.R_form hr hp
  injection he with e1 e2 e3
  subst e1
  exact ⟨g, c, rfl, h1, h2, h3⟩
theorem Z_celln {e base g n cap : Nat} {w : World} {ok : Nat → Prop} {xs : List Int} (d : Int) (h : Z (Kd.int .i64) e w base ok (.slice (some ⟨g, 0, none⟩) n cap) xs) (i : Int) (h0 : 0 ≤ i) (hi : i < n) : w.cell? ⟨g, i.toNat, none⟩ = some (.int .i64 (rdOf d xs i)) ∧ w.frozen? ⟨g, i.toNat, none⟩ = false := by
  obtain ⟨_, A, c, c', he, hc, hr⟩ := h
  injection he with e1 e2 e3
  subst e1 e2 e3
  exact Kd.R_celln d hr i h0 hi
theorem Z_putg {e base g n cap : Nat} {w : World} {ok : Nat → Prop} {xs : List Int} (h : Z (Kd.int .i64) e w base ok (.slice (some ⟨g, 0, none⟩) n cap) xs) (i : Int) (x : Int) : Z (Kd.int .i64) e (w.setCell ⟨g, i.toNat, none⟩ (.int .i64 x)) base ok (.slice (some ⟨g, 0, none⟩) n cap) (xs.set i.toNat x) ∧ w.grownBy (w.setCell ⟨g, i.toNat, none⟩ (.int .i64 x)) (some g) := by
  obtain ⟨h0, A, c, c', he, hc, hr⟩ := h
  injection he with e1 e2 e3
  subst e1 e2 e3
  have hq := Kd.R_putg hr i x
  refine ⟨⟨h0, _, _, c', by rw [List.length_set], by rw [List.length_set]; exact hc, ?_⟩, hq.2⟩
  rw [List.length_set]
  exact hq.1
set_option maxHeartbeats 8000000 in
set_option maxRecDepth 100000 in
theorem markIntS_Z (k : Nat) (P0_ : Nat → Prop) (u9000_ : Value) (l0 : List Int) (a1 : Int) (r1 : Int) (r2 : List Int) (w0 w : World) (hB : Below w0.heap.size w0 w) (ho0 : Z (Kd.int .i64) 3 w w0.heap.size P0_ u9000_ l0) (h : laws_markIntS.f k l0 a1 = some (r1, r2)) :
    Calls Try.prog 62 #[u9000_, .int .i64 a1] w fun e w' => e = .returned (.int .i64 r1) ∧ Z (Kd.int .i64) 3 w' w0.heap.size (fun k_ => (P0_ k_ ∨ w.heap.size ≤ k_)) u9000_ r2 ∧ Below w0.heap.size w0 w' ∧ Kept w w' (fun k_ => P0_ k_) := by
  have HO0 := Aside0.mk (show Z (Kd.int .i64) 3 w w0.heap.size (fun k_ => (P0_ k_ ∨ w.heap.size ≤ k_)) u9000_ l0 from Z_mono ho0 (fun k_ hk => (.inl hk)))
  have HK := Aside0.mk (Kept.refl w (fun k_ => P0_ k_))
  have HW0 := Aside0.mk hB.size
  have HB := Aside0.mk hB
  clear hB
  have H : (laws_markIntS.l0 k l0 a1 0) = some (r1, r2) := h
  clear h
  have H' := Aside0.mk H
  clear H
  go_enter Try.func62, Try.ntmps62
  go_wp2
  go_loopg [1, 5] k (fun kq v1 v5 w' => ∃ (x0_1 : List Int) (x1_1 : Int) (x5_1 : Int), v1 = .int .i64 x1_1 ∧ v5 = .int .i64 x5_1 ∧ Aside0 (laws_markIntS.l0 kq x0_1 x1_1 x5_1 = some (r1, r2)) ∧ Aside0 (kq ≤ k) ∧ Aside0 (Z (Kd.int .i64) 3 w' w0.heap.size (fun k_ => (P0_ k_ ∨ w.heap.size ≤ k_)) u9000_ x0_1) ∧ Aside0 (Kept w w' (fun k_ => P0_ k_)) ∧ Aside0 (Below w0.heap.size w0 w'))
  case atStart => exact ⟨(l0), (a1), (0), (by first | rfl | (simp; done) | (simp [*]; done)), (by first | rfl | (simp; done) | (simp [*]; done)), H', ⟨Nat.le_refl _⟩, ⟨by (with_reducible repeat (first | apply Z_alloc | apply Z_drewN | apply Z_drew)); exact HO0.out⟩, ⟨by repeat (first | (with_reducible first | exact HK.out | apply Kept.alloc | apply Kept.drewN | apply Kept.drew) | exact HK.out)⟩, ⟨by repeat (first | (with_reducible first | exact HB.out | apply below_alloc | apply pw_below_drewN | apply below_drew1) | exact HB.out)⟩⟩
  case round =>
    clear H'
    try clear p2
    obtain ⟨x0_1, x1_1, x5_1, rfl, rfl, HA, HK1, HO_0, HK, HB⟩ := hrel
    cases gk with
    | zero => exact absurd HA.out (by simp [laws_markIntS.l0])
    | succ k1 =>
      have H := HA.out
      clear HA
      simp only [laws_markIntS.l0] at H
      by_cases c3 : x5_1 < (x0_1.length : Int)
      · rw [if_pos c3] at H
        have c3b0 : decide (x5_1 < (x0_1.length : Int)) = true := decide_eq_true c3
        clear c3
        by_cases c4 : 0 ≤ x5_1
        · rw [if_pos c4] at H
          have c4b0 : decide (0 ≤ x5_1) = true := decide_eq_true c4
          clear c4
          obtain ⟨y655, hy655⟩ : ∃ y_ : List Int, y_ = (x0_1.set (x5_1 : Int).toNat x1_1) := ⟨_, rfl⟩
          replace H : (laws_markIntS.l0 k1 y655 (wrap64 (x1_1 + 1)) (wrap64 (x5_1 + 1))) = some (r1, r2) := by first | (rw [hy655]; with_reducible exact H) | (have H2_ := (Option.bind_some _ _).symm.trans H; rw [hy655]; with_reducible exact H2_) | (have H2_ := (Option.bind_some _ _).symm.trans H; with_reducible exact H2_) | with_reducible exact H | (rw [hy655]; exact H) | exact H
          have Ny655 := Aside0.mk hy655
          clear hy655
          have H' := Aside0.mk H
          clear H
          obtain ⟨Ao6, co6, eo6⟩ := Z_slice HO_0.out
          subst eo6
          have p5 : 0 ≤ (x5_1 : Int) := of_decide_eq_true (by first | (with_reducible assumption) | assumption)
          have q5 : (x5_1 : Int) < ((x0_1.length : Int) : Int) := of_decide_eq_true (by first | (with_reducible assumption) | assumption)
          obtain ⟨go5, co5, eo5, gb5, gl5, cl5, HG5⟩ := Z_form HO_0.out (by omega)
          (first | cases eo5 | (injection eo5 with ea_ en_ ec_; (first | subst ea_ | (injection ea_ with ea_; subst ea_)); subst ec_; clear en_))
          have GB5 := Aside0.mk gb5
          have GG5 := Aside0.mk HG5
          clear gb5 gl5 HG5
          have HMgo5 := Aside0.mk (show (P0_ go5 ∨ w.heap.size ≤ go5) from (HO_0.out.1 _ rfl))
          obtain ⟨hx5_0, hf5_0⟩ := Z_celln 0 HO_0.out (x5_1 : Int) p5 q5
          replace p5 := eq_true p5
          replace q5 := eq_true q5
          have HP7 := Z_putg HO_0.out (x5_1 : Int) x1_1
          go_wp2_with (first | ((with_reducible refine gate_store (t := 3) (p := 15) rfl ?_); refine store_event (t := 3) (p := 15) (v := ?vo_w8) (w1 := (wr.setCell ⟨go5, (x5_1 : Int).toNat, none⟩ (.int .i64 x1_1))) ?hg ?ho ?hn ?hr ?_; (case ho => rfl); (case hg => rfl); (case hn => rfl); (case hr => first | (go_simp; done) | (go_simp; rfl)); intro w8 hw; have hg : wr.grownBy w8 (some go5) := (by rw [hw]; exact HP7.2); have hp_ : Z (Kd.int .i64) 3 w8 w0.heap.size (fun k_ => (P0_ k_ ∨ w.heap.size ≤ k_)) (.slice (some ⟨go5, 0, none⟩) x0_1.length co6) y655 := (by rw [hw, Ny655.out]; exact HP7.1); clear HP7; have n0_ := Aside0.mk (hp_); have n1_ := Aside0.mk ((by rw [hw]; exact below_set (HB.out) GB5.out : Below w0.heap.size w0 w8)); have n2_ := Aside0.mk (Kept.of_grown (S := (fun k_ => P0_ k_)) hg (by repeat (first | (with_reducible first | exact HK.out | apply Kept.alloc | apply Kept.drewN | apply Kept.drew) | exact HK.out)) (fun k_ e_ => (HO_0.out.1 k_ e_))); clear HO_0; clear HB; clear HK; have HO_0 := n0_; have HB := n1_; have HK := n2_; clear n0_ n1_ n2_; clear hg hw hp_))
          go_roundg k1
          case measure => have := HK1.out; omega
          case rel => exact ⟨(y655), (wrap64 (x1_1 + 1)), (wrap64 (x5_1 + 1)), (by first | rfl | (simp; done) | (simp [*]; done)), (by first | rfl | (simp; done) | (simp [*]; done)), H', ⟨by have := HK1.out; omega⟩, ⟨by (with_reducible repeat (first | apply Z_alloc | apply Z_drewN | apply Z_drew)); exact HO_0.out⟩, ⟨by repeat (first | (with_reducible first | exact HK.out | apply Kept.alloc | apply Kept.drewN | apply Kept.drew) | exact HK.out)⟩, ⟨by repeat (first | (with_reducible first | exact HB.out | apply below_alloc | apply pw_below_drewN | apply below_drew1) | exact HB.out)⟩⟩
        · rw [if_neg c4] at H
          exact absurd H (by simp)
      · rw [if_neg c3] at H
        have c3b0 : decide (x5_1 < (x0_1.length : Int)) = false := decide_eq_false c3
        clear c3
        simp only [Option.some.injEq, Prod.mk.injEq] at H
        obtain ⟨rfl, rfl⟩ := H
        obtain ⟨Ao9, co9, eo9⟩ := Z_slice HO_0.out
        subst eo9
        go_wp2
        go_ret
        exact ⟨by first | rfl | (simp [errW_none, errW_some] <;> rfl) | (simp [*, errW_none, errW_some] <;> rfl), by (with_reducible repeat (first | apply Z_alloc | apply Z_drewN | apply Z_drew)); exact HO_0.out, by repeat (first | (with_reducible first | exact HB.out | apply below_alloc | apply pw_below_drewN | apply below_drew1) | exact HB.out), by repeat (first | (with_reducible first | exact HK.out | apply Kept.alloc | apply Kept.drewN | apply Kept.drew) | exact HK.out)⟩
end Go.Proofs.Ytcefiblpnegepaa.Pr
