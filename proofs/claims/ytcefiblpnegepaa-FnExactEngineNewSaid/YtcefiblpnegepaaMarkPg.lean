/- markPageS: a row of pages of one's own, each with a row of numbers of its own, is marked. -/
import Derived.Test.YtcefiblpnegepaaPrInts
import Derived.Test.YtcefiblpnegepaaWEng
namespace Go.Proofs.Ytcefiblpnegepaa.Pr
open Go.RowKit Go.Proofs.YtcefiblpnegepaaW.PrintWords Go.Proofs.YtcefiblpnegepaaW.PrintLast Go.Proofs.YtcefiblpnegepaaW.PrintMore
attribute [local go_sem] max2_int min2_int max_two min_two max_three min_three max_four min_four
set_option linter.unusedVariables false
set_option linter.unusedSimpArgs false
def laws_markPageS.l0 : Nat → List S25 → Int → Int → Option (Int × List S25)
  | 0, _, _, _ => none
  | k + 1, xs, x, i => if i < (xs.length : Int) then (if 0 ≤ i then ((laws_markIntS.f k (rd_T25 xs i).f2 (wrap64 (wrap64 (x + 1) + 1))).bind fun m => laws_markPageS.l0 k (xs.set i.toNat ⟨x, wrap64 (x + 1), m.2⟩) m.1 (wrap64 (i + 1))) else none) else some (x, xs)
def laws_markPageS.f (k : Nat) (l : List S25) (a : Int) : Option (Int × List S25) := laws_markPageS.l0 k l a 0
set_option maxHeartbeats 8000000 in
set_option maxRecDepth 100000 in
theorem laws_markPageS.calls (k : Nat) (P0_ : Nat → Prop) (u_ : Value) (l0 : List S25) (a1 : Int) (r1 : Int) (r2 : List S25) (w0 w : World) (hB : Below w0.heap.size w0 w) (ho0 : Kd.S k25 25 w w0.heap.size P0_ u_ l0) (h : laws_markPageS.f k l0 a1 = some (r1, r2)) :
    Calls Try.prog 98 #[u_, .int .i64 a1] w fun e w' => e = .returned (.int .i64 r1) ∧ Kd.S k25 25 w' w0.heap.size P0_ u_ r2 ∧ Below w0.heap.size w0 w' ∧ Kept w w' P0_ := by
  have HO0 := Aside0.mk ho0
  have HK := Aside0.mk (Kept.refl w P0_)
  have HB := Aside0.mk hB
  clear hB ho0
  have H : (laws_markPageS.l0 k l0 a1 0) = some (r1, r2) := h
  clear h
  have H' := Aside0.mk H
  clear H
  go_enter Try.func98, Try.ntmps98
  go_wp2
  go_loopg [1, 5] k (fun kq v1 v5 w' => ∃ (xs : List S25) (x1 : Int) (x5 : Int), v1 = .int .i64 x1 ∧ v5 = .int .i64 x5 ∧ Aside0 (laws_markPageS.l0 kq xs x1 x5 = some (r1, r2)) ∧ Aside0 (kq ≤ k) ∧ Aside0 (Kd.S k25 25 w' w0.heap.size P0_ u_ xs) ∧ Aside0 (Kept w w' P0_) ∧ Aside0 (Below w0.heap.size w0 w'))
  case atStart => exact ⟨l0, a1, 0, rfl, rfl, H', ⟨Nat.le_refl _⟩, HO0, HK, HB⟩
  case round =>
    clear H' HO0 HK HB
    obtain ⟨xs, x1, x5, rfl, rfl, HA, HK1, HO, HK, HB⟩ := hrel
    cases gk with
    | zero => exact absurd HA.out (by simp [laws_markPageS.l0])
    | succ k1 =>
      have H := HA.out
      clear HA
      simp only [laws_markPageS.l0] at H
      by_cases c3 : x5 < (xs.length : Int)
      · rw [if_pos c3] at H
        by_cases c4 : 0 ≤ x5
        · rw [if_pos c4] at H
          replace H := Option.bind_eq_some_iff.mp H
          obtain ⟨⟨m1, m2⟩, A50, H⟩ := H
          have A5 := Aside0.mk A50
          have H' := Aside0.mk H
          clear A50 H
          obtain ⟨go5, co5, eo5, gb5, gl5, HG5⟩ := Kd.S_form HO.out (by omega)
          subst eo5
          have hg0 := Aside0.mk ((Kd.S_R HO.out).1 go5 rfl)
          have c3' := Aside0.mk c3
          have c4' := Aside0.mk c4
          obtain ⟨oki, c, hcl, hM, hcc, hfr, hoki, hH⟩ := Kd.S_elem HO.out z25 x5 c4 c3
          obtain ⟨v2, rfl, hR⟩ := k25_openM hM
          have hx0 : wr.cell? ⟨go5, (x5 : Int).toNat * 3, none⟩ = some (.int .i64 ((rd_T25 xs x5).f0)) := hcc 0 _ rfl
          have hx1 : wr.cell? ⟨go5, (x5 : Int).toNat * 3 + 1, none⟩ = some (.int .i64 ((rd_T25 xs x5).f1)) := hcc 1 _ rfl
          have hx2 : wr.cell? ⟨go5, (x5 : Int).toNat * 3 + 2, none⟩ = some v2 := hcc 2 _ rfl
          have hf0 : wr.frozen? ⟨go5, (x5 : Int).toNat * 3, none⟩ = false := hfr 0
          have hf1 : wr.frozen? ⟨go5, (x5 : Int).toNat * 3 + 1, none⟩ = false := hfr 1
          have h1 : Kd.H k25 25 (wr.setCell ⟨go5, (x5 : Int).toNat * 3, none⟩ (.int .i64 x1)) w0.heap.size P0_ (.slice (some ⟨go5, 0, none⟩) xs.length co5) xs x5 oki [.int .i64 x1, .int .i64 ((rd_T25 xs x5).f1), v2] ∧ wr.grownBy (wr.setCell ⟨go5, (x5 : Int).toNat * 3, none⟩ (.int .i64 x1)) (some go5) := Kd.H_seg hH c4 c3 (seg := [.int .i64 x1]) (j := 0) (show 0 + 1 ≤ 3 from by decide) (fun q hq => by simp at hq; subst hq; rfl)
          have h2 : Kd.H k25 25 ((wr.setCell ⟨go5, (x5 : Int).toNat * 3, none⟩ (.int .i64 x1)).setCell ⟨go5, (x5 : Int).toNat * 3 + 1, none⟩ (.int .i64 (wrap64 (x1 + 1)))) w0.heap.size P0_ (.slice (some ⟨go5, 0, none⟩) xs.length co5) xs x5 oki [.int .i64 x1, .int .i64 (wrap64 (x1 + 1)), v2] := (Kd.H_seg h1.1 c4 c3 (seg := [.int .i64 (wrap64 (x1 + 1))]) (j := 1) (show 1 + 1 ≤ 3 from by decide) (fun q hq => by simp at hq; subst hq; rfl)).1
          have hR2 : Kd.R (Kd.int .i64) 3 ((wr.setCell ⟨go5, (x5 : Int).toNat * 3, none⟩ (.int .i64 x1)).setCell ⟨go5, (x5 : Int).toNat * 3 + 1, none⟩ (.int .i64 (wrap64 (x1 + 1)))) w0.heap.size oki v2 (rd_T25 xs x5).f2 := Kd.R_far (p := ⟨go5, _, none⟩) (Kd.R_far (p := ⟨go5, _, none⟩) hR (fun k hk => (hoki k hk).2) _) (fun k hk => (hoki k hk).2) _
          have HB2 := Aside0.mk (below_set (g := go5) (j := (x5 : Int).toNat * 3 + 1) (v := .int .i64 (wrap64 (x1 + 1))) (below_set (g := go5) (j := (x5 : Int).toNat * 3) (v := .int .i64 x1) HB.out gb5) gb5)
          have HKb := Aside0.mk ((HK.out.setCell (p := ⟨go5, (x5 : Int).toNat * 3, none⟩) (.inl hg0.out) (.int .i64 x1)).setCell (p := ⟨go5, (x5 : Int).toNat * 3 + 1, none⟩) (.inl hg0.out) (.int .i64 (wrap64 (x1 + 1))))
          have H2 := Aside0.mk h2
          have R2 := Aside0.mk hR2
          have OK := Aside0.mk hoki
          clear h1 h2 hR2 hcl hM hcc hfr hH hR HO HB HK hoki HG5
          have p5 := eq_true c4
          have q5 := eq_true c3
          have c3b0 : decide (x5 < (xs.length : Int)) = true := decide_eq_true c3
          clear c3 c4
          go_wp2_with (go_at_call 62; refine (laws_markIntS.calls k1 oki v2 _ _ m1 m2 w0 _ HB2.out R2.out A5.out).mono ?_; rintro e w20 ⟨rfl, hr, hb, hk⟩)
          go_roundg k1
          case measure => have := HK1.out; omega
          case rel => exact ⟨xs.set x5.toNat ⟨x1, wrap64 (x1 + 1), m2⟩, m1, wrap64 (x5 + 1), rfl, rfl, H', ⟨by have := HK1.out; omega⟩, ⟨Kd.H_back (Kd.H_step H2.out (fun k _ hn hlt => hk.2 k hlt hn)) (k25_mkM _ _ _ (⟨x1, wrap64 (x1 + 1), m2⟩ : S25) (Kd.R_mono (Kd.R_tight rfl hr) (fun k hk => R2.out.1 k hk.symm))) (fun _ hk => hk)⟩, ⟨HKb.out.then_ hk (fun k hk => .inl (OK.out k hk).1)⟩, ⟨hb⟩⟩
        · rw [if_neg c4] at H
          exact absurd H (by simp)
      · rw [if_neg c3] at H
        have c3b0 : decide (x5 < (xs.length : Int)) = false := decide_eq_false c3
        clear c3
        simp only [Option.some.injEq, Prod.mk.injEq] at H
        obtain ⟨rfl, rfl⟩ := H
        obtain ⟨Ao9, co9, eo9⟩ := Kd.S_slice HO.out
        subst eo9
        go_wp2
        go_ret
        exact ⟨rfl, HO.out, HB.out, HK.out⟩
end Go.Proofs.Ytcefiblpnegepaa.Pr
