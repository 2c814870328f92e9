import Derived.Test.YtcefiblpnegepaaQBByq
import Derived.Test.YtcefiblpnegepaaQBWEngA
import Derived.Test.YtcefiblpnegepaaQBPrM
import Derived.Test.YtcefiblpnegepaaQBPrNew
namespace Go.Proofs.Ytcefiblpnegepaa.Pr
open Go.RowKit Go.PW Go.PL Go.PM
set_option linter.unusedVariables false
theorem Qe {K : Act → World → Prop} {Q : Exit → Act → World → Prop} {a : Act} {w : World} (F : World → Prop) (hF : F w) (h : ∀ w', F w' → Exit.then K Q .normal a w') : Exit.then K Q .normal a w := h w hF
theorem XnR {P : Program} {c : Code} {K : Exit → Act → World → Prop} {a : Act} {w : World} (F : World → Prop) (hF : F w) (h : ∀ w', F w' → Code.wp P c K a w') : Code.wp P c K a w := h w hF
section
variable {α : Type} {d : Kd α} {e base g t j : Nat} {w : World} {ok : Nat → Prop} {v : Value} {xs : List α} {cells : Array Value} {u u0 u1 u2 u3 u4 : Value}
theorem eR1 (h : d.R e w base ok v xs) (hb : w.heap[g]? = some (.cells cells t (0, 0))) (ht : ∀ q, q ∈ e :: d.E → q ≠ t) : d.R e (w.setCell ⟨g, j, none⟩ u) base ok v xs :=
  Kd.XN (Kd.ZZ (p := ⟨g, j, none⟩) (Kd.F9 h hb ht) (fun _ hk => hk.2) _) (fun _ hk => hk.1)
theorem eR5 (h : d.R e w base ok v xs) (hb : w.heap[g]? = some (.cells cells t (0, 0))) (ht : ∀ q, q ∈ e :: d.E → q ≠ t) :
    d.R e (((((w.setCell ⟨g, 0, none⟩ u0).setCell ⟨g, 1, none⟩ u1).setCell ⟨g, 2, none⟩ u2).setCell ⟨g, 3, none⟩ u3).setCell ⟨g, 4, none⟩ u4) base ok v xs :=
  Kd.XN (Kd.ZZ (p := ⟨g, 4, none⟩) (Kd.ZZ (p := ⟨g, 3, none⟩) (Kd.ZZ (p := ⟨g, 2, none⟩) (Kd.ZZ (p := ⟨g, 1, none⟩) (Kd.ZZ (p := ⟨g, 0, none⟩) (Kd.F9 h hb ht) (fun _ hk => hk.2) _) (fun _ hk => hk.2) _) (fun _ hk => hk.2) _) (fun _ hk => hk.2) _) (fun _ hk => hk.2) _) (fun _ hk => hk.1)
end
structure VG (w0 w : World) (PD PM : Nat → Prop) (v0 v1 v2 : Value) (D M : List S25) (L : List S41) : Prop where
  d : Kd.R k25 25 w w0.heap.size PD v0 D
  m : Kd.R k25 25 w w0.heap.size PM v1 M
  l : Kd.R k41 41 w w0.heap.size (fun j => some j = v2.ownBlock) v2 L
  pd : ∀ j, PD j → j < w.heap.size ∧ some j ≠ v2.ownBlock
  pm : ∀ j, PM j → j < w.heap.size ∧ some j ≠ v2.ownBlock
  dm : ∀ j, PD j → ¬ PM j
def PE (PD PM : Nat → Prop) (v2 : Value) (j : Nat) : Prop := PD j ∨ PM j ∨ some j = v2.ownBlock
section
variable {w0 w w' : World} {PD PM S : Nat → Prop} {v0 v1 v2 : Value} {D M : List S25} {L : List S41}
theorem VG.below (h : VG w0 w PD PM v0 v1 v2 D M L) (hb : Below w.heap.size w w') : VG w0 w' PD PM v0 v1 v2 D M L :=
  ⟨Kd.Xz h.d hb, Kd.Xz h.m hb, Kd.Xz h.l hb, fun j hj => ⟨Nat.lt_of_lt_of_le (h.pd j hj).1 hb.size, (h.pd j hj).2⟩, fun j hj => ⟨Nat.lt_of_lt_of_le (h.pm j hj).1 hb.size, (h.pm j hj).2⟩, h.dm⟩
theorem VG.kept (h : VG w0 w PD PM v0 v1 v2 D M L) (hk : Kept w w' S) (hne : ∀ j, PE PD PM v2 j → ¬ S j) : VG w0 w' PD PM v0 v1 v2 D M L :=
  ⟨Kd.Fa h.d hk (fun j hj => hne j (.inl hj)), Kd.Fa h.m hk (fun j hj => hne j (.inr (.inl hj))), Kd.Fa h.l hk (fun j hj => hne j (.inr (.inr hj))), fun j hj => ⟨Nat.lt_of_lt_of_le (h.pd j hj).1 hk.1, (h.pd j hj).2⟩, fun j hj => ⟨Nat.lt_of_lt_of_le (h.pm j hj).1 hk.1, (h.pm j hj).2⟩, h.dm⟩
theorem VG.lt (h : VG w0 w PD PM v0 v1 v2 D M L) : ∀ j, PE PD PM v2 j → j < w.heap.size := fun j hj => by
  rcases hj with hj | hj | hj
  · exact (h.pd j hj).1
  · exact (h.pm j hj).1
  · exact Kd.J2 h.l j hj.symm
theorem VG.far (h : VG w0 w PD PM v0 v1 v2 D M L) {g : Nat} (hg : ¬ PE PD PM v2 g) (j : Nat) (u : Value) : VG w0 (w.setCell ⟨g, j, none⟩ u) PD PM v0 v1 v2 D M L :=
  h.kept (S := fun k => k = g) ((Kept.refl w (fun k => k = g)).setCell (p := ⟨g, j, none⟩) (.inl rfl) u) (fun k hk e => hg (e ▸ hk))
theorem VG.Jj (h : VG w0 w PD PM v0 v1 v2 D M L) {g : Nat} (hg : ¬ PE PD PM v2 g) {u0 u1 u2 u3 u4 : Value} : VG w0 (((((w.setCell ⟨g, 0, none⟩ u0).setCell ⟨g, 1, none⟩ u1).setCell ⟨g, 2, none⟩ u2).setCell ⟨g, 3, none⟩ u3).setCell ⟨g, 4, none⟩ u4) PD PM v0 v1 v2 D M L :=
  ((((h.far hg 0 u0).far hg 1 u1).far hg 2 u2).far hg 3 u3).far hg 4 u4
end
def XcZ (w0 w : World) (P : Nat → Prop) (w' : World) (v0 v1 v2 : Value) (D M : List S25) (L : List S41) : Prop :=
  ∃ PD PM, VG w0 w' PD PM v0 v1 v2 D M L ∧ (∀ j, PE PD PM v2 j → P j ∨ w.heap.size ≤ j) ∧ Below w0.heap.size w0 w' ∧ Kept w w' P
def WG (w0 w : World) (P : Nat → Prop) (r1 r2 : List S25) (r3 : List S41) (r4 : Int) (r5 r6 : Bool) (e : Ending) (w' : World) : Prop :=
  ∃ A0 c0 A1 c1 A2 c2, e = .returned (.tuple #[.agg #[.slice A0 r1.length c0, .slice A1 r2.length c1, .slice A2 r3.length c2, .int .i64 r4, .bool r5], .bool r6]) ∧ XcZ w0 w P w' (.slice A0 r1.length c0) (.slice A1 r2.length c1) (.slice A2 r3.length c2) r1 r2 r3
def Qd (w0 w : World) (P : Nat → Prop) (r1 r2 : List S25) (r3 : List S41) (r4 : Int) (r5 : Bool) (e : Ending) (w' : World) : Prop :=
  ∃ A0 c0 A1 c1 A2 c2, e = .returned (.agg #[.slice A0 r1.length c0, .slice A1 r2.length c1, .slice A2 r3.length c2, .int .i64 r4, .bool r5]) ∧ XcZ w0 w P w' (.slice A0 r1.length c0) (.slice A1 r2.length c1) (.slice A2 r3.length c2) r1 r2 r3
def Ym (w : World) (g : Nat) (v0 v1 v2 : Value) (s : Int) (d : Bool) : Prop := w.heap[g]? = some (.cells #[v0, v1, v2, .int .i64 s, .bool d] 52 (0, 0))
section
variable {w w' : World} {g : Nat} {v0 v1 v2 : Value} {s : Int} {d : Bool} {S : Nat → Prop}
theorem Ym.cells (h : Ym w g v0 v1 v2 s d) : w.cell? ⟨g, 0, none⟩ = some v0 ∧ w.cell? ⟨g, 1, none⟩ = some v1 ∧ w.cell? ⟨g, 2, none⟩ = some v2 ∧ w.cell? ⟨g, 3, none⟩ = some (.int .i64 s) ∧ w.cell? ⟨g, 4, none⟩ = some (.bool d) :=
  ⟨(Xy h 0).trans rfl, (Xy h 1).trans rfl, (Xy h 2).trans rfl, (Xy h 3).trans rfl, (Xy h 4).trans rfl⟩
theorem Ym.frozen (h : Ym w g v0 v1 v2 s d) (i : Nat) : w.frozen? ⟨g, i, none⟩ = false := Xf h i
theorem Ym.XC (h : Ym w g v0 v1 v2 s d) : w.frozen? ⟨g, 0, none⟩ = false ∧ w.frozen? ⟨g, 1, none⟩ = false ∧ w.frozen? ⟨g, 2, none⟩ = false ∧ w.frozen? ⟨g, 3, none⟩ = false ∧ w.frozen? ⟨g, 4, none⟩ = false := ⟨Xf h 0, Xf h 1, Xf h 2, Xf h 3, Xf h 4⟩
theorem Ym.below (h : Ym w g v0 v1 v2 s d) (hb : Below w.heap.size w w') : Ym w' g v0 v1 v2 s d := Z7 h hb
theorem Ym.kept (h : Ym w g v0 v1 v2 s d) (hk : Kept w w' S) (hne : ¬ S g) : Ym w' g v0 v1 v2 s d := BI h hk hne
theorem Ym.far (h : Ym w g v0 v1 v2 s d) {g' : Nat} (hne : g ≠ g') (j : Nat) (u : Value) : Ym (w.setCell ⟨g', j, none⟩ u) g v0 v1 v2 s d := FB h hne u
theorem Ym.lt (h : Ym w g v0 v1 v2 s d) : g < w.heap.size := Dq h
theorem Ym.new (w : World) (v0 v1 v2 : Value) (s : Int) (d : Bool) : Ym (w.alloc (.cells #[v0, v1, v2, .int .i64 s, .bool d] 52 (0, 0))) w.heap.size v0 v1 v2 s d := KH _ _
end
end Go.Proofs.Ytcefiblpnegepaa.Pr
namespace Go.Proofs.Ytcefiblpnegepaa.Pr
open Go.RowKit Go.PW Go.PL Go.PM
attribute [local go_sem] Y3 Y4 YV YW Yk Yl Y5 Y6
set_option linter.unusedVariables false
set_option linter.unusedSimpArgs false
theorem VL {w W w' : World} {g : Nat} {S : Nat → Prop} (h : Xl w W g none) (hk : Kept W w' S) (hS : ∀ j, S j → w.heap.size ≤ j) : Xl w w' g none :=
  ⟨Nat.le_trans h.1 hk.1, fun i hi hne hr => (hk.2 i (Nat.lt_of_lt_of_le hi h.1) (fun hs => by have := hS i hs; omega)).trans (h.2 i hi hne hr)⟩
theorem Mi {w w' : World} {g : Nat} (h : Xl w w' g none) : Kept w w' (fun j => j = g) := ⟨h.1, fun i hi hn => h.2 i hi hn (by simp)⟩
set_option maxHeartbeats 8000000 in
set_option maxRecDepth 100000 in
theorem VM.to (k : Nat) (r1 r2 : List S25) (r3 : List S41) (r4 : Int) (r5 : Bool) (w0 w : World) (hB : Below w0.heap.size w0 w)
    (h : VM.f k = some (r1, r2, r3, r4, r5)) : Calls Try.prog 44 #[] w (Qd w0 w (fun _ => False) r1 r2 r3 r4 r5) := by
  have hu52 := Try.underlying52; have HB := zz hB; have HZ := zz hB.size
  unfold VM.f at h
  replace h := Option.bind_eq_some_iff.mp h; obtain ⟨t1, ht1, h⟩ := h; replace h := Option.bind_eq_some_iff.mp h; obtain ⟨t2, ht2, h⟩ := h; have A1_ := zz ht1; have A2_ := zz ht2; simp only [Option.some.injEq, Prod.mk.injEq] at h; obtain ⟨rfl, rfl, rfl, rfl, rfl⟩ := h; clear hB ht1 ht2
  go_enter Try.func44, Try.ntmps44
  go_wp2_with fail
  refine (YE.calls k t1 _ A1_.out).mono ?_; rintro e w1 ⟨u0, rfl, hS, hb⟩; have R1 := zz (Kd.Zv (Kd.S_R hS))
  have BQ1 : Aside0 (Ym w1 w.heap.size (.slice none 0 0) (.slice none 0 0) (.slice none 0 0) 0 false) := ⟨Ym.below (Ym.new w (.slice none 0 0) (.slice none 0 0) (.slice none 0 0) 0 false) hb⟩
  have LB1 := zz (Xe (Xd HB.out (.cells #[.slice none 0 0, .slice none 0 0, .slice none 0 0, .int .i64 0, .bool false] 52)) hb); have LW1 := zz (Xe (Xd (Below.refl w.heap.size w) (.cells #[.slice none 0 0, .slice none 0 0, .slice none 0 0, .int .i64 0, .bool false] 52)) hb); have hs1 := zz (show w.heap.size + 1 ≤ w1.heap.size by have h_ := hb.size; simpa using h_); clear hS hb
  go_wp2_with fail
  refine (YE.calls k t2 _ A2_.out).mono ?_; rintro e w2 ⟨u1, rfl, hS, hb⟩; have R2 := zz (Kd.Zv (Kd.S_R hS)); have Q2 := zz (Kd.Xz R1.out hb); have BQ2 := zz (BQ1.out.below hb); have LB2 := zz (Xe LB1.out hb); have LW2 := zz (Xe LW1.out hb); have hs2 := zz hb.size; have hu1 := zz (Kd.Xx (Kd.S_R hS)); have hu0 := zz (Kd.Xx R1.out); clear hS hb R1 BQ1 LB1 LW1; obtain ⟨⟨A0, c0, e0⟩⟩ := hu0; obtain ⟨⟨A1, c1, e1⟩⟩ := hu1; subst e0 e1
  go_wp2_with (first | ((with_reducible refine XZ (N := 3) rfl ?_); refine Kd.Gb k41 (w0 := w2) _ 41 ?hg (N := 3) ?hd (xs := ([] : List S41)) (inner := []) (ok := fun _ => True) (okp := fun _ => True) ?hr ?hp (fun _ hk => hk) trivial (Below.refl w2.heap.size w2) (Nat.le_refl _) (by simp) ?_; (case hd => rfl); (case hg => rfl); (case hr => exact zb21); (case hp => exact zb121); intro v3 w3 ho3 hb hg3 hat3; have R3 := zz (Kd.Ul rfl ho3); have hb3 := zz (Kd.YR ho3); have hl3 := zz (Kd.J2 ho3); have P3 := zz (Kd.Xz R2.out hb); have Q3 := zz (Kd.Xz Q2.out hb); have BQ3 := zz (BQ2.out.below hb); have LB3 := zz (Xe LB2.out hb); have LW3 := zz (Xe LW2.out hb); have hs3 := zz hb.size; obtain ⟨A2, c2, e2⟩ := Kd.Xx ho3; subst e2; clear ho3 hb hg3 hat3 R2 Q2 BQ2 LB2 LW2; obtain ⟨y0, y1, y2, y3, y4⟩ := BQ3.out.cells; obtain ⟨f0, f1, f2, f3, f4⟩ := BQ3.out.XC))
  have EN : VG w0 w3 (fun j => w.heap.size + 1 ≤ j ∧ j < w1.heap.size) (fun j => w1.heap.size ≤ j ∧ j < w2.heap.size) (.slice A0 t1.length c0) (.slice A1 t2.length c1) (.slice A2 ([] : List S41).length c2) t1 t2 [] := ⟨Kd.XN (Kd.XT Q3.out (by have := HZ.out; simp; omega)) (fun j hj => ⟨by have h_ := hj.2.1; simpa using h_, hj.2.2.1⟩), Kd.XN (Kd.XT P3.out (by have := HZ.out; have := hs1.out; omega)) (fun j hj => ⟨hj.2.1, hj.2.2.1⟩), Kd.XT R3.out (by have := HZ.out; have := hs1.out; have := hs2.out; omega), fun j hj => ⟨by have := hs2.out; have := hs3.out; omega, fun e_ => by have h1 := hb3.out j e_.symm; have := hs2.out; omega⟩, fun j hj => ⟨by have := hs3.out; omega, fun e_ => by have h1 := hb3.out j e_.symm; omega⟩, fun j hj hp => by omega⟩
  have SN : ∀ j, PE (fun j => w.heap.size + 1 ≤ j ∧ j < w1.heap.size) (fun j => w1.heap.size ≤ j ∧ j < w2.heap.size) (.slice A2 ([] : List S41).length c2) j → w.heap.size + 1 ≤ j := by
    rintro j (h_ | h_ | h_)
    · exact h_.1
    · have := hs1.out; omega
    · have h1 := hb3.out j h_.symm; have := hs1.out; have := hs2.out; omega
  refine bodyPost_ret (v := .agg #[.slice A0 t1.length c0, .slice A1 t2.length c1, .slice A2 ([] : List S41).length c2, .int .i64 0, .bool false]) (by simp [results, Try.results44, go_sem, *]) rfl ⟨A0, c0, A1, c1, A2, c2, rfl, _, _, EN.Jj (fun h_ => by have := SN _ h_; omega), fun j hj => .inr (Nat.le_of_succ_le (SN j hj)), ?_, ?_⟩
  · exact (Xc (Xc (Xc (Xc (Xc LB3.out HZ.out) HZ.out) HZ.out) HZ.out) HZ.out)
  · exact ((((((Kept.of_below LW3.out (fun _ => False)).setCell (p := ⟨w.heap.size, 0, none⟩) (.inr (Nat.le_refl _)) _).setCell (p := ⟨w.heap.size, 1, none⟩) (.inr (Nat.le_refl _)) _).setCell (p := ⟨w.heap.size, 2, none⟩) (.inr (Nat.le_refl _)) _).setCell (p := ⟨w.heap.size, 3, none⟩) (.inr (Nat.le_refl _)) _).setCell (p := ⟨w.heap.size, 4, none⟩) (.inr (Nat.le_refl _)) _)
end Go.Proofs.Ytcefiblpnegepaa.Pr
