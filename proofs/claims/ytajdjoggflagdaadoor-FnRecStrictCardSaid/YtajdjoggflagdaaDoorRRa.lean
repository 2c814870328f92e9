/- What impl.RecRead calls of the library: Split, Index, Atoi; and the door's cells that they read. -/
import Derived.Test.YtajdjoggflagdaaDoorRTp
import Derived.Test.YtajdjoggflagdaaDoorShelfR
import Derived.Lib.SmallJoins
namespace Go.Proofs.YtajdjoggflagdaaDoor.Pr
open Go.RowKit Go.Proofs.YtajdjoggflagdaaDoorW.PrintWords Go.Proofs.YtajdjoggflagdaaDoorW.PrintLast Go.Proofs.YtajdjoggflagdaaDoor.T
set_option linter.unusedVariables false
set_option linter.unusedSimpArgs false
/-- The door's cells that the library reads. -/
structure Door (w : World) : Prop where
  tab : Lib.TabIs Tryd.prog w "internal/strconv.uint64pow10" .u64 Lib.pow10Tab
  e0 : ∃ ev, w.cell? ⟨0, 0, none⟩ = some ev ∧ (ev = .nilIface ∨ ∃ te pe, ev = .iface te pe)
  e1 : ∃ ev, w.cell? ⟨1, 0, none⟩ = some ev ∧ (ev = .nilIface ∨ ∃ te pe, ev = .iface te pe)
  mx : ∃ m : Int, w.cell? ⟨3, 0, none⟩ = some (.int .i64 m)
theorem Door.on {w w' : World} (h : Door w) (hb : Below w.heap.size w w') : Door w' := by
  obtain ⟨h1, ⟨ev, h2, h2'⟩, ⟨ev1, h3, h3'⟩, ⟨m, h4⟩⟩ := h
  exact ⟨Lib.tabBelow_of_tabIs h1 w' hb, ⟨ev, (hb.cell (World.block_lt_of_cell? w _ h2)).trans h2, h2'⟩, ⟨ev1, (hb.cell (World.block_lt_of_cell? w _ h3)).trans h3, h3'⟩, ⟨m, (hb.cell (World.block_lt_of_cell? w _ h4)).trans h4⟩⟩
def splitL (s : ByteArray) : List ByteArray := Lib.splitB ⟨#[32]⟩ 0 (Lib.countB s ⟨#[32]⟩) s
def splitO (s : ByteArray) : Option (List ByteArray) := if s.size < 4294967281 ∧ (splitL s).length = Lib.countB s ⟨#[32]⟩ + 1 ∧ (splitL s).length ≤ 9223372036854775807 then some (splitL s) else none
theorem reps_string (w : World) (base : Nat) (ok : Nat → Prop) : ∀ xs : List ByteArray, Reps (Kd.string.M w base ok) 1 xs (xs.map Value.string)
  | [] => Reps.none _ _
  | x :: xs => Reps.one (show Kd.string.M w base ok x [.string x] from rfl) (reps_string w base ok xs)
theorem split_calls (s : ByteArray) (r : List ByteArray) (w : World) (hd : Door w) (h : splitO s = some r) :
    Calls Tryd.prog 48 #[.string s, .string ⟨#[32]⟩] w fun e w' => ∃ v0_ : Value, e = .returned (v0_) ∧ Kd.R Kd.string 9 w' w.heap.size (fun _ => True) v0_ r ∧ Below w.heap.size w w' := by
  unfold splitO at h
  split at h
  · rename_i hh
    obtain ⟨h1, h2, h3⟩ := hh
    obtain rfl := Option.some.inj h
    obtain ⟨m, hm⟩ := hd.mx
    refine (Tryd.strings_Split s ⟨#[32]⟩ m w h1 hm (by decide)).mono ?_
    rintro e w' ⟨rfl, rfl⟩
    rw [← h2]
    refine ⟨_, rfl, ⟨fun _ _ => trivial, (splitL s).map Value.string, ?_, ?_⟩, below_alloc (Below.refl _ _) _⟩
    · have h5 := World.ownsRow_lit (base := w.heap.size) (e := 9) (size := 1) w ((splitL s).map Value.string).toArray (splitL s).length (Nat.le_refl _) (by simpa [maxLen] using h3) (by simp)
      have h6 : (w.alloc (.cells ((splitL s).map Value.string).toArray 9)).ownsRow w.heap.size 9 1 (.slice (some ⟨w.heap.size, 0, none⟩) (splitL s).length (splitL s).length) (splitL s).length ((splitL s).map Value.string) := by simpa using h5
      exact h6
    · exact reps_string _ _ _ _
  · exact absurd h (by simp)
def idxO (xs : List ByteArray) (x : ByteArray) : Option Int := if 0 < xs.length ∧ xs.length ≤ 9223372036854775807 then some (Lib.idxOfS xs x) else none
theorem index_calls (v : Value) (xs : List ByteArray) (x : ByteArray) (n : Int) (w : World) {base : Nat} {ok : Nat → Prop} (hR : Kd.R Kd.string 9 w base ok v xs) (h : idxO xs x = some n) :
    Calls Tryd.prog 49 #[v, .string x] w fun e w' => e = .returned (.int .i64 n) ∧ ∃ nd, w' = w.drewN nd := by
  unfold idxO at h
  split at h
  · rename_i hh
    obtain rfl := Option.some.inj h
    obtain ⟨g, cap, rfl, hc, hg, hx⟩ := Rs_form hR hh.1
    refine (Tryd.slices_Index_string g 0 xs.length cap xs x w (Nat.le_refl _) hh.2 (fun j hj => ?_)).mono ?_
    · refine hx j _ ?_
      rw [List.getElem?_eq_getElem hj]
      simp [List.getD_eq_getElem?_getD, List.getElem?_eq_getElem hj]
    · rintro e w' ⟨rfl, rfl⟩
      rw [List.take_of_length_le (Nat.le_refl _)]
      exact ⟨rfl, 0, rfl⟩
  · exact absurd h (by simp)
def atoiV (s : ByteArray) : Int := match Lib.atoiAll s.data.toList with
  | .ok v => v
  | .syntax => 0
  | .range => Lib.atoiSat s.data.toList
theorem atoi_calls (s : ByteArray) (w : World) (hs : s.size ≤ 281474976710656) (hd : Door w) :
    Calls Tryd.prog 50 #[.string s] w fun e w' => ∃ ev, e = .returned (.tuple #[.int .i64 (atoiV s), ev]) ∧ Below w.heap.size w w' := by
  unfold atoiV
  cases h : Lib.atoiAll s.data.toList with
  | ok v =>
    refine (Tryd.strconv_Atoi_ok s (by omega) v h w).mono ?_
    rintro e w' ⟨rfl, hw⟩
    refine ⟨_, rfl, ?_⟩
    rcases hw with rfl | ⟨t, rfl⟩
    · exact Below.refl _ _
    · exact Go.Joins.below_bytesWorld _ _ _ _ (Nat.le_refl _)
  | «syntax» =>
    obtain ⟨ev, h1, h2⟩ := hd.e0
    refine (Tryd.strconv_Atoi_syntax s hs h ev w h1 h2).mono ?_
    rintro e w' ⟨N, rfl, _, _, hb⟩
    exact ⟨_, rfl, hb⟩
  | range =>
    obtain ⟨ev, h1, h2⟩ := hd.e1
    refine (Tryd.strconv_Atoi_range s hs h ev w h1 h2).mono ?_
    rintro e w' ⟨N, rfl, _, _, hb⟩
    exact ⟨_, rfl, hb⟩
/-- What is known of a world is all that is used of it. -/
theorem hide_ {P : Program} {c : Code} {Q : Exit → Act → World → Prop} {a : Act} {w : World} (F : World → Prop) (hF : F w) (h : ∀ w', F w' → c.wp P Q a w') : c.wp P Q a w := h w hF
end Go.Proofs.YtajdjoggflagdaaDoor.Pr
