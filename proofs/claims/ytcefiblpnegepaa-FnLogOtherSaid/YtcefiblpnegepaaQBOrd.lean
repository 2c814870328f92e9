import Derived.Test.YtcefiblpnegepaaProg
import Derived.JoinedOf
import Derived.KernelRfl
namespace Go.Proofs.Ytcefiblpnegepaa.T
def ME : List Nat := [104, 97, 114, 110, 101, 115, 115, 32, 57, 48, 48, 57, 50, 101, 57, 50, 48, 51, 50, 49, 51, 55, 99, 100, 55, 97, 55, 102, 54, 101, 49, 50, 54, 100, 102, 102, 51, 56, 97, 97, 100, 100, 54, 56, 51, 97, 56, 56, 52, 101, 51, 55, 101, 56, 57, 100, 55, 57, 102, 50, 49, 57, 51, 102, 55, 99, 48, 102, 49, 48, 52, 51, 32, 99, 117, 116, 32, 97, 116, 32, 108, 111, 111, 112, 46, 101, 120, 97, 109, 112, 108, 101, 47, 116, 97, 98, 117, 108, 97, 114, 105, 117, 109, 47, 108, 97, 119, 115, 46, 70, 110, 80, 97, 103, 101, 70, 111, 114, 109, 32, 108, 111, 111, 112, 46, 101, 120, 97, 109, 112, 108, 101, 47, 116, 97, 98, 117, 108, 97, 114, 105, 117, 109, 47, 108, 97, 119, 115, 46, 70, 110, 80, 97, 103, 101, 69, 109, 112, 116, 121, 32, 108, 111, 111, 112, 46, 101, 120, 97, 109, 112, 108, 101, 47, 116, 97, 98, 117, 108, 97, 114, 105, 117, 109, 47, 108, 97, 119, 115, 46, 70, 110, 69, 120, 97, 99, 116, 76, 111, 103, 79, 107, 32, 108, 111, 111, 112, 46, 101, 120, 97, 109, 112, 108, 101, 47, 116, 97, 98, 117, 108, 97, 114, 105, 117, 109, 47, 108, 97, 119, 115, 46, 70, 110, 69, 120, 97, 99, 116, 76, 111, 103, 76, 97, 115, 116, 32, 108, 111, 111, 112, 46, 101, 120, 97, 109, 112, 108, 101, 47, 116, 97, 98, 117, 108, 97, 114, 105, 117, 109, 47, 108, 97, 119, 115, 46, 70, 110, 82, 101, 99, 85, 110, 100, 111, 32, 108, 111, 111, 112, 46, 101, 120, 97, 109, 112, 108, 101, 47, 116, 97, 98, 117, 108, 97, 114, 105, 117, 109, 47, 108, 97, 119, 115, 46, 70, 110, 69, 120, 97, 99, 116, 69, 110, 103, 105, 110, 101, 78, 101, 119, 32, 108, 111, 111, 112, 46, 101, 120, 97, 109, 112, 108, 101, 47, 116, 97, 98, 117, 108, 97, 114, 105, 117, 109, 47, 108, 97, 119, 115, 46, 70, 110, 69, 120, 97, 99, 116, 82, 101, 99, 68, 111, 32, 108, 111, 111, 112, 46, 101, 120, 97, 109, 112, 108, 101, 47, 116, 97, 98, 117, 108, 97, 114, 105, 117, 109, 47, 108, 97, 119, 115, 46, 70, 110, 82, 101, 99, 75, 105, 110, 100, 115, 32, 108, 111, 111, 112, 46, 101, 120, 97, 109, 112, 108, 101, 47, 116, 97, 98, 117, 108, 97, 114, 105, 117, 109, 47, 108, 97, 119, 115, 46, 70, 110, 82, 101, 99, 79, 110, 99, 101, 32, 108, 111, 111, 112, 46, 101, 120, 97, 109, 112, 108, 101, 47, 116, 97, 98, 117, 108, 97, 114, 105, 117, 109, 47, 108, 97, 119, 115, 46, 70, 110, 82, 101, 99, 84, 119, 111, 32, 108, 111, 111, 112, 46, 101, 120, 97, 109, 112, 108, 101, 47, 116, 97, 98, 117, 108, 97, 114, 105, 117, 109, 47, 108, 97, 119, 115, 46, 70, 110, 69, 120, 97, 99, 116, 76, 111, 103, 67, 104, 97, 105, 110, 32, 108, 111, 111, 112, 46, 101, 120, 97, 109, 112, 108, 101, 47, 116, 97, 98, 117, 108, 97, 114, 105, 117, 109, 47, 108, 97, 119, 115, 46, 70, 110, 82, 101, 99, 68, 111, 32, 108, 111, 111, 112, 46, 101, 120, 97, 109, 112, 108, 101, 47, 116, 97, 98, 117, 108, 97, 114, 105, 117, 109, 47, 108, 97, 119, 115, 46, 70, 110, 69, 120, 97, 99, 116, 76, 111, 103, 79, 112, 101, 110, 32, 108, 111, 111, 112, 46, 101, 120, 97, 109, 112, 108, 101, 47, 116, 97, 98, 117, 108, 97, 114, 105, 117, 109, 47, 108, 97, 119, 115, 46, 70, 110, 76, 111, 103, 67, 117, 116, 32, 108, 111, 111, 112, 46, 101, 120, 97, 109, 112, 108, 101, 47, 116, 97, 98, 117, 108, 97, 114, 105, 117, 109, 47, 108, 97, 119, 115, 46, 70, 110, 76, 111, 103, 76, 97, 115, 116, 32, 108, 111, 111, 112, 46, 101, 120, 97, 109, 112, 108, 101, 47, 116, 97, 98, 117, 108, 97, 114, 105, 117, 109, 47, 108, 97, 119, 115, 46, 70, 110, 76, 111, 103, 67, 104, 97, 105, 110, 32, 108, 111, 111, 112, 46, 101, 120, 97, 109, 112, 108, 101, 47, 116, 97, 98, 117, 108, 97, 114, 105, 117, 109, 47, 108, 97, 119, 115, 46, 70, 110, 76, 111, 103, 79, 112, 101, 110, 32, 108, 111, 111, 112, 46, 101, 120, 97, 109, 112, 108, 101, 47, 116, 97, 98, 117, 108, 97, 114, 105, 117, 109, 47, 108, 97, 119, 115, 46, 70, 110, 69, 120, 97, 99, 116, 76, 111, 103, 80, 97, 103, 101, 115, 32, 108, 111, 111, 112, 46, 101, 120, 97, 109, 112, 108, 101, 47, 116, 97, 98, 117, 108, 97, 114, 105, 117, 109, 47, 108, 97, 119, 115, 46, 70, 110, 76, 111, 103, 80, 97, 103, 101, 115, 32, 108, 111, 111, 112, 46, 101, 120, 97, 109, 112, 108, 101, 47, 116, 97, 98, 117, 108, 97, 114, 105, 117, 109, 47, 108, 97, 119, 115, 46, 70, 110, 76, 111, 103, 79, 116, 104, 101, 114, 32, 108, 111, 111, 112, 46, 101, 120, 97, 109, 112, 108, 101, 47, 116, 97, 98, 117, 108, 97, 114, 105, 117, 109, 47, 108, 97, 119, 115, 46, 70, 110, 76, 111, 103, 77, 111, 114, 101]
set_option maxRecDepth 100000 in
theorem XgV : Try.prog.initOrder = String.ofList (ME.map Char.ofNat) := by kernel_rfl
theorem Xb7 : Try.prog.initOrder.toList = ME.map Char.ofNat := by rw [XgV, String.toList_ofList]
theorem Qr (w r : List Char) (h : ∀ c ∈ w, c ≠ Char.ofNat 32) : wordsSigns (w ++ Char.ofNat 32 :: r) = w :: wordsSigns r := by
  induction w with
  | nil => rfl
  | cons c w ih =>
    have hc : c ≠ Char.ofNat 32 := h c (by simp); have h2 := ih (fun x hx => h x (by simp [hx])); rw [List.cons_append, wordsSigns.eq_3 _ _ hc, h2]
def Ws : List Nat := (ME.drop 8).take 64
theorem XgW : ∃ r, ME = [104, 97, 114, 110, 101, 115, 115] ++ 32 :: (Ws ++ 32 :: ([99, 117, 116] ++ 32 :: r)) := ⟨ME.drop 77, by decide +kernel⟩
theorem Xpp : isSumSigns (Ws.map Char.ofNat) = true := by decide +kernel
theorem XdR : ∀ c ∈ Ws.map Char.ofNat, c ≠ Char.ofNat 32 := by decide +kernel
theorem Xb8 : ∀ c ∈ [104, 97, 114, 110, 101, 115, 115].map Char.ofNat, c ≠ Char.ofNat 32 := by decide +kernel
theorem XdS : ∀ c ∈ [99, 117, 116].map Char.ofNat, c ≠ Char.ofNat 32 := by decide +kernel
theorem Qs : ([104, 97, 114, 110, 101, 115, 115].map Char.ofNat == "harness".toList) = true := by decide +kernel
def EU : List Char := [99, 117, 116].map Char.ofNat
theorem BX : ∃ rest, behindMainWord (wordsSigns Try.prog.initOrder.toList) = EU :: rest := by
  rw [Xb7]; obtain ⟨r, hr⟩ := XgW; refine ⟨wordsSigns (r.map Char.ofNat), ?_⟩; rw [hr, List.map_append, List.map_cons (l := Ws ++ _), List.map_append (l₁ := Ws), List.map_cons (l := _ ++ _), List.map_append (l₁ := [99, 117, 116]), List.map_cons (l := r)]; rw [Qr _ _ Xb8, Qr _ _ XdR, Qr _ _ XdS]; rw [behindMainWord, if_pos]
  · rfl
  · rw [Xpp, Qs]
    rfl
theorem Xa2 (rest : List (List Char)) : stripLifts liftWords (EU :: rest) = ([], EU :: rest) := by
  simp only [liftWords]
  iterate 15 rw [stripLifts, if_neg (by decide +kernel)]
  rfl
theorem lays : Try.prog.laysLater = false := by kernel_rfl
theorem bears : Try.prog.bearsReflect = false := by kernel_rfl
theorem door : Try.prog.doorFits [] = true := by kernel_rfl
theorem n1 : (EU == "gc".toList) = false := by decide +kernel
theorem n2 : (EU == "spec".toList) = false := by decide +kernel
theorem n3 : (EU == "carried".toList) = false := by decide +kernel
theorem n4 : (EU == "cut".toList) = true := by decide +kernel
theorem n5 : (some EU == some "cut".toList) = true := by decide +kernel
theorem n6 : (some EU == some "carried".toList) = false := by decide +kernel
section
variable {P : Program} {rest : List (List Char)} (h : behindMainWord (wordsSigns P.initOrder.toList) = EU :: rest)
include h
set_option linter.unusedSimpArgs false in
theorem Xa3 (lays : P.laysLater = false) (bears : P.bearsReflect = false) (door : P.doorFits [] = true) : P.mayEnter = true := by
  unfold Program.mayEnter
  rw [h]; simp only [Xa2, n1, n2, n3, lays, bears, door, List.head?_cons, n5, Bool.false_or, Bool.false_and, Bool.not_false, Bool.or_true, Bool.and_true, Bool.true_and, Bool.or_self, List.contains_nil]
theorem KT : P.headLifts = [] := by
  unfold Program.headLifts
  rw [h]; simp only [Xa2]
  split <;> rfl
set_option linter.unusedSimpArgs false in
theorem EW : P.liftsFinal = false := by
  unfold Program.liftsFinal
  rw [KT h, h]; simp only [List.head?_cons, n6, Bool.false_and, Bool.false_or, List.contains_nil]
set_option linter.unusedSimpArgs false in
theorem Xk5 : P.make = some .cut := by
  unfold Program.make
  rw [KT h, h]; simp only [n1, n2, n4, Bool.or_self, Bool.true_or, if_true]; rw [if_neg Bool.false_ne_true]
end
theorem P9 : Try.prog.mayEnter = true := by
  obtain ⟨rest, h⟩ := BX; exact Xa3 h lays bears door
theorem Ny : Try.prog.liftsFinal = false := by
  obtain ⟨rest, h⟩ := BX; exact EW h
theorem Qt : Try.prog.make = some .cut := by
  obtain ⟨rest, h⟩ := BX; exact Xk5 h
theorem XgX {a b : Bool} (ha : a = true) (hb : b = true) : (a && b) = true := by rw [ha, hb]; rfl
end Go.Proofs.Ytcefiblpnegepaa.T
