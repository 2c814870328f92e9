import Derived.Test.YtphnphmbfogmlaaGreatProg
import Derived.JoinedOf
import Derived.KernelRfl
namespace Go.Proofs.YtphnphmbfogmlaaGreat.T
def U2 : List Nat := [104, 97, 114, 110, 101, 115, 115, 32, 49, 56, 100, 55, 98, 57, 100, 53, 97, 102, 53, 98, 53, 52, 48, 52, 97, 55, 52, 102, 53, 102, 49, 50, 57, 56, 101, 98, 56, 56, 49, 52, 53, 100, 52, 49, 50, 100, 50, 53, 49, 98, 55, 52, 98, 98, 54, 99, 101, 98, 98, 101, 99, 51, 101, 97, 55, 99, 54, 54, 54, 50, 50, 53, 32, 99, 117, 116, 32, 97, 116, 32, 108, 111, 111, 112, 46, 101, 120, 97, 109, 112, 108, 101, 47, 116, 97, 98, 117, 108, 97, 114, 105, 117, 109, 47, 108, 97, 119, 115, 46, 70, 110, 69, 120, 97, 99, 116, 69, 110, 103, 105, 110, 101, 76, 111, 99, 107, 32, 108, 111, 111, 112, 46, 101, 120, 97, 109, 112, 108, 101, 47, 116, 97, 98, 117, 108, 97, 114, 105, 117, 109, 47, 108, 97, 119, 115, 46, 70, 110, 69, 120, 97, 99, 116, 69, 110, 103, 105, 110, 101, 83, 117, 109, 32, 108, 111, 111, 112, 46, 101, 120, 97, 109, 112, 108, 101, 47, 116, 97, 98, 117, 108, 97, 114, 105, 117, 109, 47, 108, 97, 119, 115, 46, 70, 110, 69, 120, 97, 99, 116, 69, 110, 103, 105, 110, 101, 68, 105, 114, 116, 121, 32, 108, 111, 111, 112, 46, 101, 120, 97, 109, 112, 108, 101, 47, 116, 97, 98, 117, 108, 97, 114, 105, 117, 109, 47, 108, 97, 119, 115, 46, 70, 110, 69, 120, 97, 99, 116, 69, 110, 103, 105, 110, 101, 82, 101, 100, 111, 32, 108, 111, 111, 112, 46, 101, 120, 97, 109, 112, 108, 101, 47, 116, 97, 98, 117, 108, 97, 114, 105, 117, 109, 47, 108, 97, 119, 115, 46, 70, 110, 69, 120, 97, 99, 116, 69, 110, 103, 105, 110, 101, 79, 107]
set_option maxRecDepth 100000 in
theorem XmV : Tryz.prog.initOrder = String.ofList (U2.map Char.ofNat) := by kernel_rfl
theorem Xf2 : Tryz.prog.initOrder.toList = U2.map Char.ofNat := by rw [XmV, String.toList_ofList]
theorem XbC (w r : List Char) (h : ∀ c ∈ w, c ≠ Char.ofNat 32) : wordsSigns (w ++ Char.ofNat 32 :: r) = w :: wordsSigns r := by
 induction w with
 | nil => rfl
 | cons c w ih =>
  have hc : c ≠ Char.ofNat 32 := h c (by simp); have h2 := ih (fun x hx => h x (by simp [hx])); rw [List.cons_append, wordsSigns.eq_3 _ _ hc, h2]
def NL : List Nat := (U2.drop 8).take 64
theorem XmW : ∃ r, U2 = [104, 97, 114, 110, 101, 115, 115] ++ 32 :: (NL ++ 32 :: ([99, 117, 116] ++ 32 :: r)) := ⟨U2.drop 77, by decide +kernel⟩
theorem Xuy : isSumSigns (NL.map Char.ofNat) = true := by decide +kernel
theorem XkW : ∀ c ∈ NL.map Char.ofNat, c ≠ Char.ofNat 32 := by decide +kernel
theorem Xf3 : ∀ c ∈ [104, 97, 114, 110, 101, 115, 115].map Char.ofNat, c ≠ Char.ofNat 32 := by decide +kernel
theorem XkX : ∀ c ∈ [99, 117, 116].map Char.ofNat, c ≠ Char.ofNat 32 := by decide +kernel
theorem XbD : ([104, 97, 114, 110, 101, 115, 115].map Char.ofNat == "harness".toList) = true := by decide +kernel
def O8 : List Char := [99, 117, 116].map Char.ofNat
theorem ED : ∃ rest, behindMainWord (wordsSigns Tryz.prog.initOrder.toList) = O8 :: rest := by
 rw [Xf2]; obtain ⟨r, hr⟩ := XmW; refine ⟨wordsSigns (r.map Char.ofNat), ?_⟩; rw [hr, List.map_append, List.map_cons (l := NL ++ _), List.map_append (l₁ := NL), List.map_cons (l := _ ++ _), List.map_append (l₁ := [99, 117, 116]), List.map_cons (l := r)]; rw [XbC _ _ Xf3, XbC _ _ XkW, XbC _ _ XkX]; rw [behindMainWord, if_pos]
 ·rfl
 ·rw [Xuy, XbD]
  rfl
theorem Xdu (rest : List (List Char)) : stripLifts liftWords (O8 :: rest) = ([], O8 :: rest) := by
 simp only [liftWords]
 iterate 15 rw [stripLifts, if_neg (by decide +kernel)]
 rfl
theorem lays : Tryz.prog.laysLater = false := by kernel_rfl
theorem bears : Tryz.prog.bearsReflect = false := by kernel_rfl
theorem door : Tryz.prog.doorFits [] = true := by kernel_rfl
theorem n1 : (O8 == "gc".toList) = false := by decide +kernel
theorem n2 : (O8 == "spec".toList) = false := by decide +kernel
theorem n3 : (O8 == "carried".toList) = false := by decide +kernel
theorem n4 : (O8 == "cut".toList) = true := by decide +kernel
theorem n5 : (some O8 == some "cut".toList) = true := by decide +kernel
theorem n6 : (some O8 == some "carried".toList) = false := by decide +kernel
section
variable {P : Program} {rest : List (List Char)} (h : behindMainWord (wordsSigns P.initOrder.toList) = O8 :: rest)
include h
set_option linter.unusedSimpArgs false in
theorem Xdv (lays : P.laysLater = false) (bears : P.bearsReflect = false) (door : P.doorFits [] = true) : P.mayEnter = true := by
 unfold Program.mayEnter
 rw [h]; simp only [Xdu, n1, n2, n3, lays, bears, door, List.head?_cons, n5, Bool.false_or, Bool.false_and, Bool.not_false, Bool.or_true, Bool.and_true, Bool.true_and, Bool.or_self, List.contains_nil]
theorem Ka : P.headLifts = [] := by
 unfold Program.headLifts
 rw [h]; simp only [Xdu]
 split <;> rfl
set_option linter.unusedSimpArgs false in
theorem O9 : P.liftsFinal = false := by
 unfold Program.liftsFinal
 rw [Ka h, h]; simp only [List.head?_cons, n6, Bool.false_and, Bool.false_or, List.contains_nil]
set_option linter.unusedSimpArgs false in
theorem Xrt : P.make = some .cut := by
 unfold Program.make
 rw [Ka h, h]; simp only [n1, n2, n4, Bool.or_self, Bool.true_or, if_true]; rw [if_neg Bool.false_ne_true]
end
theorem EE : Tryz.prog.mayEnter = true := by
 obtain ⟨rest, h⟩ := ED; exact Xdv h lays bears door
theorem We : Tryz.prog.liftsFinal = false := by
 obtain ⟨rest, h⟩ := ED; exact O9 h
theorem XjP : Tryz.prog.make = some .cut := by
 obtain ⟨rest, h⟩ := ED; exact Xrt h
theorem Xst {a b : Bool} (ha : a = true) (hb : b = true) : (a && b) = true := by rw [ha, hb]; rfl
end Go.Proofs.YtphnphmbfogmlaaGreat.T
