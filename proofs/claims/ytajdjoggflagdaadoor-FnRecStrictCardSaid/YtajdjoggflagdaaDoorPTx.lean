/- The contract of impl.PageText: what it writes into its Builder. -/
import Derived.Test.YtajdjoggflagdaaDoorOks
import Derived.Test.YtajdjoggflagdaaDoorShelfT
import Derived.Test.YtajdjoggflagdaaDoorWLogC
namespace Go.Proofs.YtajdjoggflagdaaDoor.T
open Go.RowKit Go.Proofs.YtajdjoggflagdaaDoorW.PrintWords Go.Proofs.YtajdjoggflagdaaDoor.Pr
set_option linter.unusedSimpArgs false
set_option linter.unusedVariables false
/-- A number of at most two figures, as bytes. -/
def dgt (n : Int) : ByteArray := ⟨(Lib.decDigits n.toNat).toArray⟩
theorem itoa_small (n : Int) (w : World) (h0 : 0 ≤ n) (h1 : n < 100) :
    Calls Tryd.prog 34 #[.int .i64 n] w fun e w' => e = .returned (.string (dgt n)) ∧ w = w' := by
  obtain ⟨i, rfl⟩ : ∃ i : Nat, n = i := ⟨n.toNat, by omega⟩
  refine (Tryd.strconv_Itoa_small i (by omega) w).mono ?_
  rintro e w' ⟨rfl, rfl⟩
  exact ⟨rfl, rfl⟩
theorem dgt_one (n : Int) (h0 : 0 ≤ n) (h1 : n < 10) : dgt n = ⟨#[UInt8.ofNat (48 + n.toNat)]⟩ := by
  unfold dgt
  rw [Lib.decDigits, dif_pos (by omega)]
theorem dgt_size (n : Int) (h0 : 0 ≤ n) (h1 : n < 10) : (dgt n).size = 1 := by rw [dgt_one n h0 h1]; rfl
/-- The text of a page, as bytes. -/
def txtL (b : Int) (l : List Int) : List UInt8 := (dgt b).data.toList ++ l.flatMap (fun x => 32 :: (dgt x).data.toList)
def pageTextB (a b : Int) (l : List Int) : ByteArray := if pageOkB a b l = true then ⟨(txtL b l).toArray⟩ else ⟨#[]⟩
theorem pageOkB_own {a b : Int} {l : List Int} (h : pageOkB a b l = true) : l.length = 3 ∧ 0 ≤ b ∧ b ≤ 3 ∧ ∀ k : Nat, k < l.length → 0 ≤ rd l k ∧ rd l k ≤ 9 := by
  rw [pageOkB_at] at h
  simp only [Bool.and_eq_true, beq_iff_eq, Bool.not_eq_true'] at h
  obtain ⟨⟨⟨_, hb⟩, hl⟩, hv⟩ := h
  have hb2 := inB_iff.mp hb
  refine ⟨hl, hb2.1, hb2.2, fun k hk => ?_⟩
  have hx : badAt b (rd l k) = false := by
    cases hq : badAt b (rd l k) with
    | false => rfl
    | true => rw [any_at hk hq] at hv; exact absurd hv (by simp)
  unfold badAt at hx
  simp only [Bool.or_eq_false_iff, Bool.not_eq_false'] at hx
  exact inB_iff.mp hx.1
theorem txt_take (b : Int) (l : List Int) (k : Nat) (h : k < l.length) : txtL b (l.take (k + 1)) = txtL b (l.take k) ++ (32 :: (dgt (rd l k)).data.toList) := by
  have e : l.take (k + 1) = l.take k ++ [rd l k] := by
    rw [List.take_add_one, List.getElem?_eq_getElem h]
    simp [rd, List.getD_eq_getElem?_getD, List.getElem?_eq_getElem h]
  unfold txtL
  rw [e]
  simp
theorem txt_len (b : Int) (l : List Int) (hb0 : 0 ≤ b) (hb : b ≤ 3) (hv : ∀ k : Nat, k < l.length → 0 ≤ rd l k ∧ rd l k ≤ 9) : ∀ k, k ≤ l.length → (txtL b (l.take k)).length = 1 + 2 * k
  | 0, _ => by
    have := dgt_size b hb0 (by omega)
    simp only [txtL, List.take_zero, List.flatMap_nil, List.append_nil]
    exact this
  | k + 1, h => by
    have hx := hv k (by omega)
    have h2 := dgt_size (rd l k) hx.1 (by omega)
    have h3 : (dgt (rd l k)).data.toList.length = 1 := h2
    rw [txt_take b l k (by omega), List.length_append, txt_len b l hb0 hb hv k (by omega), List.length_cons, h3]
    omega
theorem isB_at {B b : Nat} {bs : List Value} {w : World} (h : Lib.BuilderAt 54 5 B b (.pointer (some ⟨b, 0, none⟩)) bs w) : Lib.IsBuilder 54 5 B b bs w := Or.inr h
set_option maxHeartbeats 4000000 in
set_option maxRecDepth 100000 in
theorem implPageText_yes (a b : Int) (A : Option Addr) (c : Nat) (l : List Int) (w : World) (hC : CI w A l) (hc : l.length ≤ c) (ok : pageOkB a b l = true) :
    Calls Tryd.prog 13 #[.agg #[.int .i64 a, .int .i64 b, .slice A l.length c]] w fun e w' => e = .returned (.string ⟨(txtL b l).toArray⟩) ∧ Below w.heap.size w w' := by
  obtain ⟨hl3, hb0, hb3, hv⟩ := pageOkB_own ok
  have HC := Aside0.mk hC
  have HLN := Aside0.mk (txt_len b l hb0 hb3 hv)
  have HTT := Aside0.mk (txt_take b l)
  have HV := Aside0.mk hv
  have HL3 := Aside0.mk hl3
  have hlle : l.length ≤ 3 := by omega
  have H0 := Aside0.mk (show txtL b (l.take 0) = (dgt b).data.toList by simp [txtL])
  clear hC hv hl3
  go_enter Tryd.func13, Tryd.ntmps13
  go_wp2_with fail
  refine (implPageOk_calls a b A c l _ (CI_below HC.out (bl0 _)) hc).mono ?_
  rintro e w1 ⟨rfl, hb⟩
  rw [ok]
  obtain ⟨hc1, hf1⟩ := bcell hb
  have hz1 := hb.size
  (try simp at hz1)
  have HB1 := Aside0.mk (below_then (bl0 _) (by simp) hb)
  clear hb ok
  have hy1 : w.heap.size < w1.heap.size := by omega
  go_wp2_with fail
  refine (itoa_small b _ hb0 (by omega)).mono ?_
  rintro e w' ⟨rfl, rfl⟩
  go_wp2_with fail
  have hfresh := Lib.fresh_isBuilder 54 5 w1
  refine (Tryd.Builder_WriteString w1.heap.size w1.heap.size [] (dgt b) _ hfresh (by have := dgt_size b hb0 (by omega); simp only [List.length_nil]; omega) (by simp)).mono ?_
  rintro e w2 ⟨rfl, hB2, hb2⟩
  have hK := Aside0.mk (isB_at hB2)
  have HB2 := Aside0.mk hb2
  have hc2 : ∀ (bk o : Nat), bk < w1.heap.size → w2.cell? ⟨bk, o, none⟩ = w1.cell? ⟨bk, o, none⟩ := fun bk o h => (hb2.cell (p := ⟨bk, o, none⟩) h).trans ((bl0 _).cell (p := ⟨bk, o, none⟩) h)
  have HBW := Aside0.mk (show Below w.heap.size w w2 from (below_alloc HB1.out _).trans (hb2.mono HB1.out.size))
  have HZ2 := Aside0.mk (show w1.heap.size ≤ w2.heap.size by have := hb2.size; simp at this; omega)
  clear hfresh hB2 hb2
  go_wp2_with fail
  go_loopw [16] (fun s16 wr => ∃ k : Nat, k ≤ l.length ∧ s16 = .int .i64 k ∧ Aside0 (Lib.IsBuilder 54 5 w1.heap.size w1.heap.size (Lib.byteCells (txtL b (l.take k))) wr) ∧ Aside0 (Below w.heap.size w wr) ∧ Aside0 (w1.heap.size ≤ wr.heap.size)) (fun s16 _ => l.length - (intOf s16).toNat)
  case atStart =>
    refine ⟨0, Nat.zero_le _, rfl, ⟨?_⟩, HBW, HZ2⟩
    rw [H0.out]
    exact hK.out
  case round =>
    obtain ⟨k, hk, rfl, hKr, hBr, hZr⟩ := hrel
    by_cases hlt : k < l.length
    · obtain ⟨ad, rfl, hcell⟩ := Kd.at_int (CI_below HC.out hBr.out) (k : Int) (by omega) (by omega)
      rw [Int.toNat_natCast] at hcell
      have hx := HV.out k hlt
      have HS1 := Aside0.mk (dgt_size (rd l k) hx.1 (by omega))
      have hsum : decide (1 + (dgt (rd l k)).size ≤ 9223372036854775807) = true := decide_eq_true (by have := HS1.out; omega)
      have hsum2 := eq_false (show ¬ 9223372036854775807 < 1 + (dgt (rd l k)).size by have := HS1.out; omega)
      have hx0 := hx.1
      have hx1 := hx.2
      clear hx
      go_wp2_with fail
      refine (itoa_small (rd l k) _ hx0 (by omega)).mono ?_
      rintro e w' ⟨rfl, rfl⟩
      go_wp2_with fail
      refine (Tryd.Builder_WriteString w1.heap.size w1.heap.size _ _ _ hKr.out ?_ hZr.out).mono ?_
      · have h1 := HLN.out k (by omega)
        have h2 := HS1.out
        have h3 : (Lib.byteCells (txtL b (l.take k))).length = (txtL b (l.take k)).length := by simp [Lib.byteCells]
        rw [h3, h1, ByteArray.size_append, h2]
        show 1 + 2 * k + (1 + 1) ≤ _
        omega
      rintro e w3 ⟨rfl, hB3, hb3⟩
      have hK3 := Aside0.mk (isB_at hB3)
      have HB3 := Aside0.mk hb3
      clear hB3 hb3
      go_wp2_with fail
      go_roundw
      case rel =>
        refine ⟨k + 1, by omega, by go_num, ⟨?_⟩, ⟨hBr.out.trans (HB3.out.mono HB1.out.size)⟩, ⟨by have := HB3.out.size; have := hZr.out; omega⟩⟩
        have e : Lib.byteCells (txtL b (l.take (k + 1))) = Lib.byteCells (txtL b (l.take k)) ++ Lib.strCells ((⟨#[32]⟩ : ByteArray) ++ dgt (rd l k)) := by
          rw [HTT.out k hlt]
          unfold Lib.byteCells Lib.strCells
          simp
        rw [e]
        exact hK3.out
      case measure => simp [intOf]; omega
    · have HK := Aside0.mk (show l.take k = l by rw [List.take_of_length_le (by omega)])
      rw [HK.out] at hKr
      clear HK
      go_wp2_with fail
      refine (Tryd.Builder_String_any w1.heap.size w1.heap.size (txtL b l) _ hKr.out hZr.out).mono ?_
      rintro e w4 ⟨rfl, hb4⟩
      have HB4 := Aside0.mk hb4
      clear hb4
      go_wp2_with fail
      go_ret
      exact ⟨rfl, hBr.out.trans (HB4.out.mono HB1.out.size)⟩
theorem implPageText_no (a b : Int) (A : Option Addr) (c : Nat) (l : List Int) (w : World) (hC : CI w A l) (hc : l.length ≤ c) (ok : pageOkB a b l = false) :
    Calls Tryd.prog 13 #[.agg #[.int .i64 a, .int .i64 b, .slice A l.length c]] w fun e w' => e = .returned (.string ⟨#[]⟩) ∧ Below w.heap.size w w' := by
  have HC := Aside0.mk hC
  clear hC
  go_enter Tryd.func13, Tryd.ntmps13
  go_wp2_with fail
  refine (implPageOk_calls a b A c l _ (CI_below HC.out (bl0 _)) hc).mono ?_
  rintro e w1 ⟨rfl, hb⟩
  rw [ok]
  have HB1 := Aside0.mk (below_then (bl0 _) (by simp) hb)
  clear hb ok
  go_wp2_with fail
  go_ret
  exact ⟨rfl, HB1.out⟩
end Go.Proofs.YtajdjoggflagdaaDoor.T
namespace Go.Proofs.YtajdjoggflagdaaDoor.Pr
open Go.RowKit Go.Proofs.YtajdjoggflagdaaDoorW.PrintWords Go.Proofs.YtajdjoggflagdaaDoor.T
set_option linter.unusedSimpArgs false
set_option linter.unusedVariables false
def impl_PageText.f (k : Nat) (a0_0 : Int) (a0_1 : Int) (l0_2 : List Int) : Option (ByteArray) := some (pageTextB a0_0 a0_1 l0_2)
theorem impl_PageText.mono : ∀ a0 a1 a2 k, LeO (impl_PageText.f k a0 a1 a2) (impl_PageText.f (k + 1) a0 a1 a2) := fun _ _ _ _ _ h => h
theorem impl_PageText.calls (k : Nat) (a0_0 : Int) (a0_1 : Int) (A0_2 : Option Addr) (c0_2 : Nat) (l0_2 : List Int) (r : ByteArray) (w : World) (hr0_2 : Kd.C (Kd.int .i64) w A0_2 l0_2.length l0_2) (hc0_2 : l0_2.length ≤ c0_2) (h : impl_PageText.f k a0_0 a0_1 l0_2 = some r) :
    Calls Tryd.prog 13 #[.agg #[.int .i64 a0_0, .int .i64 a0_1, .slice A0_2 l0_2.length c0_2]] w fun e w' => e = .returned (.string r) ∧ Below w.heap.size w w' := by
  obtain rfl := Option.some.inj h
  unfold pageTextB
  cases ok : pageOkB a0_0 a0_1 l0_2 with
  | true => exact implPageText_yes a0_0 a0_1 A0_2 c0_2 l0_2 w hr0_2 hc0_2 ok
  | false => exact implPageText_no a0_0 a0_1 A0_2 c0_2 l0_2 w hr0_2 hc0_2 ok
end Go.Proofs.YtajdjoggflagdaaDoor.Pr
