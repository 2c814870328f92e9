/- What the pages of a transaction are: the reference's tale, the program's own, and the contract of impl.LogPages. -/
import Derived.Test.YtcefiblpnegepaaMarkP
import Derived.Test.YtcefiblpnegepaaPrSLP
import Derived.Test.YtcefiblpnegepaaPagesOf
namespace Go.Proofs.Ytcefiblpnegepaa.T
open Go.RowKit Go.Proofs.YtcefiblpnegepaaW.PrintWords Go.Proofs.Ytcefiblpnegepaa.Pr
set_option linter.unusedSimpArgs false
set_option linter.unusedVariables false
theorem recOkB_page5 {k tx p s o n pv nx : Int} (h : recOkB k tx p s o n pv nx = true) : 0 ≤ p ∧ p < 5 := by
  unfold recOkB at h
  simp only [Bool.and_eq_true] at h
  obtain ⟨⟨h1, _⟩, _⟩ := h
  have key : ∀ x : Int, inB x 0 4 = true → 0 ≤ x ∧ x < 5 := fun x hx => by
    have := inB_iff.mp hx
    omega
  split at h1
  · simp only [Bool.and_eq_true] at h1
    exact key _ h1.1.1.1.1
  · split at h1
    · simp only [Bool.and_eq_true] at h1
      exact key _ h1.1.1.1.1
    · split at h1
      · simp only [Bool.and_eq_true] at h1
        exact key _ h1.1.1.1.1
      · split at h1
        · simp only [Bool.and_eq_true, beq_iff_eq] at h1
          have := h1.1.1.1.1
          omega
        · split at h1
          · simp only [Bool.and_eq_true] at h1
            exact key _ h1.1.1.1.1
          · exact absurd h1 (by simp)
theorem okAt_of {l : List S41} (h : logOkB l = true) (i : Nat) (hi : i < l.length) : okAt l i = true := by
  unfold logOkB at h
  simp only [Bool.and_eq_true, List.all_eq_true] at h
  exact h.2 i (by simpa using hi)
/-- The page of the record of such a number. -/
def pageAt (l : List S41) (n : Int) : Int := (rd_T41 l (n - 1)).f2
theorem pageAt_bd {l : List S41} (h : logOkB l = true) (j : Nat) (hj : j < l.length) : 0 ≤ pageAt l ((j : Int) + 1) ∧ pageAt l ((j : Int) + 1) < 5 := by
  have h1 := okAt_of h j hj
  unfold okAt at h1
  simp only [Bool.and_eq_true] at h1
  have h2 := recOkB_page5 h1.1.1.1
  unfold pageAt
  rw [show (j : Int) + 1 - 1 = (j : Int) by omega]
  exact h2
theorem chainB_mem {l : List S41} (ok : logOkB l = true) : ∀ (n : Nat) (x : Int), 0 ≤ x → x ≤ (n : Int) → n ≤ l.length → ∀ y ∈ chainB l n x, 1 ≤ y ∧ y ≤ (l.length : Int)
  | 0, x, _, _, _, y, hy => by simp [chainB] at hy
  | n + 1, x, h0, h1, hn, y, hy => by
    rw [chainB] at hy
    by_cases hx : 0 < x
    · rw [if_pos hx] at hy
      rcases List.mem_cons.mp hy with rfl | hy
      · omega
      · obtain ⟨j, rfl⟩ : ∃ j : Nat, x = (j : Int) + 1 := ⟨(x - 1).toNat, by omega⟩
        have e : (j : Int) + 1 - 1 = (j : Int) := by omega
        rw [e] at hy
        have b := prev_bd ok j (by omega)
        exact chainB_mem ok n _ b.1 (by omega) (by omega) y hy
    · rw [if_neg hx] at hy
      simp at hy
/-- The pages of the records of a chain. -/
def pagesC (l : List S41) (a : Int) : List Int := (chainB l l.length (lastB l a)).map (pageAt l)
/-- What is told. -/
def pagesB (l : List S41) (a : Int) : List Int := if logOkB l = true then ([0, 1, 2, 3, 4] : List Int).filter (fun p => (pagesC l a).any (fun x => x == p)) else []
theorem pagesC_len (l : List S41) (a : Int) : (pagesC l a).length ≤ l.length := by
  unfold pagesC
  rw [List.length_map]
  exact chainB_len _ _ _
theorem pagesB_len (l : List S41) (a : Int) : (pagesB l a).length ≤ 5 := by
  unfold pagesB
  split
  · exact Nat.le_trans (List.length_filter_le _ _) (by simp)
  · simp
theorem pagesB_sort (l : List S41) (a : Int) (ok : logOkB l = true) : pagesB l a = sortC (pagesC l a) := by
  unfold pagesB
  rw [if_pos ok, sortC_eq]
  intro x hx
  unfold pagesC at hx
  obtain ⟨y, hy, rfl⟩ := List.mem_map.mp hx
  have hb := chainB_mem ok l.length (lastB l a) (lastB_0 _ _) (lastB_n _ _) (Nat.le_refl _) y hy
  obtain ⟨j, rfl⟩ : ∃ j : Nat, y = (j : Int) + 1 := ⟨(y - 1).toNat, by omega⟩
  exact pageAt_bd ok j (by omega)
theorem l3Has_l (l : List S41) (ok : logOkB l = true) (p : Int) : ∀ (n k : Nat) (x : Int), 0 ≤ x → x ≤ (n : Int) → n ≤ l.length → n < k → spec_l3Has.l0 k l p x = some (((chainB l n x).map (pageAt l)).any (fun y => y == p))
  | 0, k + 1, x, h0, h1, _, _ => by
    rw [spec_l3Has.l0, if_neg (by omega)]
    simp [chainB]
  | n + 1, k + 1, x, h0, h1, hn, hk => by
    rw [spec_l3Has.l0, chainB]
    by_cases hx : 0 < x
    · have hlen := logOk_len ok
      obtain ⟨j, rfl⟩ : ∃ j : Nat, x = (j : Int) + 1 := ⟨(x - 1).toNat, by omega⟩
      have e : (j : Int) + 1 - 1 = (j : Int) := by omega
      have b := prev_bd ok j (by omega)
      rw [if_pos hx, if_pos hx, e, T.wrap_small (by omega) (by omega), if_pos (by omega), if_pos (by omega), l3Has_l l ok p n k _ b.1 (by omega) (by omega) (by omega)]
      rw [List.map_cons, List.any_cons]
      have e2 : pageAt l ((j : Int) + 1) = (rd_T41 l (j : Int)).f2 := by unfold pageAt; rw [e]
      rw [e2]
      by_cases hp : (rd_T41 l (j : Int)).f2 = p
      · rw [if_pos hp]
        simp [hp]
      · rw [if_neg hp]
        simp [hp]
    · rw [if_neg hx, if_neg hx]
      simp
theorem l3Has_k (l : List S41) (ok : logOkB l = true) (a p : Int) (hl : l.length ≤ 9223372036854775807) (k : Nat) (hk : l.length < k) : spec_l3Has.f k l a p = some ((pagesC l a).any (fun y => y == p)) := by
  unfold spec_l3Has.f
  rw [l3Last_k l a hl k hk, Option.bind_some]
  exact l3Has_l l ok p l.length k _ (lastB_0 _ _) (lastB_n _ _) (Nat.le_refl _) hk
theorem specLP_l (l : List S41) (ok : logOkB l = true) (a : Int) (hl : l.length ≤ 9223372036854775807) : ∀ (d k i : Nat) (acc : List Int), i + d = 5 → d + l.length < k → acc.length ≤ i → spec_LogPages.l0 k l a acc (i : Int) = some (acc ++ (([0, 1, 2, 3, 4] : List Int).drop i).filter (fun p => (pagesC l a).any (fun x => x == p)))
  | 0, k + 1, i, acc, hi, hk, ha => by
    rw [spec_LogPages.l0, if_neg (by omega)]
    obtain rfl : i = 5 := by omega
    simp
  | d + 1, k + 1, i, acc, hi, hk, ha => by
    have hi5 : i < 5 := by omega
    rw [spec_LogPages.l0, if_pos (by omega), l3Has_k l ok a i hl k (by omega), Option.bind_some, T.wrap_small (by omega) (by omega)]
    have e : (i : Int) + 1 = ((i + 1 : Nat) : Int) := by omega
    have hd : (([0, 1, 2, 3, 4] : List Int).drop i) = (i : Int) :: ([0, 1, 2, 3, 4] : List Int).drop (i + 1) := by
      have h5 : i = 0 ∨ i = 1 ∨ i = 2 ∨ i = 3 ∨ i = 4 := by omega
      rcases h5 with rfl | rfl | rfl | rfl | rfl <;> rfl
    rw [hd, List.filter_cons, e]
    by_cases h : (pagesC l a).any (fun x => x == (i : Int)) = true
    · rw [if_pos h, if_pos h, if_pos (by omega), specLP_l l ok a hl d k (i + 1) _ (by omega) (by omega) (by simp; omega)]
      simp
    · rw [if_neg h, if_neg h, specLP_l l ok a hl d k (i + 1) _ (by omega) (by omega) (by omega)]
theorem specLP_k (l : List S41) (a : Int) (hl : l.length ≤ 9223372036854775807) (k : Nat) (hk : 3 * l.length + 10 < k) : spec_LogPages.f k l a = some (pagesB l a) := by
  unfold spec_LogPages.f pagesB
  rw [Option.bind_some, spec_LogOk_k l hl k (by omega), Option.bind_some]
  by_cases ok : logOkB l = true
  · rw [if_pos ok, if_pos ok]
    have h := specLP_l l ok a hl 5 k 0 [] (by omega) (by omega) (by simp)
    simpa using h
  · rw [if_neg ok, if_neg ok]
theorem pgchain_l (l : List S41) (ok : logOkB l = true) : ∀ (n k : Nat) (x : Int) (acc : List Int), 0 ≤ x → x ≤ (n : Int) → n ≤ l.length → n < k → acc.length + n ≤ 150 → impl_chain.l0 k l acc x = some (acc ++ chainB l n x)
  | 0, k + 1, x, acc, h0, h1, _, _, _ => by
    rw [impl_chain.l0, if_pos (by omega)]
    simp [chainB]
  | n + 1, k + 1, x, acc, h0, h1, hn, hk, ha => by
    rw [impl_chain.l0, chainB]
    by_cases hx : 0 < x
    · have hlen := logOk_len ok
      obtain ⟨j, rfl⟩ : ∃ j : Nat, x = (j : Int) + 1 := ⟨(x - 1).toNat, by omega⟩
      have e : (j : Int) + 1 - 1 = (j : Int) := by omega
      have b := prev_bd ok j (by omega)
      rw [if_neg (by omega), if_pos hx, e, T.wrap_small (by omega) (by omega), if_pos (by omega), if_pos (by omega), if_pos (by omega), pgchain_l l ok n k _ _ b.1 (by omega) (by omega) (by omega) (by simp; omega)]
      simp
    · rw [if_pos (by omega), if_neg hx]
      simp
theorem pagesOf_l (l : List S41) (hl : l.length ≤ 150) (cl : List Int) (hcl : cl.length ≤ 150) (hm : ∀ y ∈ cl, 1 ≤ y ∧ y ≤ (l.length : Int)) : ∀ (d k i : Nat) (acc : List Int), i + d = cl.length → d < k → acc.length ≤ i → impl_pagesOf.l0 k l acc cl (cl.length : Int) (i : Int) = some (acc ++ (cl.drop i).map (pageAt l))
  | 0, k + 1, i, acc, hi, hk, ha => by
    rw [impl_pagesOf.l0, if_neg (by omega), List.drop_of_length_le (by omega)]
    simp
  | d + 1, k + 1, i, acc, hi, hk, ha => by
    have e := rd_drop (l := cl) (i := i) (by omega)
    have hy := hm (rd cl i) (by
      have : rd cl i ∈ cl.drop i := by rw [e]; simp
      exact List.mem_of_mem_drop this)
    have w1 : wrap64 (rd cl i - 1) = rd cl i - 1 := T.wrap_small (by omega) (by omega)
    rw [impl_pagesOf.l0, if_pos (by omega), if_pos (by omega), if_pos (by omega), w1, if_pos (by omega), if_pos (by omega), if_pos (by omega), T.wrap_small (by omega) (by omega), show (i : Int) + 1 = ((i + 1 : Nat) : Int) by omega, pagesOf_l l hl cl hcl hm d k (i + 1) _ (by omega) (by omega) (by simp; omega), e]
    simp [pageAt]
theorem pagesOf_k (l : List S41) (ok : logOkB l = true) (a b : Int) (k : Nat) (hk : l.length < k) : impl_pagesOf.f k l a b = some (pagesC l a) := by
  have hlen := logOk_len ok
  unfold impl_pagesOf.f impl_chain.f impl_last.f
  simp only [Option.bind_some]
  rw [pgchain_l l ok l.length k _ _ (lastB_0 _ _) (lastB_n _ _) (by omega) hk (by simpa using hlen)]
  simp only [Option.bind_some, List.nil_append]
  have hc := chainB_len l l.length (lastB l a)
  have h := pagesOf_l l hlen (chainB l l.length (lastB l a)) (by omega) (chainB_mem ok l.length (lastB l a) (lastB_0 _ _) (lastB_n _ _) (Nat.le_refl _)) (chainB l l.length (lastB l a)).length k 0 [] (by omega) (by omega) (by simp)
  simpa [pagesC] using h
end Go.Proofs.Ytcefiblpnegepaa.T
namespace Go.Proofs.Ytcefiblpnegepaa.Pr
open Go.RowKit Go.Proofs.YtcefiblpnegepaaW.PrintWords Go.Proofs.YtcefiblpnegepaaW.PrintLast Go.Proofs.YtcefiblpnegepaaW.PrintMore Go.Proofs.Ytcefiblpnegepaa.T
set_option linter.unusedSimpArgs false
set_option linter.unusedVariables false
def impl_LogPages.f (k : Nat) (l0 : List S41) (a1 : Int) : Option (List Int) := some (pagesB l0 a1)
theorem impl_LogPages.mono : ∀ a0 a1 k, LeO (impl_LogPages.f k a0 a1) (impl_LogPages.f (k + 1) a0 a1) := fun _ _ _ _ h => h
theorem impl_LogPages.calls (k : Nat) (A0 : Option Addr) (c0 : Nat) (l0 : List S41) (a1 : Int) (r : List Int) (w : World) (hr0 : Kd.C k41 w A0 l0.length l0) (hc0 : l0.length ≤ c0) (h : impl_LogPages.f k l0 a1 = some r) :
    Calls Try.prog 73 #[.slice A0 l0.length c0, .int .i64 a1] w fun e w' => ∃ v0_ : Value, e = .returned (v0_) ∧ Z (Kd.int .i64) 3 w' w.heap.size (fun _ => True) v0_ r ∧ Below w.heap.size w w' := by
  obtain rfl : pagesB l0 a1 = r := Option.some.inj h
  clear h
  have HC := Aside0.mk hr0
  have HC0 := Aside0.mk hc0
  have hl := hr0.2.1
  have HK := Aside0.mk (impl_LogOk_k l0 hl (3 * l0.length + 5) (by omega))
  clear hr0 hc0
  by_cases ok : logOkB l0 = true
  · have HP := Aside0.mk (pagesOf_k l0 ok a1 0 (l0.length + 1) (by omega))
    have HL := Aside0.mk (pagesC_len l0 a1)
    have HS := Aside0.mk (pagesB_sort l0 a1 ok)
    have hlen := logOk_len ok
    have hk2 := HK.out
    rw [ok] at hk2
    have HK2 := Aside0.mk hk2
    clear hk2 HK ok
    go_enter Try.func73, Try.ntmps73
    go_wp2_with fail
    refine (impl_LogOk.calls _ A0 c0 l0 true _ HC.out HC0.out HK2.out).mono ?_
    rintro e w1 ⟨rfl, hb⟩
    have HB1 := Aside0.mk hb
    clear hb
    go_wp2_with fail
    refine (pagesOf_calls _ A0 c0 l0 a1 0 _ _ (Kd.C_below HC.out HB1.out) HC0.out (by have := HL.out; omega) HP.out).mono ?_
    rintro e w2 ⟨v, rfl, hz, hb⟩
    have HB2 := Aside0.mk (below_then HB1.out HB1.out.size hb)
    have HZ := Aside0.mk (Z_lower hz HB1.out.size)
    clear hz hb
    go_wp2_with fail
    go_ret
    exact ⟨_, rfl, by rw [HS.out]; exact HZ.out, HB2.out⟩
  · have ok2 : logOkB l0 = false := by simpa using ok
    have hp : pagesB l0 a1 = [] := by unfold pagesB; rw [if_neg ok]
    have hk2 := HK.out
    rw [ok2] at hk2
    have HK2 := Aside0.mk hk2
    rw [hp]
    clear hk2 HK ok ok2 hp
    go_enter Try.func73, Try.ntmps73
    go_wp2_with fail
    refine (impl_LogOk.calls _ A0 c0 l0 false _ HC.out HC0.out HK2.out).mono ?_
    rintro e w1 ⟨rfl, hb⟩
    have HB1 := Aside0.mk hb
    clear hb
    go_wp2_with fail
    go_ret
    exact ⟨_, rfl, Z_of_R (Kd.R_nil _ _ _ _ _), HB1.out⟩
end Go.Proofs.Ytcefiblpnegepaa.Pr
