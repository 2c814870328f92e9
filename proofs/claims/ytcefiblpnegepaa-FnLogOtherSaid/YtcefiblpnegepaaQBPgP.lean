import Derived.Test.YtcefiblpnegepaaQBByq
import Derived.Test.YtcefiblpnegepaaQBLChainP
import Derived.Test.YtcefiblpnegepaaQBPagesOf
import Derived.Test.YtcefiblpnegepaaQBPrSLP
namespace Go.Proofs.Ytcefiblpnegepaa.T
open Go.RowKit Go.PW Go.Proofs.Ytcefiblpnegepaa.Pr
set_option linter.unusedSimpArgs false
set_option linter.unusedVariables false
theorem Qu {k tx p s o n pv nx : Int} (h : Vl k tx p s o n pv nx = true) : 0 ≤ p ∧ p < 5 := by
  unfold Vl at h
  simp only [Bool.and_eq_true] at h; obtain ⟨⟨h1, _⟩, _⟩ := h
  have key : ∀ x : Int, inB x 0 4 = true → 0 ≤ x ∧ x < 5 := fun x hx => by
    have := Fg.mp hx; omega
  split at h1
  · simp only [Bool.and_eq_true] at h1
    exact key _ h1.1.1.1.1
  · split at h1
    · simp only [Bool.and_eq_true] at h1
      exact key _ h1.1.1.1.1
    · split at h1
      · simp only [Bool.and_eq_true] at h1
        exact key _ h1.1.1.1.1
      · split at h1
        · simp only [Bool.and_eq_true, beq_iff_eq] at h1
          have := h1.1.1.1.1; omega
        · split at h1
          · simp only [Bool.and_eq_true] at h1
            exact key _ h1.1.1.1.1
          · exact absurd h1 (by simp)
theorem Xk6 {l : List S41} (h : Yz l = true) (i : Nat) (hi : i < l.length) : ZT l i = true := by
  unfold Yz at h
  simp only [Bool.and_eq_true, List.all_eq_true] at h; exact h.2 i (by simpa using hi)
def Gw (l : List S41) (n : Int) : Int := (Xa l (n - 1)).f2
theorem XdV {l : List S41} (h : Yz l = true) (j : Nat) (hj : j < l.length) : 0 ≤ Gw l ((j : Int) + 1) ∧ Gw l ((j : Int) + 1) < 5 := by
  have h1 := Xk6 h j hj
  unfold ZT at h1
  simp only [Bool.and_eq_true] at h1; have h2 := Qu h1.1.1.1
  unfold Gw
  rw [show (j : Int) + 1 - 1 = (j : Int) by omega]; exact h2
theorem MF {l : List S41} (ok : Yz l = true) : ∀ (n : Nat) (x : Int), 0 ≤ x → x ≤ (n : Int) → n ≤ l.length → ∀ y ∈ chainB l n x, 1 ≤ y ∧ y ≤ (l.length : Int)
  | 0, x, _, _, _, y, hy => by simp [chainB] at hy
  | n + 1, x, h0, h1, hn, y, hy => by
    rw [chainB] at hy
    by_cases hx : 0 < x
    · rw [if_pos hx] at hy
      rcases List.mem_cons.mp hy with rfl | hy
      · omega
      · obtain ⟨j, rfl⟩ : ∃ j : Nat, x = (j : Int) + 1 := ⟨(x - 1).toNat, by omega⟩
        have e : (j : Int) + 1 - 1 = (j : Int) := by omega
        rw [e] at hy; have b := Vq ok j (by omega); exact MF ok n _ b.1 (by omega) (by omega) y hy
    · rw [if_neg hx] at hy
      simp at hy
def Dr (l : List S41) (a : Int) : List Int := (chainB l l.length (lastB l a)).map (Gw l)
def Dh (l : List S41) (a : Int) : List Int := if Yz l = true then ([0, 1, 2, 3, 4] : List Int).filter (fun p => (Dr l a).any (fun x => x == p)) else []
theorem XbA (l : List S41) (a : Int) : (Dr l a).length ≤ l.length := by
  unfold Dr
  rw [List.length_map]; exact Sk _ _ _
theorem PG (l : List S41) (a : Int) : (Dh l a).length ≤ 5 := by
  unfold Dh
  split
  · exact Nat.le_trans (List.length_filter_le _ _) (by simp)
  · simp
theorem Xa5 (l : List S41) (a : Int) (ok : Yz l = true) : Dh l a = BZ (Dr l a) := by
  unfold Dh
  rw [if_pos ok, XgY]; intro x hx
  unfold Dr at hx
  obtain ⟨y, hy, rfl⟩ := List.mem_map.mp hx; have hb := MF ok l.length (lastB l a) (Dc _ _) (Jq _ _) (Nat.le_refl _) y hy
  obtain ⟨j, rfl⟩ : ∃ j : Nat, y = (j : Int) + 1 := ⟨(y - 1).toNat, by omega⟩
  exact XdV ok j (by omega)
theorem Xdn (l : List S41) (ok : Yz l = true) (p : Int) : ∀ (n k : Nat) (x : Int), 0 ≤ x → x ≤ (n : Int) → n ≤ l.length → n < k → YK.l0 k l p x = some (((chainB l n x).map (Gw l)).any (fun y => y == p))
  | 0, k + 1, x, h0, h1, _, _ => by
    rw [YK.l0, if_neg (by omega)]
    simp [chainB]
  | n + 1, k + 1, x, h0, h1, hn, hk => by
    rw [YK.l0, chainB]
    by_cases hx : 0 < x
    · have hlen := VN ok
      obtain ⟨j, rfl⟩ : ∃ j : Nat, x = (j : Int) + 1 := ⟨(x - 1).toNat, by omega⟩
      have e : (j : Int) + 1 - 1 = (j : Int) := by omega
      have b := Vq ok j (by omega); rw [if_pos hx, if_pos hx, e, T.wrap_small (by omega) (by omega), if_pos (by omega), if_pos (by omega), Xdn l ok p n k _ b.1 (by omega) (by omega) (by omega)]; rw [List.map_cons, List.any_cons]
      have e2 : Gw l ((j : Int) + 1) = (Xa l (j : Int)).f2 := by unfold Gw; rw [e]
      rw [e2]
      by_cases hp : (Xa l (j : Int)).f2 = p
      · rw [if_pos hp]
        simp [hp]
      · rw [if_neg hp]
        simp [hp]
    · rw [if_neg hx, if_neg hx]
      simp
theorem Xk7 (l : List S41) (ok : Yz l = true) (a p : Int) (hl : l.length ≤ 9223372036854775807) (k : Nat) (hk : l.length < k) : YK.f k l a p = some ((Dr l a).any (fun y => y == p)) := by
  unfold YK.f
  rw [NJ l a hl k hk, Option.bind_some]; exact Xdn l ok p l.length k _ (Dc _ _) (Jq _ _) (Nat.le_refl _) hk
theorem Eb (l : List S41) (ok : Yz l = true) (a : Int) (hl : l.length ≤ 9223372036854775807) : ∀ (d k i : Nat) (acc : List Int), i + d = 5 → d + l.length < k → acc.length ≤ i → XP.l0 k l a acc (i : Int) = some (acc ++ (([0, 1, 2, 3, 4] : List Int).drop i).filter (fun p => (Dr l a).any (fun x => x == p)))
  | 0, k + 1, i, acc, hi, hk, ha => by
    rw [XP.l0, if_neg (by omega)]
    obtain rfl : i = 5 := by omega
    simp
  | d + 1, k + 1, i, acc, hi, hk, ha => by
    have hi5 : i < 5 := by omega
    rw [XP.l0, if_pos (by omega), Xk7 l ok a i hl k (by omega), Option.bind_some, T.wrap_small (by omega) (by omega)]
    have e : (i : Int) + 1 = ((i + 1 : Nat) : Int) := by omega
    have hd : (([0, 1, 2, 3, 4] : List Int).drop i) = (i : Int) :: ([0, 1, 2, 3, 4] : List Int).drop (i + 1) := by
      have h5 : i = 0 ∨ i = 1 ∨ i = 2 ∨ i = 3 ∨ i = 4 := by omega
      rcases h5 with rfl | rfl | rfl | rfl | rfl <;> rfl
    rw [hd, List.filter_cons, e]
    by_cases h : (Dr l a).any (fun x => x == (i : Int)) = true
    · rw [if_pos h, if_pos h, if_pos (by omega), Eb l ok a hl d k (i + 1) _ (by omega) (by omega) zb151]
      simp
    · rw [if_neg h, if_neg h, Eb l ok a hl d k (i + 1) _ (by omega) (by omega) (by omega)]
theorem Xa6 (l : List S41) (a : Int) (hl : l.length ≤ 9223372036854775807) (k : Nat) (hk : 3 * l.length + 10 < k) : XP.f k l a = some (Dh l a) := by
  unfold XP.f Dh
  rw [Option.bind_some, Fq l hl k (by omega), Option.bind_some]
  by_cases ok : Yz l = true
  · rw [if_pos ok, if_pos ok]
    have h := Eb l ok a hl 5 k 0 [] (by omega) (by omega) (by simp)
    simpa using h
  · rw [if_neg ok, if_neg ok]
theorem O5 (l : List S41) (ok : Yz l = true) : ∀ (n k : Nat) (x : Int) (acc : List Int), 0 ≤ x → x ≤ (n : Int) → n ≤ l.length → n < k → acc.length + n ≤ 150 → YD.l0 k l acc x = some (acc ++ chainB l n x)
  | 0, k + 1, x, acc, h0, h1, _, _, _ => by
    rw [YD.l0, if_pos (by omega)]
    simp [chainB]
  | n + 1, k + 1, x, acc, h0, h1, hn, hk, ha => by
    rw [YD.l0, chainB]
    by_cases hx : 0 < x
    · have hlen := VN ok
      obtain ⟨j, rfl⟩ : ∃ j : Nat, x = (j : Int) + 1 := ⟨(x - 1).toNat, by omega⟩
      have e : (j : Int) + 1 - 1 = (j : Int) := by omega
      have b := Vq ok j (by omega); rw [if_neg (by omega), if_pos hx, e, T.wrap_small (by omega) (by omega), if_pos (by omega), if_pos (by omega), if_pos (by omega), O5 l ok n k _ _ b.1 (by omega) (by omega) (by omega) zb151]
      simp
    · rw [if_pos (by omega), if_neg hx]
      simp
theorem O6 (l : List S41) (hl : l.length ≤ 150) (cl : List Int) (hcl : cl.length ≤ 150) (hm : ∀ y ∈ cl, 1 ≤ y ∧ y ≤ (l.length : Int)) : ∀ (d k i : Nat) (acc : List Int), i + d = cl.length → d < k → acc.length ≤ i → Zy.l0 k l acc cl (cl.length : Int) (i : Int) = some (acc ++ (cl.drop i).map (Gw l))
  | 0, k + 1, i, acc, hi, hk, ha => by
    rw [Zy.l0, if_neg (by omega), List.drop_of_length_le (by omega)]
    simp
  | d + 1, k + 1, i, acc, hi, hk, ha => by
    have e := WL (l := cl) (i := i) (by omega)
    have hy := hm (rd cl i) (by
      have : rd cl i ∈ cl.drop i := by rw [e]; simp
      exact List.mem_of_mem_drop this)
    have w1 : wrap64 (rd cl i - 1) = rd cl i - 1 := T.wrap_small (by omega) (by omega); rw [Zy.l0, if_pos (by omega), if_pos (by omega), if_pos (by omega), w1, if_pos (by omega), if_pos (by omega), if_pos (by omega), T.wrap_small (by omega) (by omega), show (i : Int) + 1 = ((i + 1 : Nat) : Int) by omega, O6 l hl cl hcl hm d k (i + 1) _ (by omega) (by omega) zb151, e]
    simp [Gw]
theorem XdW (l : List S41) (ok : Yz l = true) (a b : Int) (k : Nat) (hk : l.length < k) : Zy.f k l a b = some (Dr l a) := by
  have hlen := VN ok
  unfold Zy.f YD.f JQ.f
  simp only [Option.bind_some]; rw [O5 l ok l.length k _ _ (Dc _ _) (Jq _ _) (by omega) hk (by simpa using hlen)]; simp only [Option.bind_some, List.nil_append]; have hc := Sk l l.length (lastB l a); have h := O6 l hlen (chainB l l.length (lastB l a)) (by omega) (MF ok l.length (lastB l a) (Dc _ _) (Jq _ _) (Nat.le_refl _)) (chainB l l.length (lastB l a)).length k 0 [] (by omega) (by omega) (by simp)
  simpa [Dr] using h
end Go.Proofs.Ytcefiblpnegepaa.T
namespace Go.Proofs.Ytcefiblpnegepaa.Pr
open Go.RowKit Go.PW Go.PL Go.PM Go.Proofs.Ytcefiblpnegepaa.T
set_option linter.unusedSimpArgs false
set_option linter.unusedVariables false
def Xt.f (k : Nat) (l0 : List S41) (a1 : Int) : Option (List Int) := some (Dh l0 a1)
theorem Xt.calls (k : Nat) (A0 : Option Addr) (c0 : Nat) (l0 : List S41) (a1 : Int) (r : List Int) (w : World) (hr0 : Kd.C k41 w A0 l0.length l0) (hc0 : l0.length ≤ c0) (h : Xt.f k l0 a1 = some r) :
    Calls Try.prog 73 #[.slice A0 l0.length c0, .int .i64 a1] w fun e w' => ∃ v0_ : Value, e = .returned (v0_) ∧ Z (Kd.int .i64) 3 w' w.heap.size (fun _ => True) v0_ r ∧ Below w.heap.size w w' := by
  obtain rfl : Dh l0 a1 = r := Option.some.inj h; clear h; have HC := zz hr0; have HC0 := zz hc0; have hl := hr0.2.1; have HK := zz (Df l0 hl (3 * l0.length + 5) (by omega)); clear hr0 hc0
  by_cases ok : Yz l0 = true
  · have HP := zz (XdW l0 ok a1 0 (l0.length + 1) (by omega))
    have HL := zz (XbA l0 a1); have HS := zz (Xa5 l0 a1 ok); have hlen := VN ok; have hk2 := HK.out; rw [ok] at hk2; have HK2 := zz hk2; clear hk2 HK ok
    go_enter Try.func73, Try.ntmps73
    go_wp2_with fail
    refine (Xw.calls _ A0 c0 l0 true _ HC.out HC0.out HK2.out).mono ?_; rintro e w1 ⟨rfl, hb⟩; have HB1 := zz hb; clear hb
    go_wp2_with fail
    refine (EX _ A0 c0 l0 a1 0 _ _ (Kd.Vp HC.out HB1.out) HC0.out (by have := HL.out; omega) HP.out).mono ?_; rintro e w2 ⟨v, rfl, hz, hb⟩; have HB2 := zz (Yo HB1.out HB1.out.size hb); have HZ := zz (KU hz HB1.out.size); clear hz hb
    go_wp2_with fail
    go_ret
    exact ⟨_, rfl, by rw [HS.out]; exact HZ.out, HB2.out⟩
  · have ok2 : Yz l0 = false := by simpa using ok
    have hp : Dh l0 a1 = [] := by unfold Dh; rw [if_neg ok]
    have hk2 := HK.out; rw [ok2] at hk2; have HK2 := zz hk2; rw [hp]; clear hk2 HK ok ok2 hp
    go_enter Try.func73, Try.ntmps73
    go_wp2_with fail
    refine (Xw.calls _ A0 c0 l0 false _ HC.out HC0.out HK2.out).mono ?_; rintro e w1 ⟨rfl, hb⟩; have HB1 := zz hb; clear hb
    go_wp2_with fail
    go_ret
    exact ⟨_, rfl, Xpq (Kd.Xau _ _ _ _ _), HB1.out⟩
end Go.Proofs.Ytcefiblpnegepaa.Pr
