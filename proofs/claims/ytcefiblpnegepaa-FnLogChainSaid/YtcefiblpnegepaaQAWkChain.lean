import Derived.Test.YtcefiblpnegepaaQAByq
import Derived.Test.YtcefiblpnegepaaQALOpenP
import Derived.Test.YtcefiblpnegepaaQALLastP
import Derived.Test.YtcefiblpnegepaaQAPrLC2
import Derived.Test.YtcefiblpnegepaaQAPrLawDH
import Derived.Test.YtcefiblpnegepaaQAPuLog
namespace Go.Proofs.Ytcefiblpnegepaa.T
open Go.RowKit Go.PW Go.Proofs.Ytcefiblpnegepaa.Pr
set_option linter.unusedSimpArgs false
set_option linter.unusedVariables false
theorem Lt (l : List S41) (ok : YW l = true) : ∀ (n k : Nat) (x : Int) (acc : List Int), 0 ≤ x → x ≤ (n : Int) → n ≤ l.length → n < k → acc.length + n ≤ 150 → XU.l0 k l acc x = some (acc ++ chainB l n x)
  | 0, k + 1, x, acc, h0, h1, _, _, _ => by
    rw [XU.l0, if_neg (by omega)]
    simp [chainB]
  | n + 1, k + 1, x, acc, h0, h1, hn, hk, ha => by
    rw [XU.l0, chainB]
    by_cases hx : 0 < x
    · have hlen := G9 ok
      obtain ⟨j, rfl⟩ : ∃ j : Nat, x = (j : Int) + 1 := ⟨(x - 1).toNat, by omega⟩
      have e : (j : Int) + 1 - 1 = (j : Int) := by omega
      have b := Di ok j (by omega); rw [if_pos hx, if_pos hx, e, T.wrap_small (by omega) (by omega), if_pos (by omega), if_pos (by omega), if_pos (by omega), Lt l ok n k _ _ b.1 (by omega) (by omega) (by omega) zb153]
      simp
    · rw [if_neg hx, if_neg hx]
      simp
theorem Lu (l : List S41) (ok : YW l = true) : ∀ (n k : Nat) (x : Int) (acc : List Int), 0 ≤ x → x ≤ (n : Int) → n ≤ l.length → n < k → acc.length + n ≤ 150 → Zr.l0 k l acc x = some (acc ++ chainB l n x)
  | 0, k + 1, x, acc, h0, h1, _, _, _ => by
    rw [Zr.l0, if_pos (by omega)]
    simp [chainB]
  | n + 1, k + 1, x, acc, h0, h1, hn, hk, ha => by
    rw [Zr.l0, chainB]
    by_cases hx : 0 < x
    · have hlen := G9 ok
      obtain ⟨j, rfl⟩ : ∃ j : Nat, x = (j : Int) + 1 := ⟨(x - 1).toNat, by omega⟩
      have e : (j : Int) + 1 - 1 = (j : Int) := by omega
      have b := Di ok j (by omega); rw [if_neg (by omega), if_pos hx, e, T.wrap_small (by omega) (by omega), if_pos (by omega), if_pos (by omega), if_pos (by omega), Lu l ok n k _ _ b.1 (by omega) (by omega) (by omega) zb153]
      simp
    · rw [if_pos (by omega), if_neg hx]
      simp
def Ny (l : List S41) (a : Int) : List Int := if YW l = true then chainB l l.length (lastB l a) else []
theorem XbT (l : List S41) (a : Int) : (Ny l a).length ≤ l.length := by
  unfold Ny
  split
  · exact ER _ _ _
  · simp
theorem WL (l : List S41) (a : Int) (hl : l.length ≤ 9223372036854775807) (k : Nat) (hk : 3 * l.length + 4 < k) : XU.f k l a = some (Ny l a) := by
  unfold XU.f Ny
  rw [VB l hl k hk]; simp only [Option.bind_some]
  by_cases ok : YW l = true
  · have hlen := G9 ok
    rw [if_pos ok, if_pos ok, NI l a hl k (by omega)]; simp only [Option.bind_some]; rw [Lt l ok l.length k _ _ (Mi _ _) (VK _ _) (by omega) (by omega) (by simpa using hlen)]
    simp
  · rw [if_neg ok, if_neg ok]
theorem ES (l : List S41) (a : Int) (hl : l.length ≤ 9223372036854775807) (k : Nat) (hk : 3 * l.length + 4 < k) : Vh.f k l a = some (Ny l a) := by
  unfold Vh.f Ny
  rw [Vb l hl k hk]; simp only [Option.bind_some]
  by_cases ok : YW l = true
  · have hlen := G9 ok
    rw [if_pos ok, if_pos ok]
    unfold Zr.f Jv.f
    simp only [Option.bind_some]; rw [Lu l ok l.length k _ _ (Mi _ _) (VK _ _) (by omega) (by omega) (by simpa using hlen)]
    simp
  · rw [if_neg ok, if_neg ok]
end Go.Proofs.Ytcefiblpnegepaa.T
namespace Go.Proofs.Ytcefiblpnegepaa.T
open Go.RowKit Go.PW Go.Proofs.Ytcefiblpnegepaa.Pr
set_option linter.unusedSimpArgs false
set_option linter.unusedVariables false
def Own (l : List Rc) (a x : Int) : Prop := 0 < x → (Xa l (x - 1)).f1 = a ∧ (Xa l (x - 1)).f0 ≠ 4 ∧ (Xa l (x - 1)).f0 ≠ 5
theorem XhF {l : List Rc} (h : YW l = true) (a : Int) (j : Nat) (hj : j < l.length) (hx : Own l a ((j : Int) + 1)) : Own l a (Xa l (j : Int)).f6 := by
  intro h0; have e := TU (LC h j hj); have hb := Di h j hj; have h1 := (hx (by omega)).1; rw [show (j : Int) + 1 - 1 = (j : Int) by omega] at h1; have hr := IE (l := l.take j) (t := (Xa l (j : Int)).f1) (by rw [← e]; exact h0); rw [← e, show Xa (l.take j) ((Xa l (j : Int)).f6 - 1) = Xa l ((Xa l (j : Int)).f6 - 1) from Lr l j _ (by omega) (by omega)] at hr; rw [h1] at hr; exact hr
theorem Ol {l : List Rc} (h : YW l = true) (hl : l.length ≤ 152) (a : Int) (c : List Int) (hc : c.length ≤ 152) : ∀ (n k i : Nat) (x : Int), 0 ≤ x → x ≤ (n : Int) → x ≤ (l.length : Int) → Own l a x → c.drop i = chainB l n x → i ≤ c.length → n < k → X0.l0 k l a c x (i : Int) = some true
  | 0, k + 1, i, x, h0, hx, hxl, ho, hd, hi, hk => by
    have hlen : c.length ≤ i := by
      have := congrArg List.length hd; rw [List.length_drop] at this
      simp [chainB] at this
      omega
    rw [X0.l0, if_neg (by omega)]
    have : x = 0 := by omega
    simp [this]
  | n + 1, k + 1, i, x, h0, hx, hxl, ho, hd, hi, hk => by
    rw [X0.l0]; rw [chainB] at hd
    by_cases hpos : 0 < x
    · obtain ⟨j, rfl⟩ := M5 hpos
      rw [if_pos hpos, show (j : Int) + 1 - 1 = (j : Int) by omega] at hd
      have hlt : i < c.length := by
        rcases Nat.lt_or_ge i c.length with q | q
        · exact q
        · rw [List.drop_of_length_le q] at hd
          cases hd
      rw [L6 hlt] at hd
      injection hd with hd1 hd2
      have b := Di h j (by omega); have hr := ho hpos; rw [show (j : Int) + 1 - 1 = (j : Int) by omega] at hr; rw [if_pos (by omega), if_pos (by omega), hd1, XbJ (by omega), if_pos (by omega), if_pos (by omega), if_pos rfl, if_pos hr.1, if_neg hr.2.1, if_neg hr.2.2, Mj (by omega) (by omega)]; exact Ol h hl a c hc n k (i + 1) _ b.1 (by omega) (by omega) (XhF h a j (by omega) ho) hd2 (by omega) (by omega)
    · rw [if_neg hpos] at hd
      have hlen : c.length ≤ i := by
        have := congrArg List.length hd; rw [List.length_drop] at this
        simp at this
        omega
      rw [if_neg (by omega)]
      have : x = 0 := by omega
      simp [this]
theorem Om (l : List Int) (hby : Bytes l) : ∃ k, X0.f k l = some true := by
  refine ⟨6000, ?_⟩
  unfold X0.f
  split
  · rfl
  obtain ⟨x, t, e, hx⟩ := Nu l hby 6000 (by omega); have hcl := XbT x t; have h1 := ES x t (by omega) 6000 (by omega); have h2 := WL x t (by omega) 6000 (by omega); have h3 := VB x (by omega) 6000 (by omega); have h4 := LD (Ny x t) (by omega) 6000 (by omega)
  unfold JU.f
  simp only [e, h1, h2, h3, h4, Option.bind_some, if_true]; rw [show (6000 : Nat) = 5999 + 1 from rfl, X0.j0]
  cases ok : YW x with
  | false =>
    rw [if_pos (by simp), WL x t (by omega) 5999 (by omega), Option.bind_some, LD (Ny x t) (by omega) 5999 (by omega)]
    rfl
  | true =>
    rw [if_neg (by simp), Uh x t (by omega) 5999 (by omega), Option.bind_some, if_pos ok]; refine Ol ok (by omega) t (Ny x t) (by omega) x.length 5999 0 (lastB x t) (Mi _ _) (VK _ _) (VK _ _) (fun h0 => IE h0) ?_ (by omega) (by omega); rw [List.drop_zero]
    unfold Ny
    rw [if_pos ok]
end Go.Proofs.Ytcefiblpnegepaa.T
namespace Go.Proofs.Ytcefiblpnegepaa.T
open Go.RowKit Go.PW Go.Proofs.Ytcefiblpnegepaa.Pr
set_option linter.unusedVariables false
theorem RZ (A : Option Addr) (c : Nat) (l : List Int) (w : World) (hc : l.length ≤ c) (hC : Kd.C (Kd.int .u8) w A l.length l) (hby : Bytes l) :
    Calls Try.prog 18 #[.slice A l.length c] w fun e w' => e = .returned (.bool true) ∧ Below w.heap.size w w' := by
  obtain ⟨k, h⟩ := Om l hby
  exact X0.calls k A c l true w hC hc h
end Go.Proofs.Ytcefiblpnegepaa.T
