import Derived.Test.YtcefiblpnegepaaQBByq
import Derived.Test.YtcefiblpnegepaaQBLChainP
import Derived.Test.YtcefiblpnegepaaQBLLastP
import Derived.Test.YtcefiblpnegepaaQBPgP
import Derived.Test.YtcefiblpnegepaaQBPuLog
import Derived.Test.YtcefiblpnegepaaQBPrLawDM
namespace Go.Proofs.Ytcefiblpnegepaa.T
open Go.RowKit Go.PW Go.Proofs.Ytcefiblpnegepaa.Pr
set_option linter.unusedSimpArgs false
set_option linter.unusedVariables false
theorem Qx {l : List Rc} (h : Yz l = true) (hl : l.length < 150) (t p : Int) (ht : 1 ≤ t ∧ t ≤ 3) (hp : 0 ≤ p ∧ p ≤ 4) : Yz (l ++ [⟨1, t, p, 0, 0, 1, lastB l t, 0⟩]) = true := by
  have hn := Jq l t; have h0 := Dc l t; refine Et h _ hl ?_; rw [Eu]; have h1 : inB t 1 3 = true := Fg.mpr ht; have h2 : inB (lastB l t) 0 150 = true := Fg.mpr (by omega); have h3 : inB p 0 4 = true := Fg.mpr hp; have h4 : inB 0 0 2 = true := Fg.mpr (by omega); have h5 : inB 0 0 9 = true := Fg.mpr (by omega); have h6 : inB 1 0 9 = true := Fg.mpr (by omega)
  simp [Vl, h1, h2, h3, h4, h5, h6]
theorem Xhn (l : List Rc) (t p : Int) : Yz (l ++ [⟨1, t, p, 0, 0, 1, lastB l t + 1, 0⟩]) = false := by
  refine VO (i := l.length) (by simp) ?_; rw [Eu]; have : (lastB l t + 1 == lastB l t) = false := beq_eq_false_iff_ne.mpr (by omega)
  simp [this]
theorem OQ (l : List Rc) (t p q : Int) : lastB (l ++ [⟨1, t, p, 0, 0, 1, q, 0⟩]) t = (l.length : Int) + 1 := by
  rw [GK, if_pos rfl, if_neg (by simp)]
theorem Ew {l : List Rc} (h : Yz l = true) (t p : Int) (h2 : Yz (l ++ [⟨1, t, p, 0, 0, 1, lastB l t, 0⟩]) = true) : JI (l ++ [⟨1, t, p, 0, 0, 1, lastB l t, 0⟩]) t = ((l.length : Int) + 1) :: JI l t := by
  have hn := Jq l t
  unfold JI
  rw [if_pos h, if_pos h2, OQ, List.length_append, List.length_singleton, chainB, if_pos (by omega), show ((l.length : Int) + 1 - 1) = (l.length : Int) by omega, Es, PH h _ _ _ hn]
theorem Xeq {l : List Rc} (h : Yz l = true) (t p : Int) (hp : 0 ≤ p ∧ p ≤ 4) (h2 : Yz (l ++ [⟨1, t, p, 0, 0, 1, lastB l t, 0⟩]) = true) : p ∈ Dh (l ++ [⟨1, t, p, 0, 0, 1, lastB l t, 0⟩]) t := by
  have hc := Ew h t p h2
  have hp5 : p ∈ ([0, 1, 2, 3, 4] : List Int) := by
    have : p = 0 ∨ p = 1 ∨ p = 2 ∨ p = 3 ∨ p = 4 := by omega
    rcases this with rfl | rfl | rfl | rfl | rfl <;> decide
  unfold Dh
  rw [if_pos h2, List.mem_filter]; refine ⟨hp5, ?_⟩
  have e : Dr (l ++ [⟨1, t, p, 0, 0, 1, lastB l t, 0⟩]) t = (JI (l ++ [⟨1, t, p, 0, 0, 1, lastB l t, 0⟩]) t).map (Gw (l ++ [⟨1, t, p, 0, 0, 1, lastB l t, 0⟩])) := by
    unfold Dr JI
    rw [if_pos h2]
  rw [e, hc, List.map_cons, List.any_cons]
  have hpa : Gw (l ++ [⟨1, t, p, 0, 0, 1, lastB l t, 0⟩]) ((l.length : Int) + 1) = p := by
    unfold Gw
    rw [show ((l.length : Int) + 1 - 1) = (l.length : Int) by omega, Es]
  rw [hpa]
  simp
theorem Cc {x : List Rc} (hx : x.length ≤ 152) (l1 : List Int) (t : Int) (b : Bool) (hb : b = false → Yz x = true ∧ (1 ≤ t ∧ t ≤ 3) ∧ x.length ≠ 150) : Xo.j1 5999 l1 x t (JI x t) b = some true := by
  have hcl := MB x t; rw [show (5999 : Nat) = 5998 + 1 from rfl, Xo.j1]
  cases b
  · obtain ⟨ok, ht, h150⟩ := hb rfl
    have hlen := VN ok; have hn := Jq x t; have h0 := Dc x t; have hp0 := Int.emod_nonneg (l1.length : Int) (show (5 : Int) ≠ 0 by omega); have hp1 := Int.emod_lt_of_pos (l1.length : Int) (show (0 : Int) < 5 by omega)
    obtain ⟨p, hp⟩ : ∃ p, (l1.length : Int) % 5 = p := ⟨_, rfl⟩
    rw [hp] at hp0 hp1; have hok := Qx ok (by omega) t p ht ⟨hp0, by omega⟩; have hbad := Xhn x t p; have hls := OQ x t p (lastB x t); have hch := Ew ok t p hok; have hpg := Xeq ok t p ⟨hp0, by omega⟩ hok; rw [if_neg (by simp), hp, Option.bind_some, if_pos zb151, Option.bind_some, List.nil_append, F7 x t (by omega) 5998 (by omega), Option.bind_some, if_pos ok, if_pos (by omega), Option.bind_some, Option.bind_some, if_pos zb151, Option.bind_some, Option.bind_some, if_pos zb151, List.nil_append, M7 h0 (by omega)]
    obtain ⟨Y, hY⟩ : ∃ Y : List Rc, x ++ [⟨1, t, p, 0, 0, 1, lastB x t + 1, 0⟩] = Y := ⟨_, rfl⟩
    have hYl : Y.length = x.length + 1 := by rw [← hY]; simp
    obtain ⟨X, hX⟩ : ∃ X : List Rc, x ++ [⟨1, t, p, 0, 0, 1, lastB x t, 0⟩] = X := ⟨_, rfl⟩
    have hXl : X.length = x.length + 1 := by rw [← hX]; simp
    rw [hX] at hok hch hls hpg ⊢; rw [hY] at hbad ⊢; have hpl := PG X t
    unfold Xt.f
    rw [Df X (by omega) 5998 (by omega), Option.bind_some, hok, if_pos rfl, Df Y (by omega) 5998 (by omega), Option.bind_some, hbad, if_neg (by simp), F7 X t (by omega) 5998 (by omega), Option.bind_some, if_pos hok, hls, if_pos (by omega), Fe X t (by omega) 5998 (by omega), Option.bind_some, Option.bind_some, if_pos zb151, hch]; rw [show ([(X.length : Int)] ++ JI x t) = ((x.length : Int) + 1) :: JI x t by rw [hXl]; simp]; rw [Gy _ zb151 5998 (by omega), Option.bind_some, if_pos rfl, Option.bind_some, XkN _ _ (by omega) 5998 (by omega), decide_eq_true hpg]
    rfl
  · rw [if_pos rfl, Gt x t (by omega) 5998 (by omega), Option.bind_some, Gy _ (by omega) 5998 (by omega)]
    rfl
theorem EZ (l l1 : List Int) (hby : Bytes l) (hby1 : Bytes l1) : ∃ k, Xo.f k l l1 = some true := by
  refine ⟨6000, ?_⟩
  have key : ∀ b, Xo.j0 6000 l l1 b = some true := by
    intro b; rw [show (6000 : Nat) = 5999 + 1 from rfl, Xo.j0]
    cases b
    · obtain ⟨x, t, e, hx⟩ := Nu l hby 5999 (by omega)
      have hcl := MB x t; have h1 := Fe x t (by omega) 5999 (by omega); have h2 := Gt x t (by omega) 5999 (by omega); have h3 := Fq x (by omega) 5999 (by omega); have h4 := Gy (JI x t) (by omega) 5999 (by omega); rw [if_neg (by simp)]
      unfold Z5.f
      simp only [e, h1, h2, h3, h4, Option.bind_some, if_true]
      cases ok : Yz x with
      | false =>
        rw [if_neg (by simp)]
        exact Cc (by omega) l1 t true (fun h => by simp at h)
      | true =>
        rw [if_pos rfl]
        split
        · exact Cc (by omega) l1 t true (fun h => by simp at h)
        split
        · exact Cc (by omega) l1 t true (fun h => by simp at h)
        · exact Cc (by omega) l1 t _ (fun hb => ⟨ok, by omega, fun h150 => by rw [h150] at hb; simp at hb⟩)
    · rw [if_pos rfl]
  unfold Xo.f
  split
  · exact key _
  · exact key _
end Go.Proofs.Ytcefiblpnegepaa.T
namespace Go.Proofs.Ytcefiblpnegepaa.T
open Go.RowKit Go.PW Go.Proofs.Ytcefiblpnegepaa.Pr
set_option linter.unusedVariables false
theorem EB (A : Option Addr) (c : Nat) (l : List Int) (A1 : Option Addr) (c1 : Nat) (l1 : List Int) (w : World) (hc : l.length ≤ c) (hC : Kd.C (Kd.int .u8) w A l.length l) (hby : Bytes l) (hc1 : l1.length ≤ c1) (hC1 : Kd.C (Kd.int .u8) w A1 l1.length l1) (hby1 : Bytes l1) :
    Calls Try.prog 23 #[.slice A l.length c, .slice A1 l1.length c1] w fun e w' => e = .returned (.bool true) ∧ Below w.heap.size w w' := by
  obtain ⟨k, h⟩ := EZ l l1 hby hby1; exact Xo.calls k A c l A1 c1 l1 true w hC hc hC1 hc1 h ⟨rfl⟩
end Go.Proofs.Ytcefiblpnegepaa.T
