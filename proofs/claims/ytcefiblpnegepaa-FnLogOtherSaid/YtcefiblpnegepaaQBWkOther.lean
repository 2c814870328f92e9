import Derived.Test.YtcefiblpnegepaaQBByq
import Derived.Test.YtcefiblpnegepaaQBLChainP
import Derived.Test.YtcefiblpnegepaaQBLLastP
import Derived.Test.YtcefiblpnegepaaQBPgP
import Derived.Test.YtcefiblpnegepaaQBPuLog
import Derived.Test.YtcefiblpnegepaaQBPrLawDR
namespace Go.Proofs.Ytcefiblpnegepaa.T
open Go.RowKit Go.PW Go.Proofs.Ytcefiblpnegepaa.Pr
set_option linter.unusedSimpArgs false
set_option linter.unusedVariables false
theorem Qx {l : List Rc} (h : Yz l = true) (hl : l.length < 150) (t p : Int) (ht : 1 ≤ t ∧ t ≤ 3) (hp : 0 ≤ p ∧ p ≤ 4) : Yz (l ++ [⟨1, t, p, 0, 0, 1, lastB l t, 0⟩]) = true := by
  have hn := Jq l t; have h0 := Dc l t; refine Et h _ hl ?_; rw [Eu]; have h1 : inB t 1 3 = true := Fg.mpr ht; have h2 : inB (lastB l t) 0 150 = true := Fg.mpr (by omega); have h3 : inB p 0 4 = true := Fg.mpr hp; have h4 : inB 0 0 2 = true := Fg.mpr (by omega); have h5 : inB 0 0 9 = true := Fg.mpr (by omega); have h6 : inB 1 0 9 = true := Fg.mpr (by omega)
  simp [Vl, h1, h2, h3, h4, h5, h6]
theorem Ex {l : List Rc} (x : Rc) (a : Int) (h : x.f1 ≠ a) : lastB (l ++ [x]) a = lastB l a := by rw [GK, if_neg h]
theorem TV {l : List Rc} (h : Yz l = true) (x : Rc) (a : Int) (hx : x.f1 ≠ a) (h2 : Yz (l ++ [x]) = true) : JI (l ++ [x]) a = JI l a := by
  have hn := Jq l a
  unfold JI
  rw [if_pos h, if_pos h2, Ex x a hx, PH h x _ _ hn]; exact TU h _ _ _ (by rw [List.length_append]; omega) hn hn
theorem OT {l : List Rc} (h : Yz l = true) (a : Int) : Dr l a = (JI l a).map (Gw l) := by
  unfold Dr JI
  rw [if_pos h]
theorem XaC {l : List Rc} (h : Yz l = true) (x : Rc) (a : Int) (hx : x.f1 ≠ a) (h2 : Yz (l ++ [x]) = true) : Dh (l ++ [x]) a = Dh l a := by
  have e : Dr (l ++ [x]) a = Dr l a := by
    rw [OT h, OT h2, TV h x a hx h2]
    refine List.map_congr_left fun y hy => ?_
    have hm : 1 ≤ y ∧ y ≤ (l.length : Int) := by
      unfold JI at hy
      rw [if_pos h] at hy; exact MF h l.length (lastB l a) (Dc _ _) (Jq _ _) (Nat.le_refl _) y hy
    unfold Gw
    rw [XaB l x _ (by omega) (by omega)]
  unfold Dh
  rw [if_pos h, if_pos h2, e]
theorem KZ {x : List Rc} (hx : x.length ≤ 152) (l1 : List Int) (t : Int) (b : Bool) (hb : b = false → Yz x = true ∧ (1 ≤ t ∧ t ≤ 3) ∧ x.length ≠ 150) : Xm.j1 5999 l1 x t (JI x t) b = some true := by
  have hcl := MB x t; rw [show (5999 : Nat) = 5998 + 1 from rfl, Xm.j1]
  cases b
  · obtain ⟨ok, ht, h150⟩ := hb rfl
    have hlen := VN ok; have hm := Int.tmod_lt_of_pos t (show (0 : Int) < 3 by omega); have hm0 := Int.tmod_nonneg 3 (show 0 ≤ t by omega); have hw : wrap64 (Int.tmod t 3 + 1) = Int.tmod t 3 + 1 := M7 hm0 (by omega)
    have hne : Int.tmod t 3 + 1 ≠ t := by
      have h3 : t = 1 ∨ t = 2 ∨ t = 3 := by omega
      rcases h3 with rfl | rfl | rfl <;> decide
    obtain ⟨u, hu⟩ : ∃ u, Int.tmod t 3 + 1 = u := ⟨_, rfl⟩
    rw [hu] at hne; have hp0 := Int.emod_nonneg (l1.length : Int) (show (5 : Int) ≠ 0 by omega); have hp1 := Int.emod_lt_of_pos (l1.length : Int) (show (0 : Int) < 5 by omega)
    obtain ⟨p, hp⟩ : ∃ p, (l1.length : Int) % 5 = p := ⟨_, rfl⟩
    rw [hp] at hp0 hp1; have hok := Qx ok (by omega) u p (by omega) ⟨hp0, by omega⟩; have hch := TV ok (⟨1, u, p, 0, 0, 1, lastB x u, 0⟩ : Rc) t hne hok; have hpg := XaC ok (⟨1, u, p, 0, 0, 1, lastB x u, 0⟩ : Rc) t hne hok; have hls := Ex (l := x) (⟨1, u, p, 0, 0, 1, lastB x u, 0⟩ : Rc) t hne; rw [if_neg (by simp), hw, hu, hp, Option.bind_some, if_pos zb151, Option.bind_some, List.nil_append, F7 x u (by omega) 5998 (by omega), Option.bind_some, if_pos ok, if_pos (by omega), Option.bind_some]
    obtain ⟨X, hX⟩ : ∃ X : List Rc, x ++ [⟨1, u, p, 0, 0, 1, lastB x u, 0⟩] = X := ⟨_, rfl⟩
    have hXl : X.length = x.length + 1 := by rw [← hX]; simp
    rw [hX] at hok hch hpg hls ⊢; have hpl := PG x t
    unfold Xt.f
    rw [Df X (by omega) 5998 (by omega), Option.bind_some, hok, if_pos rfl, Fe X t (by omega) 5998 (by omega), Option.bind_some, hch, Gy _ (by omega) 5998 (by omega), Option.bind_some, if_pos rfl, F7 X t (by omega) 5998 (by omega), Option.bind_some, if_pos hok, F7 x t (by omega) 5998 (by omega), Option.bind_some, if_pos ok, if_pos hls, Option.bind_some, Option.bind_some, hpg, Gy _ (by omega) 5998 (by omega)]
    rfl
  · rw [if_pos rfl, Gt x t (by omega) 5998 (by omega), Option.bind_some, Gy _ (by omega) 5998 (by omega)]
    rfl
theorem Ey (l l1 : List Int) (hby : Bytes l) (hby1 : Bytes l1) : ∃ k, Xm.f k l l1 = some true := by
  refine ⟨6000, ?_⟩
  have key : ∀ b, Xm.j0 6000 l l1 b = some true := by
    intro b; rw [show (6000 : Nat) = 5999 + 1 from rfl, Xm.j0]
    cases b
    · obtain ⟨x, t, e, hx⟩ := Nu l hby 5999 (by omega)
      have hcl := MB x t; have h1 := Fe x t (by omega) 5999 (by omega); have h2 := Gt x t (by omega) 5999 (by omega); have h3 := Fq x (by omega) 5999 (by omega); have h4 := Gy (JI x t) (by omega) 5999 (by omega); rw [if_neg (by simp)]
      unfold Z5.f
      simp only [e, h1, h2, h3, h4, Option.bind_some, if_true]
      cases ok : Yz x with
      | false =>
        rw [if_neg (by simp)]
        exact KZ (by omega) l1 t true (fun h => by simp at h)
      | true =>
        rw [if_pos rfl]
        split
        · exact KZ (by omega) l1 t true (fun h => by simp at h)
        split
        · exact KZ (by omega) l1 t true (fun h => by simp at h)
        · exact KZ (by omega) l1 t _ (fun hb => ⟨ok, by omega, fun h150 => by rw [h150] at hb; simp at hb⟩)
    · rw [if_pos rfl]
  unfold Xm.f
  split
  · exact key _
  · exact key _
end Go.Proofs.Ytcefiblpnegepaa.T
namespace Go.Proofs.Ytcefiblpnegepaa.T
open Go.RowKit Go.PW Go.Proofs.Ytcefiblpnegepaa.Pr
set_option linter.unusedVariables false
theorem Rv (A : Option Addr) (c : Nat) (l : List Int) (A1 : Option Addr) (c1 : Nat) (l1 : List Int) (w : World) (hc : l.length ≤ c) (hC : Kd.C (Kd.int .u8) w A l.length l) (hby : Bytes l) (hc1 : l1.length ≤ c1) (hC1 : Kd.C (Kd.int .u8) w A1 l1.length l1) (hby1 : Bytes l1) :
    Calls Try.prog 22 #[.slice A l.length c, .slice A1 l1.length c1] w fun e w' => e = .returned (.bool true) ∧ Below w.heap.size w w' := by
  obtain ⟨k, h⟩ := Ey l l1 hby hby1; exact Xm.calls k A c l A1 c1 l1 true w hC hc hC1 hc1 h ⟨rfl⟩
end Go.Proofs.Ytcefiblpnegepaa.T
