import Derived.Test.YtphnphmbfogmlaaGreatQFByq
import Derived.Test.YtphnphmbfogmlaaGreatQFSx
import Derived.Test.YtphnphmbfogmlaaGreatQFPrWith
import Derived.Test.YtphnphmbfogmlaaGreatQFPrCps
import Derived.Test.YtphnphmbfogmlaaGreatQFPrLogA
namespace Go.Proofs.YtphnphmbfogmlaaGreat.T
open Go.RowKit Go.PW Go.PL Go.PM Go.Proofs.YtphnphmbfogmlaaGreat.Pr
open List (setIfInBounds_toArray set_cons_zero set_cons_succ)
set_option linter.unusedSimpArgs false
set_option linter.unusedVariables false
def tf (k : Nat) : Array Bool := ((List.range 35).map fun i => Nat.blt i k).toArray
def N8 (t : Int) : List S76 → Int
 | [] => 0
 | x :: r => if x.f1 = t then (if x.f0 = 4 ∨ x.f0 = 5 then 0 else (r.length : Int) + 1) else N8 t r
def lastB (l : List S76) (t : Int) : Int := N8 t l.reverse
theorem Xfu (l : List S76) (x : S76) (t : Int) : lastB (l ++ [x]) t = if x.f1 = t then (if x.f0 = 4 ∨ x.f0 = 5 then 0 else (l.length : Int) + 1) else lastB l t := by
 unfold lastB
 simp [N8]
theorem XkS (l : List S76) (i : Nat) (h : i < l.length) : l.take (i + 1) = l.take i ++ [Xa l i] := by
 rw [List.take_add_one, List.getElem?_eq_getElem h]
 simp [Xa, List.getD_eq_getElem?_getD, List.getElem?_eq_getElem h]
theorem XR (l : List S76) (i : Nat) (h : i < l.length) (t : Int) : lastB (l.take (i + 1)) t = if (Xa l i).f1 = t then (if (Xa l i).f0 = 4 ∨ (Xa l i).f0 = 5 then 0 else (i : Int) + 1) else lastB (l.take i) t := by
 rw [XkS l i h, Xfu, List.length_take, Nat.min_eq_left (by omega)]
def Jt (l : List S76) (i : Nat) : Bool :=
 V6 ((Xa l i).f0) ((Xa l i).f1) ((Xa l i).f2) ((Xa l i).f3) ((Xa l i).f4) ((Xa l i).f5) ((Xa l i).f6) ((Xa l i).f7) && (Xa l i).f6 == lastB (l.take i) (Xa l i).f1 && decide ((Xa l i).f7 ≤ i) && (decide ((Xa l i).f7 ≤ 0) || (Xa l ((Xa l i).f7 - 1)).f1 == (Xa l i).f1)
def YP (l : List S76) : Bool := decide (l.length ≤ 150) && (List.range l.length).all (Jt l)
theorem VE {l : List S76} {i : Nat} (hi : i < l.length) (h : Jt l i = false) : YP l = false := by
 unfold YP
 have : (List.range l.length).all (Jt l) = false := by
  rw [List.all_eq_false]; exact ⟨i, by simpa using hi, by simp [h]⟩
 rw [this, Bool.and_false]
theorem Xfv {l : List S76} (h150 : l.length ≤ 150) (h : ∀ i, i < l.length → Jt l i = true) : YP l = true := by
 unfold YP
 simp only [h150, decide_true, Bool.true_and, List.all_eq_true, List.mem_range]; exact h
theorem Xfw (y0 y1 y2 y3 y4 y5 y6 y7 : Int) (w : World) :
 Calls Tryz.prog 81 #[.agg #[.int .i64 y0, .int .i64 y1, .int .i64 y2, .int .i64 y3, .int .i64 y4, .int .i64 y5, .int .i64 y6, .int .i64 y7]] w fun e w' => e = .returned (.bool (y0 == 4 || y0 == 5)) ∧ Below w.heap.size w w' := by
 go_enter Tryz.func81, Tryz.ntmps81
 go_wp2
 all_goals go_ret
 all_goals refine ⟨congrArg (fun b => Ending.returned (.bool b)) ?_, bl0 _⟩
 all_goals simp_all
theorem Zn (y0 y1 y2 y3 y4 y5 y6 y7 : Int) (b : Bool) (hb : V6 y0 y1 y2 y3 y4 y5 y6 y7 = b) (w : World) :
 Calls Tryz.prog 80 #[.agg #[.int .i64 y0, .int .i64 y1, .int .i64 y2, .int .i64 y3, .int .i64 y4, .int .i64 y5, .int .i64 y6, .int .i64 y7]] w fun e w' => e = .returned (.bool b) ∧ Below w.heap.size w w' := by
 subst hb; exact TI _ _ _ _ _ _ _ _ _
theorem Dk (y0 y1 y2 y3 y4 y5 y6 y7 : Int) (b : Bool) (hb : (y0 == 4 || y0 == 5) = b) (w : World) :
 Calls Tryz.prog 81 #[.agg #[.int .i64 y0, .int .i64 y1, .int .i64 y2, .int .i64 y3, .int .i64 y4, .int .i64 y5, .int .i64 y6, .int .i64 y7]] w fun e w' => e = .returned (.bool b) ∧ Below w.heap.size w w' := by
 subst hb; exact Xfw _ _ _ _ _ _ _ _ _
theorem XkT {y0 y1 y2 y3 y4 y5 y6 y7 : Int} (h : V6 y0 y1 y2 y3 y4 y5 y6 y7 = true) : y1 = 1 ∨ y1 = 2 ∨ y1 = 3 := by
 unfold V6 at h
 simp only [Bool.and_eq_true] at h; have h2 := h.1.2
 simp [inB] at h2
 omega
theorem Qv {y0 y1 y2 y3 y4 y5 y6 y7 : Int} (h : V6 y0 y1 y2 y3 y4 y5 y6 y7 = true) : 0 ≤ y7 ∧ y7 ≤ 150 := by
 rw [KI] at h; simp only [Bool.and_eq_true] at h; have h2 := h.1.2
 simp [inB] at h2
 omega
set_option maxHeartbeats 8000000 in
set_option maxRecDepth 100000 in
theorem TD (A : Option Addr) (c : Nat) (l : List S76) (w : World) (hC : Kd.C k76 w A l.length l) (hc : l.length ≤ c) :
 Calls Tryz.prog 51 #[.slice A l.length c] w fun e w' => e = .returned (.bool (YP l)) ∧ Below w.heap.size w w' := by
 have hm : l.length ≤ 9223372036854775807 := hC.2.1; have HC := zz hC; clear hC
 by_cases h150 : (150 : Int) < l.length
 ·have HN := zz (show YP l = false by unfold YP; rw [show decide (l.length ≤ 150) = false by simp; omega]; rfl)
  go_enter Tryz.func51, Tryz.ntmps51
  go_wp2
  go_ret
  exact ⟨zb80, bl0 _⟩
 ·have hle : l.length ≤ 150 := by omega
  have HLE := zz hle; clear h150 hle; have hlb : decide ((150 : Int) < (l.length : Int)) = false := decide_eq_false (by have := HLE.out; omega)
  go_enter Tryz.func51, Tryz.ntmps51
  go_wp2
  go_loopg [11] (l.length + 1) (fun kq v11 w' => ∃ (i : Nat) (W1 : World), W1 = w' ∧ v11 = .int .i64 i ∧ Aside0 (i + kq = l.length + 1) ∧ Aside0 (i ≤ l.length) ∧ Aside0 (∀ j, j < i → Jt l j = true) ∧ Aside0 (w.heap.size + 1 ≤ w'.heap.size) ∧ Aside0 (Below w.heap.size w w') ∧ Aside0 (w'.cell? ⟨w.heap.size, 1, none⟩ = some (.int .i64 (lastB (l.take i) 1)) ∧ w'.cell? ⟨w.heap.size, 2, none⟩ = some (.int .i64 (lastB (l.take i) 2)) ∧ w'.cell? ⟨w.heap.size, 3, none⟩ = some (.int .i64 (lastB (l.take i) 3)) ∧ w'.frozen? ⟨w.heap.size, 1, none⟩ = false ∧ w'.frozen? ⟨w.heap.size, 2, none⟩ = false ∧ w'.frozen? ⟨w.heap.size, 3, none⟩ = false))
  case atStart => exact ⟨0, _, rfl, rfl, ⟨by omega⟩, ⟨by omega⟩, ⟨by intro j hj; omega⟩, ⟨by simp⟩, ⟨bl0 _⟩, ⟨by refine ⟨?_, ?_, ?_, ?_, ?_, ?_⟩ <;> go_simp <;> rfl⟩⟩
  case round =>
   obtain ⟨i, W1, rfl, rfl, HI, HL, HP, HZ0, HB0, HA⟩ := hrel
   cases gk with
   | zero => exact absurd HI.out (by have := HL.out; omega)
   | succ k1 =>
    by_cases hlt : i < l.length
    ·have hC1 := Kd.Xg HC.out HB0.out
     have hp1 := eq_true (show (0 : Int) ≤ (i : Int) by omega); have hp2 := eq_true (show (i : Int) < (l.length : Int) by omega); obtain ⟨ad, rfl, c0, c1, c2, c3, c4, c5, c6, c7⟩ := Ym hC1 (i : Int) (by omega) (by omega); simp only [Int.toNat_natCast] at c0 c1 c2 c3 c4 c5 c6 c7; have HC1 := zz hC1; have HLT := zz hlt; clear hC1 hlt; have hz0 := HZ0.out
     have hy0 : w.heap.size < W1.heap.size := by omega
     by_cases hok : V6 ((Xa l i).f0) ((Xa l i).f1) ((Xa l i).f2) ((Xa l i).f3) ((Xa l i).f4) ((Xa l i).f5) ((Xa l i).f6) ((Xa l i).f7) = true
     ·have HOK := zz hok
      have hnx := Qv hok; have htx := XkT hok; clear HOK
      rcases htx with htx | htx | htx
      ·have HTX := zz htx
       rw [htx] at c1 hok; have HOKB := zz hok; clear hok htx
       by_cases hpv : (Xa l i).f6 = lastB (l.take i) 1
       ·have hpb : ((Xa l i).f6 != lastB (l.take i) 1) = false := by simp [hpv]
        have HPV := zz hpv; clear hpv
        by_cases hni : (Xa l i).f7 ≤ (i : Int)
        ·have hnb : decide ((i : Int) < (Xa l i).f7) = false := decide_eq_false (by omega)
         have HNI := zz hni; clear hni
         by_cases hn0 : (Xa l i).f7 ≤ 0
         ·have hn1 : decide ((0 : Int) < (Xa l i).f7) = false := decide_eq_false (by omega)
          have HN0 := zz hn0; clear hn0
          have HOKI := zz (show Jt l i = true by
           unfold Jt
           rw [HTX.out]
           rw [HOKB.out]; simp [HPV.out, HNI.out, HN0.out])
          have hw1 : wrap64 ((i : Int) + 1) = (i : Int) + 1 := T.wrap_small (by omega) zb56
          go_wp2_with fail
          obtain ⟨ha1, ha2, ha3, hf1, hf2, hf3⟩ := HA.out
          have hg1 : ((W1.alloc (.cells #[.int .i64 ((Xa l i).f0), .int .i64 (1), .int .i64 ((Xa l i).f2), .int .i64 ((Xa l i).f3), .int .i64 ((Xa l i).f4), .int .i64 ((Xa l i).f5), .int .i64 ((Xa l i).f6), .int .i64 ((Xa l i).f7)] 76)).drew).frozen? ⟨w.heap.size, 1, none⟩ = false := by go_simp
          have hg2 : ((W1.alloc (.cells #[.int .i64 ((Xa l i).f0), .int .i64 (1), .int .i64 ((Xa l i).f2), .int .i64 ((Xa l i).f3), .int .i64 ((Xa l i).f4), .int .i64 ((Xa l i).f5), .int .i64 ((Xa l i).f6), .int .i64 ((Xa l i).f7)] 76)).drew).frozen? ⟨w.heap.size, 2, none⟩ = false := by go_simp
          have hg3 : ((W1.alloc (.cells #[.int .i64 ((Xa l i).f0), .int .i64 (1), .int .i64 ((Xa l i).f2), .int .i64 ((Xa l i).f3), .int .i64 ((Xa l i).f4), .int .i64 ((Xa l i).f5), .int .i64 ((Xa l i).f6), .int .i64 ((Xa l i).f7)] 76)).drew).frozen? ⟨w.heap.size, 3, none⟩ = false := by go_simp
          have HW1 := zz (show Below w.heap.size w ((W1.alloc (.cells #[.int .i64 ((Xa l i).f0), .int .i64 (1), .int .i64 ((Xa l i).f2), .int .i64 ((Xa l i).f3), .int .i64 ((Xa l i).f4), .int .i64 ((Xa l i).f5), .int .i64 ((Xa l i).f6), .int .i64 ((Xa l i).f7)] 76)).drew) from Xx (Xj HB0.out _))
          have hZ2 : ((W1.alloc (.cells #[.int .i64 ((Xa l i).f0), .int .i64 (1), .int .i64 ((Xa l i).f2), .int .i64 ((Xa l i).f3), .int .i64 ((Xa l i).f4), .int .i64 ((Xa l i).f5), .int .i64 ((Xa l i).f6), .int .i64 ((Xa l i).f7)] 76)).drew).heap.size = W1.heap.size + 1 := by simp
          refine Yw (n := 35) (S := fun w' => g8 w' (W1.heap.size) (Xa l i) (1) ((Xa l i).f7) (w'.cell? ⟨w.heap.size, 1, none⟩ = some (.int .i64 (lastB (l.take i) 1)) ∧ w'.cell? ⟨w.heap.size, 2, none⟩ = some (.int .i64 (lastB (l.take i) 2)) ∧ w'.cell? ⟨w.heap.size, 3, none⟩ = some (.int .i64 (lastB (l.take i) 3)))) (ds := []) (tf 0) zb6 rfl rfl ⟨by go_simp, by go_simp, by go_simp, by go_simp, by go_simp, by go_simp, by go_simp, by go_simp, by go_simp, by go_simp, by go_simp⟩ (fun hH => ?_); generalize (W1.alloc (.cells #[.int .i64 ((Xa l i).f0), .int .i64 (1), .int .i64 ((Xa l i).f2), .int .i64 ((Xa l i).f3), .int .i64 ((Xa l i).f4), .int .i64 ((Xa l i).f5), .int .i64 ((Xa l i).f6), .int .i64 ((Xa l i).f7)] 76)).drew = W2 at hH HW1 hZ2 hg1 hg2 hg3 ⊢; refine tk0 0 16 (tf 1) hH ?_; refine Zj (i := 1) (N := some 17) (tf 2) rfl rfl zb6 (by decide) (fun K hK => ?_); refine YI Tryz.func80 zb6 rfl #[agx (Xa l i) (1) ((Xa l i).f7)] (by rfl) rfl rfl zb96 ?_; refine (Zn ((Xa l i).f0) (1) ((Xa l i).f2) ((Xa l i).f3) ((Xa l i).f4) ((Xa l i).f5) ((Xa l i).f6) ((Xa l i).f7) true HOKB.out _).mono ?_; rintro e w1 ⟨rfl, hb⟩; refine ⟨_, rfl, ?_⟩; obtain ⟨s0, s1, s2, s3, s4, s5, s6, s7, s8, s9, s10⟩ := hH; have hz2 := hb.size; have HB1 := zz (Yn HW1.out zb98 hb); have hk1 := (hb.frozen (p := ⟨w.heap.size, 1, none⟩) zb18).trans hg1; have hk2 := (hb.frozen (p := ⟨w.heap.size, 2, none⟩) zb18).trans hg2; have hk3 := (hb.frozen (p := ⟨w.heap.size, 3, none⟩) zb18).trans hg3; clear hg1 hg2 hg3; refine hK.out _ _ ⟨cc hb s0, cc hb s1, cc hb s2, cc hb s3, cc hb s4, cc hb s5, cc hb s6, cc hb s7, cc hb s8, cc hb s9, cc hb s10⟩ (fun hH => ?_)
          clear hK K; clear s0 s1 s2 s3 s4 s5 s6 s7 s8 s9 s10 hb; refine XQ (a' := ?_) ?_ ?_; rotate_left
          ·show Act.put _ (some 17) _ = _
           simp only [Act.put, List.setIfInBounds_toArray, List.set_cons_zero, List.set_cons_succ, Xz, XF]
           rfl
          refine pu0 2 18 (tf 3) ?_; refine pu0 3 19 (tf 4) ?_; refine pu0 4 20 (tf 5) ?_; refine tk0 5 21 (tf 6) hH ?_; refine pu0 6 22 (tf 7) ?_; refine tk0 7 23 (tf 8) hH ?_; refine pu0 8 24 (tf 9) ?_; refine tk0 9 25 (tf 10) hH ?_; refine pu0 10 26 (tf 11) ?_; refine pu0 11 27 (tf 12) ?_; refine pu0 12 28 (tf 13) ?_; refine pu0 13 29 (tf 14) ?_; refine tk0 14 30 (tf 15) hH ?_; refine pu0 15 31 (tf 16) ?_; refine pu0 16 32 (tf 17) ?_; refine pu0 17 33 (tf 18) ?_; refine pu0 18 34 (tf 19) ?_; refine pu0 19 35 (tf 20) ?_; refine tk0 20 36 (tf 21) hH ?_; refine pu0 21 37 (tf 22) ?_; refine pu0 22 38 (tf 23) ?_; refine pn0 23 39 (tf 24) ?_; refine pn0 24 40 (tf 25) ?_; refine pn0 25 41 (tf 26) ?_; refine pn0 26 42 (tf 27) ?_; refine pn0 27 43 (tf 28) ?_; refine pn0 28 44 (tf 29) ?_; refine pn0 29 45 (tf 30) ?_; refine pn0 30 46 (tf 31) ?_; refine pn0 31 47 (tf 32) ?_; refine pn0 32 48 (tf 33) ?_; refine pu0 33 49 (tf 34) ?_; refine pu0 34 50 (tf 35) ?_; refine YX zb6 ?_; obtain ⟨s0, s1, s2, s3, s4, s5, s6, s7, s8, s9, s10⟩ := hH
          have hy1 : w.heap.size < w1.heap.size := by have := HZ0.out; omega
          have hy2 : W1.heap.size < w1.heap.size := by omega
          by_cases he : (Xa l i).f0 = 4 ∨ (Xa l i).f0 = 5
          ·have heb : ((Xa l i).f0 == 4 || (Xa l i).f0 == 5) = true := by rcases he with h | h <;> simp [h]
           have HE := zz he; clear he
           go_wp2_with fail
           refine (Dk ((Xa l i).f0) (1) ((Xa l i).f2) ((Xa l i).f3) ((Xa l i).f4) ((Xa l i).f5) ((Xa l i).f6) ((Xa l i).f7) true heb _).mono ?_; rintro e w2 ⟨rfl, hb2⟩; obtain ⟨hc2, hf2⟩ := DU hb2; have hz3 := hb2.size
           (try simp at hz3)
           have HB2 := zz (Yn (Xq HB1.out (by omega)) zb60 hb2); clear hb2
           have hy3 : w.heap.size < w2.heap.size := by omega
           go_wp2
           go_roundg k1
           case measure => omega
           case rel =>
            refine ⟨i + 1, _, rfl, zb38, ⟨zb66⟩, ⟨zb56⟩, ⟨?_⟩, ⟨?_⟩, ⟨?_⟩, ⟨?_, ?_, ?_, ?_, ?_, ?_⟩⟩
            ·intro j hj
             by_cases hji : j = i
             ·subst hji
              exact HOKI.out
             ·exact HP.out j (by omega)
            ·first | omega | (simp; omega)
            ·repeat (first | (with_reducible exact HB2.out) | (refine Xq ?_ (by omega)))
            ·rw [XR l i HLT.out 1, HTX.out]; rw [if_pos rfl, if_pos HE.out]; go_simp
            ·rw [XR l i HLT.out 2, HTX.out]; rw [if_neg (by omega)]; go_simp
            ·rw [XR l i HLT.out 3, HTX.out]; rw [if_neg (by omega)]; go_simp
            ·go_simp
            ·go_simp
            ·go_simp
          ·have heb : ((Xa l i).f0 == 4 || (Xa l i).f0 == 5) = false := by simp; omega
           have HE := zz he; clear he
           go_wp2_with fail
           refine (Dk ((Xa l i).f0) (1) ((Xa l i).f2) ((Xa l i).f3) ((Xa l i).f4) ((Xa l i).f5) ((Xa l i).f6) ((Xa l i).f7) false heb _).mono ?_; rintro e w2 ⟨rfl, hb2⟩; obtain ⟨hc2, hf2⟩ := DU hb2; have hz3 := hb2.size
           (try simp at hz3)
           have HB2 := zz (Yn (Xq HB1.out (by omega)) zb60 hb2); clear hb2
           have hy3 : w.heap.size < w2.heap.size := by omega
           go_wp2
           go_roundg k1
           case measure => omega
           case rel =>
            refine ⟨i + 1, _, rfl, zb38, ⟨zb66⟩, ⟨zb56⟩, ⟨?_⟩, ⟨?_⟩, ⟨?_⟩, ⟨?_, ?_, ?_, ?_, ?_, ?_⟩⟩
            ·intro j hj
             by_cases hji : j = i
             ·subst hji
              exact HOKI.out
             ·exact HP.out j (by omega)
            ·first | omega | (simp; omega)
            ·repeat (first | (with_reducible exact HB2.out) | (refine Xq ?_ (by omega)))
            ·rw [XR l i HLT.out 1, HTX.out]; rw [if_pos rfl, if_neg HE.out]; go_simp
            ·rw [XR l i HLT.out 2, HTX.out]; rw [if_neg (by omega)]; go_simp
            ·rw [XR l i HLT.out 3, HTX.out]; rw [if_neg (by omega)]; go_simp
            ·go_simp
            ·go_simp
            ·go_simp
         ·obtain ⟨jn, hjn⟩ : ∃ jn : Nat, (Xa l i).f7 = (jn : Int) + 1 := ⟨((Xa l i).f7 - 1).toNat, by omega⟩
          have hn1 : decide ((0 : Int) < (jn : Int) + 1) = true := decide_eq_true (by omega); rw [hjn] at c7 hnb; have HJN := zz hjn; have hok2 := HOKB.out; rw [hjn] at hok2; replace HOKB := zz hok2; have hnx2 := HNI.out; have hlt2 := HLT.out; have hj1 := eq_true (show (0 : Int) ≤ (jn : Int) by omega); have hj2 := eq_true (show (jn : Int) < (l.length : Int) by omega)
          have hwr : wrap64 ((jn : Int) + 1 - 1) = (jn : Int) := by rw [T.wrap_small (by omega) (by omega)]; omega
          have hwr2 : wrap64 (jn : Int) = (jn : Int) := T.wrap_small (by omega) (by omega); obtain ⟨ad2, had, d0, d1, d2, d3, d4, d5, d6, d7⟩ := Ym HC1.out (jn : Int) (by omega) (by omega)
          cases had
          simp only [Int.toNat_natCast] at d1; clear d0 d2 d3 d4 d5 d6 d7 hok2 hnx2 hlt2 hn0 hjn
          by_cases hsm : (Xa l (jn : Int)).f1 = 1
          ·have hsb : ((Xa l (jn : Int)).f1 != 1) = false := by simp [hsm]
           have HSM := zz hsm; clear hsm
           have HOKI := zz (show Jt l i = true by
            unfold Jt
            rw [HTX.out]
            rw [HJN.out, HOKB.out]; simp [HPV.out, HSM.out]; have := HNI.out; have := HJN.out; omega)
           have hw1 : wrap64 ((i : Int) + 1) = (i : Int) + 1 := T.wrap_small (by omega) zb56
           go_wp2_with fail
           obtain ⟨ha1, ha2, ha3, hf1, hf2, hf3⟩ := HA.out
           have hg1 : ((W1.alloc (.cells #[.int .i64 ((Xa l i).f0), .int .i64 (1), .int .i64 ((Xa l i).f2), .int .i64 ((Xa l i).f3), .int .i64 ((Xa l i).f4), .int .i64 ((Xa l i).f5), .int .i64 ((Xa l i).f6), .int .i64 ((jn : Int) + 1)] 76)).drew).frozen? ⟨w.heap.size, 1, none⟩ = false := by go_simp
           have hg2 : ((W1.alloc (.cells #[.int .i64 ((Xa l i).f0), .int .i64 (1), .int .i64 ((Xa l i).f2), .int .i64 ((Xa l i).f3), .int .i64 ((Xa l i).f4), .int .i64 ((Xa l i).f5), .int .i64 ((Xa l i).f6), .int .i64 ((jn : Int) + 1)] 76)).drew).frozen? ⟨w.heap.size, 2, none⟩ = false := by go_simp
           have hg3 : ((W1.alloc (.cells #[.int .i64 ((Xa l i).f0), .int .i64 (1), .int .i64 ((Xa l i).f2), .int .i64 ((Xa l i).f3), .int .i64 ((Xa l i).f4), .int .i64 ((Xa l i).f5), .int .i64 ((Xa l i).f6), .int .i64 ((jn : Int) + 1)] 76)).drew).frozen? ⟨w.heap.size, 3, none⟩ = false := by go_simp
           have HW1 := zz (show Below w.heap.size w ((W1.alloc (.cells #[.int .i64 ((Xa l i).f0), .int .i64 (1), .int .i64 ((Xa l i).f2), .int .i64 ((Xa l i).f3), .int .i64 ((Xa l i).f4), .int .i64 ((Xa l i).f5), .int .i64 ((Xa l i).f6), .int .i64 ((jn : Int) + 1)] 76)).drew) from Xx (Xj HB0.out _))
           have hZ2 : ((W1.alloc (.cells #[.int .i64 ((Xa l i).f0), .int .i64 (1), .int .i64 ((Xa l i).f2), .int .i64 ((Xa l i).f3), .int .i64 ((Xa l i).f4), .int .i64 ((Xa l i).f5), .int .i64 ((Xa l i).f6), .int .i64 ((jn : Int) + 1)] 76)).drew).heap.size = W1.heap.size + 1 := by simp
           refine Yw (n := 35) (S := fun w' => g8 w' (W1.heap.size) (Xa l i) (1) ((jn : Int) + 1) (w'.cell? ⟨w.heap.size, 1, none⟩ = some (.int .i64 (lastB (l.take i) 1)) ∧ w'.cell? ⟨w.heap.size, 2, none⟩ = some (.int .i64 (lastB (l.take i) 2)) ∧ w'.cell? ⟨w.heap.size, 3, none⟩ = some (.int .i64 (lastB (l.take i) 3)) ∧ w'.cell? ⟨(ad.add (jn * 8)).block, (ad.add (jn * 8)).off + 1, none⟩ = some (.int .i64 (Xa l (jn : Int)).f1))) (ds := []) (tf 0) zb6 rfl rfl ⟨by go_simp, by go_simp, by go_simp, by go_simp, by go_simp, by go_simp, by go_simp, by go_simp, by go_simp, by go_simp, by go_simp, ((Xx (Xj (Below.refl W1.heap.size W1) (.cells #[.int .i64 ((Xa l i).f0), .int .i64 (1), .int .i64 ((Xa l i).f2), .int .i64 ((Xa l i).f3), .int .i64 ((Xa l i).f4), .int .i64 ((Xa l i).f5), .int .i64 ((Xa l i).f6), .int .i64 ((jn : Int) + 1)] 76)) : Below W1.heap.size W1 ((W1.alloc (.cells #[.int .i64 ((Xa l i).f0), .int .i64 (1), .int .i64 ((Xa l i).f2), .int .i64 ((Xa l i).f3), .int .i64 ((Xa l i).f4), .int .i64 ((Xa l i).f5), .int .i64 ((Xa l i).f6), .int .i64 ((jn : Int) + 1)] 76)).drew)).cell (World.block_lt_of_cell? W1 _ d1)).trans d1⟩ (fun hH => ?_); generalize (W1.alloc (.cells #[.int .i64 ((Xa l i).f0), .int .i64 (1), .int .i64 ((Xa l i).f2), .int .i64 ((Xa l i).f3), .int .i64 ((Xa l i).f4), .int .i64 ((Xa l i).f5), .int .i64 ((Xa l i).f6), .int .i64 ((jn : Int) + 1)] 76)).drew = W2 at hH HW1 hZ2 hg1 hg2 hg3 ⊢; refine tk0 0 16 (tf 1) hH ?_; refine Zj (i := 1) (N := some 17) (tf 2) rfl rfl zb6 (by decide) (fun K hK => ?_)
           refine YI Tryz.func80 zb6 rfl #[agx (Xa l i) (1) ((jn : Int) + 1)] (by rfl) rfl rfl zb96 ?_; refine (Zn ((Xa l i).f0) (1) ((Xa l i).f2) ((Xa l i).f3) ((Xa l i).f4) ((Xa l i).f5) ((Xa l i).f6) ((jn : Int) + 1) true HOKB.out _).mono ?_; rintro e w1 ⟨rfl, hb⟩; refine ⟨_, rfl, ?_⟩; obtain ⟨s0, s1, s2, s3, s4, s5, s6, s7, s8, s9, s10, s11⟩ := hH; have hz2 := hb.size; have HB1 := zz (Yn HW1.out zb98 hb); have hk1 := (hb.frozen (p := ⟨w.heap.size, 1, none⟩) zb18).trans hg1; have hk2 := (hb.frozen (p := ⟨w.heap.size, 2, none⟩) zb18).trans hg2; have hk3 := (hb.frozen (p := ⟨w.heap.size, 3, none⟩) zb18).trans hg3; clear hg1 hg2 hg3; refine hK.out _ _ ⟨cc hb s0, cc hb s1, cc hb s2, cc hb s3, cc hb s4, cc hb s5, cc hb s6, cc hb s7, cc hb s8, cc hb s9, cc hb s10, cc hb s11⟩ (fun hH => ?_); clear hK K; clear s0 s1 s2 s3 s4 s5 s6 s7 s8 s9 s10 s11 hb; refine XQ (a' := ?_) ?_ ?_; rotate_left
           ·show Act.put _ (some 17) _ = _
            simp only [Act.put, List.setIfInBounds_toArray, List.set_cons_zero, List.set_cons_succ, Xz, XF]
            rfl
           refine pu0 2 18 (tf 3) ?_; refine pu0 3 19 (tf 4) ?_; refine pu0 4 20 (tf 5) ?_; refine tk0 5 21 (tf 6) hH ?_; refine pu0 6 22 (tf 7) ?_; refine tk0 7 23 (tf 8) hH ?_; refine pu0 8 24 (tf 9) ?_; refine tk0 9 25 (tf 10) hH ?_; refine pu0 10 26 (tf 11) ?_; refine pu0 11 27 (tf 12) ?_; refine pu0 12 28 (tf 13) ?_; refine pu0 13 29 (tf 14) ?_; refine tk0 14 30 (tf 15) hH ?_; refine pu0 15 31 (tf 16) ?_; refine pu0 16 32 (tf 17) ?_; refine pu0 17 33 (tf 18) ?_; refine pu0 18 34 (tf 19) ?_; refine pu0 19 35 (tf 20) ?_; refine tk0 20 36 (tf 21) hH ?_; refine pu0 21 37 (tf 22) ?_; refine pu0 22 38 (tf 23) ?_; refine pu0 23 39 (tf 24) ?_; refine pu0 24 40 (tf 25) ?_; refine tk0 25 41 (tf 26) hH ?_; refine pu0 26 42 (tf 27) ?_; refine pu0 27 43 (tf 28) ?_; refine pu0 28 44 (tf 29) ?_; refine tk0 29 45 (tf 30) hH ?_; refine pu0 30 46 (tf 31) ?_; refine tk0 31 47 (tf 32) hH ?_; refine pu0 32 48 (tf 33) ?_; refine pu0 33 49 (tf 34) ?_; refine pu0 34 50 (tf 35) ?_; refine YX zb6 ?_; obtain ⟨s0, s1, s2, s3, s4, s5, s6, s7, s8, s9, s10, s11⟩ := hH
           have hy1 : w.heap.size < w1.heap.size := by have := HZ0.out; omega
           have hy2 : W1.heap.size < w1.heap.size := by omega
           by_cases he : (Xa l i).f0 = 4 ∨ (Xa l i).f0 = 5
           ·have heb : ((Xa l i).f0 == 4 || (Xa l i).f0 == 5) = true := by rcases he with h | h <;> simp [h]
            have HE := zz he; clear he
            go_wp2_with fail
            refine (Dk ((Xa l i).f0) (1) ((Xa l i).f2) ((Xa l i).f3) ((Xa l i).f4) ((Xa l i).f5) ((Xa l i).f6) ((jn : Int) + 1) true heb _).mono ?_; rintro e w2 ⟨rfl, hb2⟩; obtain ⟨hc2, hf2⟩ := DU hb2; have hz3 := hb2.size
            (try simp at hz3)
            have HB2 := zz (Yn (Xq HB1.out (by omega)) zb60 hb2); clear hb2
            have hy3 : w.heap.size < w2.heap.size := by omega
            go_wp2
            go_roundg k1
            case measure => omega
            case rel =>
             refine ⟨i + 1, _, rfl, zb38, ⟨zb66⟩, ⟨zb56⟩, ⟨?_⟩, ⟨?_⟩, ⟨?_⟩, ⟨?_, ?_, ?_, ?_, ?_, ?_⟩⟩
             ·intro j hj
              by_cases hji : j = i
              ·subst hji
               exact HOKI.out
              ·exact HP.out j (by omega)
             ·first | omega | (simp; omega)
             ·repeat (first | (with_reducible exact HB2.out) | (refine Xq ?_ (by omega)))
             ·rw [XR l i HLT.out 1, HTX.out]; rw [if_pos rfl, if_pos HE.out]; go_simp
             ·rw [XR l i HLT.out 2, HTX.out]; rw [if_neg (by omega)]; go_simp
             ·rw [XR l i HLT.out 3, HTX.out]; rw [if_neg (by omega)]; go_simp
             ·go_simp
             ·go_simp
             ·go_simp
           ·have heb : ((Xa l i).f0 == 4 || (Xa l i).f0 == 5) = false := by simp; omega
            have HE := zz he; clear he
            go_wp2_with fail
            refine (Dk ((Xa l i).f0) (1) ((Xa l i).f2) ((Xa l i).f3) ((Xa l i).f4) ((Xa l i).f5) ((Xa l i).f6) ((jn : Int) + 1) false heb _).mono ?_; rintro e w2 ⟨rfl, hb2⟩; obtain ⟨hc2, hf2⟩ := DU hb2; have hz3 := hb2.size
            (try simp at hz3)
            have HB2 := zz (Yn (Xq HB1.out (by omega)) zb60 hb2); clear hb2
            have hy3 : w.heap.size < w2.heap.size := by omega
            go_wp2
            go_roundg k1
            case measure => omega
            case rel =>
             refine ⟨i + 1, _, rfl, zb38, ⟨zb66⟩, ⟨zb56⟩, ⟨?_⟩, ⟨?_⟩, ⟨?_⟩, ⟨?_, ?_, ?_, ?_, ?_, ?_⟩⟩
             ·intro j hj
              by_cases hji : j = i
              ·subst hji
               exact HOKI.out
              ·exact HP.out j (by omega)
             ·first | omega | (simp; omega)
             ·repeat (first | (with_reducible exact HB2.out) | (refine Xq ?_ (by omega)))
             ·rw [XR l i HLT.out 1, HTX.out]; rw [if_pos rfl, if_neg HE.out]; go_simp
             ·rw [XR l i HLT.out 2, HTX.out]; rw [if_neg (by omega)]; go_simp
             ·rw [XR l i HLT.out 3, HTX.out]; rw [if_neg (by omega)]; go_simp
             ·go_simp
             ·go_simp
             ·go_simp
          ·have hsb : ((Xa l (jn : Int)).f1 != 1) = true := by simp [hsm]
           have HSM := zz hsm; clear hsm
           have HN := zz (VE HLT.out (show Jt l i = false by
            unfold Jt
            rw [HTX.out, HJN.out]
            simp [HSM.out]))
           go_wp2_with fail
           obtain ⟨ha1, ha2, ha3, hf1, hf2, hf3⟩ := HA.out
           have hg1 : ((W1.alloc (.cells #[.int .i64 ((Xa l i).f0), .int .i64 (1), .int .i64 ((Xa l i).f2), .int .i64 ((Xa l i).f3), .int .i64 ((Xa l i).f4), .int .i64 ((Xa l i).f5), .int .i64 ((Xa l i).f6), .int .i64 ((jn : Int) + 1)] 76)).drew).frozen? ⟨w.heap.size, 1, none⟩ = false := by go_simp
           have hg2 : ((W1.alloc (.cells #[.int .i64 ((Xa l i).f0), .int .i64 (1), .int .i64 ((Xa l i).f2), .int .i64 ((Xa l i).f3), .int .i64 ((Xa l i).f4), .int .i64 ((Xa l i).f5), .int .i64 ((Xa l i).f6), .int .i64 ((jn : Int) + 1)] 76)).drew).frozen? ⟨w.heap.size, 2, none⟩ = false := by go_simp
           have hg3 : ((W1.alloc (.cells #[.int .i64 ((Xa l i).f0), .int .i64 (1), .int .i64 ((Xa l i).f2), .int .i64 ((Xa l i).f3), .int .i64 ((Xa l i).f4), .int .i64 ((Xa l i).f5), .int .i64 ((Xa l i).f6), .int .i64 ((jn : Int) + 1)] 76)).drew).frozen? ⟨w.heap.size, 3, none⟩ = false := by go_simp
           have HW1 := zz (show Below w.heap.size w ((W1.alloc (.cells #[.int .i64 ((Xa l i).f0), .int .i64 (1), .int .i64 ((Xa l i).f2), .int .i64 ((Xa l i).f3), .int .i64 ((Xa l i).f4), .int .i64 ((Xa l i).f5), .int .i64 ((Xa l i).f6), .int .i64 ((jn : Int) + 1)] 76)).drew) from Xx (Xj HB0.out _))
           have hZ2 : ((W1.alloc (.cells #[.int .i64 ((Xa l i).f0), .int .i64 (1), .int .i64 ((Xa l i).f2), .int .i64 ((Xa l i).f3), .int .i64 ((Xa l i).f4), .int .i64 ((Xa l i).f5), .int .i64 ((Xa l i).f6), .int .i64 ((jn : Int) + 1)] 76)).drew).heap.size = W1.heap.size + 1 := by simp
           refine Yw (n := 35) (S := fun w' => g8 w' (W1.heap.size) (Xa l i) (1) ((jn : Int) + 1) (w'.cell? ⟨w.heap.size, 1, none⟩ = some (.int .i64 (lastB (l.take i) 1)) ∧ w'.cell? ⟨w.heap.size, 2, none⟩ = some (.int .i64 (lastB (l.take i) 2)) ∧ w'.cell? ⟨w.heap.size, 3, none⟩ = some (.int .i64 (lastB (l.take i) 3)) ∧ w'.cell? ⟨(ad.add (jn * 8)).block, (ad.add (jn * 8)).off + 1, none⟩ = some (.int .i64 (Xa l (jn : Int)).f1))) (ds := []) (tf 0) zb6 rfl rfl ⟨by go_simp, by go_simp, by go_simp, by go_simp, by go_simp, by go_simp, by go_simp, by go_simp, by go_simp, by go_simp, by go_simp, ((Xx (Xj (Below.refl W1.heap.size W1) (.cells #[.int .i64 ((Xa l i).f0), .int .i64 (1), .int .i64 ((Xa l i).f2), .int .i64 ((Xa l i).f3), .int .i64 ((Xa l i).f4), .int .i64 ((Xa l i).f5), .int .i64 ((Xa l i).f6), .int .i64 ((jn : Int) + 1)] 76)) : Below W1.heap.size W1 ((W1.alloc (.cells #[.int .i64 ((Xa l i).f0), .int .i64 (1), .int .i64 ((Xa l i).f2), .int .i64 ((Xa l i).f3), .int .i64 ((Xa l i).f4), .int .i64 ((Xa l i).f5), .int .i64 ((Xa l i).f6), .int .i64 ((jn : Int) + 1)] 76)).drew)).cell (World.block_lt_of_cell? W1 _ d1)).trans d1⟩ (fun hH => ?_); generalize (W1.alloc (.cells #[.int .i64 ((Xa l i).f0), .int .i64 (1), .int .i64 ((Xa l i).f2), .int .i64 ((Xa l i).f3), .int .i64 ((Xa l i).f4), .int .i64 ((Xa l i).f5), .int .i64 ((Xa l i).f6), .int .i64 ((jn : Int) + 1)] 76)).drew = W2 at hH HW1 hZ2 hg1 hg2 hg3 ⊢; refine tk0 0 16 (tf 1) hH ?_; refine Zj (i := 1) (N := some 17) (tf 2) rfl rfl zb6 (by decide) (fun K hK => ?_)
           refine YI Tryz.func80 zb6 rfl #[agx (Xa l i) (1) ((jn : Int) + 1)] (by rfl) rfl rfl zb96 ?_; refine (Zn ((Xa l i).f0) (1) ((Xa l i).f2) ((Xa l i).f3) ((Xa l i).f4) ((Xa l i).f5) ((Xa l i).f6) ((jn : Int) + 1) true HOKB.out _).mono ?_; rintro e w1 ⟨rfl, hb⟩; refine ⟨_, rfl, ?_⟩; obtain ⟨s0, s1, s2, s3, s4, s5, s6, s7, s8, s9, s10, s11⟩ := hH; have hz2 := hb.size; have HB1 := zz (Yn HW1.out zb98 hb); have hk1 := (hb.frozen (p := ⟨w.heap.size, 1, none⟩) zb18).trans hg1; have hk2 := (hb.frozen (p := ⟨w.heap.size, 2, none⟩) zb18).trans hg2; have hk3 := (hb.frozen (p := ⟨w.heap.size, 3, none⟩) zb18).trans hg3; clear hg1 hg2 hg3; refine hK.out _ _ ⟨cc hb s0, cc hb s1, cc hb s2, cc hb s3, cc hb s4, cc hb s5, cc hb s6, cc hb s7, cc hb s8, cc hb s9, cc hb s10, cc hb s11⟩ (fun hH => ?_); clear hK K; clear s0 s1 s2 s3 s4 s5 s6 s7 s8 s9 s10 s11 hb; refine XQ (a' := ?_) ?_ ?_; rotate_left
           ·show Act.put _ (some 17) _ = _
            simp only [Act.put, List.setIfInBounds_toArray, List.set_cons_zero, List.set_cons_succ, Xz, XF]
            rfl
           refine pu0 2 18 (tf 3) ?_; refine pu0 3 19 (tf 4) ?_; refine pu0 4 20 (tf 5) ?_; refine tk0 5 21 (tf 6) hH ?_; refine pu0 6 22 (tf 7) ?_; refine tk0 7 23 (tf 8) hH ?_; refine pu0 8 24 (tf 9) ?_; refine tk0 9 25 (tf 10) hH ?_; refine pu0 10 26 (tf 11) ?_; refine pu0 11 27 (tf 12) ?_; refine pu0 12 28 (tf 13) ?_; refine pu0 13 29 (tf 14) ?_; refine tk0 14 30 (tf 15) hH ?_; refine pu0 15 31 (tf 16) ?_; refine pu0 16 32 (tf 17) ?_; refine pu0 17 33 (tf 18) ?_; refine pu0 18 34 (tf 19) ?_; refine pu0 19 35 (tf 20) ?_; refine tk0 20 36 (tf 21) hH ?_; refine pu0 21 37 (tf 22) ?_; refine pu0 22 38 (tf 23) ?_; refine pu0 23 39 (tf 24) ?_; refine pu0 24 40 (tf 25) ?_; refine tk0 25 41 (tf 26) hH ?_; refine pu0 26 42 (tf 27) ?_; refine pu0 27 43 (tf 28) ?_; refine pu0 28 44 (tf 29) ?_; refine tk0 29 45 (tf 30) hH ?_; refine pu0 30 46 (tf 31) ?_; refine tk0 31 47 (tf 32) hH ?_; refine pu0 32 48 (tf 33) ?_; refine pu0 33 49 (tf 34) ?_; refine pu0 34 50 (tf 35) ?_; refine YX zb6 ?_
           try go_wp2
           go_ret
           exact ⟨zb80, HB1.out⟩
        ·have hnb : decide ((i : Int) < (Xa l i).f7) = true := decide_eq_true (by omega)
         have HN := zz (VE HLT.out (show Jt l i = false by unfold Jt; simp [hni])); clear hni
         go_wp2_with fail
         obtain ⟨ha1, ha2, ha3, hf1, hf2, hf3⟩ := HA.out
         have hg1 : ((W1.alloc (.cells #[.int .i64 ((Xa l i).f0), .int .i64 (1), .int .i64 ((Xa l i).f2), .int .i64 ((Xa l i).f3), .int .i64 ((Xa l i).f4), .int .i64 ((Xa l i).f5), .int .i64 ((Xa l i).f6), .int .i64 ((Xa l i).f7)] 76)).drew).frozen? ⟨w.heap.size, 1, none⟩ = false := by go_simp
         have hg2 : ((W1.alloc (.cells #[.int .i64 ((Xa l i).f0), .int .i64 (1), .int .i64 ((Xa l i).f2), .int .i64 ((Xa l i).f3), .int .i64 ((Xa l i).f4), .int .i64 ((Xa l i).f5), .int .i64 ((Xa l i).f6), .int .i64 ((Xa l i).f7)] 76)).drew).frozen? ⟨w.heap.size, 2, none⟩ = false := by go_simp
         have hg3 : ((W1.alloc (.cells #[.int .i64 ((Xa l i).f0), .int .i64 (1), .int .i64 ((Xa l i).f2), .int .i64 ((Xa l i).f3), .int .i64 ((Xa l i).f4), .int .i64 ((Xa l i).f5), .int .i64 ((Xa l i).f6), .int .i64 ((Xa l i).f7)] 76)).drew).frozen? ⟨w.heap.size, 3, none⟩ = false := by go_simp
         have HW1 := zz (show Below w.heap.size w ((W1.alloc (.cells #[.int .i64 ((Xa l i).f0), .int .i64 (1), .int .i64 ((Xa l i).f2), .int .i64 ((Xa l i).f3), .int .i64 ((Xa l i).f4), .int .i64 ((Xa l i).f5), .int .i64 ((Xa l i).f6), .int .i64 ((Xa l i).f7)] 76)).drew) from Xx (Xj HB0.out _))
         have hZ2 : ((W1.alloc (.cells #[.int .i64 ((Xa l i).f0), .int .i64 (1), .int .i64 ((Xa l i).f2), .int .i64 ((Xa l i).f3), .int .i64 ((Xa l i).f4), .int .i64 ((Xa l i).f5), .int .i64 ((Xa l i).f6), .int .i64 ((Xa l i).f7)] 76)).drew).heap.size = W1.heap.size + 1 := by simp
         refine Yw (n := 35) (S := fun w' => g8 w' (W1.heap.size) (Xa l i) (1) ((Xa l i).f7) (w'.cell? ⟨w.heap.size, 1, none⟩ = some (.int .i64 (lastB (l.take i) 1)) ∧ w'.cell? ⟨w.heap.size, 2, none⟩ = some (.int .i64 (lastB (l.take i) 2)) ∧ w'.cell? ⟨w.heap.size, 3, none⟩ = some (.int .i64 (lastB (l.take i) 3)))) (ds := []) (tf 0) zb6 rfl rfl ⟨by go_simp, by go_simp, by go_simp, by go_simp, by go_simp, by go_simp, by go_simp, by go_simp, by go_simp, by go_simp, by go_simp⟩ (fun hH => ?_); generalize (W1.alloc (.cells #[.int .i64 ((Xa l i).f0), .int .i64 (1), .int .i64 ((Xa l i).f2), .int .i64 ((Xa l i).f3), .int .i64 ((Xa l i).f4), .int .i64 ((Xa l i).f5), .int .i64 ((Xa l i).f6), .int .i64 ((Xa l i).f7)] 76)).drew = W2 at hH HW1 hZ2 hg1 hg2 hg3 ⊢; refine tk0 0 16 (tf 1) hH ?_; refine Zj (i := 1) (N := some 17) (tf 2) rfl rfl zb6 (by decide) (fun K hK => ?_); refine YI Tryz.func80 zb6 rfl #[agx (Xa l i) (1) ((Xa l i).f7)] (by rfl) rfl rfl zb96 ?_; refine (Zn ((Xa l i).f0) (1) ((Xa l i).f2) ((Xa l i).f3) ((Xa l i).f4) ((Xa l i).f5) ((Xa l i).f6) ((Xa l i).f7) true HOKB.out _).mono ?_; rintro e w1 ⟨rfl, hb⟩; refine ⟨_, rfl, ?_⟩; obtain ⟨s0, s1, s2, s3, s4, s5, s6, s7, s8, s9, s10⟩ := hH; have hz2 := hb.size; have HB1 := zz (Yn HW1.out zb98 hb); have hk1 := (hb.frozen (p := ⟨w.heap.size, 1, none⟩) zb18).trans hg1; have hk2 := (hb.frozen (p := ⟨w.heap.size, 2, none⟩) zb18).trans hg2; have hk3 := (hb.frozen (p := ⟨w.heap.size, 3, none⟩) zb18).trans hg3; clear hg1 hg2 hg3; refine hK.out _ _ ⟨cc hb s0, cc hb s1, cc hb s2, cc hb s3, cc hb s4, cc hb s5, cc hb s6, cc hb s7, cc hb s8, cc hb s9, cc hb s10⟩ (fun hH => ?_)
         clear hK K; clear s0 s1 s2 s3 s4 s5 s6 s7 s8 s9 s10 hb; refine XQ (a' := ?_) ?_ ?_; rotate_left
         ·show Act.put _ (some 17) _ = _
          simp only [Act.put, List.setIfInBounds_toArray, List.set_cons_zero, List.set_cons_succ, Xz, XF]
          rfl
         refine pu0 2 18 (tf 3) ?_; refine pu0 3 19 (tf 4) ?_; refine pu0 4 20 (tf 5) ?_; refine tk0 5 21 (tf 6) hH ?_; refine pu0 6 22 (tf 7) ?_; refine tk0 7 23 (tf 8) hH ?_; refine pu0 8 24 (tf 9) ?_; refine tk0 9 25 (tf 10) hH ?_; refine pu0 10 26 (tf 11) ?_; refine pu0 11 27 (tf 12) ?_; refine pu0 12 28 (tf 13) ?_; refine pu0 13 29 (tf 14) ?_; refine tk0 14 30 (tf 15) hH ?_; refine pu0 15 31 (tf 16) ?_; refine pu0 16 32 (tf 17) ?_; refine pu0 17 33 (tf 18) ?_; refine pu0 18 34 (tf 19) ?_; refine pn0 19 35 (tf 20) ?_; refine pn0 20 36 (tf 21) ?_; refine pn0 21 37 (tf 22) ?_; refine pn0 22 38 (tf 23) ?_; refine pn0 23 39 (tf 24) ?_; refine pn0 24 40 (tf 25) ?_; refine pn0 25 41 (tf 26) ?_; refine pn0 26 42 (tf 27) ?_; refine pn0 27 43 (tf 28) ?_; refine pn0 28 44 (tf 29) ?_; refine pn0 29 45 (tf 30) ?_; refine pn0 30 46 (tf 31) ?_; refine pn0 31 47 (tf 32) ?_; refine pn0 32 48 (tf 33) ?_; refine pn0 33 49 (tf 34) ?_; refine pu0 34 50 (tf 35) ?_; refine YX zb6 ?_
         try go_wp2
         go_ret
         exact ⟨zb80, HB1.out⟩
       ·have hpb : ((Xa l i).f6 != lastB (l.take i) 1) = true := by simp [hpv]
        have HN := zz (VE HLT.out (show Jt l i = false by unfold Jt; rw [HTX.out]; simp [hpv])); clear hpv
        go_wp2_with fail
        obtain ⟨ha1, ha2, ha3, hf1, hf2, hf3⟩ := HA.out
        have hg1 : ((W1.alloc (.cells #[.int .i64 ((Xa l i).f0), .int .i64 (1), .int .i64 ((Xa l i).f2), .int .i64 ((Xa l i).f3), .int .i64 ((Xa l i).f4), .int .i64 ((Xa l i).f5), .int .i64 ((Xa l i).f6), .int .i64 ((Xa l i).f7)] 76)).drew).frozen? ⟨w.heap.size, 1, none⟩ = false := by go_simp
        have hg2 : ((W1.alloc (.cells #[.int .i64 ((Xa l i).f0), .int .i64 (1), .int .i64 ((Xa l i).f2), .int .i64 ((Xa l i).f3), .int .i64 ((Xa l i).f4), .int .i64 ((Xa l i).f5), .int .i64 ((Xa l i).f6), .int .i64 ((Xa l i).f7)] 76)).drew).frozen? ⟨w.heap.size, 2, none⟩ = false := by go_simp
        have hg3 : ((W1.alloc (.cells #[.int .i64 ((Xa l i).f0), .int .i64 (1), .int .i64 ((Xa l i).f2), .int .i64 ((Xa l i).f3), .int .i64 ((Xa l i).f4), .int .i64 ((Xa l i).f5), .int .i64 ((Xa l i).f6), .int .i64 ((Xa l i).f7)] 76)).drew).frozen? ⟨w.heap.size, 3, none⟩ = false := by go_simp
        have HW1 := zz (show Below w.heap.size w ((W1.alloc (.cells #[.int .i64 ((Xa l i).f0), .int .i64 (1), .int .i64 ((Xa l i).f2), .int .i64 ((Xa l i).f3), .int .i64 ((Xa l i).f4), .int .i64 ((Xa l i).f5), .int .i64 ((Xa l i).f6), .int .i64 ((Xa l i).f7)] 76)).drew) from Xx (Xj HB0.out _))
        have hZ2 : ((W1.alloc (.cells #[.int .i64 ((Xa l i).f0), .int .i64 (1), .int .i64 ((Xa l i).f2), .int .i64 ((Xa l i).f3), .int .i64 ((Xa l i).f4), .int .i64 ((Xa l i).f5), .int .i64 ((Xa l i).f6), .int .i64 ((Xa l i).f7)] 76)).drew).heap.size = W1.heap.size + 1 := by simp
        refine Yw (n := 35) (S := fun w' => g8 w' (W1.heap.size) (Xa l i) (1) ((Xa l i).f7) (w'.cell? ⟨w.heap.size, 1, none⟩ = some (.int .i64 (lastB (l.take i) 1)) ∧ w'.cell? ⟨w.heap.size, 2, none⟩ = some (.int .i64 (lastB (l.take i) 2)) ∧ w'.cell? ⟨w.heap.size, 3, none⟩ = some (.int .i64 (lastB (l.take i) 3)))) (ds := []) (tf 0) zb6 rfl rfl ⟨by go_simp, by go_simp, by go_simp, by go_simp, by go_simp, by go_simp, by go_simp, by go_simp, by go_simp, by go_simp, by go_simp⟩ (fun hH => ?_); generalize (W1.alloc (.cells #[.int .i64 ((Xa l i).f0), .int .i64 (1), .int .i64 ((Xa l i).f2), .int .i64 ((Xa l i).f3), .int .i64 ((Xa l i).f4), .int .i64 ((Xa l i).f5), .int .i64 ((Xa l i).f6), .int .i64 ((Xa l i).f7)] 76)).drew = W2 at hH HW1 hZ2 hg1 hg2 hg3 ⊢; refine tk0 0 16 (tf 1) hH ?_; refine Zj (i := 1) (N := some 17) (tf 2) rfl rfl zb6 (by decide) (fun K hK => ?_); refine YI Tryz.func80 zb6 rfl #[agx (Xa l i) (1) ((Xa l i).f7)] (by rfl) rfl rfl zb96 ?_; refine (Zn ((Xa l i).f0) (1) ((Xa l i).f2) ((Xa l i).f3) ((Xa l i).f4) ((Xa l i).f5) ((Xa l i).f6) ((Xa l i).f7) true HOKB.out _).mono ?_; rintro e w1 ⟨rfl, hb⟩; refine ⟨_, rfl, ?_⟩; obtain ⟨s0, s1, s2, s3, s4, s5, s6, s7, s8, s9, s10⟩ := hH; have hz2 := hb.size; have HB1 := zz (Yn HW1.out zb98 hb); have hk1 := (hb.frozen (p := ⟨w.heap.size, 1, none⟩) zb18).trans hg1; have hk2 := (hb.frozen (p := ⟨w.heap.size, 2, none⟩) zb18).trans hg2; have hk3 := (hb.frozen (p := ⟨w.heap.size, 3, none⟩) zb18).trans hg3; clear hg1 hg2 hg3; refine hK.out _ _ ⟨cc hb s0, cc hb s1, cc hb s2, cc hb s3, cc hb s4, cc hb s5, cc hb s6, cc hb s7, cc hb s8, cc hb s9, cc hb s10⟩ (fun hH => ?_)
        clear hK K; clear s0 s1 s2 s3 s4 s5 s6 s7 s8 s9 s10 hb; refine XQ (a' := ?_) ?_ ?_; rotate_left
        ·show Act.put _ (some 17) _ = _
         simp only [Act.put, List.setIfInBounds_toArray, List.set_cons_zero, List.set_cons_succ, Xz, XF]
         rfl
        refine pu0 2 18 (tf 3) ?_; refine pu0 3 19 (tf 4) ?_; refine pu0 4 20 (tf 5) ?_; refine tk0 5 21 (tf 6) hH ?_; refine pu0 6 22 (tf 7) ?_; refine tk0 7 23 (tf 8) hH ?_; refine pu0 8 24 (tf 9) ?_; refine tk0 9 25 (tf 10) hH ?_; refine pu0 10 26 (tf 11) ?_; refine pu0 11 27 (tf 12) ?_; refine pu0 12 28 (tf 13) ?_; refine pn0 13 29 (tf 14) ?_; refine pn0 14 30 (tf 15) ?_; refine pn0 15 31 (tf 16) ?_; refine pn0 16 32 (tf 17) ?_; refine pu0 17 33 (tf 18) ?_; refine pu0 18 34 (tf 19) ?_; refine pn0 19 35 (tf 20) ?_; refine pn0 20 36 (tf 21) ?_; refine pn0 21 37 (tf 22) ?_; refine pn0 22 38 (tf 23) ?_; refine pn0 23 39 (tf 24) ?_; refine pn0 24 40 (tf 25) ?_; refine pn0 25 41 (tf 26) ?_; refine pn0 26 42 (tf 27) ?_; refine pn0 27 43 (tf 28) ?_; refine pn0 28 44 (tf 29) ?_; refine pn0 29 45 (tf 30) ?_; refine pn0 30 46 (tf 31) ?_; refine pn0 31 47 (tf 32) ?_; refine pn0 32 48 (tf 33) ?_; refine pn0 33 49 (tf 34) ?_; refine pu0 34 50 (tf 35) ?_; refine YX zb6 ?_
        try go_wp2
        go_ret
        exact ⟨zb80, HB1.out⟩
      ·have HTX := zz htx
       rw [htx] at c1 hok; have HOKB := zz hok; clear hok htx
       by_cases hpv : (Xa l i).f6 = lastB (l.take i) 2
       ·have hpb : ((Xa l i).f6 != lastB (l.take i) 2) = false := by simp [hpv]
        have HPV := zz hpv; clear hpv
        by_cases hni : (Xa l i).f7 ≤ (i : Int)
        ·have hnb : decide ((i : Int) < (Xa l i).f7) = false := decide_eq_false (by omega)
         have HNI := zz hni; clear hni
         by_cases hn0 : (Xa l i).f7 ≤ 0
         ·have hn1 : decide ((0 : Int) < (Xa l i).f7) = false := decide_eq_false (by omega)
          have HN0 := zz hn0; clear hn0
          have HOKI := zz (show Jt l i = true by
           unfold Jt
           rw [HTX.out]
           rw [HOKB.out]; simp [HPV.out, HNI.out, HN0.out])
          have hw1 : wrap64 ((i : Int) + 1) = (i : Int) + 1 := T.wrap_small (by omega) zb56
          go_wp2_with fail
          obtain ⟨ha1, ha2, ha3, hf1, hf2, hf3⟩ := HA.out
          have hg1 : ((W1.alloc (.cells #[.int .i64 ((Xa l i).f0), .int .i64 (2), .int .i64 ((Xa l i).f2), .int .i64 ((Xa l i).f3), .int .i64 ((Xa l i).f4), .int .i64 ((Xa l i).f5), .int .i64 ((Xa l i).f6), .int .i64 ((Xa l i).f7)] 76)).drew).frozen? ⟨w.heap.size, 1, none⟩ = false := by go_simp
          have hg2 : ((W1.alloc (.cells #[.int .i64 ((Xa l i).f0), .int .i64 (2), .int .i64 ((Xa l i).f2), .int .i64 ((Xa l i).f3), .int .i64 ((Xa l i).f4), .int .i64 ((Xa l i).f5), .int .i64 ((Xa l i).f6), .int .i64 ((Xa l i).f7)] 76)).drew).frozen? ⟨w.heap.size, 2, none⟩ = false := by go_simp
          have hg3 : ((W1.alloc (.cells #[.int .i64 ((Xa l i).f0), .int .i64 (2), .int .i64 ((Xa l i).f2), .int .i64 ((Xa l i).f3), .int .i64 ((Xa l i).f4), .int .i64 ((Xa l i).f5), .int .i64 ((Xa l i).f6), .int .i64 ((Xa l i).f7)] 76)).drew).frozen? ⟨w.heap.size, 3, none⟩ = false := by go_simp
          have HW1 := zz (show Below w.heap.size w ((W1.alloc (.cells #[.int .i64 ((Xa l i).f0), .int .i64 (2), .int .i64 ((Xa l i).f2), .int .i64 ((Xa l i).f3), .int .i64 ((Xa l i).f4), .int .i64 ((Xa l i).f5), .int .i64 ((Xa l i).f6), .int .i64 ((Xa l i).f7)] 76)).drew) from Xx (Xj HB0.out _))
          have hZ2 : ((W1.alloc (.cells #[.int .i64 ((Xa l i).f0), .int .i64 (2), .int .i64 ((Xa l i).f2), .int .i64 ((Xa l i).f3), .int .i64 ((Xa l i).f4), .int .i64 ((Xa l i).f5), .int .i64 ((Xa l i).f6), .int .i64 ((Xa l i).f7)] 76)).drew).heap.size = W1.heap.size + 1 := by simp
          refine Yw (n := 35) (S := fun w' => g8 w' (W1.heap.size) (Xa l i) (2) ((Xa l i).f7) (w'.cell? ⟨w.heap.size, 1, none⟩ = some (.int .i64 (lastB (l.take i) 1)) ∧ w'.cell? ⟨w.heap.size, 2, none⟩ = some (.int .i64 (lastB (l.take i) 2)) ∧ w'.cell? ⟨w.heap.size, 3, none⟩ = some (.int .i64 (lastB (l.take i) 3)))) (ds := []) (tf 0) zb6 rfl rfl ⟨by go_simp, by go_simp, by go_simp, by go_simp, by go_simp, by go_simp, by go_simp, by go_simp, by go_simp, by go_simp, by go_simp⟩ (fun hH => ?_); generalize (W1.alloc (.cells #[.int .i64 ((Xa l i).f0), .int .i64 (2), .int .i64 ((Xa l i).f2), .int .i64 ((Xa l i).f3), .int .i64 ((Xa l i).f4), .int .i64 ((Xa l i).f5), .int .i64 ((Xa l i).f6), .int .i64 ((Xa l i).f7)] 76)).drew = W2 at hH HW1 hZ2 hg1 hg2 hg3 ⊢; refine tk0 0 16 (tf 1) hH ?_; refine Zj (i := 1) (N := some 17) (tf 2) rfl rfl zb6 (by decide) (fun K hK => ?_); refine YI Tryz.func80 zb6 rfl #[agx (Xa l i) (2) ((Xa l i).f7)] (by rfl) rfl rfl zb96 ?_; refine (Zn ((Xa l i).f0) (2) ((Xa l i).f2) ((Xa l i).f3) ((Xa l i).f4) ((Xa l i).f5) ((Xa l i).f6) ((Xa l i).f7) true HOKB.out _).mono ?_; rintro e w1 ⟨rfl, hb⟩; refine ⟨_, rfl, ?_⟩; obtain ⟨s0, s1, s2, s3, s4, s5, s6, s7, s8, s9, s10⟩ := hH; have hz2 := hb.size; have HB1 := zz (Yn HW1.out zb98 hb); have hk1 := (hb.frozen (p := ⟨w.heap.size, 1, none⟩) zb18).trans hg1; have hk2 := (hb.frozen (p := ⟨w.heap.size, 2, none⟩) zb18).trans hg2; have hk3 := (hb.frozen (p := ⟨w.heap.size, 3, none⟩) zb18).trans hg3; clear hg1 hg2 hg3; refine hK.out _ _ ⟨cc hb s0, cc hb s1, cc hb s2, cc hb s3, cc hb s4, cc hb s5, cc hb s6, cc hb s7, cc hb s8, cc hb s9, cc hb s10⟩ (fun hH => ?_)
          clear hK K; clear s0 s1 s2 s3 s4 s5 s6 s7 s8 s9 s10 hb; refine XQ (a' := ?_) ?_ ?_; rotate_left
          ·show Act.put _ (some 17) _ = _
           simp only [Act.put, List.setIfInBounds_toArray, List.set_cons_zero, List.set_cons_succ, Xz, XF]
           rfl
          refine pu0 2 18 (tf 3) ?_; refine pu0 3 19 (tf 4) ?_; refine pu0 4 20 (tf 5) ?_; refine tk0 5 21 (tf 6) hH ?_; refine pu0 6 22 (tf 7) ?_; refine tk0 7 23 (tf 8) hH ?_; refine pu0 8 24 (tf 9) ?_; refine tk0 9 25 (tf 10) hH ?_; refine pu0 10 26 (tf 11) ?_; refine pu0 11 27 (tf 12) ?_; refine pu0 12 28 (tf 13) ?_; refine pu0 13 29 (tf 14) ?_; refine tk0 14 30 (tf 15) hH ?_; refine pu0 15 31 (tf 16) ?_; refine pu0 16 32 (tf 17) ?_; refine pu0 17 33 (tf 18) ?_; refine pu0 18 34 (tf 19) ?_; refine pu0 19 35 (tf 20) ?_; refine tk0 20 36 (tf 21) hH ?_; refine pu0 21 37 (tf 22) ?_; refine pu0 22 38 (tf 23) ?_; refine pn0 23 39 (tf 24) ?_; refine pn0 24 40 (tf 25) ?_; refine pn0 25 41 (tf 26) ?_; refine pn0 26 42 (tf 27) ?_; refine pn0 27 43 (tf 28) ?_; refine pn0 28 44 (tf 29) ?_; refine pn0 29 45 (tf 30) ?_; refine pn0 30 46 (tf 31) ?_; refine pn0 31 47 (tf 32) ?_; refine pn0 32 48 (tf 33) ?_; refine pu0 33 49 (tf 34) ?_; refine pu0 34 50 (tf 35) ?_; refine YX zb6 ?_; obtain ⟨s0, s1, s2, s3, s4, s5, s6, s7, s8, s9, s10⟩ := hH
          have hy1 : w.heap.size < w1.heap.size := by have := HZ0.out; omega
          have hy2 : W1.heap.size < w1.heap.size := by omega
          by_cases he : (Xa l i).f0 = 4 ∨ (Xa l i).f0 = 5
          ·have heb : ((Xa l i).f0 == 4 || (Xa l i).f0 == 5) = true := by rcases he with h | h <;> simp [h]
           have HE := zz he; clear he
           go_wp2_with fail
           refine (Dk ((Xa l i).f0) (2) ((Xa l i).f2) ((Xa l i).f3) ((Xa l i).f4) ((Xa l i).f5) ((Xa l i).f6) ((Xa l i).f7) true heb _).mono ?_; rintro e w2 ⟨rfl, hb2⟩; obtain ⟨hc2, hf2⟩ := DU hb2; have hz3 := hb2.size
           (try simp at hz3)
           have HB2 := zz (Yn (Xq HB1.out (by omega)) zb60 hb2); clear hb2
           have hy3 : w.heap.size < w2.heap.size := by omega
           go_wp2
           go_roundg k1
           case measure => omega
           case rel =>
            refine ⟨i + 1, _, rfl, zb38, ⟨zb66⟩, ⟨zb56⟩, ⟨?_⟩, ⟨?_⟩, ⟨?_⟩, ⟨?_, ?_, ?_, ?_, ?_, ?_⟩⟩
            ·intro j hj
             by_cases hji : j = i
             ·subst hji
              exact HOKI.out
             ·exact HP.out j (by omega)
            ·first | omega | (simp; omega)
            ·repeat (first | (with_reducible exact HB2.out) | (refine Xq ?_ (by omega)))
            ·rw [XR l i HLT.out 1, HTX.out]; rw [if_neg (by omega)]; go_simp
            ·rw [XR l i HLT.out 2, HTX.out]; rw [if_pos rfl, if_pos HE.out]; go_simp
            ·rw [XR l i HLT.out 3, HTX.out]; rw [if_neg (by omega)]; go_simp
            ·go_simp
            ·go_simp
            ·go_simp
          ·have heb : ((Xa l i).f0 == 4 || (Xa l i).f0 == 5) = false := by simp; omega
           have HE := zz he; clear he
           go_wp2_with fail
           refine (Dk ((Xa l i).f0) (2) ((Xa l i).f2) ((Xa l i).f3) ((Xa l i).f4) ((Xa l i).f5) ((Xa l i).f6) ((Xa l i).f7) false heb _).mono ?_; rintro e w2 ⟨rfl, hb2⟩; obtain ⟨hc2, hf2⟩ := DU hb2; have hz3 := hb2.size
           (try simp at hz3)
           have HB2 := zz (Yn (Xq HB1.out (by omega)) zb60 hb2); clear hb2
           have hy3 : w.heap.size < w2.heap.size := by omega
           go_wp2
           go_roundg k1
           case measure => omega
           case rel =>
            refine ⟨i + 1, _, rfl, zb38, ⟨zb66⟩, ⟨zb56⟩, ⟨?_⟩, ⟨?_⟩, ⟨?_⟩, ⟨?_, ?_, ?_, ?_, ?_, ?_⟩⟩
            ·intro j hj
             by_cases hji : j = i
             ·subst hji
              exact HOKI.out
             ·exact HP.out j (by omega)
            ·first | omega | (simp; omega)
            ·repeat (first | (with_reducible exact HB2.out) | (refine Xq ?_ (by omega)))
            ·rw [XR l i HLT.out 1, HTX.out]; rw [if_neg (by omega)]; go_simp
            ·rw [XR l i HLT.out 2, HTX.out]; rw [if_pos rfl, if_neg HE.out]; go_simp
            ·rw [XR l i HLT.out 3, HTX.out]; rw [if_neg (by omega)]; go_simp
            ·go_simp
            ·go_simp
            ·go_simp
         ·obtain ⟨jn, hjn⟩ : ∃ jn : Nat, (Xa l i).f7 = (jn : Int) + 1 := ⟨((Xa l i).f7 - 1).toNat, by omega⟩
          have hn1 : decide ((0 : Int) < (jn : Int) + 1) = true := decide_eq_true (by omega); rw [hjn] at c7 hnb; have HJN := zz hjn; have hok2 := HOKB.out; rw [hjn] at hok2; replace HOKB := zz hok2; have hnx2 := HNI.out; have hlt2 := HLT.out; have hj1 := eq_true (show (0 : Int) ≤ (jn : Int) by omega); have hj2 := eq_true (show (jn : Int) < (l.length : Int) by omega)
          have hwr : wrap64 ((jn : Int) + 1 - 1) = (jn : Int) := by rw [T.wrap_small (by omega) (by omega)]; omega
          have hwr2 : wrap64 (jn : Int) = (jn : Int) := T.wrap_small (by omega) (by omega); obtain ⟨ad2, had, d0, d1, d2, d3, d4, d5, d6, d7⟩ := Ym HC1.out (jn : Int) (by omega) (by omega)
          cases had
          simp only [Int.toNat_natCast] at d1; clear d0 d2 d3 d4 d5 d6 d7 hok2 hnx2 hlt2 hn0 hjn
          by_cases hsm : (Xa l (jn : Int)).f1 = 2
          ·have hsb : ((Xa l (jn : Int)).f1 != 2) = false := by simp [hsm]
           have HSM := zz hsm; clear hsm
           have HOKI := zz (show Jt l i = true by
            unfold Jt
            rw [HTX.out]
            rw [HJN.out, HOKB.out]; simp [HPV.out, HSM.out]; have := HNI.out; have := HJN.out; omega)
           have hw1 : wrap64 ((i : Int) + 1) = (i : Int) + 1 := T.wrap_small (by omega) zb56
           go_wp2_with fail
           obtain ⟨ha1, ha2, ha3, hf1, hf2, hf3⟩ := HA.out
           have hg1 : ((W1.alloc (.cells #[.int .i64 ((Xa l i).f0), .int .i64 (2), .int .i64 ((Xa l i).f2), .int .i64 ((Xa l i).f3), .int .i64 ((Xa l i).f4), .int .i64 ((Xa l i).f5), .int .i64 ((Xa l i).f6), .int .i64 ((jn : Int) + 1)] 76)).drew).frozen? ⟨w.heap.size, 1, none⟩ = false := by go_simp
           have hg2 : ((W1.alloc (.cells #[.int .i64 ((Xa l i).f0), .int .i64 (2), .int .i64 ((Xa l i).f2), .int .i64 ((Xa l i).f3), .int .i64 ((Xa l i).f4), .int .i64 ((Xa l i).f5), .int .i64 ((Xa l i).f6), .int .i64 ((jn : Int) + 1)] 76)).drew).frozen? ⟨w.heap.size, 2, none⟩ = false := by go_simp
           have hg3 : ((W1.alloc (.cells #[.int .i64 ((Xa l i).f0), .int .i64 (2), .int .i64 ((Xa l i).f2), .int .i64 ((Xa l i).f3), .int .i64 ((Xa l i).f4), .int .i64 ((Xa l i).f5), .int .i64 ((Xa l i).f6), .int .i64 ((jn : Int) + 1)] 76)).drew).frozen? ⟨w.heap.size, 3, none⟩ = false := by go_simp
           have HW1 := zz (show Below w.heap.size w ((W1.alloc (.cells #[.int .i64 ((Xa l i).f0), .int .i64 (2), .int .i64 ((Xa l i).f2), .int .i64 ((Xa l i).f3), .int .i64 ((Xa l i).f4), .int .i64 ((Xa l i).f5), .int .i64 ((Xa l i).f6), .int .i64 ((jn : Int) + 1)] 76)).drew) from Xx (Xj HB0.out _))
           have hZ2 : ((W1.alloc (.cells #[.int .i64 ((Xa l i).f0), .int .i64 (2), .int .i64 ((Xa l i).f2), .int .i64 ((Xa l i).f3), .int .i64 ((Xa l i).f4), .int .i64 ((Xa l i).f5), .int .i64 ((Xa l i).f6), .int .i64 ((jn : Int) + 1)] 76)).drew).heap.size = W1.heap.size + 1 := by simp
           refine Yw (n := 35) (S := fun w' => g8 w' (W1.heap.size) (Xa l i) (2) ((jn : Int) + 1) (w'.cell? ⟨w.heap.size, 1, none⟩ = some (.int .i64 (lastB (l.take i) 1)) ∧ w'.cell? ⟨w.heap.size, 2, none⟩ = some (.int .i64 (lastB (l.take i) 2)) ∧ w'.cell? ⟨w.heap.size, 3, none⟩ = some (.int .i64 (lastB (l.take i) 3)) ∧ w'.cell? ⟨(ad.add (jn * 8)).block, (ad.add (jn * 8)).off + 1, none⟩ = some (.int .i64 (Xa l (jn : Int)).f1))) (ds := []) (tf 0) zb6 rfl rfl ⟨by go_simp, by go_simp, by go_simp, by go_simp, by go_simp, by go_simp, by go_simp, by go_simp, by go_simp, by go_simp, by go_simp, ((Xx (Xj (Below.refl W1.heap.size W1) (.cells #[.int .i64 ((Xa l i).f0), .int .i64 (2), .int .i64 ((Xa l i).f2), .int .i64 ((Xa l i).f3), .int .i64 ((Xa l i).f4), .int .i64 ((Xa l i).f5), .int .i64 ((Xa l i).f6), .int .i64 ((jn : Int) + 1)] 76)) : Below W1.heap.size W1 ((W1.alloc (.cells #[.int .i64 ((Xa l i).f0), .int .i64 (2), .int .i64 ((Xa l i).f2), .int .i64 ((Xa l i).f3), .int .i64 ((Xa l i).f4), .int .i64 ((Xa l i).f5), .int .i64 ((Xa l i).f6), .int .i64 ((jn : Int) + 1)] 76)).drew)).cell (World.block_lt_of_cell? W1 _ d1)).trans d1⟩ (fun hH => ?_); generalize (W1.alloc (.cells #[.int .i64 ((Xa l i).f0), .int .i64 (2), .int .i64 ((Xa l i).f2), .int .i64 ((Xa l i).f3), .int .i64 ((Xa l i).f4), .int .i64 ((Xa l i).f5), .int .i64 ((Xa l i).f6), .int .i64 ((jn : Int) + 1)] 76)).drew = W2 at hH HW1 hZ2 hg1 hg2 hg3 ⊢; refine tk0 0 16 (tf 1) hH ?_; refine Zj (i := 1) (N := some 17) (tf 2) rfl rfl zb6 (by decide) (fun K hK => ?_)
           refine YI Tryz.func80 zb6 rfl #[agx (Xa l i) (2) ((jn : Int) + 1)] (by rfl) rfl rfl zb96 ?_; refine (Zn ((Xa l i).f0) (2) ((Xa l i).f2) ((Xa l i).f3) ((Xa l i).f4) ((Xa l i).f5) ((Xa l i).f6) ((jn : Int) + 1) true HOKB.out _).mono ?_; rintro e w1 ⟨rfl, hb⟩; refine ⟨_, rfl, ?_⟩; obtain ⟨s0, s1, s2, s3, s4, s5, s6, s7, s8, s9, s10, s11⟩ := hH; have hz2 := hb.size; have HB1 := zz (Yn HW1.out zb98 hb); have hk1 := (hb.frozen (p := ⟨w.heap.size, 1, none⟩) zb18).trans hg1; have hk2 := (hb.frozen (p := ⟨w.heap.size, 2, none⟩) zb18).trans hg2; have hk3 := (hb.frozen (p := ⟨w.heap.size, 3, none⟩) zb18).trans hg3; clear hg1 hg2 hg3; refine hK.out _ _ ⟨cc hb s0, cc hb s1, cc hb s2, cc hb s3, cc hb s4, cc hb s5, cc hb s6, cc hb s7, cc hb s8, cc hb s9, cc hb s10, cc hb s11⟩ (fun hH => ?_); clear hK K; clear s0 s1 s2 s3 s4 s5 s6 s7 s8 s9 s10 s11 hb; refine XQ (a' := ?_) ?_ ?_; rotate_left
           ·show Act.put _ (some 17) _ = _
            simp only [Act.put, List.setIfInBounds_toArray, List.set_cons_zero, List.set_cons_succ, Xz, XF]
            rfl
           refine pu0 2 18 (tf 3) ?_; refine pu0 3 19 (tf 4) ?_; refine pu0 4 20 (tf 5) ?_; refine tk0 5 21 (tf 6) hH ?_; refine pu0 6 22 (tf 7) ?_; refine tk0 7 23 (tf 8) hH ?_; refine pu0 8 24 (tf 9) ?_; refine tk0 9 25 (tf 10) hH ?_; refine pu0 10 26 (tf 11) ?_; refine pu0 11 27 (tf 12) ?_; refine pu0 12 28 (tf 13) ?_; refine pu0 13 29 (tf 14) ?_; refine tk0 14 30 (tf 15) hH ?_; refine pu0 15 31 (tf 16) ?_; refine pu0 16 32 (tf 17) ?_; refine pu0 17 33 (tf 18) ?_; refine pu0 18 34 (tf 19) ?_; refine pu0 19 35 (tf 20) ?_; refine tk0 20 36 (tf 21) hH ?_; refine pu0 21 37 (tf 22) ?_; refine pu0 22 38 (tf 23) ?_; refine pu0 23 39 (tf 24) ?_; refine pu0 24 40 (tf 25) ?_; refine tk0 25 41 (tf 26) hH ?_; refine pu0 26 42 (tf 27) ?_; refine pu0 27 43 (tf 28) ?_; refine pu0 28 44 (tf 29) ?_; refine tk0 29 45 (tf 30) hH ?_; refine pu0 30 46 (tf 31) ?_; refine tk0 31 47 (tf 32) hH ?_; refine pu0 32 48 (tf 33) ?_; refine pu0 33 49 (tf 34) ?_; refine pu0 34 50 (tf 35) ?_; refine YX zb6 ?_; obtain ⟨s0, s1, s2, s3, s4, s5, s6, s7, s8, s9, s10, s11⟩ := hH
           have hy1 : w.heap.size < w1.heap.size := by have := HZ0.out; omega
           have hy2 : W1.heap.size < w1.heap.size := by omega
           by_cases he : (Xa l i).f0 = 4 ∨ (Xa l i).f0 = 5
           ·have heb : ((Xa l i).f0 == 4 || (Xa l i).f0 == 5) = true := by rcases he with h | h <;> simp [h]
            have HE := zz he; clear he
            go_wp2_with fail
            refine (Dk ((Xa l i).f0) (2) ((Xa l i).f2) ((Xa l i).f3) ((Xa l i).f4) ((Xa l i).f5) ((Xa l i).f6) ((jn : Int) + 1) true heb _).mono ?_; rintro e w2 ⟨rfl, hb2⟩; obtain ⟨hc2, hf2⟩ := DU hb2; have hz3 := hb2.size
            (try simp at hz3)
            have HB2 := zz (Yn (Xq HB1.out (by omega)) zb60 hb2); clear hb2
            have hy3 : w.heap.size < w2.heap.size := by omega
            go_wp2
            go_roundg k1
            case measure => omega
            case rel =>
             refine ⟨i + 1, _, rfl, zb38, ⟨zb66⟩, ⟨zb56⟩, ⟨?_⟩, ⟨?_⟩, ⟨?_⟩, ⟨?_, ?_, ?_, ?_, ?_, ?_⟩⟩
             ·intro j hj
              by_cases hji : j = i
              ·subst hji
               exact HOKI.out
              ·exact HP.out j (by omega)
             ·first | omega | (simp; omega)
             ·repeat (first | (with_reducible exact HB2.out) | (refine Xq ?_ (by omega)))
             ·rw [XR l i HLT.out 1, HTX.out]; rw [if_neg (by omega)]; go_simp
             ·rw [XR l i HLT.out 2, HTX.out]; rw [if_pos rfl, if_pos HE.out]; go_simp
             ·rw [XR l i HLT.out 3, HTX.out]; rw [if_neg (by omega)]; go_simp
             ·go_simp
             ·go_simp
             ·go_simp
           ·have heb : ((Xa l i).f0 == 4 || (Xa l i).f0 == 5) = false := by simp; omega
            have HE := zz he; clear he
            go_wp2_with fail
            refine (Dk ((Xa l i).f0) (2) ((Xa l i).f2) ((Xa l i).f3) ((Xa l i).f4) ((Xa l i).f5) ((Xa l i).f6) ((jn : Int) + 1) false heb _).mono ?_; rintro e w2 ⟨rfl, hb2⟩; obtain ⟨hc2, hf2⟩ := DU hb2; have hz3 := hb2.size
            (try simp at hz3)
            have HB2 := zz (Yn (Xq HB1.out (by omega)) zb60 hb2); clear hb2
            have hy3 : w.heap.size < w2.heap.size := by omega
            go_wp2
            go_roundg k1
            case measure => omega
            case rel =>
             refine ⟨i + 1, _, rfl, zb38, ⟨zb66⟩, ⟨zb56⟩, ⟨?_⟩, ⟨?_⟩, ⟨?_⟩, ⟨?_, ?_, ?_, ?_, ?_, ?_⟩⟩
             ·intro j hj
              by_cases hji : j = i
              ·subst hji
               exact HOKI.out
              ·exact HP.out j (by omega)
             ·first | omega | (simp; omega)
             ·repeat (first | (with_reducible exact HB2.out) | (refine Xq ?_ (by omega)))
             ·rw [XR l i HLT.out 1, HTX.out]; rw [if_neg (by omega)]; go_simp
             ·rw [XR l i HLT.out 2, HTX.out]; rw [if_pos rfl, if_neg HE.out]; go_simp
             ·rw [XR l i HLT.out 3, HTX.out]; rw [if_neg (by omega)]; go_simp
             ·go_simp
             ·go_simp
             ·go_simp
          ·have hsb : ((Xa l (jn : Int)).f1 != 2) = true := by simp [hsm]
           have HSM := zz hsm; clear hsm
           have HN := zz (VE HLT.out (show Jt l i = false by
            unfold Jt
            rw [HTX.out, HJN.out]
            simp [HSM.out]))
           go_wp2_with fail
           obtain ⟨ha1, ha2, ha3, hf1, hf2, hf3⟩ := HA.out
           have hg1 : ((W1.alloc (.cells #[.int .i64 ((Xa l i).f0), .int .i64 (2), .int .i64 ((Xa l i).f2), .int .i64 ((Xa l i).f3), .int .i64 ((Xa l i).f4), .int .i64 ((Xa l i).f5), .int .i64 ((Xa l i).f6), .int .i64 ((jn : Int) + 1)] 76)).drew).frozen? ⟨w.heap.size, 1, none⟩ = false := by go_simp
           have hg2 : ((W1.alloc (.cells #[.int .i64 ((Xa l i).f0), .int .i64 (2), .int .i64 ((Xa l i).f2), .int .i64 ((Xa l i).f3), .int .i64 ((Xa l i).f4), .int .i64 ((Xa l i).f5), .int .i64 ((Xa l i).f6), .int .i64 ((jn : Int) + 1)] 76)).drew).frozen? ⟨w.heap.size, 2, none⟩ = false := by go_simp
           have hg3 : ((W1.alloc (.cells #[.int .i64 ((Xa l i).f0), .int .i64 (2), .int .i64 ((Xa l i).f2), .int .i64 ((Xa l i).f3), .int .i64 ((Xa l i).f4), .int .i64 ((Xa l i).f5), .int .i64 ((Xa l i).f6), .int .i64 ((jn : Int) + 1)] 76)).drew).frozen? ⟨w.heap.size, 3, none⟩ = false := by go_simp
           have HW1 := zz (show Below w.heap.size w ((W1.alloc (.cells #[.int .i64 ((Xa l i).f0), .int .i64 (2), .int .i64 ((Xa l i).f2), .int .i64 ((Xa l i).f3), .int .i64 ((Xa l i).f4), .int .i64 ((Xa l i).f5), .int .i64 ((Xa l i).f6), .int .i64 ((jn : Int) + 1)] 76)).drew) from Xx (Xj HB0.out _))
           have hZ2 : ((W1.alloc (.cells #[.int .i64 ((Xa l i).f0), .int .i64 (2), .int .i64 ((Xa l i).f2), .int .i64 ((Xa l i).f3), .int .i64 ((Xa l i).f4), .int .i64 ((Xa l i).f5), .int .i64 ((Xa l i).f6), .int .i64 ((jn : Int) + 1)] 76)).drew).heap.size = W1.heap.size + 1 := by simp
           refine Yw (n := 35) (S := fun w' => g8 w' (W1.heap.size) (Xa l i) (2) ((jn : Int) + 1) (w'.cell? ⟨w.heap.size, 1, none⟩ = some (.int .i64 (lastB (l.take i) 1)) ∧ w'.cell? ⟨w.heap.size, 2, none⟩ = some (.int .i64 (lastB (l.take i) 2)) ∧ w'.cell? ⟨w.heap.size, 3, none⟩ = some (.int .i64 (lastB (l.take i) 3)) ∧ w'.cell? ⟨(ad.add (jn * 8)).block, (ad.add (jn * 8)).off + 1, none⟩ = some (.int .i64 (Xa l (jn : Int)).f1))) (ds := []) (tf 0) zb6 rfl rfl ⟨by go_simp, by go_simp, by go_simp, by go_simp, by go_simp, by go_simp, by go_simp, by go_simp, by go_simp, by go_simp, by go_simp, ((Xx (Xj (Below.refl W1.heap.size W1) (.cells #[.int .i64 ((Xa l i).f0), .int .i64 (2), .int .i64 ((Xa l i).f2), .int .i64 ((Xa l i).f3), .int .i64 ((Xa l i).f4), .int .i64 ((Xa l i).f5), .int .i64 ((Xa l i).f6), .int .i64 ((jn : Int) + 1)] 76)) : Below W1.heap.size W1 ((W1.alloc (.cells #[.int .i64 ((Xa l i).f0), .int .i64 (2), .int .i64 ((Xa l i).f2), .int .i64 ((Xa l i).f3), .int .i64 ((Xa l i).f4), .int .i64 ((Xa l i).f5), .int .i64 ((Xa l i).f6), .int .i64 ((jn : Int) + 1)] 76)).drew)).cell (World.block_lt_of_cell? W1 _ d1)).trans d1⟩ (fun hH => ?_); generalize (W1.alloc (.cells #[.int .i64 ((Xa l i).f0), .int .i64 (2), .int .i64 ((Xa l i).f2), .int .i64 ((Xa l i).f3), .int .i64 ((Xa l i).f4), .int .i64 ((Xa l i).f5), .int .i64 ((Xa l i).f6), .int .i64 ((jn : Int) + 1)] 76)).drew = W2 at hH HW1 hZ2 hg1 hg2 hg3 ⊢; refine tk0 0 16 (tf 1) hH ?_; refine Zj (i := 1) (N := some 17) (tf 2) rfl rfl zb6 (by decide) (fun K hK => ?_)
           refine YI Tryz.func80 zb6 rfl #[agx (Xa l i) (2) ((jn : Int) + 1)] (by rfl) rfl rfl zb96 ?_; refine (Zn ((Xa l i).f0) (2) ((Xa l i).f2) ((Xa l i).f3) ((Xa l i).f4) ((Xa l i).f5) ((Xa l i).f6) ((jn : Int) + 1) true HOKB.out _).mono ?_; rintro e w1 ⟨rfl, hb⟩; refine ⟨_, rfl, ?_⟩; obtain ⟨s0, s1, s2, s3, s4, s5, s6, s7, s8, s9, s10, s11⟩ := hH; have hz2 := hb.size; have HB1 := zz (Yn HW1.out zb98 hb); have hk1 := (hb.frozen (p := ⟨w.heap.size, 1, none⟩) zb18).trans hg1; have hk2 := (hb.frozen (p := ⟨w.heap.size, 2, none⟩) zb18).trans hg2; have hk3 := (hb.frozen (p := ⟨w.heap.size, 3, none⟩) zb18).trans hg3; clear hg1 hg2 hg3; refine hK.out _ _ ⟨cc hb s0, cc hb s1, cc hb s2, cc hb s3, cc hb s4, cc hb s5, cc hb s6, cc hb s7, cc hb s8, cc hb s9, cc hb s10, cc hb s11⟩ (fun hH => ?_); clear hK K; clear s0 s1 s2 s3 s4 s5 s6 s7 s8 s9 s10 s11 hb; refine XQ (a' := ?_) ?_ ?_; rotate_left
           ·show Act.put _ (some 17) _ = _
            simp only [Act.put, List.setIfInBounds_toArray, List.set_cons_zero, List.set_cons_succ, Xz, XF]
            rfl
           refine pu0 2 18 (tf 3) ?_; refine pu0 3 19 (tf 4) ?_; refine pu0 4 20 (tf 5) ?_; refine tk0 5 21 (tf 6) hH ?_; refine pu0 6 22 (tf 7) ?_; refine tk0 7 23 (tf 8) hH ?_; refine pu0 8 24 (tf 9) ?_; refine tk0 9 25 (tf 10) hH ?_; refine pu0 10 26 (tf 11) ?_; refine pu0 11 27 (tf 12) ?_; refine pu0 12 28 (tf 13) ?_; refine pu0 13 29 (tf 14) ?_; refine tk0 14 30 (tf 15) hH ?_; refine pu0 15 31 (tf 16) ?_; refine pu0 16 32 (tf 17) ?_; refine pu0 17 33 (tf 18) ?_; refine pu0 18 34 (tf 19) ?_; refine pu0 19 35 (tf 20) ?_; refine tk0 20 36 (tf 21) hH ?_; refine pu0 21 37 (tf 22) ?_; refine pu0 22 38 (tf 23) ?_; refine pu0 23 39 (tf 24) ?_; refine pu0 24 40 (tf 25) ?_; refine tk0 25 41 (tf 26) hH ?_; refine pu0 26 42 (tf 27) ?_; refine pu0 27 43 (tf 28) ?_; refine pu0 28 44 (tf 29) ?_; refine tk0 29 45 (tf 30) hH ?_; refine pu0 30 46 (tf 31) ?_; refine tk0 31 47 (tf 32) hH ?_; refine pu0 32 48 (tf 33) ?_; refine pu0 33 49 (tf 34) ?_; refine pu0 34 50 (tf 35) ?_; refine YX zb6 ?_
           try go_wp2
           go_ret
           exact ⟨zb80, HB1.out⟩
        ·have hnb : decide ((i : Int) < (Xa l i).f7) = true := decide_eq_true (by omega)
         have HN := zz (VE HLT.out (show Jt l i = false by unfold Jt; simp [hni])); clear hni
         go_wp2_with fail
         obtain ⟨ha1, ha2, ha3, hf1, hf2, hf3⟩ := HA.out
         have hg1 : ((W1.alloc (.cells #[.int .i64 ((Xa l i).f0), .int .i64 (2), .int .i64 ((Xa l i).f2), .int .i64 ((Xa l i).f3), .int .i64 ((Xa l i).f4), .int .i64 ((Xa l i).f5), .int .i64 ((Xa l i).f6), .int .i64 ((Xa l i).f7)] 76)).drew).frozen? ⟨w.heap.size, 1, none⟩ = false := by go_simp
         have hg2 : ((W1.alloc (.cells #[.int .i64 ((Xa l i).f0), .int .i64 (2), .int .i64 ((Xa l i).f2), .int .i64 ((Xa l i).f3), .int .i64 ((Xa l i).f4), .int .i64 ((Xa l i).f5), .int .i64 ((Xa l i).f6), .int .i64 ((Xa l i).f7)] 76)).drew).frozen? ⟨w.heap.size, 2, none⟩ = false := by go_simp
         have hg3 : ((W1.alloc (.cells #[.int .i64 ((Xa l i).f0), .int .i64 (2), .int .i64 ((Xa l i).f2), .int .i64 ((Xa l i).f3), .int .i64 ((Xa l i).f4), .int .i64 ((Xa l i).f5), .int .i64 ((Xa l i).f6), .int .i64 ((Xa l i).f7)] 76)).drew).frozen? ⟨w.heap.size, 3, none⟩ = false := by go_simp
         have HW1 := zz (show Below w.heap.size w ((W1.alloc (.cells #[.int .i64 ((Xa l i).f0), .int .i64 (2), .int .i64 ((Xa l i).f2), .int .i64 ((Xa l i).f3), .int .i64 ((Xa l i).f4), .int .i64 ((Xa l i).f5), .int .i64 ((Xa l i).f6), .int .i64 ((Xa l i).f7)] 76)).drew) from Xx (Xj HB0.out _))
         have hZ2 : ((W1.alloc (.cells #[.int .i64 ((Xa l i).f0), .int .i64 (2), .int .i64 ((Xa l i).f2), .int .i64 ((Xa l i).f3), .int .i64 ((Xa l i).f4), .int .i64 ((Xa l i).f5), .int .i64 ((Xa l i).f6), .int .i64 ((Xa l i).f7)] 76)).drew).heap.size = W1.heap.size + 1 := by simp
         refine Yw (n := 35) (S := fun w' => g8 w' (W1.heap.size) (Xa l i) (2) ((Xa l i).f7) (w'.cell? ⟨w.heap.size, 1, none⟩ = some (.int .i64 (lastB (l.take i) 1)) ∧ w'.cell? ⟨w.heap.size, 2, none⟩ = some (.int .i64 (lastB (l.take i) 2)) ∧ w'.cell? ⟨w.heap.size, 3, none⟩ = some (.int .i64 (lastB (l.take i) 3)))) (ds := []) (tf 0) zb6 rfl rfl ⟨by go_simp, by go_simp, by go_simp, by go_simp, by go_simp, by go_simp, by go_simp, by go_simp, by go_simp, by go_simp, by go_simp⟩ (fun hH => ?_); generalize (W1.alloc (.cells #[.int .i64 ((Xa l i).f0), .int .i64 (2), .int .i64 ((Xa l i).f2), .int .i64 ((Xa l i).f3), .int .i64 ((Xa l i).f4), .int .i64 ((Xa l i).f5), .int .i64 ((Xa l i).f6), .int .i64 ((Xa l i).f7)] 76)).drew = W2 at hH HW1 hZ2 hg1 hg2 hg3 ⊢; refine tk0 0 16 (tf 1) hH ?_; refine Zj (i := 1) (N := some 17) (tf 2) rfl rfl zb6 (by decide) (fun K hK => ?_); refine YI Tryz.func80 zb6 rfl #[agx (Xa l i) (2) ((Xa l i).f7)] (by rfl) rfl rfl zb96 ?_; refine (Zn ((Xa l i).f0) (2) ((Xa l i).f2) ((Xa l i).f3) ((Xa l i).f4) ((Xa l i).f5) ((Xa l i).f6) ((Xa l i).f7) true HOKB.out _).mono ?_; rintro e w1 ⟨rfl, hb⟩; refine ⟨_, rfl, ?_⟩; obtain ⟨s0, s1, s2, s3, s4, s5, s6, s7, s8, s9, s10⟩ := hH; have hz2 := hb.size; have HB1 := zz (Yn HW1.out zb98 hb); have hk1 := (hb.frozen (p := ⟨w.heap.size, 1, none⟩) zb18).trans hg1; have hk2 := (hb.frozen (p := ⟨w.heap.size, 2, none⟩) zb18).trans hg2; have hk3 := (hb.frozen (p := ⟨w.heap.size, 3, none⟩) zb18).trans hg3; clear hg1 hg2 hg3; refine hK.out _ _ ⟨cc hb s0, cc hb s1, cc hb s2, cc hb s3, cc hb s4, cc hb s5, cc hb s6, cc hb s7, cc hb s8, cc hb s9, cc hb s10⟩ (fun hH => ?_)
         clear hK K; clear s0 s1 s2 s3 s4 s5 s6 s7 s8 s9 s10 hb; refine XQ (a' := ?_) ?_ ?_; rotate_left
         ·show Act.put _ (some 17) _ = _
          simp only [Act.put, List.setIfInBounds_toArray, List.set_cons_zero, List.set_cons_succ, Xz, XF]
          rfl
         refine pu0 2 18 (tf 3) ?_; refine pu0 3 19 (tf 4) ?_; refine pu0 4 20 (tf 5) ?_; refine tk0 5 21 (tf 6) hH ?_; refine pu0 6 22 (tf 7) ?_; refine tk0 7 23 (tf 8) hH ?_; refine pu0 8 24 (tf 9) ?_; refine tk0 9 25 (tf 10) hH ?_; refine pu0 10 26 (tf 11) ?_; refine pu0 11 27 (tf 12) ?_; refine pu0 12 28 (tf 13) ?_; refine pu0 13 29 (tf 14) ?_; refine tk0 14 30 (tf 15) hH ?_; refine pu0 15 31 (tf 16) ?_; refine pu0 16 32 (tf 17) ?_; refine pu0 17 33 (tf 18) ?_; refine pu0 18 34 (tf 19) ?_; refine pn0 19 35 (tf 20) ?_; refine pn0 20 36 (tf 21) ?_; refine pn0 21 37 (tf 22) ?_; refine pn0 22 38 (tf 23) ?_; refine pn0 23 39 (tf 24) ?_; refine pn0 24 40 (tf 25) ?_; refine pn0 25 41 (tf 26) ?_; refine pn0 26 42 (tf 27) ?_; refine pn0 27 43 (tf 28) ?_; refine pn0 28 44 (tf 29) ?_; refine pn0 29 45 (tf 30) ?_; refine pn0 30 46 (tf 31) ?_; refine pn0 31 47 (tf 32) ?_; refine pn0 32 48 (tf 33) ?_; refine pn0 33 49 (tf 34) ?_; refine pu0 34 50 (tf 35) ?_; refine YX zb6 ?_
         try go_wp2
         go_ret
         exact ⟨zb80, HB1.out⟩
       ·have hpb : ((Xa l i).f6 != lastB (l.take i) 2) = true := by simp [hpv]
        have HN := zz (VE HLT.out (show Jt l i = false by unfold Jt; rw [HTX.out]; simp [hpv])); clear hpv
        go_wp2_with fail
        obtain ⟨ha1, ha2, ha3, hf1, hf2, hf3⟩ := HA.out
        have hg1 : ((W1.alloc (.cells #[.int .i64 ((Xa l i).f0), .int .i64 (2), .int .i64 ((Xa l i).f2), .int .i64 ((Xa l i).f3), .int .i64 ((Xa l i).f4), .int .i64 ((Xa l i).f5), .int .i64 ((Xa l i).f6), .int .i64 ((Xa l i).f7)] 76)).drew).frozen? ⟨w.heap.size, 1, none⟩ = false := by go_simp
        have hg2 : ((W1.alloc (.cells #[.int .i64 ((Xa l i).f0), .int .i64 (2), .int .i64 ((Xa l i).f2), .int .i64 ((Xa l i).f3), .int .i64 ((Xa l i).f4), .int .i64 ((Xa l i).f5), .int .i64 ((Xa l i).f6), .int .i64 ((Xa l i).f7)] 76)).drew).frozen? ⟨w.heap.size, 2, none⟩ = false := by go_simp
        have hg3 : ((W1.alloc (.cells #[.int .i64 ((Xa l i).f0), .int .i64 (2), .int .i64 ((Xa l i).f2), .int .i64 ((Xa l i).f3), .int .i64 ((Xa l i).f4), .int .i64 ((Xa l i).f5), .int .i64 ((Xa l i).f6), .int .i64 ((Xa l i).f7)] 76)).drew).frozen? ⟨w.heap.size, 3, none⟩ = false := by go_simp
        have HW1 := zz (show Below w.heap.size w ((W1.alloc (.cells #[.int .i64 ((Xa l i).f0), .int .i64 (2), .int .i64 ((Xa l i).f2), .int .i64 ((Xa l i).f3), .int .i64 ((Xa l i).f4), .int .i64 ((Xa l i).f5), .int .i64 ((Xa l i).f6), .int .i64 ((Xa l i).f7)] 76)).drew) from Xx (Xj HB0.out _))
        have hZ2 : ((W1.alloc (.cells #[.int .i64 ((Xa l i).f0), .int .i64 (2), .int .i64 ((Xa l i).f2), .int .i64 ((Xa l i).f3), .int .i64 ((Xa l i).f4), .int .i64 ((Xa l i).f5), .int .i64 ((Xa l i).f6), .int .i64 ((Xa l i).f7)] 76)).drew).heap.size = W1.heap.size + 1 := by simp
        refine Yw (n := 35) (S := fun w' => g8 w' (W1.heap.size) (Xa l i) (2) ((Xa l i).f7) (w'.cell? ⟨w.heap.size, 1, none⟩ = some (.int .i64 (lastB (l.take i) 1)) ∧ w'.cell? ⟨w.heap.size, 2, none⟩ = some (.int .i64 (lastB (l.take i) 2)) ∧ w'.cell? ⟨w.heap.size, 3, none⟩ = some (.int .i64 (lastB (l.take i) 3)))) (ds := []) (tf 0) zb6 rfl rfl ⟨by go_simp, by go_simp, by go_simp, by go_simp, by go_simp, by go_simp, by go_simp, by go_simp, by go_simp, by go_simp, by go_simp⟩ (fun hH => ?_); generalize (W1.alloc (.cells #[.int .i64 ((Xa l i).f0), .int .i64 (2), .int .i64 ((Xa l i).f2), .int .i64 ((Xa l i).f3), .int .i64 ((Xa l i).f4), .int .i64 ((Xa l i).f5), .int .i64 ((Xa l i).f6), .int .i64 ((Xa l i).f7)] 76)).drew = W2 at hH HW1 hZ2 hg1 hg2 hg3 ⊢; refine tk0 0 16 (tf 1) hH ?_; refine Zj (i := 1) (N := some 17) (tf 2) rfl rfl zb6 (by decide) (fun K hK => ?_); refine YI Tryz.func80 zb6 rfl #[agx (Xa l i) (2) ((Xa l i).f7)] (by rfl) rfl rfl zb96 ?_; refine (Zn ((Xa l i).f0) (2) ((Xa l i).f2) ((Xa l i).f3) ((Xa l i).f4) ((Xa l i).f5) ((Xa l i).f6) ((Xa l i).f7) true HOKB.out _).mono ?_; rintro e w1 ⟨rfl, hb⟩; refine ⟨_, rfl, ?_⟩; obtain ⟨s0, s1, s2, s3, s4, s5, s6, s7, s8, s9, s10⟩ := hH; have hz2 := hb.size; have HB1 := zz (Yn HW1.out zb98 hb); have hk1 := (hb.frozen (p := ⟨w.heap.size, 1, none⟩) zb18).trans hg1; have hk2 := (hb.frozen (p := ⟨w.heap.size, 2, none⟩) zb18).trans hg2; have hk3 := (hb.frozen (p := ⟨w.heap.size, 3, none⟩) zb18).trans hg3; clear hg1 hg2 hg3; refine hK.out _ _ ⟨cc hb s0, cc hb s1, cc hb s2, cc hb s3, cc hb s4, cc hb s5, cc hb s6, cc hb s7, cc hb s8, cc hb s9, cc hb s10⟩ (fun hH => ?_)
        clear hK K; clear s0 s1 s2 s3 s4 s5 s6 s7 s8 s9 s10 hb; refine XQ (a' := ?_) ?_ ?_; rotate_left
        ·show Act.put _ (some 17) _ = _
         simp only [Act.put, List.setIfInBounds_toArray, List.set_cons_zero, List.set_cons_succ, Xz, XF]
         rfl
        refine pu0 2 18 (tf 3) ?_; refine pu0 3 19 (tf 4) ?_; refine pu0 4 20 (tf 5) ?_; refine tk0 5 21 (tf 6) hH ?_; refine pu0 6 22 (tf 7) ?_; refine tk0 7 23 (tf 8) hH ?_; refine pu0 8 24 (tf 9) ?_; refine tk0 9 25 (tf 10) hH ?_; refine pu0 10 26 (tf 11) ?_; refine pu0 11 27 (tf 12) ?_; refine pu0 12 28 (tf 13) ?_; refine pn0 13 29 (tf 14) ?_; refine pn0 14 30 (tf 15) ?_; refine pn0 15 31 (tf 16) ?_; refine pn0 16 32 (tf 17) ?_; refine pu0 17 33 (tf 18) ?_; refine pu0 18 34 (tf 19) ?_; refine pn0 19 35 (tf 20) ?_; refine pn0 20 36 (tf 21) ?_; refine pn0 21 37 (tf 22) ?_; refine pn0 22 38 (tf 23) ?_; refine pn0 23 39 (tf 24) ?_; refine pn0 24 40 (tf 25) ?_; refine pn0 25 41 (tf 26) ?_; refine pn0 26 42 (tf 27) ?_; refine pn0 27 43 (tf 28) ?_; refine pn0 28 44 (tf 29) ?_; refine pn0 29 45 (tf 30) ?_; refine pn0 30 46 (tf 31) ?_; refine pn0 31 47 (tf 32) ?_; refine pn0 32 48 (tf 33) ?_; refine pn0 33 49 (tf 34) ?_; refine pu0 34 50 (tf 35) ?_; refine YX zb6 ?_
        try go_wp2
        go_ret
        exact ⟨zb80, HB1.out⟩
      ·have HTX := zz htx
       rw [htx] at c1 hok; have HOKB := zz hok; clear hok htx
       by_cases hpv : (Xa l i).f6 = lastB (l.take i) 3
       ·have hpb : ((Xa l i).f6 != lastB (l.take i) 3) = false := by simp [hpv]
        have HPV := zz hpv; clear hpv
        by_cases hni : (Xa l i).f7 ≤ (i : Int)
        ·have hnb : decide ((i : Int) < (Xa l i).f7) = false := decide_eq_false (by omega)
         have HNI := zz hni; clear hni
         by_cases hn0 : (Xa l i).f7 ≤ 0
         ·have hn1 : decide ((0 : Int) < (Xa l i).f7) = false := decide_eq_false (by omega)
          have HN0 := zz hn0; clear hn0
          have HOKI := zz (show Jt l i = true by
           unfold Jt
           rw [HTX.out]
           rw [HOKB.out]; simp [HPV.out, HNI.out, HN0.out])
          have hw1 : wrap64 ((i : Int) + 1) = (i : Int) + 1 := T.wrap_small (by omega) zb56
          go_wp2_with fail
          obtain ⟨ha1, ha2, ha3, hf1, hf2, hf3⟩ := HA.out
          have hg1 : ((W1.alloc (.cells #[.int .i64 ((Xa l i).f0), .int .i64 (3), .int .i64 ((Xa l i).f2), .int .i64 ((Xa l i).f3), .int .i64 ((Xa l i).f4), .int .i64 ((Xa l i).f5), .int .i64 ((Xa l i).f6), .int .i64 ((Xa l i).f7)] 76)).drew).frozen? ⟨w.heap.size, 1, none⟩ = false := by go_simp
          have hg2 : ((W1.alloc (.cells #[.int .i64 ((Xa l i).f0), .int .i64 (3), .int .i64 ((Xa l i).f2), .int .i64 ((Xa l i).f3), .int .i64 ((Xa l i).f4), .int .i64 ((Xa l i).f5), .int .i64 ((Xa l i).f6), .int .i64 ((Xa l i).f7)] 76)).drew).frozen? ⟨w.heap.size, 2, none⟩ = false := by go_simp
          have hg3 : ((W1.alloc (.cells #[.int .i64 ((Xa l i).f0), .int .i64 (3), .int .i64 ((Xa l i).f2), .int .i64 ((Xa l i).f3), .int .i64 ((Xa l i).f4), .int .i64 ((Xa l i).f5), .int .i64 ((Xa l i).f6), .int .i64 ((Xa l i).f7)] 76)).drew).frozen? ⟨w.heap.size, 3, none⟩ = false := by go_simp
          have HW1 := zz (show Below w.heap.size w ((W1.alloc (.cells #[.int .i64 ((Xa l i).f0), .int .i64 (3), .int .i64 ((Xa l i).f2), .int .i64 ((Xa l i).f3), .int .i64 ((Xa l i).f4), .int .i64 ((Xa l i).f5), .int .i64 ((Xa l i).f6), .int .i64 ((Xa l i).f7)] 76)).drew) from Xx (Xj HB0.out _))
          have hZ2 : ((W1.alloc (.cells #[.int .i64 ((Xa l i).f0), .int .i64 (3), .int .i64 ((Xa l i).f2), .int .i64 ((Xa l i).f3), .int .i64 ((Xa l i).f4), .int .i64 ((Xa l i).f5), .int .i64 ((Xa l i).f6), .int .i64 ((Xa l i).f7)] 76)).drew).heap.size = W1.heap.size + 1 := by simp
          refine Yw (n := 35) (S := fun w' => g8 w' (W1.heap.size) (Xa l i) (3) ((Xa l i).f7) (w'.cell? ⟨w.heap.size, 1, none⟩ = some (.int .i64 (lastB (l.take i) 1)) ∧ w'.cell? ⟨w.heap.size, 2, none⟩ = some (.int .i64 (lastB (l.take i) 2)) ∧ w'.cell? ⟨w.heap.size, 3, none⟩ = some (.int .i64 (lastB (l.take i) 3)))) (ds := []) (tf 0) zb6 rfl rfl ⟨by go_simp, by go_simp, by go_simp, by go_simp, by go_simp, by go_simp, by go_simp, by go_simp, by go_simp, by go_simp, by go_simp⟩ (fun hH => ?_); generalize (W1.alloc (.cells #[.int .i64 ((Xa l i).f0), .int .i64 (3), .int .i64 ((Xa l i).f2), .int .i64 ((Xa l i).f3), .int .i64 ((Xa l i).f4), .int .i64 ((Xa l i).f5), .int .i64 ((Xa l i).f6), .int .i64 ((Xa l i).f7)] 76)).drew = W2 at hH HW1 hZ2 hg1 hg2 hg3 ⊢; refine tk0 0 16 (tf 1) hH ?_; refine Zj (i := 1) (N := some 17) (tf 2) rfl rfl zb6 (by decide) (fun K hK => ?_); refine YI Tryz.func80 zb6 rfl #[agx (Xa l i) (3) ((Xa l i).f7)] (by rfl) rfl rfl zb96 ?_; refine (Zn ((Xa l i).f0) (3) ((Xa l i).f2) ((Xa l i).f3) ((Xa l i).f4) ((Xa l i).f5) ((Xa l i).f6) ((Xa l i).f7) true HOKB.out _).mono ?_; rintro e w1 ⟨rfl, hb⟩; refine ⟨_, rfl, ?_⟩; obtain ⟨s0, s1, s2, s3, s4, s5, s6, s7, s8, s9, s10⟩ := hH; have hz2 := hb.size; have HB1 := zz (Yn HW1.out zb98 hb); have hk1 := (hb.frozen (p := ⟨w.heap.size, 1, none⟩) zb18).trans hg1; have hk2 := (hb.frozen (p := ⟨w.heap.size, 2, none⟩) zb18).trans hg2; have hk3 := (hb.frozen (p := ⟨w.heap.size, 3, none⟩) zb18).trans hg3; clear hg1 hg2 hg3; refine hK.out _ _ ⟨cc hb s0, cc hb s1, cc hb s2, cc hb s3, cc hb s4, cc hb s5, cc hb s6, cc hb s7, cc hb s8, cc hb s9, cc hb s10⟩ (fun hH => ?_)
          clear hK K; clear s0 s1 s2 s3 s4 s5 s6 s7 s8 s9 s10 hb; refine XQ (a' := ?_) ?_ ?_; rotate_left
          ·show Act.put _ (some 17) _ = _
           simp only [Act.put, List.setIfInBounds_toArray, List.set_cons_zero, List.set_cons_succ, Xz, XF]
           rfl
          refine pu0 2 18 (tf 3) ?_; refine pu0 3 19 (tf 4) ?_; refine pu0 4 20 (tf 5) ?_; refine tk0 5 21 (tf 6) hH ?_; refine pu0 6 22 (tf 7) ?_; refine tk0 7 23 (tf 8) hH ?_; refine pu0 8 24 (tf 9) ?_; refine tk0 9 25 (tf 10) hH ?_; refine pu0 10 26 (tf 11) ?_; refine pu0 11 27 (tf 12) ?_; refine pu0 12 28 (tf 13) ?_; refine pu0 13 29 (tf 14) ?_; refine tk0 14 30 (tf 15) hH ?_; refine pu0 15 31 (tf 16) ?_; refine pu0 16 32 (tf 17) ?_; refine pu0 17 33 (tf 18) ?_; refine pu0 18 34 (tf 19) ?_; refine pu0 19 35 (tf 20) ?_; refine tk0 20 36 (tf 21) hH ?_; refine pu0 21 37 (tf 22) ?_; refine pu0 22 38 (tf 23) ?_; refine pn0 23 39 (tf 24) ?_; refine pn0 24 40 (tf 25) ?_; refine pn0 25 41 (tf 26) ?_; refine pn0 26 42 (tf 27) ?_; refine pn0 27 43 (tf 28) ?_; refine pn0 28 44 (tf 29) ?_; refine pn0 29 45 (tf 30) ?_; refine pn0 30 46 (tf 31) ?_; refine pn0 31 47 (tf 32) ?_; refine pn0 32 48 (tf 33) ?_; refine pu0 33 49 (tf 34) ?_; refine pu0 34 50 (tf 35) ?_; refine YX zb6 ?_; obtain ⟨s0, s1, s2, s3, s4, s5, s6, s7, s8, s9, s10⟩ := hH
          have hy1 : w.heap.size < w1.heap.size := by have := HZ0.out; omega
          have hy2 : W1.heap.size < w1.heap.size := by omega
          by_cases he : (Xa l i).f0 = 4 ∨ (Xa l i).f0 = 5
          ·have heb : ((Xa l i).f0 == 4 || (Xa l i).f0 == 5) = true := by rcases he with h | h <;> simp [h]
           have HE := zz he; clear he
           go_wp2_with fail
           refine (Dk ((Xa l i).f0) (3) ((Xa l i).f2) ((Xa l i).f3) ((Xa l i).f4) ((Xa l i).f5) ((Xa l i).f6) ((Xa l i).f7) true heb _).mono ?_; rintro e w2 ⟨rfl, hb2⟩; obtain ⟨hc2, hf2⟩ := DU hb2; have hz3 := hb2.size
           (try simp at hz3)
           have HB2 := zz (Yn (Xq HB1.out (by omega)) zb60 hb2); clear hb2
           have hy3 : w.heap.size < w2.heap.size := by omega
           go_wp2
           go_roundg k1
           case measure => omega
           case rel =>
            refine ⟨i + 1, _, rfl, zb38, ⟨zb66⟩, ⟨zb56⟩, ⟨?_⟩, ⟨?_⟩, ⟨?_⟩, ⟨?_, ?_, ?_, ?_, ?_, ?_⟩⟩
            ·intro j hj
             by_cases hji : j = i
             ·subst hji
              exact HOKI.out
             ·exact HP.out j (by omega)
            ·first | omega | (simp; omega)
            ·repeat (first | (with_reducible exact HB2.out) | (refine Xq ?_ (by omega)))
            ·rw [XR l i HLT.out 1, HTX.out]; rw [if_neg (by omega)]; go_simp
            ·rw [XR l i HLT.out 2, HTX.out]; rw [if_neg (by omega)]; go_simp
            ·rw [XR l i HLT.out 3, HTX.out]; rw [if_pos rfl, if_pos HE.out]; go_simp
            ·go_simp
            ·go_simp
            ·go_simp
          ·have heb : ((Xa l i).f0 == 4 || (Xa l i).f0 == 5) = false := by simp; omega
           have HE := zz he; clear he
           go_wp2_with fail
           refine (Dk ((Xa l i).f0) (3) ((Xa l i).f2) ((Xa l i).f3) ((Xa l i).f4) ((Xa l i).f5) ((Xa l i).f6) ((Xa l i).f7) false heb _).mono ?_; rintro e w2 ⟨rfl, hb2⟩; obtain ⟨hc2, hf2⟩ := DU hb2; have hz3 := hb2.size
           (try simp at hz3)
           have HB2 := zz (Yn (Xq HB1.out (by omega)) zb60 hb2); clear hb2
           have hy3 : w.heap.size < w2.heap.size := by omega
           go_wp2
           go_roundg k1
           case measure => omega
           case rel =>
            refine ⟨i + 1, _, rfl, zb38, ⟨zb66⟩, ⟨zb56⟩, ⟨?_⟩, ⟨?_⟩, ⟨?_⟩, ⟨?_, ?_, ?_, ?_, ?_, ?_⟩⟩
            ·intro j hj
             by_cases hji : j = i
             ·subst hji
              exact HOKI.out
             ·exact HP.out j (by omega)
            ·first | omega | (simp; omega)
            ·repeat (first | (with_reducible exact HB2.out) | (refine Xq ?_ (by omega)))
            ·rw [XR l i HLT.out 1, HTX.out]; rw [if_neg (by omega)]; go_simp
            ·rw [XR l i HLT.out 2, HTX.out]; rw [if_neg (by omega)]; go_simp
            ·rw [XR l i HLT.out 3, HTX.out]; rw [if_pos rfl, if_neg HE.out]; go_simp
            ·go_simp
            ·go_simp
            ·go_simp
         ·obtain ⟨jn, hjn⟩ : ∃ jn : Nat, (Xa l i).f7 = (jn : Int) + 1 := ⟨((Xa l i).f7 - 1).toNat, by omega⟩
          have hn1 : decide ((0 : Int) < (jn : Int) + 1) = true := decide_eq_true (by omega); rw [hjn] at c7 hnb; have HJN := zz hjn; have hok2 := HOKB.out; rw [hjn] at hok2; replace HOKB := zz hok2; have hnx2 := HNI.out; have hlt2 := HLT.out; have hj1 := eq_true (show (0 : Int) ≤ (jn : Int) by omega); have hj2 := eq_true (show (jn : Int) < (l.length : Int) by omega)
          have hwr : wrap64 ((jn : Int) + 1 - 1) = (jn : Int) := by rw [T.wrap_small (by omega) (by omega)]; omega
          have hwr2 : wrap64 (jn : Int) = (jn : Int) := T.wrap_small (by omega) (by omega); obtain ⟨ad2, had, d0, d1, d2, d3, d4, d5, d6, d7⟩ := Ym HC1.out (jn : Int) (by omega) (by omega)
          cases had
          simp only [Int.toNat_natCast] at d1; clear d0 d2 d3 d4 d5 d6 d7 hok2 hnx2 hlt2 hn0 hjn
          by_cases hsm : (Xa l (jn : Int)).f1 = 3
          ·have hsb : ((Xa l (jn : Int)).f1 != 3) = false := by simp [hsm]
           have HSM := zz hsm; clear hsm
           have HOKI := zz (show Jt l i = true by
            unfold Jt
            rw [HTX.out]
            rw [HJN.out, HOKB.out]; simp [HPV.out, HSM.out]; have := HNI.out; have := HJN.out; omega)
           have hw1 : wrap64 ((i : Int) + 1) = (i : Int) + 1 := T.wrap_small (by omega) zb56
           go_wp2_with fail
           obtain ⟨ha1, ha2, ha3, hf1, hf2, hf3⟩ := HA.out
           have hg1 : ((W1.alloc (.cells #[.int .i64 ((Xa l i).f0), .int .i64 (3), .int .i64 ((Xa l i).f2), .int .i64 ((Xa l i).f3), .int .i64 ((Xa l i).f4), .int .i64 ((Xa l i).f5), .int .i64 ((Xa l i).f6), .int .i64 ((jn : Int) + 1)] 76)).drew).frozen? ⟨w.heap.size, 1, none⟩ = false := by go_simp
           have hg2 : ((W1.alloc (.cells #[.int .i64 ((Xa l i).f0), .int .i64 (3), .int .i64 ((Xa l i).f2), .int .i64 ((Xa l i).f3), .int .i64 ((Xa l i).f4), .int .i64 ((Xa l i).f5), .int .i64 ((Xa l i).f6), .int .i64 ((jn : Int) + 1)] 76)).drew).frozen? ⟨w.heap.size, 2, none⟩ = false := by go_simp
           have hg3 : ((W1.alloc (.cells #[.int .i64 ((Xa l i).f0), .int .i64 (3), .int .i64 ((Xa l i).f2), .int .i64 ((Xa l i).f3), .int .i64 ((Xa l i).f4), .int .i64 ((Xa l i).f5), .int .i64 ((Xa l i).f6), .int .i64 ((jn : Int) + 1)] 76)).drew).frozen? ⟨w.heap.size, 3, none⟩ = false := by go_simp
           have HW1 := zz (show Below w.heap.size w ((W1.alloc (.cells #[.int .i64 ((Xa l i).f0), .int .i64 (3), .int .i64 ((Xa l i).f2), .int .i64 ((Xa l i).f3), .int .i64 ((Xa l i).f4), .int .i64 ((Xa l i).f5), .int .i64 ((Xa l i).f6), .int .i64 ((jn : Int) + 1)] 76)).drew) from Xx (Xj HB0.out _))
           have hZ2 : ((W1.alloc (.cells #[.int .i64 ((Xa l i).f0), .int .i64 (3), .int .i64 ((Xa l i).f2), .int .i64 ((Xa l i).f3), .int .i64 ((Xa l i).f4), .int .i64 ((Xa l i).f5), .int .i64 ((Xa l i).f6), .int .i64 ((jn : Int) + 1)] 76)).drew).heap.size = W1.heap.size + 1 := by simp
           refine Yw (n := 35) (S := fun w' => g8 w' (W1.heap.size) (Xa l i) (3) ((jn : Int) + 1) (w'.cell? ⟨w.heap.size, 1, none⟩ = some (.int .i64 (lastB (l.take i) 1)) ∧ w'.cell? ⟨w.heap.size, 2, none⟩ = some (.int .i64 (lastB (l.take i) 2)) ∧ w'.cell? ⟨w.heap.size, 3, none⟩ = some (.int .i64 (lastB (l.take i) 3)) ∧ w'.cell? ⟨(ad.add (jn * 8)).block, (ad.add (jn * 8)).off + 1, none⟩ = some (.int .i64 (Xa l (jn : Int)).f1))) (ds := []) (tf 0) zb6 rfl rfl ⟨by go_simp, by go_simp, by go_simp, by go_simp, by go_simp, by go_simp, by go_simp, by go_simp, by go_simp, by go_simp, by go_simp, ((Xx (Xj (Below.refl W1.heap.size W1) (.cells #[.int .i64 ((Xa l i).f0), .int .i64 (3), .int .i64 ((Xa l i).f2), .int .i64 ((Xa l i).f3), .int .i64 ((Xa l i).f4), .int .i64 ((Xa l i).f5), .int .i64 ((Xa l i).f6), .int .i64 ((jn : Int) + 1)] 76)) : Below W1.heap.size W1 ((W1.alloc (.cells #[.int .i64 ((Xa l i).f0), .int .i64 (3), .int .i64 ((Xa l i).f2), .int .i64 ((Xa l i).f3), .int .i64 ((Xa l i).f4), .int .i64 ((Xa l i).f5), .int .i64 ((Xa l i).f6), .int .i64 ((jn : Int) + 1)] 76)).drew)).cell (World.block_lt_of_cell? W1 _ d1)).trans d1⟩ (fun hH => ?_); generalize (W1.alloc (.cells #[.int .i64 ((Xa l i).f0), .int .i64 (3), .int .i64 ((Xa l i).f2), .int .i64 ((Xa l i).f3), .int .i64 ((Xa l i).f4), .int .i64 ((Xa l i).f5), .int .i64 ((Xa l i).f6), .int .i64 ((jn : Int) + 1)] 76)).drew = W2 at hH HW1 hZ2 hg1 hg2 hg3 ⊢; refine tk0 0 16 (tf 1) hH ?_; refine Zj (i := 1) (N := some 17) (tf 2) rfl rfl zb6 (by decide) (fun K hK => ?_)
           refine YI Tryz.func80 zb6 rfl #[agx (Xa l i) (3) ((jn : Int) + 1)] (by rfl) rfl rfl zb96 ?_; refine (Zn ((Xa l i).f0) (3) ((Xa l i).f2) ((Xa l i).f3) ((Xa l i).f4) ((Xa l i).f5) ((Xa l i).f6) ((jn : Int) + 1) true HOKB.out _).mono ?_; rintro e w1 ⟨rfl, hb⟩; refine ⟨_, rfl, ?_⟩; obtain ⟨s0, s1, s2, s3, s4, s5, s6, s7, s8, s9, s10, s11⟩ := hH; have hz2 := hb.size; have HB1 := zz (Yn HW1.out zb98 hb); have hk1 := (hb.frozen (p := ⟨w.heap.size, 1, none⟩) zb18).trans hg1; have hk2 := (hb.frozen (p := ⟨w.heap.size, 2, none⟩) zb18).trans hg2; have hk3 := (hb.frozen (p := ⟨w.heap.size, 3, none⟩) zb18).trans hg3; clear hg1 hg2 hg3; refine hK.out _ _ ⟨cc hb s0, cc hb s1, cc hb s2, cc hb s3, cc hb s4, cc hb s5, cc hb s6, cc hb s7, cc hb s8, cc hb s9, cc hb s10, cc hb s11⟩ (fun hH => ?_); clear hK K; clear s0 s1 s2 s3 s4 s5 s6 s7 s8 s9 s10 s11 hb; refine XQ (a' := ?_) ?_ ?_; rotate_left
           ·show Act.put _ (some 17) _ = _
            simp only [Act.put, List.setIfInBounds_toArray, List.set_cons_zero, List.set_cons_succ, Xz, XF]
            rfl
           refine pu0 2 18 (tf 3) ?_; refine pu0 3 19 (tf 4) ?_; refine pu0 4 20 (tf 5) ?_; refine tk0 5 21 (tf 6) hH ?_; refine pu0 6 22 (tf 7) ?_; refine tk0 7 23 (tf 8) hH ?_; refine pu0 8 24 (tf 9) ?_; refine tk0 9 25 (tf 10) hH ?_; refine pu0 10 26 (tf 11) ?_; refine pu0 11 27 (tf 12) ?_; refine pu0 12 28 (tf 13) ?_; refine pu0 13 29 (tf 14) ?_; refine tk0 14 30 (tf 15) hH ?_; refine pu0 15 31 (tf 16) ?_; refine pu0 16 32 (tf 17) ?_; refine pu0 17 33 (tf 18) ?_; refine pu0 18 34 (tf 19) ?_; refine pu0 19 35 (tf 20) ?_; refine tk0 20 36 (tf 21) hH ?_; refine pu0 21 37 (tf 22) ?_; refine pu0 22 38 (tf 23) ?_; refine pu0 23 39 (tf 24) ?_; refine pu0 24 40 (tf 25) ?_; refine tk0 25 41 (tf 26) hH ?_; refine pu0 26 42 (tf 27) ?_; refine pu0 27 43 (tf 28) ?_; refine pu0 28 44 (tf 29) ?_; refine tk0 29 45 (tf 30) hH ?_; refine pu0 30 46 (tf 31) ?_; refine tk0 31 47 (tf 32) hH ?_; refine pu0 32 48 (tf 33) ?_; refine pu0 33 49 (tf 34) ?_; refine pu0 34 50 (tf 35) ?_; refine YX zb6 ?_; obtain ⟨s0, s1, s2, s3, s4, s5, s6, s7, s8, s9, s10, s11⟩ := hH
           have hy1 : w.heap.size < w1.heap.size := by have := HZ0.out; omega
           have hy2 : W1.heap.size < w1.heap.size := by omega
           by_cases he : (Xa l i).f0 = 4 ∨ (Xa l i).f0 = 5
           ·have heb : ((Xa l i).f0 == 4 || (Xa l i).f0 == 5) = true := by rcases he with h | h <;> simp [h]
            have HE := zz he; clear he
            go_wp2_with fail
            refine (Dk ((Xa l i).f0) (3) ((Xa l i).f2) ((Xa l i).f3) ((Xa l i).f4) ((Xa l i).f5) ((Xa l i).f6) ((jn : Int) + 1) true heb _).mono ?_; rintro e w2 ⟨rfl, hb2⟩; obtain ⟨hc2, hf2⟩ := DU hb2; have hz3 := hb2.size
            (try simp at hz3)
            have HB2 := zz (Yn (Xq HB1.out (by omega)) zb60 hb2); clear hb2
            have hy3 : w.heap.size < w2.heap.size := by omega
            go_wp2
            go_roundg k1
            case measure => omega
            case rel =>
             refine ⟨i + 1, _, rfl, zb38, ⟨zb66⟩, ⟨zb56⟩, ⟨?_⟩, ⟨?_⟩, ⟨?_⟩, ⟨?_, ?_, ?_, ?_, ?_, ?_⟩⟩
             ·intro j hj
              by_cases hji : j = i
              ·subst hji
               exact HOKI.out
              ·exact HP.out j (by omega)
             ·first | omega | (simp; omega)
             ·repeat (first | (with_reducible exact HB2.out) | (refine Xq ?_ (by omega)))
             ·rw [XR l i HLT.out 1, HTX.out]; rw [if_neg (by omega)]; go_simp
             ·rw [XR l i HLT.out 2, HTX.out]; rw [if_neg (by omega)]; go_simp
             ·rw [XR l i HLT.out 3, HTX.out]; rw [if_pos rfl, if_pos HE.out]; go_simp
             ·go_simp
             ·go_simp
             ·go_simp
           ·have heb : ((Xa l i).f0 == 4 || (Xa l i).f0 == 5) = false := by simp; omega
            have HE := zz he; clear he
            go_wp2_with fail
            refine (Dk ((Xa l i).f0) (3) ((Xa l i).f2) ((Xa l i).f3) ((Xa l i).f4) ((Xa l i).f5) ((Xa l i).f6) ((jn : Int) + 1) false heb _).mono ?_; rintro e w2 ⟨rfl, hb2⟩; obtain ⟨hc2, hf2⟩ := DU hb2; have hz3 := hb2.size
            (try simp at hz3)
            have HB2 := zz (Yn (Xq HB1.out (by omega)) zb60 hb2); clear hb2
            have hy3 : w.heap.size < w2.heap.size := by omega
            go_wp2
            go_roundg k1
            case measure => omega
            case rel =>
             refine ⟨i + 1, _, rfl, zb38, ⟨zb66⟩, ⟨zb56⟩, ⟨?_⟩, ⟨?_⟩, ⟨?_⟩, ⟨?_, ?_, ?_, ?_, ?_, ?_⟩⟩
             ·intro j hj
              by_cases hji : j = i
              ·subst hji
               exact HOKI.out
              ·exact HP.out j (by omega)
             ·first | omega | (simp; omega)
             ·repeat (first | (with_reducible exact HB2.out) | (refine Xq ?_ (by omega)))
             ·rw [XR l i HLT.out 1, HTX.out]; rw [if_neg (by omega)]; go_simp
             ·rw [XR l i HLT.out 2, HTX.out]; rw [if_neg (by omega)]; go_simp
             ·rw [XR l i HLT.out 3, HTX.out]; rw [if_pos rfl, if_neg HE.out]; go_simp
             ·go_simp
             ·go_simp
             ·go_simp
          ·have hsb : ((Xa l (jn : Int)).f1 != 3) = true := by simp [hsm]
           have HSM := zz hsm; clear hsm
           have HN := zz (VE HLT.out (show Jt l i = false by
            unfold Jt
            rw [HTX.out, HJN.out]
            simp [HSM.out]))
           go_wp2_with fail
           obtain ⟨ha1, ha2, ha3, hf1, hf2, hf3⟩ := HA.out
           have hg1 : ((W1.alloc (.cells #[.int .i64 ((Xa l i).f0), .int .i64 (3), .int .i64 ((Xa l i).f2), .int .i64 ((Xa l i).f3), .int .i64 ((Xa l i).f4), .int .i64 ((Xa l i).f5), .int .i64 ((Xa l i).f6), .int .i64 ((jn : Int) + 1)] 76)).drew).frozen? ⟨w.heap.size, 1, none⟩ = false := by go_simp
           have hg2 : ((W1.alloc (.cells #[.int .i64 ((Xa l i).f0), .int .i64 (3), .int .i64 ((Xa l i).f2), .int .i64 ((Xa l i).f3), .int .i64 ((Xa l i).f4), .int .i64 ((Xa l i).f5), .int .i64 ((Xa l i).f6), .int .i64 ((jn : Int) + 1)] 76)).drew).frozen? ⟨w.heap.size, 2, none⟩ = false := by go_simp
           have hg3 : ((W1.alloc (.cells #[.int .i64 ((Xa l i).f0), .int .i64 (3), .int .i64 ((Xa l i).f2), .int .i64 ((Xa l i).f3), .int .i64 ((Xa l i).f4), .int .i64 ((Xa l i).f5), .int .i64 ((Xa l i).f6), .int .i64 ((jn : Int) + 1)] 76)).drew).frozen? ⟨w.heap.size, 3, none⟩ = false := by go_simp
           have HW1 := zz (show Below w.heap.size w ((W1.alloc (.cells #[.int .i64 ((Xa l i).f0), .int .i64 (3), .int .i64 ((Xa l i).f2), .int .i64 ((Xa l i).f3), .int .i64 ((Xa l i).f4), .int .i64 ((Xa l i).f5), .int .i64 ((Xa l i).f6), .int .i64 ((jn : Int) + 1)] 76)).drew) from Xx (Xj HB0.out _))
           have hZ2 : ((W1.alloc (.cells #[.int .i64 ((Xa l i).f0), .int .i64 (3), .int .i64 ((Xa l i).f2), .int .i64 ((Xa l i).f3), .int .i64 ((Xa l i).f4), .int .i64 ((Xa l i).f5), .int .i64 ((Xa l i).f6), .int .i64 ((jn : Int) + 1)] 76)).drew).heap.size = W1.heap.size + 1 := by simp
           refine Yw (n := 35) (S := fun w' => g8 w' (W1.heap.size) (Xa l i) (3) ((jn : Int) + 1) (w'.cell? ⟨w.heap.size, 1, none⟩ = some (.int .i64 (lastB (l.take i) 1)) ∧ w'.cell? ⟨w.heap.size, 2, none⟩ = some (.int .i64 (lastB (l.take i) 2)) ∧ w'.cell? ⟨w.heap.size, 3, none⟩ = some (.int .i64 (lastB (l.take i) 3)) ∧ w'.cell? ⟨(ad.add (jn * 8)).block, (ad.add (jn * 8)).off + 1, none⟩ = some (.int .i64 (Xa l (jn : Int)).f1))) (ds := []) (tf 0) zb6 rfl rfl ⟨by go_simp, by go_simp, by go_simp, by go_simp, by go_simp, by go_simp, by go_simp, by go_simp, by go_simp, by go_simp, by go_simp, ((Xx (Xj (Below.refl W1.heap.size W1) (.cells #[.int .i64 ((Xa l i).f0), .int .i64 (3), .int .i64 ((Xa l i).f2), .int .i64 ((Xa l i).f3), .int .i64 ((Xa l i).f4), .int .i64 ((Xa l i).f5), .int .i64 ((Xa l i).f6), .int .i64 ((jn : Int) + 1)] 76)) : Below W1.heap.size W1 ((W1.alloc (.cells #[.int .i64 ((Xa l i).f0), .int .i64 (3), .int .i64 ((Xa l i).f2), .int .i64 ((Xa l i).f3), .int .i64 ((Xa l i).f4), .int .i64 ((Xa l i).f5), .int .i64 ((Xa l i).f6), .int .i64 ((jn : Int) + 1)] 76)).drew)).cell (World.block_lt_of_cell? W1 _ d1)).trans d1⟩ (fun hH => ?_); generalize (W1.alloc (.cells #[.int .i64 ((Xa l i).f0), .int .i64 (3), .int .i64 ((Xa l i).f2), .int .i64 ((Xa l i).f3), .int .i64 ((Xa l i).f4), .int .i64 ((Xa l i).f5), .int .i64 ((Xa l i).f6), .int .i64 ((jn : Int) + 1)] 76)).drew = W2 at hH HW1 hZ2 hg1 hg2 hg3 ⊢; refine tk0 0 16 (tf 1) hH ?_; refine Zj (i := 1) (N := some 17) (tf 2) rfl rfl zb6 (by decide) (fun K hK => ?_)
           refine YI Tryz.func80 zb6 rfl #[agx (Xa l i) (3) ((jn : Int) + 1)] (by rfl) rfl rfl zb96 ?_; refine (Zn ((Xa l i).f0) (3) ((Xa l i).f2) ((Xa l i).f3) ((Xa l i).f4) ((Xa l i).f5) ((Xa l i).f6) ((jn : Int) + 1) true HOKB.out _).mono ?_; rintro e w1 ⟨rfl, hb⟩; refine ⟨_, rfl, ?_⟩; obtain ⟨s0, s1, s2, s3, s4, s5, s6, s7, s8, s9, s10, s11⟩ := hH; have hz2 := hb.size; have HB1 := zz (Yn HW1.out zb98 hb); have hk1 := (hb.frozen (p := ⟨w.heap.size, 1, none⟩) zb18).trans hg1; have hk2 := (hb.frozen (p := ⟨w.heap.size, 2, none⟩) zb18).trans hg2; have hk3 := (hb.frozen (p := ⟨w.heap.size, 3, none⟩) zb18).trans hg3; clear hg1 hg2 hg3; refine hK.out _ _ ⟨cc hb s0, cc hb s1, cc hb s2, cc hb s3, cc hb s4, cc hb s5, cc hb s6, cc hb s7, cc hb s8, cc hb s9, cc hb s10, cc hb s11⟩ (fun hH => ?_); clear hK K; clear s0 s1 s2 s3 s4 s5 s6 s7 s8 s9 s10 s11 hb; refine XQ (a' := ?_) ?_ ?_; rotate_left
           ·show Act.put _ (some 17) _ = _
            simp only [Act.put, List.setIfInBounds_toArray, List.set_cons_zero, List.set_cons_succ, Xz, XF]
            rfl
           refine pu0 2 18 (tf 3) ?_; refine pu0 3 19 (tf 4) ?_; refine pu0 4 20 (tf 5) ?_; refine tk0 5 21 (tf 6) hH ?_; refine pu0 6 22 (tf 7) ?_; refine tk0 7 23 (tf 8) hH ?_; refine pu0 8 24 (tf 9) ?_; refine tk0 9 25 (tf 10) hH ?_; refine pu0 10 26 (tf 11) ?_; refine pu0 11 27 (tf 12) ?_; refine pu0 12 28 (tf 13) ?_; refine pu0 13 29 (tf 14) ?_; refine tk0 14 30 (tf 15) hH ?_; refine pu0 15 31 (tf 16) ?_; refine pu0 16 32 (tf 17) ?_; refine pu0 17 33 (tf 18) ?_; refine pu0 18 34 (tf 19) ?_; refine pu0 19 35 (tf 20) ?_; refine tk0 20 36 (tf 21) hH ?_; refine pu0 21 37 (tf 22) ?_; refine pu0 22 38 (tf 23) ?_; refine pu0 23 39 (tf 24) ?_; refine pu0 24 40 (tf 25) ?_; refine tk0 25 41 (tf 26) hH ?_; refine pu0 26 42 (tf 27) ?_; refine pu0 27 43 (tf 28) ?_; refine pu0 28 44 (tf 29) ?_; refine tk0 29 45 (tf 30) hH ?_; refine pu0 30 46 (tf 31) ?_; refine tk0 31 47 (tf 32) hH ?_; refine pu0 32 48 (tf 33) ?_; refine pu0 33 49 (tf 34) ?_; refine pu0 34 50 (tf 35) ?_; refine YX zb6 ?_
           try go_wp2
           go_ret
           exact ⟨zb80, HB1.out⟩
        ·have hnb : decide ((i : Int) < (Xa l i).f7) = true := decide_eq_true (by omega)
         have HN := zz (VE HLT.out (show Jt l i = false by unfold Jt; simp [hni])); clear hni
         go_wp2_with fail
         obtain ⟨ha1, ha2, ha3, hf1, hf2, hf3⟩ := HA.out
         have hg1 : ((W1.alloc (.cells #[.int .i64 ((Xa l i).f0), .int .i64 (3), .int .i64 ((Xa l i).f2), .int .i64 ((Xa l i).f3), .int .i64 ((Xa l i).f4), .int .i64 ((Xa l i).f5), .int .i64 ((Xa l i).f6), .int .i64 ((Xa l i).f7)] 76)).drew).frozen? ⟨w.heap.size, 1, none⟩ = false := by go_simp
         have hg2 : ((W1.alloc (.cells #[.int .i64 ((Xa l i).f0), .int .i64 (3), .int .i64 ((Xa l i).f2), .int .i64 ((Xa l i).f3), .int .i64 ((Xa l i).f4), .int .i64 ((Xa l i).f5), .int .i64 ((Xa l i).f6), .int .i64 ((Xa l i).f7)] 76)).drew).frozen? ⟨w.heap.size, 2, none⟩ = false := by go_simp
         have hg3 : ((W1.alloc (.cells #[.int .i64 ((Xa l i).f0), .int .i64 (3), .int .i64 ((Xa l i).f2), .int .i64 ((Xa l i).f3), .int .i64 ((Xa l i).f4), .int .i64 ((Xa l i).f5), .int .i64 ((Xa l i).f6), .int .i64 ((Xa l i).f7)] 76)).drew).frozen? ⟨w.heap.size, 3, none⟩ = false := by go_simp
         have HW1 := zz (show Below w.heap.size w ((W1.alloc (.cells #[.int .i64 ((Xa l i).f0), .int .i64 (3), .int .i64 ((Xa l i).f2), .int .i64 ((Xa l i).f3), .int .i64 ((Xa l i).f4), .int .i64 ((Xa l i).f5), .int .i64 ((Xa l i).f6), .int .i64 ((Xa l i).f7)] 76)).drew) from Xx (Xj HB0.out _))
         have hZ2 : ((W1.alloc (.cells #[.int .i64 ((Xa l i).f0), .int .i64 (3), .int .i64 ((Xa l i).f2), .int .i64 ((Xa l i).f3), .int .i64 ((Xa l i).f4), .int .i64 ((Xa l i).f5), .int .i64 ((Xa l i).f6), .int .i64 ((Xa l i).f7)] 76)).drew).heap.size = W1.heap.size + 1 := by simp
         refine Yw (n := 35) (S := fun w' => g8 w' (W1.heap.size) (Xa l i) (3) ((Xa l i).f7) (w'.cell? ⟨w.heap.size, 1, none⟩ = some (.int .i64 (lastB (l.take i) 1)) ∧ w'.cell? ⟨w.heap.size, 2, none⟩ = some (.int .i64 (lastB (l.take i) 2)) ∧ w'.cell? ⟨w.heap.size, 3, none⟩ = some (.int .i64 (lastB (l.take i) 3)))) (ds := []) (tf 0) zb6 rfl rfl ⟨by go_simp, by go_simp, by go_simp, by go_simp, by go_simp, by go_simp, by go_simp, by go_simp, by go_simp, by go_simp, by go_simp⟩ (fun hH => ?_); generalize (W1.alloc (.cells #[.int .i64 ((Xa l i).f0), .int .i64 (3), .int .i64 ((Xa l i).f2), .int .i64 ((Xa l i).f3), .int .i64 ((Xa l i).f4), .int .i64 ((Xa l i).f5), .int .i64 ((Xa l i).f6), .int .i64 ((Xa l i).f7)] 76)).drew = W2 at hH HW1 hZ2 hg1 hg2 hg3 ⊢; refine tk0 0 16 (tf 1) hH ?_; refine Zj (i := 1) (N := some 17) (tf 2) rfl rfl zb6 (by decide) (fun K hK => ?_); refine YI Tryz.func80 zb6 rfl #[agx (Xa l i) (3) ((Xa l i).f7)] (by rfl) rfl rfl zb96 ?_; refine (Zn ((Xa l i).f0) (3) ((Xa l i).f2) ((Xa l i).f3) ((Xa l i).f4) ((Xa l i).f5) ((Xa l i).f6) ((Xa l i).f7) true HOKB.out _).mono ?_; rintro e w1 ⟨rfl, hb⟩; refine ⟨_, rfl, ?_⟩; obtain ⟨s0, s1, s2, s3, s4, s5, s6, s7, s8, s9, s10⟩ := hH; have hz2 := hb.size; have HB1 := zz (Yn HW1.out zb98 hb); have hk1 := (hb.frozen (p := ⟨w.heap.size, 1, none⟩) zb18).trans hg1; have hk2 := (hb.frozen (p := ⟨w.heap.size, 2, none⟩) zb18).trans hg2; have hk3 := (hb.frozen (p := ⟨w.heap.size, 3, none⟩) zb18).trans hg3; clear hg1 hg2 hg3; refine hK.out _ _ ⟨cc hb s0, cc hb s1, cc hb s2, cc hb s3, cc hb s4, cc hb s5, cc hb s6, cc hb s7, cc hb s8, cc hb s9, cc hb s10⟩ (fun hH => ?_)
         clear hK K; clear s0 s1 s2 s3 s4 s5 s6 s7 s8 s9 s10 hb; refine XQ (a' := ?_) ?_ ?_; rotate_left
         ·show Act.put _ (some 17) _ = _
          simp only [Act.put, List.setIfInBounds_toArray, List.set_cons_zero, List.set_cons_succ, Xz, XF]
          rfl
         refine pu0 2 18 (tf 3) ?_; refine pu0 3 19 (tf 4) ?_; refine pu0 4 20 (tf 5) ?_; refine tk0 5 21 (tf 6) hH ?_; refine pu0 6 22 (tf 7) ?_; refine tk0 7 23 (tf 8) hH ?_; refine pu0 8 24 (tf 9) ?_; refine tk0 9 25 (tf 10) hH ?_; refine pu0 10 26 (tf 11) ?_; refine pu0 11 27 (tf 12) ?_; refine pu0 12 28 (tf 13) ?_; refine pu0 13 29 (tf 14) ?_; refine tk0 14 30 (tf 15) hH ?_; refine pu0 15 31 (tf 16) ?_; refine pu0 16 32 (tf 17) ?_; refine pu0 17 33 (tf 18) ?_; refine pu0 18 34 (tf 19) ?_; refine pn0 19 35 (tf 20) ?_; refine pn0 20 36 (tf 21) ?_; refine pn0 21 37 (tf 22) ?_; refine pn0 22 38 (tf 23) ?_; refine pn0 23 39 (tf 24) ?_; refine pn0 24 40 (tf 25) ?_; refine pn0 25 41 (tf 26) ?_; refine pn0 26 42 (tf 27) ?_; refine pn0 27 43 (tf 28) ?_; refine pn0 28 44 (tf 29) ?_; refine pn0 29 45 (tf 30) ?_; refine pn0 30 46 (tf 31) ?_; refine pn0 31 47 (tf 32) ?_; refine pn0 32 48 (tf 33) ?_; refine pn0 33 49 (tf 34) ?_; refine pu0 34 50 (tf 35) ?_; refine YX zb6 ?_
         try go_wp2
         go_ret
         exact ⟨zb80, HB1.out⟩
       ·have hpb : ((Xa l i).f6 != lastB (l.take i) 3) = true := by simp [hpv]
        have HN := zz (VE HLT.out (show Jt l i = false by unfold Jt; rw [HTX.out]; simp [hpv])); clear hpv
        go_wp2_with fail
        obtain ⟨ha1, ha2, ha3, hf1, hf2, hf3⟩ := HA.out
        have hg1 : ((W1.alloc (.cells #[.int .i64 ((Xa l i).f0), .int .i64 (3), .int .i64 ((Xa l i).f2), .int .i64 ((Xa l i).f3), .int .i64 ((Xa l i).f4), .int .i64 ((Xa l i).f5), .int .i64 ((Xa l i).f6), .int .i64 ((Xa l i).f7)] 76)).drew).frozen? ⟨w.heap.size, 1, none⟩ = false := by go_simp
        have hg2 : ((W1.alloc (.cells #[.int .i64 ((Xa l i).f0), .int .i64 (3), .int .i64 ((Xa l i).f2), .int .i64 ((Xa l i).f3), .int .i64 ((Xa l i).f4), .int .i64 ((Xa l i).f5), .int .i64 ((Xa l i).f6), .int .i64 ((Xa l i).f7)] 76)).drew).frozen? ⟨w.heap.size, 2, none⟩ = false := by go_simp
        have hg3 : ((W1.alloc (.cells #[.int .i64 ((Xa l i).f0), .int .i64 (3), .int .i64 ((Xa l i).f2), .int .i64 ((Xa l i).f3), .int .i64 ((Xa l i).f4), .int .i64 ((Xa l i).f5), .int .i64 ((Xa l i).f6), .int .i64 ((Xa l i).f7)] 76)).drew).frozen? ⟨w.heap.size, 3, none⟩ = false := by go_simp
        have HW1 := zz (show Below w.heap.size w ((W1.alloc (.cells #[.int .i64 ((Xa l i).f0), .int .i64 (3), .int .i64 ((Xa l i).f2), .int .i64 ((Xa l i).f3), .int .i64 ((Xa l i).f4), .int .i64 ((Xa l i).f5), .int .i64 ((Xa l i).f6), .int .i64 ((Xa l i).f7)] 76)).drew) from Xx (Xj HB0.out _))
        have hZ2 : ((W1.alloc (.cells #[.int .i64 ((Xa l i).f0), .int .i64 (3), .int .i64 ((Xa l i).f2), .int .i64 ((Xa l i).f3), .int .i64 ((Xa l i).f4), .int .i64 ((Xa l i).f5), .int .i64 ((Xa l i).f6), .int .i64 ((Xa l i).f7)] 76)).drew).heap.size = W1.heap.size + 1 := by simp
        refine Yw (n := 35) (S := fun w' => g8 w' (W1.heap.size) (Xa l i) (3) ((Xa l i).f7) (w'.cell? ⟨w.heap.size, 1, none⟩ = some (.int .i64 (lastB (l.take i) 1)) ∧ w'.cell? ⟨w.heap.size, 2, none⟩ = some (.int .i64 (lastB (l.take i) 2)) ∧ w'.cell? ⟨w.heap.size, 3, none⟩ = some (.int .i64 (lastB (l.take i) 3)))) (ds := []) (tf 0) zb6 rfl rfl ⟨by go_simp, by go_simp, by go_simp, by go_simp, by go_simp, by go_simp, by go_simp, by go_simp, by go_simp, by go_simp, by go_simp⟩ (fun hH => ?_); generalize (W1.alloc (.cells #[.int .i64 ((Xa l i).f0), .int .i64 (3), .int .i64 ((Xa l i).f2), .int .i64 ((Xa l i).f3), .int .i64 ((Xa l i).f4), .int .i64 ((Xa l i).f5), .int .i64 ((Xa l i).f6), .int .i64 ((Xa l i).f7)] 76)).drew = W2 at hH HW1 hZ2 hg1 hg2 hg3 ⊢; refine tk0 0 16 (tf 1) hH ?_; refine Zj (i := 1) (N := some 17) (tf 2) rfl rfl zb6 (by decide) (fun K hK => ?_); refine YI Tryz.func80 zb6 rfl #[agx (Xa l i) (3) ((Xa l i).f7)] (by rfl) rfl rfl zb96 ?_; refine (Zn ((Xa l i).f0) (3) ((Xa l i).f2) ((Xa l i).f3) ((Xa l i).f4) ((Xa l i).f5) ((Xa l i).f6) ((Xa l i).f7) true HOKB.out _).mono ?_; rintro e w1 ⟨rfl, hb⟩; refine ⟨_, rfl, ?_⟩; obtain ⟨s0, s1, s2, s3, s4, s5, s6, s7, s8, s9, s10⟩ := hH; have hz2 := hb.size; have HB1 := zz (Yn HW1.out zb98 hb); have hk1 := (hb.frozen (p := ⟨w.heap.size, 1, none⟩) zb18).trans hg1; have hk2 := (hb.frozen (p := ⟨w.heap.size, 2, none⟩) zb18).trans hg2; have hk3 := (hb.frozen (p := ⟨w.heap.size, 3, none⟩) zb18).trans hg3; clear hg1 hg2 hg3; refine hK.out _ _ ⟨cc hb s0, cc hb s1, cc hb s2, cc hb s3, cc hb s4, cc hb s5, cc hb s6, cc hb s7, cc hb s8, cc hb s9, cc hb s10⟩ (fun hH => ?_)
        clear hK K; clear s0 s1 s2 s3 s4 s5 s6 s7 s8 s9 s10 hb; refine XQ (a' := ?_) ?_ ?_; rotate_left
        ·show Act.put _ (some 17) _ = _
         simp only [Act.put, List.setIfInBounds_toArray, List.set_cons_zero, List.set_cons_succ, Xz, XF]
         rfl
        refine pu0 2 18 (tf 3) ?_; refine pu0 3 19 (tf 4) ?_; refine pu0 4 20 (tf 5) ?_; refine tk0 5 21 (tf 6) hH ?_; refine pu0 6 22 (tf 7) ?_; refine tk0 7 23 (tf 8) hH ?_; refine pu0 8 24 (tf 9) ?_; refine tk0 9 25 (tf 10) hH ?_; refine pu0 10 26 (tf 11) ?_; refine pu0 11 27 (tf 12) ?_; refine pu0 12 28 (tf 13) ?_; refine pn0 13 29 (tf 14) ?_; refine pn0 14 30 (tf 15) ?_; refine pn0 15 31 (tf 16) ?_; refine pn0 16 32 (tf 17) ?_; refine pu0 17 33 (tf 18) ?_; refine pu0 18 34 (tf 19) ?_; refine pn0 19 35 (tf 20) ?_; refine pn0 20 36 (tf 21) ?_; refine pn0 21 37 (tf 22) ?_; refine pn0 22 38 (tf 23) ?_; refine pn0 23 39 (tf 24) ?_; refine pn0 24 40 (tf 25) ?_; refine pn0 25 41 (tf 26) ?_; refine pn0 26 42 (tf 27) ?_; refine pn0 27 43 (tf 28) ?_; refine pn0 28 44 (tf 29) ?_; refine pn0 29 45 (tf 30) ?_; refine pn0 30 46 (tf 31) ?_; refine pn0 31 47 (tf 32) ?_; refine pn0 32 48 (tf 33) ?_; refine pn0 33 49 (tf 34) ?_; refine pu0 34 50 (tf 35) ?_; refine YX zb6 ?_
        try go_wp2
        go_ret
        exact ⟨zb80, HB1.out⟩
     ·have hokb : V6 ((Xa l i).f0) ((Xa l i).f1) ((Xa l i).f2) ((Xa l i).f3) ((Xa l i).f4) ((Xa l i).f5) ((Xa l i).f6) ((Xa l i).f7) = false := by simpa using hok
      have HN := zz (VE HLT.out (show Jt l i = false by unfold Jt; rw [hokb]; simp only [Bool.false_and])); have HOKB := zz hokb; clear hok hokb
      go_wp2_with fail
      have HW1 := zz (show Below w.heap.size w ((W1.alloc (.cells #[.int .i64 ((Xa l i).f0), .int .i64 ((Xa l i).f1), .int .i64 ((Xa l i).f2), .int .i64 ((Xa l i).f3), .int .i64 ((Xa l i).f4), .int .i64 ((Xa l i).f5), .int .i64 ((Xa l i).f6), .int .i64 ((Xa l i).f7)] 76)).drew) from Xx (Xj HB0.out _))
      have hZ2 : ((W1.alloc (.cells #[.int .i64 ((Xa l i).f0), .int .i64 ((Xa l i).f1), .int .i64 ((Xa l i).f2), .int .i64 ((Xa l i).f3), .int .i64 ((Xa l i).f4), .int .i64 ((Xa l i).f5), .int .i64 ((Xa l i).f6), .int .i64 ((Xa l i).f7)] 76)).drew).heap.size = W1.heap.size + 1 := by simp
      refine Yw (n := 35) (S := fun w' => g8t w' (W1.heap.size) (Xa l i) ((Xa l i).f1) ((Xa l i).f7)) (ds := []) (tf 0) zb6 rfl rfl ⟨by go_simp, by go_simp, by go_simp, by go_simp, by go_simp, by go_simp, by go_simp, by go_simp⟩ (fun hH => ?_); generalize (W1.alloc (.cells #[.int .i64 ((Xa l i).f0), .int .i64 ((Xa l i).f1), .int .i64 ((Xa l i).f2), .int .i64 ((Xa l i).f3), .int .i64 ((Xa l i).f4), .int .i64 ((Xa l i).f5), .int .i64 ((Xa l i).f6), .int .i64 ((Xa l i).f7)] 76)).drew = W2 at hH HW1 hZ2 ⊢; refine tk0 0 16 (tf 1) hH ?_; refine Zj (i := 1) (N := some 17) (tf 2) rfl rfl zb6 (by decide) (fun K hK => ?_); refine YI Tryz.func80 zb6 rfl #[agx (Xa l i) ((Xa l i).f1) ((Xa l i).f7)] (by rfl) rfl rfl zb96 ?_; refine (Zn ((Xa l i).f0) ((Xa l i).f1) ((Xa l i).f2) ((Xa l i).f3) ((Xa l i).f4) ((Xa l i).f5) ((Xa l i).f6) ((Xa l i).f7) false HOKB.out _).mono ?_; rintro e w1 ⟨rfl, hb⟩; refine ⟨_, rfl, ?_⟩; obtain ⟨s0, s1, s2, s3, s4, s5, s6, s7⟩ := hH; have hz2 := hb.size; have HB1 := zz (Yn HW1.out zb98 hb); refine hK.out _ _ ⟨cc hb s0, cc hb s1, cc hb s2, cc hb s3, cc hb s4, cc hb s5, cc hb s6, cc hb s7⟩ (fun hH => ?_); clear hK K; clear s0 s1 s2 s3 s4 s5 s6 s7 hb; refine XQ (a' := ?_) ?_ ?_; rotate_left
      ·show Act.put _ (some 17) _ = _
       simp only [Act.put, List.setIfInBounds_toArray, List.set_cons_zero, List.set_cons_succ, Xz, XF]
       rfl
      refine pu0 2 18 (tf 3) ?_; refine pu0 3 19 (tf 4) ?_; refine pn0 4 20 (tf 5) ?_; refine pn0 5 21 (tf 6) ?_; refine pn0 6 22 (tf 7) ?_; refine pn0 7 23 (tf 8) ?_; refine pn0 8 24 (tf 9) ?_; refine pn0 9 25 (tf 10) ?_; refine pn0 10 26 (tf 11) ?_; refine pu0 11 27 (tf 12) ?_; refine pu0 12 28 (tf 13) ?_; refine pn0 13 29 (tf 14) ?_; refine pn0 14 30 (tf 15) ?_; refine pn0 15 31 (tf 16) ?_; refine pn0 16 32 (tf 17) ?_; refine pu0 17 33 (tf 18) ?_; refine pu0 18 34 (tf 19) ?_; refine pn0 19 35 (tf 20) ?_; refine pn0 20 36 (tf 21) ?_; refine pn0 21 37 (tf 22) ?_; refine pn0 22 38 (tf 23) ?_; refine pn0 23 39 (tf 24) ?_; refine pn0 24 40 (tf 25) ?_; refine pn0 25 41 (tf 26) ?_; refine pn0 26 42 (tf 27) ?_; refine pn0 27 43 (tf 28) ?_; refine pn0 28 44 (tf 29) ?_; refine pn0 29 45 (tf 30) ?_; refine pn0 30 46 (tf 31) ?_; refine pn0 31 47 (tf 32) ?_; refine pn0 32 48 (tf 33) ?_; refine pn0 33 49 (tf 34) ?_; refine pu0 34 50 (tf 35) ?_; refine YX zb6 ?_
      try go_wp2
      go_ret
      exact ⟨zb80, HB1.out⟩
    ·have HK := zz (show i = l.length by have := HL.out; omega)
     go_wp2
     go_ret
     exact ⟨by rw [Xfv HLE.out (by have := HP.out; rw [HK.out] at this; exact this)]; rfl, HB0.out⟩
end Go.Proofs.YtphnphmbfogmlaaGreat.T
