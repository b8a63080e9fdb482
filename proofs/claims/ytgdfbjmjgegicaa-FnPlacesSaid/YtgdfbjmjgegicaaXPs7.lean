/- Proved: of each Go function here that a call comes to what the Lean function of its name tells. Written by a program of this session over the translation. No conditions beyond each theorem's own. -/
import Derived.Test.YtgdfbjmjgegicaaXPs0
import Derived.Test.YtgdfbjmjgegicaaXPs1
import Derived.Test.YtgdfbjmjgegicaaXPs2
namespace Go.Proofs.Ytgdfbjmjgegicaa.XPs
open Go.RowKit Go.Proofs.Ytgdfbjmjgegicaa.Aid Go.Proofs.YtgdfbjmjgegicaaW.PrintWords Go.Proofs.YtgdfbjmjgegicaaW.PrintLast Go.Proofs.YtgdfbjmjgegicaaW.PrintMore
set_option linter.unusedVariables false
set_option linter.unusedSimpArgs false

/-! ### laws_likeInts: function 55 -/
def laws_likeInts.l0 : Nat → List Int → List Int → Int → Option (Bool)
  | 0, _, _, _ => none
  | k + 1, x0, x1, x5 => if x5 < (x0.length : Int) then (if 0 ≤ x5 then (if x5 < (x1.length : Int) then (if (rd x0 x5) = (rd x1 x5) then (laws_likeInts.l0 k x0 x1 (wrap64 (x5 + 1))) else (some false)) else (none)) else (none)) else (some true)
def laws_likeInts.f (k : Nat) (l0 : List Int) (l1 : List Int) : Option (Bool) := if (l0.length : Int) = (l1.length : Int) then (laws_likeInts.l0 k l0 l1 0) else (some false)

set_option maxHeartbeats 8000000 in
set_option maxRecDepth 100000 in
theorem laws_likeInts.calls (k : Nat) (A0 : Option Addr) (c0 : Nat) (l0 : List Int) (A1 : Option Addr) (c1 : Nat) (l1 : List Int) (r : Bool) (w : World) (hr0 : Kd.C (Kd.int .i64) w A0 l0.length l0) (hc0 : l0.length ≤ c0) (hr1 : Kd.C (Kd.int .i64) w A1 l1.length l1) (hc1 : l1.length ≤ c1) (h : laws_likeInts.f k l0 l1 = some r) :
    Calls Try.prog 55 #[.slice A0 l0.length c0, .slice A1 l1.length c1] w fun e w' => e = .returned (.bool r) ∧ Drawn0 w w' := by
 have HR0 := Aside0.mk hr0
 have HC0 := Aside0.mk hc0
 clear hr0 hc0
 have HR1 := Aside0.mk hr1
 have HC1 := Aside0.mk hc1
 clear hr1 hc1
 have H : (if (l0.length : Int) = (l1.length : Int) then (laws_likeInts.l0 k l0 l1 0) else (some false)) = some r := h
 clear h
 by_cases c3 : (l0.length : Int) = (l1.length : Int)
 ·rw [if_pos c3] at H
  have c3b0 : ((l0.length : Int) == (l1.length : Int)) = true := beq_iff_eq.mpr c3
  have c3b1 : ((l0.length : Int) != (l1.length : Int)) = false := bne_eq_false_iff_eq.mpr c3
  have c3b2 : (l0.length == l1.length) = true := by first|simpa using c3|(simp at c3 ⊢;omega)
  clear c3
  have H' := Aside0.mk H
  clear H
  go_enter Try.func55,Try.ntmps55
  go_wp2
  repeat (go_quiet (fail);try go_wp2)
  go_loopg [5] k (fun kq v5 w' => ∃ (x5_1 : Int),v5 = .int .i64 x5_1 ∧ Aside0 (laws_likeInts.l0 kq l0 l1 x5_1 = some r) ∧ Aside0 (kq ≤ k) ∧ Drawn0 w w')
  case atStart => exact ⟨(0),rs_,H',⟨Nat.le_refl _⟩,by repeat (first|exact Drawn0.refl _|apply Drawn0.step)⟩
  case round =>
   clear H'
   try clear c1
   try clear p2
   try clear c3
   try clear c3b0
   try clear c3b1
   try clear c3b2
   obtain ⟨x5_1,rfl,HA,HK1,⟨m1,rfl⟩⟩ := hrel
   cases gk with
   | zero => exact absurd HA.out (by simp [laws_likeInts.l0])
   | succ k1 =>
    have H := HA.out
    clear HA
    simp only [laws_likeInts.l0] at H
    by_cases c4 : x5_1 < (l0.length : Int)
    ·rw [if_pos c4] at H
     have c4b0 : decide (x5_1 < (l0.length : Int)) = true := decide_eq_true c4
     clear c4
     by_cases c5 : 0 ≤ x5_1
     ·rw [if_pos c5] at H
      have c5b0 : decide (0 ≤ x5_1) = true := decide_eq_true c5
      clear c5
      by_cases c6 : x5_1 < (l1.length : Int)
      ·rw [if_pos c6] at H
       have c6b0 : decide (x5_1 < (l1.length : Int)) = true := decide_eq_true c6
       clear c6
       by_cases c7 : (rd l0 x5_1) = (rd l1 x5_1)
       ·rw [if_pos c7] at H
        have c7b0 : ((rd l0 x5_1) == (rd l1 x5_1)) = true := beq_iff_eq.mpr c7
        have c7b1 : ((rd l0 x5_1) != (rd l1 x5_1)) = false := bne_eq_false_iff_eq.mpr c7
        clear c7
        have H' := Aside0.mk H
        clear H
        have p272 : 0 ≤ (x5_1 : Int) := od_
        have q272 : x5_1 < (l0.length : Int) := od_
        obtain ⟨ad272,e272,hx272_0⟩ := Kd.at_int HR0.out x5_1 p272 q272
        cases e272
        replace p272 := eq_true p272
        replace q272 := eq_true q272
        have p273 : 0 ≤ (x5_1 : Int) := od_
        have q273 : x5_1 < (l1.length : Int) := od_
        obtain ⟨ad273,e273,hx273_0⟩ := Kd.at_int HR1.out x5_1 p273 q273
        cases e273
        replace p273 := eq_true p273
        replace q273 := eq_true q273
        go_wp2
        repeat (go_quiet (fail);try go_wp2)
        go_roundg k1
        case measure => have := HK1.out;omega
        case rel => exact ⟨(wrap64 (x5_1 + 1)),rs_,H',⟨by have := HK1.out;omega⟩,by repeat (first|exact Drawn0.refl _|apply Drawn0.step)⟩
       ·rw [if_neg c7] at H
        have c7b0 : ((rd l0 x5_1) == (rd l1 x5_1)) = false := beq_eq_false_iff_ne.mpr c7
        have c7b1 : ((rd l0 x5_1) != (rd l1 x5_1)) = true := bne_iff_ne.mpr c7
        obtain rfl := Option.some.inj H
        have p272 : 0 ≤ (x5_1 : Int) := od_
        have q272 : x5_1 < (l0.length : Int) := od_
        obtain ⟨ad272,e272,hx272_0⟩ := Kd.at_int HR0.out x5_1 p272 q272
        cases e272
        replace p272 := eq_true p272
        replace q272 := eq_true q272
        have p273 : 0 ≤ (x5_1 : Int) := od_
        have q273 : x5_1 < (l1.length : Int) := od_
        obtain ⟨ad273,e273,hx273_0⟩ := Kd.at_int HR1.out x5_1 p273 q273
        cases e273
        replace p273 := eq_true p273
        replace q273 := eq_true q273
        go_wp2
        repeat (go_quiet (fail);try go_wp2)
        go_ret
        exact ⟨rs_,by repeat (first|exact Drawn0.refl _|apply Drawn0.step)⟩
      ·rw [if_neg c6] at H
       exact absurd H (by simp)
     ·rw [if_neg c5] at H
      exact absurd H (by simp)
    ·rw [if_neg c4] at H
     have c4b0 : decide (x5_1 < (l0.length : Int)) = false := decide_eq_false c4
     clear c4
     obtain rfl := Option.some.inj H
     go_wp2
     repeat (go_quiet (fail);try go_wp2)
     go_ret
     exact ⟨rs_,by repeat (first|exact Drawn0.refl _|apply Drawn0.step)⟩
 ·rw [if_neg c3] at H
  have c3b0 : ((l0.length : Int) == (l1.length : Int)) = false := beq_eq_false_iff_ne.mpr c3
  have c3b1 : ((l0.length : Int) != (l1.length : Int)) = true := bne_iff_ne.mpr c3
  have c3b2 : (l0.length == l1.length) = false := by first|simpa using c3|(simp at c3 ⊢;omega)
  obtain rfl := Option.some.inj H
  go_enter Try.func55,Try.ntmps55
  go_wp2
  repeat (go_quiet (fail);try go_wp2)
  go_ret
  exact ⟨rs_,by repeat (first|exact Drawn0.refl _|apply Drawn0.step)⟩

/-! ### laws_likePlaces: function 54 -/
def laws_likePlaces.l0 : Nat → List (S84) → List (S84) → Int → Option (Bool)
  | 0, _, _, _ => none
  | k + 1, x0, x1, x5 => if x5 < (x0.length : Int) then (if 0 ≤ x5 then (if x5 < (x1.length : Int) then ((laws_likeInts.f k ((rd_T84 x0 x5).f0) ((rd_T84 x1 x5).f0)).bind fun t276 => (if t276 = true then (laws_likePlaces.l0 k x0 x1 (wrap64 (x5 + 1))) else (some false))) else (none)) else (none)) else (some true)
def laws_likePlaces.f (k : Nat) (l0 : List (S84)) (l1 : List (S84)) : Option (Bool) := if (l0.length : Int) = (l1.length : Int) then (laws_likePlaces.l0 k l0 l1 0) else (some false)

def laws_likePlaces.T6 : Bool × List (List Nat × List Nat) := (true, [([], []), ([], []), ([0, 1], [0, 1]), ([2], [2]), ([3], [3]), ([], []), ([], []), ([5, 6], [5, 6]), ([7], [7]), ([8], [8]), ([4, 9], [4, 9]), ([10], [10])])
def laws_likePlaces.B6 : List Nat := [0, 0, 3, 7, 15, 0, 0, 96, 224, 480, 1023, 2047]
theorem laws_likePlaces.tab6 : rtab .any (opsOf Try.f54 6) = laws_likePlaces.T6 := by kernel_rfl
theorem laws_likePlaces.bits6 : waitsOk laws_likePlaces.T6.2 laws_likePlaces.B6 = true := by kernel_rfl
set_option maxHeartbeats 8000000 in
set_option maxRecDepth 100000 in
theorem laws_likePlaces.calls (k : Nat) (A0 : Option Addr) (c0 : Nat) (l0 : List (S84)) (A1 : Option Addr) (c1 : Nat) (l1 : List (S84)) (r : Bool) (w : World) (hr0 : Kd.C k84 w A0 l0.length l0) (hc0 : l0.length ≤ c0) (hr1 : Kd.C k84 w A1 l1.length l1) (hc1 : l1.length ≤ c1) (h : laws_likePlaces.f k l0 l1 = some r) :
    Calls Try.prog 54 #[.slice A0 l0.length c0, .slice A1 l1.length c1] w fun e w' => e = .returned (.bool r) ∧ Below w.heap.size w w' := by
 have HR0 := Aside0.mk hr0
 have HC0 := Aside0.mk hc0
 clear hr0 hc0
 have HR1 := Aside0.mk hr1
 have HC1 := Aside0.mk hc1
 clear hr1 hc1
 have HB := Aside0.mk (Below.refl w.heap.size w)
 have H : (if (l0.length : Int) = (l1.length : Int) then (laws_likePlaces.l0 k l0 l1 0) else (some false)) = some r := h
 clear h
 by_cases c3 : (l0.length : Int) = (l1.length : Int)
 ·rw [if_pos c3] at H
  have c3b0 : ((l0.length : Int) == (l1.length : Int)) = true := beq_iff_eq.mpr c3
  have c3b1 : ((l0.length : Int) != (l1.length : Int)) = false := bne_eq_false_iff_eq.mpr c3
  have c3b2 : (l0.length == l1.length) = true := by first|simpa using c3|(simp at c3 ⊢;omega)
  clear c3
  have H' := Aside0.mk H
  clear H
  go_enter Try.func54,Try.ntmps54
  go_wp2
  go_loopg [5] k (fun kq v5 w' => ∃ (x5_1 : Int),v5 = .int .i64 x5_1 ∧ Aside0 (laws_likePlaces.l0 kq l0 l1 x5_1 = some r) ∧ Aside0 (kq ≤ k) ∧ Aside0 (Below w.heap.size w w'))
  case atStart => exact ⟨(0),rs_,H',⟨Nat.le_refl _⟩,⟨b_⟩⟩
  case round =>
   clear H'
   try clear c1
   try clear p2
   try clear c3
   try clear c3b0
   try clear c3b1
   try clear c3b2
   obtain ⟨x5_1,rfl,HA,HK1,HB⟩ := hrel
   cases gk with
   | zero => exact absurd HA.out (by simp [laws_likePlaces.l0])
   | succ k1 =>
    have H := HA.out
    clear HA
    simp only [laws_likePlaces.l0] at H
    by_cases c4 : x5_1 < (l0.length : Int)
    ·rw [if_pos c4] at H
     have c4b0 : decide (x5_1 < (l0.length : Int)) = true := decide_eq_true c4
     clear c4
     by_cases c5 : 0 ≤ x5_1
     ·rw [if_pos c5] at H
      have c5b0 : decide (0 ≤ x5_1) = true := decide_eq_true c5
      clear c5
      by_cases c6 : x5_1 < (l1.length : Int)
      ·rw [if_pos c6] at H
       have c6b0 : decide (x5_1 < (l1.length : Int)) = true := decide_eq_true c6
       clear c6
       replace H := bs_ H
       obtain ⟨t276,A7,H⟩ := H
       by_cases c8 : t276 = true
       ·subst c8
        replace H := it_ H
        have H' := Aside0.mk H
        clear H
        try go_wp2
        replace HB := Aside0.mk (below_drew1 HB.out)
        have p274 : 0 ≤ (x5_1 : Int) := od_
        have q274 : x5_1 < (l0.length : Int) := od_
        obtain ⟨ad274,A274_0,c274_0,e274,hx274_0,hl274_0,hi274_0⟩ := at_T84 HR0.out x5_1 p274 q274
        have hw274_0 := hx274_0
        cases e274
        replace hx274_0 := hx_ HB hx274_0
        have HR274_0 := Aside0.mk hi274_0
        have HC274_0 := Aside0.mk hl274_0
        clear hi274_0 hl274_0
        replace p274 := eq_true p274
        replace q274 := eq_true q274
        have p275 : 0 ≤ (x5_1 : Int) := od_
        have q275 : x5_1 < (l1.length : Int) := od_
        obtain ⟨ad275,A275_0,c275_0,e275,hx275_0,hl275_0,hi275_0⟩ := at_T84 HR1.out x5_1 p275 q275
        have hw275_0 := hx275_0
        cases e275
        replace hx275_0 := hx_ HB hx275_0
        have HR275_0 := Aside0.mk hi275_0
        have HC275_0 := Aside0.mk hl275_0
        clear hi275_0 hl275_0
        replace p275 := eq_true p275
        replace q275 := eq_true q275
        refine st_ 12 (S := fun w' => (w'.cell? (ad274.add (x5_1).toNat) = some (.slice A274_0 ((rd_T84 l0 x5_1).f0).length c274_0)) ∧ w'.cell? (ad275.add (x5_1).toNat) = some (.slice A275_0 ((rd_T84 l1 x5_1).f0).length c275_0)) hh_ (fun hHeld => ?_);refine with_tabW laws_likePlaces.tab6 laws_likePlaces.bits6 (fun HT_ HW_ => ?_)
        generalize wr.drew = w9 at HB HR274_0 HR275_0 hx274_0 hx275_0 hHeld ⊢
        refine pv_ 0 17 ?_
        refine pv_ 1 18 ?_
        refine pv_ 2 19 ?_
        refine pv_ 3 20 ?_
        refine pv_ 5 22 ?_
        refine pv_ 6 23 ?_
        refine pv_ 7 24 ?_
        refine pv_ 8 25 ?_
        refine tx_ 4 21 hHeld ?_
        refine tx_ 9 26 hHeld ?_
        refine oy_ 10 27 (fun K hK => ?_)
        refine gs_ Try.func55 #[.slice A274_0 ((rd_T84 l0 x5_1).f0).length c274_0,.slice A275_0 ((rd_T84 l1 x5_1).f0).length c275_0] ?_
        with_reducible refine (laws_likeInts.calls k1 _ _ ((rd_T84 l0 x5_1).f0) _ _ ((rd_T84 l1 x5_1).f0) true _ ?side1 ?side2 ?side3 ?side4 A7.out).mono ?_
        (case side1 => exact cb_ HR274_0)
        (case side2 => exact HC274_0.out)
        (case side3 => exact cb_ HR275_0)
        (case side4 => exact HC275_0.out)
        rintro e w' ⟨rfl,⟨nd,rfl⟩⟩
        refine ⟨_,rfl,?_⟩
        refine hK.out _ _ hh_ (fun hHeld => ?_)
        clear hK K
        refine nr_ (some 27) _ ?_
        refine pv_ 11 28 ?_
        refine done_ (done_of HT_.out (by kernel_rfl)) ?_
        try go_wp2
        go_roundg k1
        case measure => have := HK1.out;omega
        case rel => exact ⟨(wrap64 (x5_1 + 1)),rs_,H',⟨by have := HK1.out;omega⟩,⟨b_⟩⟩
       ·replace c8 := Bool.eq_false_iff.mpr c8
        subst c8
        replace H := ie_ H
        obtain rfl := Option.some.inj H
        try go_wp2
        replace HB := Aside0.mk (below_drew1 HB.out)
        have p274 : 0 ≤ (x5_1 : Int) := od_
        have q274 : x5_1 < (l0.length : Int) := od_
        obtain ⟨ad274,A274_0,c274_0,e274,hx274_0,hl274_0,hi274_0⟩ := at_T84 HR0.out x5_1 p274 q274
        have hw274_0 := hx274_0
        cases e274
        replace hx274_0 := hx_ HB hx274_0
        have HR274_0 := Aside0.mk hi274_0
        have HC274_0 := Aside0.mk hl274_0
        clear hi274_0 hl274_0
        replace p274 := eq_true p274
        replace q274 := eq_true q274
        have p275 : 0 ≤ (x5_1 : Int) := od_
        have q275 : x5_1 < (l1.length : Int) := od_
        obtain ⟨ad275,A275_0,c275_0,e275,hx275_0,hl275_0,hi275_0⟩ := at_T84 HR1.out x5_1 p275 q275
        have hw275_0 := hx275_0
        cases e275
        replace hx275_0 := hx_ HB hx275_0
        have HR275_0 := Aside0.mk hi275_0
        have HC275_0 := Aside0.mk hl275_0
        clear hi275_0 hl275_0
        replace p275 := eq_true p275
        replace q275 := eq_true q275
        refine st_ 12 (S := fun w' => (w'.cell? (ad274.add (x5_1).toNat) = some (.slice A274_0 ((rd_T84 l0 x5_1).f0).length c274_0)) ∧ w'.cell? (ad275.add (x5_1).toNat) = some (.slice A275_0 ((rd_T84 l1 x5_1).f0).length c275_0)) hh_ (fun hHeld => ?_);refine with_tabW laws_likePlaces.tab6 laws_likePlaces.bits6 (fun HT_ HW_ => ?_)
        generalize wr.drew = w10 at HB HR274_0 HR275_0 hx274_0 hx275_0 hHeld ⊢
        refine pv_ 0 17 ?_
        refine pv_ 1 18 ?_
        refine pv_ 2 19 ?_
        refine pv_ 3 20 ?_
        refine pv_ 5 22 ?_
        refine pv_ 6 23 ?_
        refine pv_ 7 24 ?_
        refine pv_ 8 25 ?_
        refine tx_ 4 21 hHeld ?_
        refine tx_ 9 26 hHeld ?_
        refine oy_ 10 27 (fun K hK => ?_)
        refine gs_ Try.func55 #[.slice A274_0 ((rd_T84 l0 x5_1).f0).length c274_0,.slice A275_0 ((rd_T84 l1 x5_1).f0).length c275_0] ?_
        with_reducible refine (laws_likeInts.calls k1 _ _ ((rd_T84 l0 x5_1).f0) _ _ ((rd_T84 l1 x5_1).f0) false _ ?side1 ?side2 ?side3 ?side4 A7.out).mono ?_
        (case side1 => exact cb_ HR274_0)
        (case side2 => exact HC274_0.out)
        (case side3 => exact cb_ HR275_0)
        (case side4 => exact HC275_0.out)
        rintro e w' ⟨rfl,⟨nd,rfl⟩⟩
        refine ⟨_,rfl,?_⟩
        refine hK.out _ _ hh_ (fun hHeld => ?_)
        clear hK K
        refine nr_ (some 27) _ ?_
        refine pv_ 11 28 ?_
        refine done_ (done_of HT_.out (by kernel_rfl)) ?_
        try go_wp2
        go_ret
        exact ⟨rf_,b_⟩
      ·rw [if_neg c6] at H
       exact absurd H (by simp)
     ·rw [if_neg c5] at H
      exact absurd H (by simp)
    ·rw [if_neg c4] at H
     have c4b0 : decide (x5_1 < (l0.length : Int)) = false := decide_eq_false c4
     clear c4
     obtain rfl := Option.some.inj H
     go_wp2
     go_ret
     exact ⟨rf_,b_⟩
 ·rw [if_neg c3] at H
  have c3b0 : ((l0.length : Int) == (l1.length : Int)) = false := beq_eq_false_iff_ne.mpr c3
  have c3b1 : ((l0.length : Int) != (l1.length : Int)) = true := bne_iff_ne.mpr c3
  have c3b2 : (l0.length == l1.length) = false := by first|simpa using c3|(simp at c3 ⊢;omega)
  obtain rfl := Option.some.inj H
  go_enter Try.func54,Try.ntmps54
  go_wp2
  go_ret
  exact ⟨rf_,b_⟩

/-! ### spec_l1From: function 99 -/
def spec_l1From.f (s0_0 : List Int) (s0_1 : Int) (s0_2 : Int) (a1 : Int) (a2 : Int) : Option (Int × Int × Int) := (spec_l1Below.f s0_0 s0_1 s0_2 (wrap64 ((wrap64 (a2 - a1)) + 1))).bind fun bt277 => (some (wrap64 (a1 + bt277.1), bt277.2.1, bt277.2.2))
set_option maxHeartbeats 8000000 in
set_option maxRecDepth 100000 in
theorem spec_l1From.calls (g : Nat) (s0_0 : List Int) (s0_1 : Int) (s0_2 : Int) (a1 : Int) (a2 : Int) (r1 : Int) (r2 : Int) (r3 : Int) (w0 w : World) (hI : IsS112 w0 w g s0_0 s0_1 s0_2) (hB : Below w0.heap.size w0 w) (h : spec_l1From.f s0_0 s0_1 s0_2 a1 a2 = some (r1, r2, r3)) :
    Calls Try.prog 99 #[.pointer (some ⟨g, 0, none⟩), .int .i64 a1, .int .i64 a2] w fun e w' => e = .returned (.int .i64 r1) ∧ IsS112 w0 w' g s0_0 r2 r3 ∧ Below w0.heap.size w0 w' ∧ KeepBut w w' g none := by
 have HI0 := Aside0.mk hI
 have HK := Aside0.mk (KeepBut.refl w g none)
 have HL := Aside0.mk hB.size
 clear hI
 have HW0 := Aside0.mk hB.size
 have HB := Aside0.mk hB
 clear hB
 have H : ((spec_l1Below.f s0_0 s0_1 s0_2 (wrap64 ((wrap64 (a2 - a1)) + 1))).bind fun bt277 => (some (wrap64 (a1 + bt277.1),bt277.2.1,bt277.2.2))) = some (r1,r2,r3) := h
 clear h
 replace H := Option.bind_eq_some_iff.mp H
 obtain ⟨⟨t277,t278,t279⟩,A40,H⟩ := H
 replace H : (some (wrap64 (a1 + t277),t278,t279)) = some (r1,r2,r3) := H
 have A4 := Aside0.mk A40
 clear A40
 simp only [Option.some.injEq,Prod.mk.injEq] at H
 obtain ⟨rfl,rfl,rfl⟩ := H
 go_enter Try.func99,Try.ntmps99
 go_wp2_with (first|((with_reducible refine gcal_ (f := 74) rfl ?_);refine gl_ (some 13) Try.func74 #[.pointer (some ⟨g,0,none⟩),.int .i64 (wrap64 ((wrap64 (a2 - a1)) + 1))] ?_;(with_reducible refine (spec_l1Below.calls g s0_0 s0_1 s0_2 (wrap64 ((wrap64 (a2 - a1)) + 1)) t277 t278 t279 w0 _ ?side1 ?side2 A4.out).mono ?_);(case side1 => repeat (first|(with_reducible first|exact HI0.out|apply IsS112.alloc|apply IsS112.drewN|apply IsS112.drew|apply IsS112.set_1|apply IsS112.set_2)|exact HI0.out));(case side2 => repeat (first|(with_reducible first|exact HB.out|apply below_alloc|apply pw_below_drewN|apply below_drew1|refine below_set ?_ (IsS112.ge HI0.out))|exact HB.out));rintro e w5 ⟨rfl,hi,hb,hk⟩;refine ⟨_,rfl,?_⟩;replace HK := Aside0.mk (KeepBut.trans (by repeat (first|(with_reducible first|exact HK.out|apply KeepBut.set_|apply keep_drewN|apply keep_drew|apply keep_alloc)|exact HK.out)) hk (.inl rfl));replace HB := Aside0.mk (hb);replace HI0 := Aside0.mk (hi);(try clear hb);(try clear hb2);(try clear hk);(try clear hi)))
 go_ret
 exact ⟨rf_,by repeat (first|(with_reducible first|exact HI0.out|apply IsS112.alloc|apply IsS112.drewN|apply IsS112.drew|apply IsS112.set_1|apply IsS112.set_2)|exact HI0.out),by repeat (first|(with_reducible first|exact HB.out|apply below_alloc|apply pw_below_drewN|apply below_drew1|refine below_set ?_ (IsS112.ge HI0.out))|exact HB.out),by repeat (first|(with_reducible first|exact HK.out|apply KeepBut.set_|apply keep_drewN|apply keep_drew|apply keep_alloc)|exact HK.out)⟩

/-! ### spec_DrawSpread: function 56 -/
def spec_DrawSpread.f (k : Nat) (l0 : List Int) : Option (Int × Int) := (spec_l1New.f k l0).bind fun bt280 => ((spec_l1From.f bt280.1 bt280.2.1 bt280.2.2 (-1) 8).bind fun bt284 => ((spec_l1From.f bt280.1 bt284.2.1 bt284.2.2 (-1) 10).bind fun bt287 => (some (bt284.1, bt287.1))))

set_option maxHeartbeats 8000000 in
set_option maxRecDepth 100000 in
theorem spec_DrawSpread.calls (k : Nat) (A0 : Option Addr) (c0 : Nat) (l0 : List Int) (r1 : Int) (r2 : Int) (w : World) (hr0 : Kd.C (Kd.int .u8) w A0 l0.length l0) (hc0 : l0.length ≤ c0) (h : spec_DrawSpread.f k l0 = some (r1, r2)) :
    Calls Try.prog 56 #[.slice A0 l0.length c0] w fun e w' => e = .returned (.tuple #[.int .i64 r1, .int .i64 r2]) ∧ Below w.heap.size w w' := by
 have HR0 := Aside0.mk hr0
 have HC0 := Aside0.mk hc0
 clear hr0 hc0
 have HB := Aside0.mk (Below.refl w.heap.size w)
 have H : ((spec_l1New.f k l0).bind fun bt280 => ((spec_l1From.f bt280.1 bt280.2.1 bt280.2.2 (-1) 8).bind fun bt284 => ((spec_l1From.f bt280.1 bt284.2.1 bt284.2.2 (-1) 10).bind fun bt287 => (some (bt284.1,bt287.1))))) = some (r1,r2) := h
 clear h
 replace H := Option.bind_eq_some_iff.mp H
 obtain ⟨⟨t280,t281,t282⟩,A20,H⟩ := H
 replace H : ((spec_l1From.f t280 t281 t282 (-1) 8).bind fun bt284 => ((spec_l1From.f t280 bt284.2.1 bt284.2.2 (-1) 10).bind fun bt287 => (some (bt284.1,bt287.1)))) = some (r1,r2) := H
 have A2 := Aside0.mk A20
 clear A20
 replace H := Option.bind_eq_some_iff.mp H
 obtain ⟨⟨t284,t285,t286⟩,A30,H⟩ := H
 replace H : ((spec_l1From.f t280 t285 t286 (-1) 10).bind fun bt287 => (some (t284,bt287.1))) = some (r1,r2) := H
 have A3 := Aside0.mk A30
 clear A30
 replace H := Option.bind_eq_some_iff.mp H
 obtain ⟨⟨t287,t288,t289⟩,A40,H⟩ := H
 replace H : (some (t284,t287)) = some (r1,r2) := H
 have A4 := Aside0.mk A40
 clear A40
 simp only [Option.some.injEq,Prod.mk.injEq] at H
 obtain ⟨rfl,rfl⟩ := H
 go_enter Try.func56,Try.ntmps56
 go_wp2_with (first|((with_reducible refine gcal_ (f := 72) rfl ?_);refine gl_ (some 6) Try.func72 #[.slice A0 l0.length c0] ?_;(with_reducible refine (spec_l1New.calls k _ _ l0 t280 t281 t282 w _ ?side1 ?side2 ?side3 A2.out).mono ?_);(case side1 => repeat (first|(with_reducible first|exact HB.out|apply below_alloc|apply pw_below_drewN|apply below_drew1)|exact HB.out));(case side2 => exact HR0.out);(case side3 => exact HC0.out);rintro e w5 ⟨g283,rfl,hi,hb,hb2⟩;refine ⟨_,rfl,?_⟩;replace HB := Aside0.mk (hb);have HI283 := Aside0.mk (hi);(try clear hb);(try clear hb2);(try clear hk);(try clear hi))|((with_reducible refine gcal_ (f := 99) rfl ?_);refine gl_ (some 8) Try.func99 #[.pointer (some ⟨g283,0,none⟩),.int .i64 (-1),.int .i64 8] ?_;(with_reducible refine (spec_l1From.calls g283 t280 t281 t282 (-1) 8 t284 t285 t286 w _ ?side1 ?side2 A3.out).mono ?_);(case side1 => repeat (first|(with_reducible first|exact HI283.out|apply IsS112.alloc|apply IsS112.drewN|apply IsS112.drew|apply IsS112.set_1|apply IsS112.set_2)|exact HI283.out));(case side2 => repeat (first|(with_reducible first|exact HB.out|apply below_alloc|apply pw_below_drewN|apply below_drew1|refine below_set ?_ (IsS112.ge HI283.out))|exact HB.out));rintro e w6 ⟨rfl,hi,hb,hk⟩;refine ⟨_,rfl,?_⟩;replace HB := Aside0.mk (hb);replace HI283 := Aside0.mk (hi);(try clear hb);(try clear hb2);(try clear hk);(try clear hi))|((with_reducible refine gcal_ (f := 99) rfl ?_);refine gl_ (some 10) Try.func99 #[.pointer (some ⟨g283,0,none⟩),.int .i64 (-1),.int .i64 10] ?_;(with_reducible refine (spec_l1From.calls g283 t280 t285 t286 (-1) 10 t287 t288 t289 w _ ?side1 ?side2 A4.out).mono ?_);(case side1 => repeat (first|(with_reducible first|exact HI283.out|apply IsS112.alloc|apply IsS112.drewN|apply IsS112.drew|apply IsS112.set_1|apply IsS112.set_2)|exact HI283.out));(case side2 => repeat (first|(with_reducible first|exact HB.out|apply below_alloc|apply pw_below_drewN|apply below_drew1|refine below_set ?_ (IsS112.ge HI283.out))|exact HB.out));rintro e w7 ⟨rfl,hi,hb,hk⟩;refine ⟨_,rfl,?_⟩;replace HB := Aside0.mk (hb);replace HI283 := Aside0.mk (hi);(try clear hb);(try clear hb2);(try clear hk);(try clear hi)))
 go_ret2
 exact ⟨rf_,by repeat (first|(with_reducible first|exact HB.out|apply below_alloc|apply pw_below_drewN|apply below_drew1|refine below_set ?_ (IsS112.ge HI283.out))|exact HB.out)⟩

/-! ### impl_spread: function 101 -/
mutual
def impl_spread.l0 : Nat → Int → List (S84) → Int → Int → Option ((List (S84)))
  | 0, _, _, _, _ => none
  | k + 1, x1, x5, x9, x10 => if x10 < x9 then (impl_spread.l1 k x1 x5 x10 x9 x10 (mn x1 3) 0 ([] : List Int)) else (some x5)
def impl_spread.l1 : Nat → Int → List (S84) → Int → Int → Int → Int → Int → List Int → Option ((List (S84)))
  | 0, _, _, _, _, _, _, _, _ => none
  | k + 1, x1, x5, x6, x9, x10, x14, x15, x291000 => if x15 < x14 then (if x1 = 0 then (none) else (if x291000.length < 17592186044416 then (impl_spread.l1 k x1 x5 x6 x9 x10 x14 (wrap64 (x15 + 1)) (x291000 ++ [Int.tmod (wrap64 (x6 + x15)) x1])) else (none))) else (if x5.length < 5864062014805 then (impl_spread.l0 k x1 (x5 ++ [(⟨x291000⟩ : S84)]) x9 (wrap64 (x10 + 1))) else (none))
end
def impl_spread.f (k : Nat) (a0 : Int) (a1 : Int) : Option ((List (S84))) := impl_spread.l0 k a1 ([] : List (S84)) a0 0

def impl_spread.T9 : Bool × List (List Nat × List Nat) := (true, [([], []), ([0], [0]), ([], []), ([], []), ([2, 3], [2, 3]), ([], []), ([4, 5], [4, 5]), ([6], [6]), ([1, 7], [1, 7]), ([0, 1, 2, 3, 4, 5, 6, 7, 8], []), ([9, 8, 8, 0, 1, 2, 3, 4, 5, 6, 7, 8], [8, 9])])
def impl_spread.B9 : List Nat := [0, 1, 0, 0, 12, 0, 60, 124, 255, 511, 1023]
theorem impl_spread.tab9 : rtab .any (opsOf Try.f101 9) = impl_spread.T9 := by kernel_rfl
theorem impl_spread.bits9 : waitsOk impl_spread.T9.2 impl_spread.B9 = true := by kernel_rfl
set_option maxHeartbeats 8000000 in
set_option maxRecDepth 100000 in
theorem impl_spread.calls (k : Nat) (a0 : Int) (a1 : Int) (r : List (S84)) (w : World) (h : impl_spread.f k a0 a1 = some r) :
    Calls Try.prog 101 #[.int .i64 a0, .int .i64 a1] w fun e w' => ∃ v0_ : Value, e = .returned (v0_) ∧ Kd.S k84 84 w' w.heap.size (fun _ => True) v0_ r ∧ Below w.heap.size w w' := by
 have hu84 := Try.underlying84
 have HB := Aside0.mk (Below.refl w.heap.size w)
 have H : (impl_spread.l0 k a1 ([] : List (S84)) a0 0) = some r := h
 clear h
 have H' := Aside0.mk H
 clear H
 go_enter Try.func101,Try.ntmps101
 go_wp2
 go_loopg [5,10] k (fun kq v5 v10 w' => ∃ (x5_1 : List (S84)) (x10_1 : Int),v10 = .int .i64 x10_1 ∧ Aside0 (impl_spread.l0 kq a1 x5_1 a0 x10_1 = some r) ∧ Aside0 (kq ≤ k) ∧ Aside0 (Kd.S k84 84 w' w.heap.size (fun _ => True) v5 x5_1) ∧ Aside0 (Below w.heap.size w w'))
 case atStart => exact ⟨(([] : List (S84))),(0),rs_,H',⟨Nat.le_refl _⟩,⟨by first|exact Kd.S_nil _ _ _ _ _|exact Kd.N_nil _ _ _ _ _|exact Kd.V_nil _ _ _ _ _|exact Kd.Q_nil _ _ _ _ _|exact Kd.R_nil _ _ _ _ _⟩,⟨b_⟩⟩
 case round =>
  clear H'
  try clear c1
  try clear p2
  obtain ⟨x5_1,x10_1,rfl,HA,HK1,HO_5,HB⟩ := hrel
  cases gk with
    | zero => exact absurd HA.out (by simp [impl_spread.l0])
    | succ k1 =>
   have H := HA.out
   clear HA
   simp only [impl_spread.l0] at H
   by_cases c3 : x10_1 < a0
   ·rw [if_pos c3] at H
    have c3b0 : decide (x10_1 < a0) = true := decide_eq_true c3
    clear c3
    obtain ⟨ji4,hji4⟩ : ∃ j_ : Int,(mn a1 3) = j_ := ⟨_,rfl⟩
    replace H : (impl_spread.l1 k1 a1 x5_1 x10_1 a0 x10_1 ji4 0 ([] : List Int)) = some r := by first|(rw [hji4] at H;exact H)|(simp only [hji4] at H ⊢;exact H)
    have hji4_ : (if 3 < a1 then 3 else a1) = ji4 := hji4
    have H' := Aside0.mk H
    clear H
    go_wp2_with (first|((with_reducible refine gate_dst (N := 7) rfl ?_);refine bx_ 7 #[.slice none 0 0] 84 ?_;intro gb290 hg w5 hbox hb;replace HO_5 := Aside0.mk (Kd.S_below (Kd.S_elderB (by (with_reducible repeat (first|apply Kd.S_alloc|apply Kd.S_drewN|apply Kd.S_drew));exact HO_5.out) gb290 (Nat.le_of_eq hg.symm)) hb);replace HB := nb_ hg hbox hb;obtain ⟨BK290,GW290,GE290,HB⟩ := HB;clear hb hbox hg))
    go_loopg [15] k1 (fun kq v15 w' => ∃ (x15_2 : Int) (x291000_2 : List Int) (u291000 : Value),v15 = .int .i64 x15_2 ∧ Aside0 (impl_spread.l1 kq a1 x5_1 x10_1 a0 x10_1 ji4 x15_2 x291000_2 = some r) ∧ Aside0 (kq ≤ k1) ∧ Aside0 (Kd.S k84 84 w' w.heap.size (fun k_ => some k_ ≠ (u291000 : Value).ownBlock ∧ k_ ≠ gb290) u5 x5_1) ∧ Aside0 (Kd.R (Kd.int .i64) 2 w' w.heap.size (fun _ => True) u291000 x291000_2) ∧ Aside0 (w'.heap[gb290]? = some (.cells #[u291000] 84 (0,0))) ∧ Aside0 (Below w.heap.size w w'))
    case atStart => exact ⟨(0),(([] : List Int)),(.slice none 0 0),rs_,H',⟨Nat.le_refl _⟩,⟨by (with_reducible repeat (first|apply Kd.S_alloc|apply Kd.S_drewN|apply Kd.S_drew));exact Kd.S_mono HO_5.out (fun _ hk => ⟨(by simp [Value.ownBlock]),hk.2⟩)⟩,⟨by first|exact Kd.R_nil _ _ _ _ _|exact Kd.N_nil _ _ _ _ _|exact Kd.V_nil _ _ _ _ _|exact Kd.Q_nil _ _ _ _ _|exact Kd.S_nil _ _ _ _ _⟩,⟨kb_ BK290⟩,⟨b_⟩⟩
    case round =>
     clear H'
     try clear c1
     try clear p2
     try clear c3
     try clear c3b0
     try clear p2
     obtain ⟨x15_2,x291000_2,u291000,rfl,HA,HK2,HO_5,HO_291000,BK290,HB⟩ := hrel
     cases gk with
     | zero => exact absurd HA.out (by simp [impl_spread.l1])
     | succ k2 =>
      have H := HA.out
      clear HA
      simp only [impl_spread.l1] at H
      by_cases c6 : x15_2 < ji4
      ·rw [if_pos c6] at H
       have c6b0 : decide (x15_2 < ji4) = true := decide_eq_true c6
       clear c6
       by_cases c7 : a1 = 0
       ·rw [if_pos c7] at H
        exact absurd H (by simp)
       ·rw [if_neg c7] at H
        have c7b0 : (a1 == 0) = false := beq_eq_false_iff_ne.mpr c7
        have c7b1 : (a1 != 0) = true := bne_iff_ne.mpr c7
        by_cases c8 : x291000_2.length < 17592186044416
        ·rw [if_pos c8] at H
         have LMc8 := Aside0.mk c8
         clear c8
         obtain ⟨y291,hy291⟩ : ∃ y_ : List Int,y_ = (x291000_2 ++ [Int.tmod (wrap64 (x10_1 + x15_2)) a1]) := ⟨_,rfl⟩
         replace H : (impl_spread.l1 k2 a1 x5_1 x10_1 a0 x10_1 ji4 (wrap64 (x15_2 + 1)) y291) = some r := by first|(rw [hy291];with_reducible exact H)|(have H2_ := (Option.bind_some _ _).symm.trans H;rw [hy291];with_reducible exact H2_)|(have H2_ := (Option.bind_some _ _).symm.trans H;with_reducible exact H2_)|with_reducible exact H|(rw [hy291];exact H)|exact H
         have Ny291 := Aside0.mk hy291
         clear hy291
         have H' := Aside0.mk H
         clear H
         try go_wp2
         replace HO_5 := Aside0.mk (Kd.S_drew HO_5.out)
         replace HO_291000 := Aside0.mk (Kd.R_drew HO_291000.out)
         replace BK290 := Aside0.mk (blk_drew BK290.out)
         replace HB := Aside0.mk (below_drew1 HB.out)
         refine std_ 11 (S := fun w' => w'.cell? ⟨gb290,0,none⟩ = some (u291000)) (ds := [10]) hh_ (fun hHeld => ?_);refine with_tabW impl_spread.tab9 impl_spread.bits9 (fun HT_ HW_ => ?_)
         generalize wr.drew = w9 at HO_5 HO_291000 BK290 HB hHeld ⊢
         refine pv_ 0 18 ?_
         refine pv_ 2 20 ?_
         refine pv_ 3 21 ?_
         refine pv_ 4 22 ?_
         refine pv_ 5 23 ?_
         refine pv_ 6 24 ?_
         refine tz_ (i := 1) (N := some 19) (v := ?_) (a' := ?_) HT_.out HW_.out rfl rfl (by kernel_rfl) (fun _ _ _ h => h) (Or.inl ⟨by rfl,?_⟩) hHeld ?_ ?_
         rotate_left
         ·intro w' s0
          go_simp
          with_reducible rfl
         rotate_left
         ·simp only [Act.put,q1,q2,q3,i64_w,i32_w]
          rfl
         refine oy_ 7 25 (fun K hK => ?_)
         refine value_ (w1 := ?_) (v := ?_) (by rfl) rfl ?_ ?_
         rotate_left 2
         ·go_simp
          constructor
          ·rfl
          ·rfl
         refine hK.out _ _ ((blk_cell (blk_alloc BK290.out _) 0).trans rfl) (fun hHeld => ?_)
         clear hK K
         refine nr_ (some 25) _ ?_
         refine oy_ 8 26 (fun K hK => ?_)
         refine Kd.R_append_step (Kd.int .i64) (w0 := w) w.heap.size (by rfl) (.tmp 19) (.tmp 25) 35 2 (.int .i64 0) 8 rfl Try.underlying35 info2 rfl (by decide) (by omega) u291000 x291000_2 (Int.tmod (wrap64 (x10_1 + x15_2)) a1) [.int .i64 (Int.tmod (wrap64 (x10_1 + x15_2)) a1)] (fun _ => True) (fun _ => False) rfl rfl ?aP (fun _ hk => hk.elim) ?aF ?aO ?aB ?aS ?aL ?_
         (case aP => exact rfl)
         (case aB => exact b_)
         (case aF => exact (fun _ _ => trivial))
         (case aO => exact (by (with_reducible repeat (first|apply Kd.R_alloc|apply Kd.R_drewN|apply Kd.R_drew));exact HO_291000.out))
         (case aS => exact (below_size b_))
         (case aL => have := LMc8.out;omega)
         intro v292 w10 ho hb hg hat
         rw [← Ny291.out] at ho
         replace HO_5 := Aside0.mk (Kd.S_after (ok := (fun k_ => k_ ≠ gb290)) (by (with_reducible repeat (first|apply Kd.S_alloc|apply Kd.S_drewN|apply Kd.S_drew));exact Kd.S_mono HO_5.out (fun _ hk => ⟨hk.2,hk.1⟩)) hg hat)
         replace BK290 := Aside0.mk (blk_grown (kb_ BK290) hg (Kd.R_ne HO_291000.out BK290.out (by decide)))
         replace HB := Aside0.mk (hb)
         have HO293 := Aside0.mk (ho)
         clear HO_291000
         clear ho hb hg hat
         obtain ⟨Ao11,co11,eo11⟩ := Kd.R_slice HO293.out
         (first|subst eo11|(injection eo11 with f1_ f2_ f3_;have f4_ := f1_.symm;have f5_ := f3_.symm;clear f1_ f2_ f3_;subst f4_;subst f5_))
         refine hK.out _ _ hh_ (fun hHeld => ?_)
         clear hK K
         refine nr_ (some 26) _ ?_
         refine pv_ 9 27 ?_
         refine last_ (i := 10) (N := none) #[true,true,true,true,true,true,true,true,true,true,true] rfl rfl (one_of HT_.out (by kernel_rfl)) (by decide) (fun K hK => ?_)
         have hs12 : w10.cell? ⟨gb290,0,none⟩ = some (u291000) := (blk_cell BK290.out 0).trans rfl
         have hfs12 := blk_frozen BK290.out 0
         refine skip_ (w1 := ?_) (by rfl) rfl ?_ ?_
         rotate_left
         ·go_simp
          rfl
         refine hK.out _ _ ?_
         clear hK K
         refine done_ (done_of HT_.out (by kernel_rfl)) ?_
         try go_wp2
         go_roundg k2
         case measure => have := HK1.out;have := HK2.out;omega
         case rel => exact ⟨(wrap64 (x15_2 + 1)),(y291),(.slice Ao11 y291.length co11),rs_,H',⟨by have := HK1.out;have := HK2.out;omega⟩,⟨by (with_reducible repeat (first|apply Kd.S_alloc|apply Kd.S_drewN|apply Kd.S_drew));exact Kd.S_mono (Kd.S_far (p := ⟨gb290,0,none⟩) (Kd.S_mono HO_5.out (fun k_ hk => (⟨hk,hk.1⟩ : _ ∧ k_ ≠ gb290))) (fun _ hk => hk.2) (.slice Ao11 y291.length co11)) (fun _ hk => ⟨hk.1.2,hk.1.1⟩)⟩,⟨by (with_reducible repeat (first|apply Kd.R_alloc|apply Kd.R_drewN|apply Kd.R_drew));exact Kd.R_mono (Kd.R_far (p := ⟨gb290,0,none⟩) (Kd.R_types HO293.out BK290.out (by decide)) (fun _ hk => hk.2) (.slice Ao11 y291.length co11)) (fun _ hk => trivial)⟩,⟨by (with_reducible repeat (first|refine blk_drewN ?_ _|refine blk_drew ?_|refine blk_alloc ?_ _));refine blk_put (cs := #[u291000]) ?_ 0 _ rfl;(with_reducible repeat (first|refine blk_drewN ?_ _|refine blk_drew ?_|refine blk_alloc ?_ _));exact BK290.out⟩,⟨b_⟩⟩
        ·rw [if_neg c8] at H
         exact absurd H (by simp)
      ·rw [if_neg c6] at H
       have c6b0 : decide (x15_2 < ji4) = false := decide_eq_false c6
       clear c6
       by_cases c13 : x5_1.length < 5864062014805
       ·rw [if_pos c13] at H
        have LMc13 := Aside0.mk c13
        clear c13
        obtain ⟨y294,hy294⟩ : ∃ y_ : List (S84),y_ = (x5_1 ++ [(⟨x291000_2⟩ : S84)]) := ⟨_,rfl⟩
        replace H : (impl_spread.l0 k2 a1 y294 a0 (wrap64 (x10_1 + 1))) = some r := by first|(rw [hy294];with_reducible exact H)|(have H2_ := (Option.bind_some _ _).symm.trans H;rw [hy294];with_reducible exact H2_)|(have H2_ := (Option.bind_some _ _).symm.trans H;with_reducible exact H2_)|with_reducible exact H|(rw [hy294];exact H)|exact H
        have Ny294 := Aside0.mk hy294
        clear hy294
        have H' := Aside0.mk H
        clear H
        have hcz14_0 : wr.cell? ⟨gb290,0,none⟩ = some (u291000) := (blk_cell BK290.out 0).trans rfl
        have hfz14_0 := blk_frozen BK290.out 0
        obtain ⟨Ao16,co16,eo16⟩ := Kd.R_slice HO_291000.out
        subst eo16
        go_wp2_with (first|((with_reducible refine gblt_ (b := .append) (xs := #[.tmp 29,.tmp 31]) rfl ?_);at_builtin;refine Kd.S_append k84 (w0 := w) w.heap.size rfl (.tmp 29) (.tmp 31) 70 84 (.agg #[(.slice none 0 0)]) 24 rfl Try.underlying70 info84 rfl (by decide) (by omega) u5 x5_1 (⟨x291000_2⟩ : S84) [.slice Ao16 x291000_2.length co16] (fun k_ => k_ ≠ gb290) (fun k_ => some k_ = (.slice Ao16 x291000_2.length co16 : Value).ownBlock) rfl rfl ?aP (fun k_ hk_ => ((Kd.R_mono (ok' := fun k_ => ((fun k_ => k_ ≠ gb290)) k_ ∧ some k_ ≠ (u5 : Value).ownBlock) (Kd.R_types (Kd.R_apart' (HO_291000.out) (Kd.S_typed HO_5.out) (by decide)) BK290.out (by decide)) (fun k_ hk => ⟨hk.2,hk.1.2⟩))).1 k_ hk_.symm) ?aF ?aO ?aB ?aS ?aL ?_;(case aP => exact k84_mkM _ _ _ (⟨x291000_2⟩ : S84) (Kd.R_mono (Kd.R_tight rfl (Kd.R_mono (ok' := fun k_ => ((fun k_ => k_ ≠ gb290)) k_ ∧ some k_ ≠ (u5 : Value).ownBlock) (Kd.R_types (Kd.R_apart' (HO_291000.out) (Kd.S_typed HO_5.out) (by decide)) BK290.out (by decide)) (fun k_ hk => ⟨hk.2,hk.1.2⟩))) (fun _ h_ => h_)));(case aB => exact b_);(case aF => exact (fun k_ hk => Kd.freshB (kb_ BK290) k_ hk));(case aO => exact (by (with_reducible repeat (first|apply Kd.S_alloc|apply Kd.S_drewN|apply Kd.S_drew));exact Kd.S_mono HO_5.out (fun k_ hk => ⟨hk.2,fun e_ => hk.1 e_⟩)));(case aS => exact (below_size b_));(case aL => have := LMc13.out;omega);intro v295 w15 ho hb hg hat;rw [← Ny294.out] at ho;replace BK290 := Aside0.mk (blk_grown (kb_ BK290) hg (Kd.S_away HO_5.out (fun _ hk => hk.2)));replace HB := Aside0.mk (hb);have HO296 := Aside0.mk (ho);clear HO_5 HO_291000;clear ho hb hg hat))
        go_roundg k2
        case measure => have := HK1.out;have := HK2.out;omega
        case rel => exact ⟨(y294),(wrap64 (x10_1 + 1)),rs_,H',⟨by have := HK1.out;have := HK2.out;omega⟩,⟨by (with_reducible repeat (first|apply Kd.S_alloc|apply Kd.S_drewN|apply Kd.S_drew));exact Kd.S_mono HO296.out (fun _ hk => trivial)⟩,⟨b_⟩⟩
       ·rw [if_neg c13] at H
        exact absurd H (by simp)
   ·rw [if_neg c3] at H
    have c3b0 : decide (x10_1 < a0) = false := decide_eq_false c3
    clear c3
    obtain rfl := Option.some.inj H
    go_wp2
    go_ret
    exact ⟨_,rf_,by (with_reducible repeat (first|apply Kd.S_alloc|apply Kd.S_drewN|apply Kd.S_drew));exact HO_5.out,b_⟩

/-! ### impl_Spread: function 57 -/
def impl_Spread.f (k : Nat) (a0 : Int) (a1 : Int) : Option ((List (S84)) × Bool) := (impl_within.f a0 1 6).bind fun t297 => (if t297 = true then ((impl_within.f a1 1 8).bind fun t298 => (if t298 = true then ((impl_spread.f k a0 a1).bind fun t299 => (some (t299, true))) else (some (([] : List (S84)), false)))) else (some (([] : List (S84)), false)))

set_option maxHeartbeats 8000000 in
set_option maxRecDepth 100000 in
theorem impl_Spread.calls (k : Nat) (a0 : Int) (a1 : Int) (r1 : List (S84)) (r2 : Bool) (w : World) (h : impl_Spread.f k a0 a1 = some (r1, r2)) :
    Calls Try.prog 57 #[.int .i64 a0, .int .i64 a1] w fun e w' => ∃ v0_ : Value, e = .returned (.tuple #[v0_, .bool r2]) ∧ Kd.S k84 84 w' w.heap.size (fun _ => True) v0_ r1 ∧ Below w.heap.size w w' := by
 have HB := Aside0.mk (Below.refl w.heap.size w)
 have H : ((impl_within.f a0 1 6).bind fun t297 => (if t297 = true then ((impl_within.f a1 1 8).bind fun t298 => (if t298 = true then ((impl_spread.f k a0 a1).bind fun t299 => (some (t299,true))) else (some (([] : List (S84)),false)))) else (some (([] : List (S84)),false)))) = some (r1,r2) := h
 clear h
 replace H := bs_ H
 obtain ⟨t297,A3,H⟩ := H
 by_cases c4 : t297 = true
 ·subst c4
  replace H := it_ H
  replace H := bs_ H
  obtain ⟨t298,A5,H⟩ := H
  by_cases c6 : t298 = true
  ·subst c6
   replace H := it_ H
   replace H := bs_ H
   obtain ⟨t299,A7,H⟩ := H
   simp only [Option.some.injEq,Prod.mk.injEq] at H
   obtain ⟨rfl,rfl⟩ := H
   go_enter Try.func57,Try.ntmps57
   go_wp2_with (first|((with_reducible refine gcal_ (f := 100) rfl ?_);refine gl_ (some 7) Try.func100 #[.int .i64 a0,.int .i64 1,.int .i64 6] ?_;(with_reducible refine (impl_within.calls a0 1 6 true _ A3.out).mono ?_);rintro e w' ⟨rfl,⟨nd,rfl⟩⟩;refine ⟨_,rfl,?_⟩)|(go_at_call 100;(with_reducible refine (impl_within.calls a1 1 8 true _ A5.out).mono ?_);rintro e w' ⟨rfl,⟨nd,rfl⟩⟩)|((with_reducible refine gcal_ (f := 101) rfl ?_);refine gl_ (some 16) Try.func101 #[.int .i64 a0,.int .i64 a1] ?_;(with_reducible refine (impl_spread.calls k a0 a1 t299 _ A7.out).mono ?_);rintro e w8 ⟨v300,rfl,ho0,hb⟩;refine ⟨_,rfl,?_⟩;have HO301 := Aside0.mk (Kd.S_lower ho0 (below_size b_));replace HB := Aside0.mk (below_step b_ hb);(try clear hb);(try clear hb2);(try clear hk);(try clear hi);(try clear ho0)))
   go_ret2
   exact ⟨_,rf_,by (with_reducible repeat (first|apply Kd.S_alloc|apply Kd.S_drewN|apply Kd.S_drew));exact HO301.out,b_⟩
  ·replace c6 := Bool.eq_false_iff.mpr c6
   subst c6
   replace H := ie_ H
   simp only [Option.some.injEq,Prod.mk.injEq] at H
   obtain ⟨rfl,rfl⟩ := H
   go_enter Try.func57,Try.ntmps57
   go_wp2_with (first|((with_reducible refine gcal_ (f := 100) rfl ?_);refine gl_ (some 7) Try.func100 #[.int .i64 a0,.int .i64 1,.int .i64 6] ?_;(with_reducible refine (impl_within.calls a0 1 6 true _ A3.out).mono ?_);rintro e w' ⟨rfl,⟨nd,rfl⟩⟩;refine ⟨_,rfl,?_⟩)|(go_at_call 100;(with_reducible refine (impl_within.calls a1 1 8 false _ A5.out).mono ?_);rintro e w' ⟨rfl,⟨nd,rfl⟩⟩))
   go_ret2
   exact ⟨_,rf_,by first|exact Kd.S_nil _ _ _ _ _|exact Kd.N_nil _ _ _ _ _|exact Kd.V_nil _ _ _ _ _|exact Kd.Q_nil _ _ _ _ _|exact Kd.R_nil _ _ _ _ _,b_⟩
 ·replace c4 := Bool.eq_false_iff.mpr c4
  subst c4
  replace H := ie_ H
  simp only [Option.some.injEq,Prod.mk.injEq] at H
  obtain ⟨rfl,rfl⟩ := H
  go_enter Try.func57,Try.ntmps57
  go_wp2_with (first|((with_reducible refine gcal_ (f := 100) rfl ?_);refine gl_ (some 7) Try.func100 #[.int .i64 a0,.int .i64 1,.int .i64 6] ?_;(with_reducible refine (impl_within.calls a0 1 6 false _ A3.out).mono ?_);rintro e w' ⟨rfl,⟨nd,rfl⟩⟩;refine ⟨_,rfl,?_⟩))
  go_ret2
  exact ⟨_,rf_,by first|exact Kd.S_nil _ _ _ _ _|exact Kd.N_nil _ _ _ _ _|exact Kd.V_nil _ _ _ _ _|exact Kd.Q_nil _ _ _ _ _|exact Kd.R_nil _ _ _ _ _,b_⟩

end Go.Proofs.Ytgdfbjmjgegicaa.XPs
