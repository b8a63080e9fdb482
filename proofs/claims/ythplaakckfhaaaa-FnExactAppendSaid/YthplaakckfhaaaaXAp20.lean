/- Proved: of each Go function here that a call comes to what the Lean function of its name tells. Written by a program of this session over the translation. No conditions beyond each theorem's own. -/
import Derived.Test.YthplaakckfhaaaaXAp0
import Derived.Test.YthplaakckfhaaaaXAp19
namespace Go.Proofs.Ythplaakckfhaaaa.XAp
open Go.RowKit Go.Proofs.Ythplaakckfhaaaa.Aid Go.Proofs.YthplaakckfhaaaaW.PrintWords Go.Proofs.YthplaakckfhaaaaW.PrintLast Go.Proofs.YthplaakckfhaaaaW.PrintMore
set_option linter.unusedVariables false
set_option linter.unusedSimpArgs false

/-! ### laws_heldSetS: function 71 -/
def laws_heldSetS.l0 : Nat → List (S127) → Int → Int → Option (Int)
  | 0, _, _, _ => none
  | k + 1, x0, x1, x5 => if x5 < (x0.length : Int) then (if 0 ≤ x5 then (if ((rd_T127 x0 x5).f0) = x1 then (if ((rd_T127 x0 x5).f1) = (wrap64 (x1 + 1)) then (if ((rd_T127 x0 x5).f2) = (wrap64 ((wrap64 (x1 + 1)) + 1)) then (if (((rd_T127 x0 x5).f3) != ((Int.tmod (wrap64 ((wrap64 ((wrap64 (x1 + 1)) + 1)) + 1)) 3) == 0)) = true then (some (-1)) else (if ((rd_T127 x0 x5).f4) = (wrap64 ((wrap64 ((wrap64 ((wrap64 (x1 + 1)) + 1)) + 1)) + 1)) then (laws_heldSetS.l0 k x0 (wrap64 ((wrap64 ((wrap64 ((wrap64 ((wrap64 (x1 + 1)) + 1)) + 1)) + 1)) + 1)) (wrap64 (x5 + 1))) else (some (-1)))) else (some (-1))) else (some (-1))) else (some (-1))) else (none)) else (some x1)
def laws_heldSetS.f (k : Nat) (l0 : List (S127)) (a1 : Int) : Option (Int) := laws_heldSetS.l0 k l0 a1 0

set_option maxHeartbeats 8000000 in
set_option maxRecDepth 100000 in
theorem laws_heldSetS.calls (k : Nat) (A0 : Option Addr) (c0 : Nat) (l0 : List (S127)) (a1 : Int) (r : Int) (w : World) (hr0 : Kd.C k127 w A0 l0.length l0) (hc0 : l0.length ≤ c0) (h : laws_heldSetS.f k l0 a1 = some r) :
    Calls Try.prog 71 #[.slice A0 l0.length c0, .int .i64 a1] w fun e w' => e = .returned (.int .i64 r) ∧ Drawn0 w w' := by
 have HR0 := Aside0.mk hr0
 have HC0 := Aside0.mk hc0
 clear hr0 hc0
 have H : (laws_heldSetS.l0 k l0 a1 0) = some r := h
 clear h
 have H' := Aside0.mk H
 clear H
 go_enter Try.func71,Try.ntmps71
 go_wp2
 go_loopg [1,5] k (fun kq v1 v5 w' => ∃ (x1_1 : Int) (x5_1 : Int),v1 = .int .i64 x1_1 ∧ v5 = .int .i64 x5_1 ∧ Aside0 (laws_heldSetS.l0 kq l0 x1_1 x5_1 = some r) ∧ Aside0 (kq ≤ k) ∧ Drawn0 w w')
 case atStart => exact ⟨(a1),(0),rs_,rs_,H',⟨Nat.le_refl _⟩,by repeat (first|exact Drawn0.refl _|apply Drawn0.step)⟩
 case round =>
  clear H'
  try clear p2
  obtain ⟨x1_1,x5_1,rfl,rfl,HA,HK1,⟨m1,rfl⟩⟩ := hrel
  cases gk with
    | zero => exact absurd HA.out (by simp [laws_heldSetS.l0])
    | succ k1 =>
   have H := HA.out
   clear HA
   simp only [laws_heldSetS.l0] at H
   by_cases c3 : x5_1 < (l0.length : Int)
   ·rw [if_pos c3] at H
    have c3b0 : decide (x5_1 < (l0.length : Int)) = true := decide_eq_true c3
    clear c3
    by_cases c4 : 0 ≤ x5_1
    ·rw [if_pos c4] at H
     have c4b0 : decide (0 ≤ x5_1) = true := decide_eq_true c4
     clear c4
     by_cases c5 : ((rd_T127 l0 x5_1).f0) = x1_1
     ·rw [if_pos c5] at H
      have c5b0 : (((rd_T127 l0 x5_1).f0) == x1_1) = true := beq_iff_eq.mpr c5
      have c5b1 : (((rd_T127 l0 x5_1).f0) != x1_1) = false := bne_eq_false_iff_eq.mpr c5
      clear c5
      by_cases c6 : ((rd_T127 l0 x5_1).f1) = (wrap64 (x1_1 + 1))
      ·rw [if_pos c6] at H
       have c6b0 : (((rd_T127 l0 x5_1).f1) == (wrap64 (x1_1 + 1))) = true := beq_iff_eq.mpr c6
       have c6b1 : (((rd_T127 l0 x5_1).f1) != (wrap64 (x1_1 + 1))) = false := bne_eq_false_iff_eq.mpr c6
       clear c6
       by_cases c7 : ((rd_T127 l0 x5_1).f2) = (wrap64 ((wrap64 (x1_1 + 1)) + 1))
       ·rw [if_pos c7] at H
        have c7b0 : (((rd_T127 l0 x5_1).f2) == (wrap64 ((wrap64 (x1_1 + 1)) + 1))) = true := beq_iff_eq.mpr c7
        have c7b1 : (((rd_T127 l0 x5_1).f2) != (wrap64 ((wrap64 (x1_1 + 1)) + 1))) = false := bne_eq_false_iff_eq.mpr c7
        clear c7
        by_cases c8 : (((rd_T127 l0 x5_1).f3) != ((Int.tmod (wrap64 ((wrap64 ((wrap64 (x1_1 + 1)) + 1)) + 1)) 3) == 0)) = true
        ·rw [if_pos c8] at H
         have c8b0 : (((rd_T127 l0 x5_1).f3) != ((Int.tmod (wrap64 ((wrap64 ((wrap64 (x1_1 + 1)) + 1)) + 1)) 3) == 0)) = true := c8
         (try (have c8b1 : decide (((rd_T127 l0 x5_1).f3) = ((Int.tmod (wrap64 ((wrap64 ((wrap64 (x1_1 + 1)) + 1)) + 1)) 3) == 0)) = false := by simpa using c8))
         (try (have c8b2 : (((rd_T127 l0 x5_1).f3) == ((Int.tmod (wrap64 ((wrap64 ((wrap64 (x1_1 + 1)) + 1)) + 1)) 3) == 0)) = false := by simpa using c8))
         (try (have c8b3 : ¬ (((rd_T127 l0 x5_1).f3) = ((Int.tmod (wrap64 ((wrap64 ((wrap64 (x1_1 + 1)) + 1)) + 1)) 3) == 0)) := by simpa using c8))
         clear c8
         obtain rfl := Option.some.inj H
         have p400 : 0 ≤ (x5_1 : Int) := od_
         have q400 : x5_1 < (l0.length : Int) := od_
         obtain ⟨ad400,e400,hx400_0,hx400_1,hx400_2,hx400_3,hx400_4⟩ := at_T127 HR0.out x5_1 p400 q400
         cases e400
         replace p400 := eq_true p400
         replace q400 := eq_true q400
         have p401 : 0 ≤ (x5_1 : Int) := od_
         have q401 : x5_1 < (l0.length : Int) := od_
         obtain ⟨ad401,e401,hx401_0,hx401_1,hx401_2,hx401_3,hx401_4⟩ := at_T127 HR0.out x5_1 p401 q401
         obtain rfl : ad400 = ad401 := (by injection e401)
         replace p401 := eq_true p401
         replace q401 := eq_true q401
         have p402 : 0 ≤ (x5_1 : Int) := od_
         have q402 : x5_1 < (l0.length : Int) := od_
         obtain ⟨ad402,e402,hx402_0,hx402_1,hx402_2,hx402_3,hx402_4⟩ := at_T127 HR0.out x5_1 p402 q402
         obtain rfl : ad400 = ad402 := (by injection e402)
         replace p402 := eq_true p402
         replace q402 := eq_true q402
         have p403 : 0 ≤ (x5_1 : Int) := od_
         have q403 : x5_1 < (l0.length : Int) := od_
         obtain ⟨ad403,e403,hx403_0,hx403_1,hx403_2,hx403_3,hx403_4⟩ := at_T127 HR0.out x5_1 p403 q403
         obtain rfl : ad400 = ad403 := (by injection e403)
         replace p403 := eq_true p403
         replace q403 := eq_true q403
         go_wp2
         go_ret
         exact ⟨rs_,by repeat (first|exact Drawn0.refl _|apply Drawn0.step)⟩
        ·rw [if_neg c8] at H
         have c8b0 : (((rd_T127 l0 x5_1).f3) != ((Int.tmod (wrap64 ((wrap64 ((wrap64 (x1_1 + 1)) + 1)) + 1)) 3) == 0)) = false := by simpa using c8
         (try (have c8b1 : decide (((rd_T127 l0 x5_1).f3) = ((Int.tmod (wrap64 ((wrap64 ((wrap64 (x1_1 + 1)) + 1)) + 1)) 3) == 0)) = true := by simpa using c8))
         (try (have c8b2 : (((rd_T127 l0 x5_1).f3) == ((Int.tmod (wrap64 ((wrap64 ((wrap64 (x1_1 + 1)) + 1)) + 1)) 3) == 0)) = true := by simpa using c8))
         clear c8
         by_cases c9 : ((rd_T127 l0 x5_1).f4) = (wrap64 ((wrap64 ((wrap64 ((wrap64 (x1_1 + 1)) + 1)) + 1)) + 1))
         ·rw [if_pos c9] at H
          have c9b0 : (((rd_T127 l0 x5_1).f4) == (wrap64 ((wrap64 ((wrap64 ((wrap64 (x1_1 + 1)) + 1)) + 1)) + 1))) = true := beq_iff_eq.mpr c9
          have c9b1 : (((rd_T127 l0 x5_1).f4) != (wrap64 ((wrap64 ((wrap64 ((wrap64 (x1_1 + 1)) + 1)) + 1)) + 1))) = false := bne_eq_false_iff_eq.mpr c9
          clear c9
          have H' := Aside0.mk H
          clear H
          have p400 : 0 ≤ (x5_1 : Int) := od_
          have q400 : x5_1 < (l0.length : Int) := od_
          obtain ⟨ad400,e400,hx400_0,hx400_1,hx400_2,hx400_3,hx400_4⟩ := at_T127 HR0.out x5_1 p400 q400
          cases e400
          replace p400 := eq_true p400
          replace q400 := eq_true q400
          have p401 : 0 ≤ (x5_1 : Int) := od_
          have q401 : x5_1 < (l0.length : Int) := od_
          obtain ⟨ad401,e401,hx401_0,hx401_1,hx401_2,hx401_3,hx401_4⟩ := at_T127 HR0.out x5_1 p401 q401
          obtain rfl : ad400 = ad401 := (by injection e401)
          replace p401 := eq_true p401
          replace q401 := eq_true q401
          have p402 : 0 ≤ (x5_1 : Int) := od_
          have q402 : x5_1 < (l0.length : Int) := od_
          obtain ⟨ad402,e402,hx402_0,hx402_1,hx402_2,hx402_3,hx402_4⟩ := at_T127 HR0.out x5_1 p402 q402
          obtain rfl : ad400 = ad402 := (by injection e402)
          replace p402 := eq_true p402
          replace q402 := eq_true q402
          have p403 : 0 ≤ (x5_1 : Int) := od_
          have q403 : x5_1 < (l0.length : Int) := od_
          obtain ⟨ad403,e403,hx403_0,hx403_1,hx403_2,hx403_3,hx403_4⟩ := at_T127 HR0.out x5_1 p403 q403
          obtain rfl : ad400 = ad403 := (by injection e403)
          replace p403 := eq_true p403
          replace q403 := eq_true q403
          have p404 : 0 ≤ (x5_1 : Int) := od_
          have q404 : x5_1 < (l0.length : Int) := od_
          obtain ⟨ad404,e404,hx404_0,hx404_1,hx404_2,hx404_3,hx404_4⟩ := at_T127 HR0.out x5_1 p404 q404
          obtain rfl : ad400 = ad404 := (by injection e404)
          replace p404 := eq_true p404
          replace q404 := eq_true q404
          go_wp2
          go_roundg k1
          case measure => have := HK1.out;omega
          case rel => exact ⟨(wrap64 ((wrap64 ((wrap64 ((wrap64 ((wrap64 (x1_1 + 1)) + 1)) + 1)) + 1)) + 1)),(wrap64 (x5_1 + 1)),rs_,rs_,H',⟨by have := HK1.out;omega⟩,by repeat (first|exact Drawn0.refl _|apply Drawn0.step)⟩
         ·rw [if_neg c9] at H
          have c9b0 : (((rd_T127 l0 x5_1).f4) == (wrap64 ((wrap64 ((wrap64 ((wrap64 (x1_1 + 1)) + 1)) + 1)) + 1))) = false := beq_eq_false_iff_ne.mpr c9
          have c9b1 : (((rd_T127 l0 x5_1).f4) != (wrap64 ((wrap64 ((wrap64 ((wrap64 (x1_1 + 1)) + 1)) + 1)) + 1))) = true := bne_iff_ne.mpr c9
          obtain rfl := Option.some.inj H
          have p400 : 0 ≤ (x5_1 : Int) := od_
          have q400 : x5_1 < (l0.length : Int) := od_
          obtain ⟨ad400,e400,hx400_0,hx400_1,hx400_2,hx400_3,hx400_4⟩ := at_T127 HR0.out x5_1 p400 q400
          cases e400
          replace p400 := eq_true p400
          replace q400 := eq_true q400
          have p401 : 0 ≤ (x5_1 : Int) := od_
          have q401 : x5_1 < (l0.length : Int) := od_
          obtain ⟨ad401,e401,hx401_0,hx401_1,hx401_2,hx401_3,hx401_4⟩ := at_T127 HR0.out x5_1 p401 q401
          obtain rfl : ad400 = ad401 := (by injection e401)
          replace p401 := eq_true p401
          replace q401 := eq_true q401
          have p402 : 0 ≤ (x5_1 : Int) := od_
          have q402 : x5_1 < (l0.length : Int) := od_
          obtain ⟨ad402,e402,hx402_0,hx402_1,hx402_2,hx402_3,hx402_4⟩ := at_T127 HR0.out x5_1 p402 q402
          obtain rfl : ad400 = ad402 := (by injection e402)
          replace p402 := eq_true p402
          replace q402 := eq_true q402
          have p403 : 0 ≤ (x5_1 : Int) := od_
          have q403 : x5_1 < (l0.length : Int) := od_
          obtain ⟨ad403,e403,hx403_0,hx403_1,hx403_2,hx403_3,hx403_4⟩ := at_T127 HR0.out x5_1 p403 q403
          obtain rfl : ad400 = ad403 := (by injection e403)
          replace p403 := eq_true p403
          replace q403 := eq_true q403
          have p404 : 0 ≤ (x5_1 : Int) := od_
          have q404 : x5_1 < (l0.length : Int) := od_
          obtain ⟨ad404,e404,hx404_0,hx404_1,hx404_2,hx404_3,hx404_4⟩ := at_T127 HR0.out x5_1 p404 q404
          obtain rfl : ad400 = ad404 := (by injection e404)
          replace p404 := eq_true p404
          replace q404 := eq_true q404
          go_wp2
          go_ret
          exact ⟨rs_,by repeat (first|exact Drawn0.refl _|apply Drawn0.step)⟩
       ·rw [if_neg c7] at H
        have c7b0 : (((rd_T127 l0 x5_1).f2) == (wrap64 ((wrap64 (x1_1 + 1)) + 1))) = false := beq_eq_false_iff_ne.mpr c7
        have c7b1 : (((rd_T127 l0 x5_1).f2) != (wrap64 ((wrap64 (x1_1 + 1)) + 1))) = true := bne_iff_ne.mpr c7
        obtain rfl := Option.some.inj H
        have p400 : 0 ≤ (x5_1 : Int) := od_
        have q400 : x5_1 < (l0.length : Int) := od_
        obtain ⟨ad400,e400,hx400_0,hx400_1,hx400_2,hx400_3,hx400_4⟩ := at_T127 HR0.out x5_1 p400 q400
        cases e400
        replace p400 := eq_true p400
        replace q400 := eq_true q400
        have p401 : 0 ≤ (x5_1 : Int) := od_
        have q401 : x5_1 < (l0.length : Int) := od_
        obtain ⟨ad401,e401,hx401_0,hx401_1,hx401_2,hx401_3,hx401_4⟩ := at_T127 HR0.out x5_1 p401 q401
        obtain rfl : ad400 = ad401 := (by injection e401)
        replace p401 := eq_true p401
        replace q401 := eq_true q401
        have p402 : 0 ≤ (x5_1 : Int) := od_
        have q402 : x5_1 < (l0.length : Int) := od_
        obtain ⟨ad402,e402,hx402_0,hx402_1,hx402_2,hx402_3,hx402_4⟩ := at_T127 HR0.out x5_1 p402 q402
        obtain rfl : ad400 = ad402 := (by injection e402)
        replace p402 := eq_true p402
        replace q402 := eq_true q402
        go_wp2
        go_ret
        exact ⟨rs_,by repeat (first|exact Drawn0.refl _|apply Drawn0.step)⟩
      ·rw [if_neg c6] at H
       have c6b0 : (((rd_T127 l0 x5_1).f1) == (wrap64 (x1_1 + 1))) = false := beq_eq_false_iff_ne.mpr c6
       have c6b1 : (((rd_T127 l0 x5_1).f1) != (wrap64 (x1_1 + 1))) = true := bne_iff_ne.mpr c6
       obtain rfl := Option.some.inj H
       have p400 : 0 ≤ (x5_1 : Int) := od_
       have q400 : x5_1 < (l0.length : Int) := od_
       obtain ⟨ad400,e400,hx400_0,hx400_1,hx400_2,hx400_3,hx400_4⟩ := at_T127 HR0.out x5_1 p400 q400
       cases e400
       replace p400 := eq_true p400
       replace q400 := eq_true q400
       have p401 : 0 ≤ (x5_1 : Int) := od_
       have q401 : x5_1 < (l0.length : Int) := od_
       obtain ⟨ad401,e401,hx401_0,hx401_1,hx401_2,hx401_3,hx401_4⟩ := at_T127 HR0.out x5_1 p401 q401
       obtain rfl : ad400 = ad401 := (by injection e401)
       replace p401 := eq_true p401
       replace q401 := eq_true q401
       go_wp2
       go_ret
       exact ⟨rs_,by repeat (first|exact Drawn0.refl _|apply Drawn0.step)⟩
     ·rw [if_neg c5] at H
      have c5b0 : (((rd_T127 l0 x5_1).f0) == x1_1) = false := beq_eq_false_iff_ne.mpr c5
      have c5b1 : (((rd_T127 l0 x5_1).f0) != x1_1) = true := bne_iff_ne.mpr c5
      obtain rfl := Option.some.inj H
      have p400 : 0 ≤ (x5_1 : Int) := od_
      have q400 : x5_1 < (l0.length : Int) := od_
      obtain ⟨ad400,e400,hx400_0,hx400_1,hx400_2,hx400_3,hx400_4⟩ := at_T127 HR0.out x5_1 p400 q400
      cases e400
      replace p400 := eq_true p400
      replace q400 := eq_true q400
      go_wp2
      go_ret
      exact ⟨rs_,by repeat (first|exact Drawn0.refl _|apply Drawn0.step)⟩
    ·rw [if_neg c4] at H
     exact absurd H (by simp)
   ·rw [if_neg c3] at H
    have c3b0 : decide (x5_1 < (l0.length : Int)) = false := decide_eq_false c3
    clear c3
    obtain rfl := Option.some.inj H
    go_wp2
    go_ret
    exact ⟨rs_,by repeat (first|exact Drawn0.refl _|apply Drawn0.step)⟩

/-! ### laws_heldRecordS: function 79 -/
def laws_heldRecordS.l0 : Nat → List (S45) → Int → Int → Option (Int)
  | 0, _, _, _ => none
  | k + 1, x0, x1, x5 => if x5 < (x0.length : Int) then (if 0 ≤ x5 then (if ((rd_T45 x0 x5).f0) = x1 then (if ((rd_T45 x0 x5).f1) = (wrap64 (x1 + 1)) then (if ((rd_T45 x0 x5).f2) = (wrap64 ((wrap64 (x1 + 1)) + 1)) then ((laws_heldSetS.f k ((rd_T45 x0 x5).f3) (wrap64 ((wrap64 ((wrap64 (x1 + 1)) + 1)) + 1))).bind fun t409 => (if t409 < 0 then (some (-1)) else (laws_heldRecordS.l0 k x0 t409 (wrap64 (x5 + 1))))) else (some (-1))) else (some (-1))) else (some (-1))) else (none)) else (some x1)
def laws_heldRecordS.f (k : Nat) (l0 : List (S45)) (a1 : Int) : Option (Int) := laws_heldRecordS.l0 k l0 a1 0

set_option maxHeartbeats 8000000 in
set_option maxRecDepth 100000 in
theorem laws_heldRecordS.calls (k : Nat) (A0 : Option Addr) (c0 : Nat) (l0 : List (S45)) (a1 : Int) (r : Int) (w : World) (hr0 : Kd.C k45 w A0 l0.length l0) (hc0 : l0.length ≤ c0) (h : laws_heldRecordS.f k l0 a1 = some r) :
    Calls Try.prog 79 #[.slice A0 l0.length c0, .int .i64 a1] w fun e w' => e = .returned (.int .i64 r) ∧ Drawn0 w w' := by
 have HR0 := Aside0.mk hr0
 have HC0 := Aside0.mk hc0
 clear hr0 hc0
 have H : (laws_heldRecordS.l0 k l0 a1 0) = some r := h
 clear h
 have H' := Aside0.mk H
 clear H
 go_enter Try.func79,Try.ntmps79
 go_wp2
 go_loopg [1,5] k (fun kq v1 v5 w' => ∃ (x1_1 : Int) (x5_1 : Int),v1 = .int .i64 x1_1 ∧ v5 = .int .i64 x5_1 ∧ Aside0 (laws_heldRecordS.l0 kq l0 x1_1 x5_1 = some r) ∧ Aside0 (kq ≤ k) ∧ Drawn0 w w')
 case atStart => exact ⟨(a1),(0),rs_,rs_,H',⟨Nat.le_refl _⟩,by repeat (first|exact Drawn0.refl _|apply Drawn0.step)⟩
 case round =>
  clear H'
  try clear p2
  obtain ⟨x1_1,x5_1,rfl,rfl,HA,HK1,⟨m1,rfl⟩⟩ := hrel
  cases gk with
    | zero => exact absurd HA.out (by simp [laws_heldRecordS.l0])
    | succ k1 =>
   have H := HA.out
   clear HA
   simp only [laws_heldRecordS.l0] at H
   by_cases c3 : x5_1 < (l0.length : Int)
   ·rw [if_pos c3] at H
    have c3b0 : decide (x5_1 < (l0.length : Int)) = true := decide_eq_true c3
    clear c3
    by_cases c4 : 0 ≤ x5_1
    ·rw [if_pos c4] at H
     have c4b0 : decide (0 ≤ x5_1) = true := decide_eq_true c4
     clear c4
     by_cases c5 : ((rd_T45 l0 x5_1).f0) = x1_1
     ·rw [if_pos c5] at H
      have c5b0 : (((rd_T45 l0 x5_1).f0) == x1_1) = true := beq_iff_eq.mpr c5
      have c5b1 : (((rd_T45 l0 x5_1).f0) != x1_1) = false := bne_eq_false_iff_eq.mpr c5
      clear c5
      by_cases c6 : ((rd_T45 l0 x5_1).f1) = (wrap64 (x1_1 + 1))
      ·rw [if_pos c6] at H
       have c6b0 : (((rd_T45 l0 x5_1).f1) == (wrap64 (x1_1 + 1))) = true := beq_iff_eq.mpr c6
       have c6b1 : (((rd_T45 l0 x5_1).f1) != (wrap64 (x1_1 + 1))) = false := bne_eq_false_iff_eq.mpr c6
       clear c6
       by_cases c7 : ((rd_T45 l0 x5_1).f2) = (wrap64 ((wrap64 (x1_1 + 1)) + 1))
       ·rw [if_pos c7] at H
        have c7b0 : (((rd_T45 l0 x5_1).f2) == (wrap64 ((wrap64 (x1_1 + 1)) + 1))) = true := beq_iff_eq.mpr c7
        have c7b1 : (((rd_T45 l0 x5_1).f2) != (wrap64 ((wrap64 (x1_1 + 1)) + 1))) = false := bne_eq_false_iff_eq.mpr c7
        clear c7
        replace H := bs_ H
        obtain ⟨t409,A8,H⟩ := H
        by_cases c9 : t409 < 0
        ·rw [if_pos c9] at H
         have c9b0 : decide (t409 < 0) = true := decide_eq_true c9
         clear c9
         obtain rfl := Option.some.inj H
         have p405 : 0 ≤ (x5_1 : Int) := od_
         have q405 : x5_1 < (l0.length : Int) := od_
         obtain ⟨ad405,A405_3,c405_3,e405,hx405_0,hx405_1,hx405_2,hx405_3,hl405_3,hi405_3⟩ := at_T45 HR0.out x5_1 p405 q405
         cases e405
         have HR405_3 := Aside0.mk hi405_3
         have HC405_3 := Aside0.mk hl405_3
         clear hi405_3 hl405_3
         replace p405 := eq_true p405
         replace q405 := eq_true q405
         have p406 : 0 ≤ (x5_1 : Int) := od_
         have q406 : x5_1 < (l0.length : Int) := od_
         obtain ⟨ad406,A406_3,c406_3,e406,hx406_0,hx406_1,hx406_2,hx406_3,hl406_3,hi406_3⟩ := at_T45 HR0.out x5_1 p406 q406
         obtain rfl : ad405 = ad406 := (by injection e406)
         have HR406_3 := Aside0.mk hi406_3
         have HC406_3 := Aside0.mk hl406_3
         clear hi406_3 hl406_3
         replace p406 := eq_true p406
         replace q406 := eq_true q406
         have ea_ := Option.some.inj (hx405_3.symm.trans hx406_3)
         injection ea_ with ea_ en_ ec_
         subst ea_
         subst ec_
         clear en_
         have p407 : 0 ≤ (x5_1 : Int) := od_
         have q407 : x5_1 < (l0.length : Int) := od_
         obtain ⟨ad407,A407_3,c407_3,e407,hx407_0,hx407_1,hx407_2,hx407_3,hl407_3,hi407_3⟩ := at_T45 HR0.out x5_1 p407 q407
         obtain rfl : ad405 = ad407 := (by injection e407)
         have HR407_3 := Aside0.mk hi407_3
         have HC407_3 := Aside0.mk hl407_3
         clear hi407_3 hl407_3
         replace p407 := eq_true p407
         replace q407 := eq_true q407
         have ea_ := Option.some.inj (hx405_3.symm.trans hx407_3)
         injection ea_ with ea_ en_ ec_
         subst ea_
         subst ec_
         clear en_
         have p408 : 0 ≤ (x5_1 : Int) := od_
         have q408 : x5_1 < (l0.length : Int) := od_
         obtain ⟨ad408,A408_3,c408_3,e408,hx408_0,hx408_1,hx408_2,hx408_3,hl408_3,hi408_3⟩ := at_T45 HR0.out x5_1 p408 q408
         obtain rfl : ad405 = ad408 := (by injection e408)
         have HR408_3 := Aside0.mk hi408_3
         have HC408_3 := Aside0.mk hl408_3
         clear hi408_3 hl408_3
         replace p408 := eq_true p408
         replace q408 := eq_true q408
         have ea_ := Option.some.inj (hx405_3.symm.trans hx408_3)
         injection ea_ with ea_ en_ ec_
         subst ea_
         subst ec_
         clear en_
         go_wp2_with (first|((with_reducible refine gcal_ (f := 71) rfl ?_);refine gl_ (some 45) Try.func71 #[.slice A405_3 ((rd_T45 l0 x5_1).f3).length c405_3,.int .i64 (wrap64 ((wrap64 ((wrap64 (x1_1 + 1)) + 1)) + 1))] ?_;(with_reducible refine (laws_heldSetS.calls k1 _ _ ((rd_T45 l0 x5_1).f3) (wrap64 ((wrap64 ((wrap64 (x1_1 + 1)) + 1)) + 1)) t409 _ ?side1 ?side2 A8.out).mono ?_);(case side1 => repeat (first|exact HR408_3.out|(with_reducible refine Kd.C_alloc ?_ _)|(with_reducible refine Kd.C_drewN ?_ _)|(with_reducible refine Kd.C_drew ?_)));(case side2 => exact HC408_3.out);rintro e w' ⟨rfl,⟨nd,rfl⟩⟩;refine ⟨_,rfl,?_⟩))
         go_ret
         exact ⟨rs_,by repeat (first|exact Drawn0.refl _|apply Drawn0.step)⟩
        ·rw [if_neg c9] at H
         have c9b0 : decide (t409 < 0) = false := decide_eq_false c9
         clear c9
         have H' := Aside0.mk H
         clear H
         have p405 : 0 ≤ (x5_1 : Int) := od_
         have q405 : x5_1 < (l0.length : Int) := od_
         obtain ⟨ad405,A405_3,c405_3,e405,hx405_0,hx405_1,hx405_2,hx405_3,hl405_3,hi405_3⟩ := at_T45 HR0.out x5_1 p405 q405
         cases e405
         have HR405_3 := Aside0.mk hi405_3
         have HC405_3 := Aside0.mk hl405_3
         clear hi405_3 hl405_3
         replace p405 := eq_true p405
         replace q405 := eq_true q405
         have p406 : 0 ≤ (x5_1 : Int) := od_
         have q406 : x5_1 < (l0.length : Int) := od_
         obtain ⟨ad406,A406_3,c406_3,e406,hx406_0,hx406_1,hx406_2,hx406_3,hl406_3,hi406_3⟩ := at_T45 HR0.out x5_1 p406 q406
         obtain rfl : ad405 = ad406 := (by injection e406)
         have HR406_3 := Aside0.mk hi406_3
         have HC406_3 := Aside0.mk hl406_3
         clear hi406_3 hl406_3
         replace p406 := eq_true p406
         replace q406 := eq_true q406
         have ea_ := Option.some.inj (hx405_3.symm.trans hx406_3)
         injection ea_ with ea_ en_ ec_
         subst ea_
         subst ec_
         clear en_
         have p407 : 0 ≤ (x5_1 : Int) := od_
         have q407 : x5_1 < (l0.length : Int) := od_
         obtain ⟨ad407,A407_3,c407_3,e407,hx407_0,hx407_1,hx407_2,hx407_3,hl407_3,hi407_3⟩ := at_T45 HR0.out x5_1 p407 q407
         obtain rfl : ad405 = ad407 := (by injection e407)
         have HR407_3 := Aside0.mk hi407_3
         have HC407_3 := Aside0.mk hl407_3
         clear hi407_3 hl407_3
         replace p407 := eq_true p407
         replace q407 := eq_true q407
         have ea_ := Option.some.inj (hx405_3.symm.trans hx407_3)
         injection ea_ with ea_ en_ ec_
         subst ea_
         subst ec_
         clear en_
         have p408 : 0 ≤ (x5_1 : Int) := od_
         have q408 : x5_1 < (l0.length : Int) := od_
         obtain ⟨ad408,A408_3,c408_3,e408,hx408_0,hx408_1,hx408_2,hx408_3,hl408_3,hi408_3⟩ := at_T45 HR0.out x5_1 p408 q408
         obtain rfl : ad405 = ad408 := (by injection e408)
         have HR408_3 := Aside0.mk hi408_3
         have HC408_3 := Aside0.mk hl408_3
         clear hi408_3 hl408_3
         replace p408 := eq_true p408
         replace q408 := eq_true q408
         have ea_ := Option.some.inj (hx405_3.symm.trans hx408_3)
         injection ea_ with ea_ en_ ec_
         subst ea_
         subst ec_
         clear en_
         go_wp2_with (first|((with_reducible refine gcal_ (f := 71) rfl ?_);refine gl_ (some 45) Try.func71 #[.slice A405_3 ((rd_T45 l0 x5_1).f3).length c405_3,.int .i64 (wrap64 ((wrap64 ((wrap64 (x1_1 + 1)) + 1)) + 1))] ?_;(with_reducible refine (laws_heldSetS.calls k1 _ _ ((rd_T45 l0 x5_1).f3) (wrap64 ((wrap64 ((wrap64 (x1_1 + 1)) + 1)) + 1)) t409 _ ?side1 ?side2 A8.out).mono ?_);(case side1 => repeat (first|exact HR408_3.out|(with_reducible refine Kd.C_alloc ?_ _)|(with_reducible refine Kd.C_drewN ?_ _)|(with_reducible refine Kd.C_drew ?_)));(case side2 => exact HC408_3.out);rintro e w' ⟨rfl,⟨nd,rfl⟩⟩;refine ⟨_,rfl,?_⟩))
         go_roundg k1
         case measure => have := HK1.out;omega
         case rel => exact ⟨(t409),(wrap64 (x5_1 + 1)),rs_,rs_,H',⟨by have := HK1.out;omega⟩,by repeat (first|exact Drawn0.refl _|apply Drawn0.step)⟩
       ·rw [if_neg c7] at H
        have c7b0 : (((rd_T45 l0 x5_1).f2) == (wrap64 ((wrap64 (x1_1 + 1)) + 1))) = false := beq_eq_false_iff_ne.mpr c7
        have c7b1 : (((rd_T45 l0 x5_1).f2) != (wrap64 ((wrap64 (x1_1 + 1)) + 1))) = true := bne_iff_ne.mpr c7
        obtain rfl := Option.some.inj H
        have p405 : 0 ≤ (x5_1 : Int) := od_
        have q405 : x5_1 < (l0.length : Int) := od_
        obtain ⟨ad405,A405_3,c405_3,e405,hx405_0,hx405_1,hx405_2,hx405_3,hl405_3,hi405_3⟩ := at_T45 HR0.out x5_1 p405 q405
        cases e405
        have HR405_3 := Aside0.mk hi405_3
        have HC405_3 := Aside0.mk hl405_3
        clear hi405_3 hl405_3
        replace p405 := eq_true p405
        replace q405 := eq_true q405
        have p406 : 0 ≤ (x5_1 : Int) := od_
        have q406 : x5_1 < (l0.length : Int) := od_
        obtain ⟨ad406,A406_3,c406_3,e406,hx406_0,hx406_1,hx406_2,hx406_3,hl406_3,hi406_3⟩ := at_T45 HR0.out x5_1 p406 q406
        obtain rfl : ad405 = ad406 := (by injection e406)
        have HR406_3 := Aside0.mk hi406_3
        have HC406_3 := Aside0.mk hl406_3
        clear hi406_3 hl406_3
        replace p406 := eq_true p406
        replace q406 := eq_true q406
        have ea_ := Option.some.inj (hx405_3.symm.trans hx406_3)
        injection ea_ with ea_ en_ ec_
        subst ea_
        subst ec_
        clear en_
        have p407 : 0 ≤ (x5_1 : Int) := od_
        have q407 : x5_1 < (l0.length : Int) := od_
        obtain ⟨ad407,A407_3,c407_3,e407,hx407_0,hx407_1,hx407_2,hx407_3,hl407_3,hi407_3⟩ := at_T45 HR0.out x5_1 p407 q407
        obtain rfl : ad405 = ad407 := (by injection e407)
        have HR407_3 := Aside0.mk hi407_3
        have HC407_3 := Aside0.mk hl407_3
        clear hi407_3 hl407_3
        replace p407 := eq_true p407
        replace q407 := eq_true q407
        have ea_ := Option.some.inj (hx405_3.symm.trans hx407_3)
        injection ea_ with ea_ en_ ec_
        subst ea_
        subst ec_
        clear en_
        go_wp2
        go_ret
        exact ⟨rs_,by repeat (first|exact Drawn0.refl _|apply Drawn0.step)⟩
      ·rw [if_neg c6] at H
       have c6b0 : (((rd_T45 l0 x5_1).f1) == (wrap64 (x1_1 + 1))) = false := beq_eq_false_iff_ne.mpr c6
       have c6b1 : (((rd_T45 l0 x5_1).f1) != (wrap64 (x1_1 + 1))) = true := bne_iff_ne.mpr c6
       obtain rfl := Option.some.inj H
       have p405 : 0 ≤ (x5_1 : Int) := od_
       have q405 : x5_1 < (l0.length : Int) := od_
       obtain ⟨ad405,A405_3,c405_3,e405,hx405_0,hx405_1,hx405_2,hx405_3,hl405_3,hi405_3⟩ := at_T45 HR0.out x5_1 p405 q405
       cases e405
       have HR405_3 := Aside0.mk hi405_3
       have HC405_3 := Aside0.mk hl405_3
       clear hi405_3 hl405_3
       replace p405 := eq_true p405
       replace q405 := eq_true q405
       have p406 : 0 ≤ (x5_1 : Int) := od_
       have q406 : x5_1 < (l0.length : Int) := od_
       obtain ⟨ad406,A406_3,c406_3,e406,hx406_0,hx406_1,hx406_2,hx406_3,hl406_3,hi406_3⟩ := at_T45 HR0.out x5_1 p406 q406
       obtain rfl : ad405 = ad406 := (by injection e406)
       have HR406_3 := Aside0.mk hi406_3
       have HC406_3 := Aside0.mk hl406_3
       clear hi406_3 hl406_3
       replace p406 := eq_true p406
       replace q406 := eq_true q406
       have ea_ := Option.some.inj (hx405_3.symm.trans hx406_3)
       injection ea_ with ea_ en_ ec_
       subst ea_
       subst ec_
       clear en_
       go_wp2
       go_ret
       exact ⟨rs_,by repeat (first|exact Drawn0.refl _|apply Drawn0.step)⟩
     ·rw [if_neg c5] at H
      have c5b0 : (((rd_T45 l0 x5_1).f0) == x1_1) = false := beq_eq_false_iff_ne.mpr c5
      have c5b1 : (((rd_T45 l0 x5_1).f0) != x1_1) = true := bne_iff_ne.mpr c5
      obtain rfl := Option.some.inj H
      have p405 : 0 ≤ (x5_1 : Int) := od_
      have q405 : x5_1 < (l0.length : Int) := od_
      obtain ⟨ad405,A405_3,c405_3,e405,hx405_0,hx405_1,hx405_2,hx405_3,hl405_3,hi405_3⟩ := at_T45 HR0.out x5_1 p405 q405
      cases e405
      have HR405_3 := Aside0.mk hi405_3
      have HC405_3 := Aside0.mk hl405_3
      clear hi405_3 hl405_3
      replace p405 := eq_true p405
      replace q405 := eq_true q405
      go_wp2
      go_ret
      exact ⟨rs_,by repeat (first|exact Drawn0.refl _|apply Drawn0.step)⟩
    ·rw [if_neg c4] at H
     exact absurd H (by simp)
   ·rw [if_neg c3] at H
    have c3b0 : decide (x5_1 < (l0.length : Int)) = false := decide_eq_false c3
    clear c3
    obtain rfl := Option.some.inj H
    go_wp2
    go_ret
    exact ⟨rs_,by repeat (first|exact Drawn0.refl _|apply Drawn0.step)⟩

/-! ### laws_heldInt64S: function 80 -/
def laws_heldInt64S.l0 : Nat → List Int → Int → Int → Option (Int)
  | 0, _, _, _ => none
  | k + 1, x0, x1, x5 => if x5 < (x0.length : Int) then (if 0 ≤ x5 then (if (rd x0 x5) = x1 then (laws_heldInt64S.l0 k x0 (wrap64 (x1 + 1)) (wrap64 (x5 + 1))) else (some (-1))) else (none)) else (some x1)
def laws_heldInt64S.f (k : Nat) (l0 : List Int) (a1 : Int) : Option (Int) := laws_heldInt64S.l0 k l0 a1 0

set_option maxHeartbeats 8000000 in
set_option maxRecDepth 100000 in
theorem laws_heldInt64S.calls (k : Nat) (A0 : Option Addr) (c0 : Nat) (l0 : List Int) (a1 : Int) (r : Int) (w : World) (hr0 : Kd.C (Kd.int .i64) w A0 l0.length l0) (hc0 : l0.length ≤ c0) (h : laws_heldInt64S.f k l0 a1 = some r) :
    Calls Try.prog 80 #[.slice A0 l0.length c0, .int .i64 a1] w fun e w' => e = .returned (.int .i64 r) ∧ Drawn0 w w' := by
 have HR0 := Aside0.mk hr0
 have HC0 := Aside0.mk hc0
 clear hr0 hc0
 have H : (laws_heldInt64S.l0 k l0 a1 0) = some r := h
 clear h
 have H' := Aside0.mk H
 clear H
 go_enter Try.func80,Try.ntmps80
 go_wp2
 go_loopg [1,5] k (fun kq v1 v5 w' => ∃ (x1_1 : Int) (x5_1 : Int),v1 = .int .i64 x1_1 ∧ v5 = .int .i64 x5_1 ∧ Aside0 (laws_heldInt64S.l0 kq l0 x1_1 x5_1 = some r) ∧ Aside0 (kq ≤ k) ∧ Drawn0 w w')
 case atStart => exact ⟨(a1),(0),rs_,rs_,H',⟨Nat.le_refl _⟩,by repeat (first|exact Drawn0.refl _|apply Drawn0.step)⟩
 case round =>
  clear H'
  try clear p2
  obtain ⟨x1_1,x5_1,rfl,rfl,HA,HK1,⟨m1,rfl⟩⟩ := hrel
  cases gk with
    | zero => exact absurd HA.out (by simp [laws_heldInt64S.l0])
    | succ k1 =>
   have H := HA.out
   clear HA
   simp only [laws_heldInt64S.l0] at H
   by_cases c3 : x5_1 < (l0.length : Int)
   ·rw [if_pos c3] at H
    have c3b0 : decide (x5_1 < (l0.length : Int)) = true := decide_eq_true c3
    clear c3
    by_cases c4 : 0 ≤ x5_1
    ·rw [if_pos c4] at H
     have c4b0 : decide (0 ≤ x5_1) = true := decide_eq_true c4
     clear c4
     by_cases c5 : (rd l0 x5_1) = x1_1
     ·rw [if_pos c5] at H
      have c5b0 : ((rd l0 x5_1) == x1_1) = true := beq_iff_eq.mpr c5
      have c5b1 : ((rd l0 x5_1) != x1_1) = false := bne_eq_false_iff_eq.mpr c5
      clear c5
      have H' := Aside0.mk H
      clear H
      have p410 : 0 ≤ (x5_1 : Int) := od_
      have q410 : x5_1 < (l0.length : Int) := od_
      obtain ⟨ad410,e410,hx410_0⟩ := Kd.at_int HR0.out x5_1 p410 q410
      cases e410
      replace p410 := eq_true p410
      replace q410 := eq_true q410
      go_wp2
      go_roundg k1
      case measure => have := HK1.out;omega
      case rel => exact ⟨(wrap64 (x1_1 + 1)),(wrap64 (x5_1 + 1)),rs_,rs_,H',⟨by have := HK1.out;omega⟩,by repeat (first|exact Drawn0.refl _|apply Drawn0.step)⟩
     ·rw [if_neg c5] at H
      have c5b0 : ((rd l0 x5_1) == x1_1) = false := beq_eq_false_iff_ne.mpr c5
      have c5b1 : ((rd l0 x5_1) != x1_1) = true := bne_iff_ne.mpr c5
      obtain rfl := Option.some.inj H
      have p410 : 0 ≤ (x5_1 : Int) := od_
      have q410 : x5_1 < (l0.length : Int) := od_
      obtain ⟨ad410,e410,hx410_0⟩ := Kd.at_int HR0.out x5_1 p410 q410
      cases e410
      replace p410 := eq_true p410
      replace q410 := eq_true q410
      go_wp2
      go_ret
      exact ⟨rs_,by repeat (first|exact Drawn0.refl _|apply Drawn0.step)⟩
    ·rw [if_neg c4] at H
     exact absurd H (by simp)
   ·rw [if_neg c3] at H
    have c3b0 : decide (x5_1 < (l0.length : Int)) = false := decide_eq_false c3
    clear c3
    obtain rfl := Option.some.inj H
    go_wp2
    go_ret
    exact ⟨rs_,by repeat (first|exact Drawn0.refl _|apply Drawn0.step)⟩

/-! ### laws_heldMachine: function 30 -/
def laws_heldMachine.f (k : Nat) (a0_0 : Bool) (l0_1 : List (S79)) (l0_2 : List (S45)) (l0_3 : List Int) (a1 : Int) : Option (Int) := (laws_heldCopyS.f k l0_1 a1).bind fun t412 => (if t412 < 0 then (some (-1)) else ((laws_heldRecordS.f k l0_2 t412).bind fun t413 => (if t413 < 0 then (some (-1)) else ((laws_heldInt64S.f k l0_3 t413).bind fun t414 => (if t414 < 0 then (some (-1)) else (some t414))))))

set_option maxHeartbeats 8000000 in
set_option maxRecDepth 100000 in
theorem laws_heldMachine.calls (k : Nat) (a0_0 : Bool) (A0_1 : Option Addr) (c0_1 : Nat) (l0_1 : List (S79)) (A0_2 : Option Addr) (c0_2 : Nat) (l0_2 : List (S45)) (A0_3 : Option Addr) (c0_3 : Nat) (l0_3 : List Int) (a1 : Int) (r : Int) (w : World) (hr0_1 : Kd.C k79 w A0_1 l0_1.length l0_1) (hc0_1 : l0_1.length ≤ c0_1) (hr0_2 : Kd.C k45 w A0_2 l0_2.length l0_2) (hc0_2 : l0_2.length ≤ c0_2) (hr0_3 : Kd.C (Kd.int .i64) w A0_3 l0_3.length l0_3) (hc0_3 : l0_3.length ≤ c0_3) (h : laws_heldMachine.f k a0_0 l0_1 l0_2 l0_3 a1 = some r) :
    Calls Try.prog 30 #[.agg #[.bool a0_0, .slice A0_1 l0_1.length c0_1, .slice A0_2 l0_2.length c0_2, .slice A0_3 l0_3.length c0_3], .int .i64 a1] w fun e w' => e = .returned (.int .i64 r) ∧ Below w.heap.size w w' := by
 have hu32 := Try.underlying32
 have HR0_1 := Aside0.mk hr0_1
 have HC0_1 := Aside0.mk hc0_1
 clear hr0_1 hc0_1
 have HR0_2 := Aside0.mk hr0_2
 have HC0_2 := Aside0.mk hc0_2
 clear hr0_2 hc0_2
 have HR0_3 := Aside0.mk hr0_3
 have HC0_3 := Aside0.mk hc0_3
 clear hr0_3 hc0_3
 have HB := Aside0.mk (Below.refl w.heap.size w)
 have H : ((laws_heldCopyS.f k l0_1 a1).bind fun t412 => (if t412 < 0 then (some (-1)) else ((laws_heldRecordS.f k l0_2 t412).bind fun t413 => (if t413 < 0 then (some (-1)) else ((laws_heldInt64S.f k l0_3 t413).bind fun t414 => (if t414 < 0 then (some (-1)) else (some t414))))))) = some r := h
 clear h
 replace H := bs_ H
 obtain ⟨t412,A3,H⟩ := H
 by_cases c4 : t412 < 0
 ·rw [if_pos c4] at H
  have c4b0 : decide (t412 < 0) = true := decide_eq_true c4
  clear c4
  obtain rfl := Option.some.inj H
  go_enter Try.func30,Try.ntmps30
  go_wp2_with (first|((with_reducible refine gate_dst (N := 2) rfl ?_);refine bx_ 2 #[.bool a0_0,.slice A0_1 l0_1.length c0_1,.slice A0_2 l0_2.length c0_2,.slice A0_3 l0_3.length c0_3] 32 ?_;intro gb411 hg w5 hbox hb;replace HB := nb_ hg hbox hb;obtain ⟨BK411,GW411,GE411,HB⟩ := HB;clear hb hbox hg;obtain ⟨⟨hcz6_0,hcz6_1,hcz6_2,hcz6_3⟩,hfz6_0,hfz6_1,hfz6_2,hfz6_3⟩ := cl4_ BK411.out)|((with_reducible refine gcal_ (f := 78) rfl ?_);refine gl_ (some 8) Try.func78 #[.slice A0_1 l0_1.length c0_1,.int .i64 a1] ?_;(with_reducible refine (laws_heldCopyS.calls k _ _ l0_1 a1 t412 _ ?side1 ?side2 A3.out).mono ?_);(case side1 => exact cb_ HR0_1);(case side2 => exact HC0_1.out);rintro e w' ⟨rfl,⟨nd,rfl⟩⟩;refine ⟨_,rfl,?_⟩))
  go_ret
  exact ⟨rf_,b_⟩
 ·rw [if_neg c4] at H
  have c4b0 : decide (t412 < 0) = false := decide_eq_false c4
  clear c4
  replace H := bs_ H
  obtain ⟨t413,A7,H⟩ := H
  by_cases c8 : t413 < 0
  ·rw [if_pos c8] at H
   have c8b0 : decide (t413 < 0) = true := decide_eq_true c8
   clear c8
   obtain rfl := Option.some.inj H
   go_enter Try.func30,Try.ntmps30
   go_wp2_with (first|((with_reducible refine gate_dst (N := 2) rfl ?_);refine bx_ 2 #[.bool a0_0,.slice A0_1 l0_1.length c0_1,.slice A0_2 l0_2.length c0_2,.slice A0_3 l0_3.length c0_3] 32 ?_;intro gb411 hg w9 hbox hb;replace HB := nb_ hg hbox hb;obtain ⟨BK411,GW411,GE411,HB⟩ := HB;clear hb hbox hg;obtain ⟨⟨hcz10_0,hcz10_1,hcz10_2,hcz10_3⟩,hfz10_0,hfz10_1,hfz10_2,hfz10_3⟩ := cl4_ BK411.out)|((with_reducible refine gcal_ (f := 78) rfl ?_);refine gl_ (some 8) Try.func78 #[.slice A0_1 l0_1.length c0_1,.int .i64 a1] ?_;(with_reducible refine (laws_heldCopyS.calls k _ _ l0_1 a1 t412 _ ?side1 ?side2 A3.out).mono ?_);(case side1 => exact cb_ HR0_1);(case side2 => exact HC0_1.out);rintro e w' ⟨rfl,⟨nd,rfl⟩⟩;refine ⟨_,rfl,?_⟩)|((with_reducible refine gcal_ (f := 79) rfl ?_);refine gl_ (some 14) Try.func79 #[.slice A0_2 l0_2.length c0_2,.int .i64 t412] ?_;(with_reducible refine (laws_heldRecordS.calls k _ _ l0_2 t412 t413 _ ?side1 ?side2 A7.out).mono ?_);(case side1 => exact cb_ HR0_2);(case side2 => exact HC0_2.out);rintro e w' ⟨rfl,⟨nd,rfl⟩⟩;refine ⟨_,rfl,?_⟩))
   go_ret
   exact ⟨rf_,b_⟩
  ·rw [if_neg c8] at H
   have c8b0 : decide (t413 < 0) = false := decide_eq_false c8
   clear c8
   replace H := bs_ H
   obtain ⟨t414,A11,H⟩ := H
   by_cases c12 : t414 < 0
   ·rw [if_pos c12] at H
    have c12b0 : decide (t414 < 0) = true := decide_eq_true c12
    clear c12
    obtain rfl := Option.some.inj H
    go_enter Try.func30,Try.ntmps30
    go_wp2_with (first|((with_reducible refine gate_dst (N := 2) rfl ?_);refine bx_ 2 #[.bool a0_0,.slice A0_1 l0_1.length c0_1,.slice A0_2 l0_2.length c0_2,.slice A0_3 l0_3.length c0_3] 32 ?_;intro gb411 hg w13 hbox hb;replace HB := nb_ hg hbox hb;obtain ⟨BK411,GW411,GE411,HB⟩ := HB;clear hb hbox hg;obtain ⟨⟨hcz14_0,hcz14_1,hcz14_2,hcz14_3⟩,hfz14_0,hfz14_1,hfz14_2,hfz14_3⟩ := cl4_ BK411.out)|((with_reducible refine gcal_ (f := 78) rfl ?_);refine gl_ (some 8) Try.func78 #[.slice A0_1 l0_1.length c0_1,.int .i64 a1] ?_;(with_reducible refine (laws_heldCopyS.calls k _ _ l0_1 a1 t412 _ ?side1 ?side2 A3.out).mono ?_);(case side1 => exact cb_ HR0_1);(case side2 => exact HC0_1.out);rintro e w' ⟨rfl,⟨nd,rfl⟩⟩;refine ⟨_,rfl,?_⟩)|((with_reducible refine gcal_ (f := 79) rfl ?_);refine gl_ (some 14) Try.func79 #[.slice A0_2 l0_2.length c0_2,.int .i64 t412] ?_;(with_reducible refine (laws_heldRecordS.calls k _ _ l0_2 t412 t413 _ ?side1 ?side2 A7.out).mono ?_);(case side1 => exact cb_ HR0_2);(case side2 => exact HC0_2.out);rintro e w' ⟨rfl,⟨nd,rfl⟩⟩;refine ⟨_,rfl,?_⟩)|((with_reducible refine gcal_ (f := 80) rfl ?_);refine gl_ (some 20) Try.func80 #[.slice A0_3 l0_3.length c0_3,.int .i64 t413] ?_;(with_reducible refine (laws_heldInt64S.calls k _ _ l0_3 t413 t414 _ ?side1 ?side2 A11.out).mono ?_);(case side1 => exact cb_ HR0_3);(case side2 => exact HC0_3.out);rintro e w' ⟨rfl,⟨nd,rfl⟩⟩;refine ⟨_,rfl,?_⟩))
    go_ret
    exact ⟨rf_,b_⟩
   ·rw [if_neg c12] at H
    have c12b0 : decide (t414 < 0) = false := decide_eq_false c12
    clear c12
    obtain rfl := Option.some.inj H
    go_enter Try.func30,Try.ntmps30
    go_wp2_with (first|((with_reducible refine gate_dst (N := 2) rfl ?_);refine bx_ 2 #[.bool a0_0,.slice A0_1 l0_1.length c0_1,.slice A0_2 l0_2.length c0_2,.slice A0_3 l0_3.length c0_3] 32 ?_;intro gb411 hg w15 hbox hb;replace HB := nb_ hg hbox hb;obtain ⟨BK411,GW411,GE411,HB⟩ := HB;clear hb hbox hg;obtain ⟨⟨hcz16_0,hcz16_1,hcz16_2,hcz16_3⟩,hfz16_0,hfz16_1,hfz16_2,hfz16_3⟩ := cl4_ BK411.out)|((with_reducible refine gcal_ (f := 78) rfl ?_);refine gl_ (some 8) Try.func78 #[.slice A0_1 l0_1.length c0_1,.int .i64 a1] ?_;(with_reducible refine (laws_heldCopyS.calls k _ _ l0_1 a1 t412 _ ?side1 ?side2 A3.out).mono ?_);(case side1 => exact cb_ HR0_1);(case side2 => exact HC0_1.out);rintro e w' ⟨rfl,⟨nd,rfl⟩⟩;refine ⟨_,rfl,?_⟩)|((with_reducible refine gcal_ (f := 79) rfl ?_);refine gl_ (some 14) Try.func79 #[.slice A0_2 l0_2.length c0_2,.int .i64 t412] ?_;(with_reducible refine (laws_heldRecordS.calls k _ _ l0_2 t412 t413 _ ?side1 ?side2 A7.out).mono ?_);(case side1 => exact cb_ HR0_2);(case side2 => exact HC0_2.out);rintro e w' ⟨rfl,⟨nd,rfl⟩⟩;refine ⟨_,rfl,?_⟩)|((with_reducible refine gcal_ (f := 80) rfl ?_);refine gl_ (some 20) Try.func80 #[.slice A0_3 l0_3.length c0_3,.int .i64 t413] ?_;(with_reducible refine (laws_heldInt64S.calls k _ _ l0_3 t413 t414 _ ?side1 ?side2 A11.out).mono ?_);(case side1 => exact cb_ HR0_3);(case side2 => exact HC0_3.out);rintro e w' ⟨rfl,⟨nd,rfl⟩⟩;refine ⟨_,rfl,?_⟩))
    go_ret
    exact ⟨rf_,b_⟩

end Go.Proofs.Ythplaakckfhaaaa.XAp
