/- Proved: of each Go function here that a call comes to what the Lean function of its name tells. Written by a program of this session over the translation. No conditions beyond each theorem's own. -/
import Derived.Test.YthplaakckfhaaaaGreatXCr0
import Derived.Test.YthplaakckfhaaaaGreatXCr22
namespace Go.Proofs.YthplaakckfhaaaaGreat.XCr
open Go.RowKit Go.Proofs.YthplaakckfhaaaaGreat.Aid Go.Proofs.YthplaakckfhaaaaGreatW.PrintWords Go.Proofs.YthplaakckfhaaaaGreatW.PrintLast Go.Proofs.YthplaakckfhaaaaGreatW.PrintMore
set_option linter.unusedVariables false
set_option linter.unusedSimpArgs false

/-! ### laws_heldRecordS: function 48 -/
def laws_heldRecordS.l0 : Nat → List (S50) → Int → Int → Option (Int)
  | 0, _, _, _ => none
  | k + 1, x0, x1, x5 => if x5 < (x0.length : Int) then (if 0 ≤ x5 then (if ((rd_T50 x0 x5).f0) = x1 then (if ((rd_T50 x0 x5).f1) = (wrap64 (x1 + 1)) then (if ((rd_T50 x0 x5).f2) = (wrap64 ((wrap64 (x1 + 1)) + 1)) then ((laws_heldSetS.f k ((rd_T50 x0 x5).f3) (wrap64 ((wrap64 ((wrap64 (x1 + 1)) + 1)) + 1))).bind fun t454 => (if t454 < 0 then (some (-1)) else (laws_heldRecordS.l0 k x0 t454 (wrap64 (x5 + 1))))) else (some (-1))) else (some (-1))) else (some (-1))) else (none)) else (some x1)
def laws_heldRecordS.f (k : Nat) (l0 : List (S50)) (a1 : Int) : Option (Int) := laws_heldRecordS.l0 k l0 a1 0

set_option maxHeartbeats 8000000 in
set_option maxRecDepth 100000 in
theorem laws_heldRecordS.calls (k : Nat) (A0 : Option Addr) (c0 : Nat) (l0 : List (S50)) (a1 : Int) (r : Int) (w : World) (hr0 : Kd.C k50 w A0 l0.length l0) (hc0 : l0.length ≤ c0) (h : laws_heldRecordS.f k l0 a1 = some r) :
    Calls Tryz.prog 48 #[.slice A0 l0.length c0, .int .i64 a1] w fun e w' => e = .returned (.int .i64 r) ∧ Drawn0 w w' := by
 have HR0 := Aside0.mk hr0
 have HC0 := Aside0.mk hc0
 clear hr0 hc0
 have H : (laws_heldRecordS.l0 k l0 a1 0) = some r := h
 clear h
 have H' := Aside0.mk H
 clear H
 go_enter Tryz.func48,Tryz.ntmps48
 go_wp2
 go_loopg [1,5] k (fun kq v1 v5 w' => ∃ (x1_1 : Int) (x5_1 : Int),v1 = .int .i64 x1_1 ∧ v5 = .int .i64 x5_1 ∧ Aside0 (laws_heldRecordS.l0 kq l0 x1_1 x5_1 = some r) ∧ Aside0 (kq ≤ k) ∧ Drawn0 w w')
 case atStart => exact ⟨(a1),(0),rs_,rs_,H',⟨Nat.le_refl _⟩,by repeat (first|exact Drawn0.refl _|apply Drawn0.step)⟩
 case round =>
  clear H'
  try clear p2
  obtain ⟨x1_1,x5_1,rfl,rfl,HA,HK1,⟨m1,rfl⟩⟩ := hrel
  cases gk with
    | zero => exact absurd HA.out (by simp [laws_heldRecordS.l0])
    | succ k1 =>
   have H := HA.out
   clear HA
   simp only [laws_heldRecordS.l0] at H
   by_cases c3 : x5_1 < (l0.length : Int)
   ·rw [if_pos c3] at H
    have c3b0 : decide (x5_1 < (l0.length : Int)) = true := decide_eq_true c3
    clear c3
    by_cases c4 : 0 ≤ x5_1
    ·rw [if_pos c4] at H
     have c4b0 : decide (0 ≤ x5_1) = true := decide_eq_true c4
     clear c4
     by_cases c5 : ((rd_T50 l0 x5_1).f0) = x1_1
     ·rw [if_pos c5] at H
      have c5b0 : (((rd_T50 l0 x5_1).f0) == x1_1) = true := beq_iff_eq.mpr c5
      have c5b1 : (((rd_T50 l0 x5_1).f0) != x1_1) = false := bne_eq_false_iff_eq.mpr c5
      clear c5
      by_cases c6 : ((rd_T50 l0 x5_1).f1) = (wrap64 (x1_1 + 1))
      ·rw [if_pos c6] at H
       have c6b0 : (((rd_T50 l0 x5_1).f1) == (wrap64 (x1_1 + 1))) = true := beq_iff_eq.mpr c6
       have c6b1 : (((rd_T50 l0 x5_1).f1) != (wrap64 (x1_1 + 1))) = false := bne_eq_false_iff_eq.mpr c6
       clear c6
       by_cases c7 : ((rd_T50 l0 x5_1).f2) = (wrap64 ((wrap64 (x1_1 + 1)) + 1))
       ·rw [if_pos c7] at H
        have c7b0 : (((rd_T50 l0 x5_1).f2) == (wrap64 ((wrap64 (x1_1 + 1)) + 1))) = true := beq_iff_eq.mpr c7
        have c7b1 : (((rd_T50 l0 x5_1).f2) != (wrap64 ((wrap64 (x1_1 + 1)) + 1))) = false := bne_eq_false_iff_eq.mpr c7
        clear c7
        replace H := bs_ H
        obtain ⟨t454,A8,H⟩ := H
        by_cases c9 : t454 < 0
        ·rw [if_pos c9] at H
         have c9b0 : decide (t454 < 0) = true := decide_eq_true c9
         clear c9
         obtain rfl := Option.some.inj H
         have p450 : 0 ≤ (x5_1 : Int) := od_
         have q450 : x5_1 < (l0.length : Int) := od_
         obtain ⟨ad450,A450_3,c450_3,e450,hx450_0,hx450_1,hx450_2,hx450_3,hl450_3,hi450_3⟩ := at_T50 HR0.out x5_1 p450 q450
         cases e450
         have HR450_3 := Aside0.mk hi450_3
         have HC450_3 := Aside0.mk hl450_3
         clear hi450_3 hl450_3
         replace p450 := eq_true p450
         replace q450 := eq_true q450
         have p451 : 0 ≤ (x5_1 : Int) := od_
         have q451 : x5_1 < (l0.length : Int) := od_
         obtain ⟨ad451,A451_3,c451_3,e451,hx451_0,hx451_1,hx451_2,hx451_3,hl451_3,hi451_3⟩ := at_T50 HR0.out x5_1 p451 q451
         obtain rfl : ad450 = ad451 := (by injection e451)
         have HR451_3 := Aside0.mk hi451_3
         have HC451_3 := Aside0.mk hl451_3
         clear hi451_3 hl451_3
         replace p451 := eq_true p451
         replace q451 := eq_true q451
         have ea_ := Option.some.inj (hx450_3.symm.trans hx451_3)
         injection ea_ with ea_ en_ ec_
         subst ea_
         subst ec_
         clear en_
         have p452 : 0 ≤ (x5_1 : Int) := od_
         have q452 : x5_1 < (l0.length : Int) := od_
         obtain ⟨ad452,A452_3,c452_3,e452,hx452_0,hx452_1,hx452_2,hx452_3,hl452_3,hi452_3⟩ := at_T50 HR0.out x5_1 p452 q452
         obtain rfl : ad450 = ad452 := (by injection e452)
         have HR452_3 := Aside0.mk hi452_3
         have HC452_3 := Aside0.mk hl452_3
         clear hi452_3 hl452_3
         replace p452 := eq_true p452
         replace q452 := eq_true q452
         have ea_ := Option.some.inj (hx450_3.symm.trans hx452_3)
         injection ea_ with ea_ en_ ec_
         subst ea_
         subst ec_
         clear en_
         have p453 : 0 ≤ (x5_1 : Int) := od_
         have q453 : x5_1 < (l0.length : Int) := od_
         obtain ⟨ad453,A453_3,c453_3,e453,hx453_0,hx453_1,hx453_2,hx453_3,hl453_3,hi453_3⟩ := at_T50 HR0.out x5_1 p453 q453
         obtain rfl : ad450 = ad453 := (by injection e453)
         have HR453_3 := Aside0.mk hi453_3
         have HC453_3 := Aside0.mk hl453_3
         clear hi453_3 hl453_3
         replace p453 := eq_true p453
         replace q453 := eq_true q453
         have ea_ := Option.some.inj (hx450_3.symm.trans hx453_3)
         injection ea_ with ea_ en_ ec_
         subst ea_
         subst ec_
         clear en_
         go_wp2_with (first|((with_reducible refine gcal_ (f := 92) rfl ?_);refine gl_ (some 45) Tryz.func92 #[.slice A450_3 ((rd_T50 l0 x5_1).f3).length c450_3,.int .i64 (wrap64 ((wrap64 ((wrap64 (x1_1 + 1)) + 1)) + 1))] ?_;(with_reducible refine (laws_heldSetS.calls k1 _ _ ((rd_T50 l0 x5_1).f3) (wrap64 ((wrap64 ((wrap64 (x1_1 + 1)) + 1)) + 1)) t454 _ ?side1 ?side2 A8.out).mono ?_);(case side1 => repeat (first|exact HR453_3.out|(with_reducible refine Kd.C_alloc ?_ _)|(with_reducible refine Kd.C_drewN ?_ _)|(with_reducible refine Kd.C_drew ?_)));(case side2 => exact HC453_3.out);rintro e w' ⟨rfl,⟨nd,rfl⟩⟩;refine ⟨_,rfl,?_⟩))
         go_ret
         exact ⟨rs_,by repeat (first|exact Drawn0.refl _|apply Drawn0.step)⟩
        ·rw [if_neg c9] at H
         have c9b0 : decide (t454 < 0) = false := decide_eq_false c9
         clear c9
         have H' := Aside0.mk H
         clear H
         have p450 : 0 ≤ (x5_1 : Int) := od_
         have q450 : x5_1 < (l0.length : Int) := od_
         obtain ⟨ad450,A450_3,c450_3,e450,hx450_0,hx450_1,hx450_2,hx450_3,hl450_3,hi450_3⟩ := at_T50 HR0.out x5_1 p450 q450
         cases e450
         have HR450_3 := Aside0.mk hi450_3
         have HC450_3 := Aside0.mk hl450_3
         clear hi450_3 hl450_3
         replace p450 := eq_true p450
         replace q450 := eq_true q450
         have p451 : 0 ≤ (x5_1 : Int) := od_
         have q451 : x5_1 < (l0.length : Int) := od_
         obtain ⟨ad451,A451_3,c451_3,e451,hx451_0,hx451_1,hx451_2,hx451_3,hl451_3,hi451_3⟩ := at_T50 HR0.out x5_1 p451 q451
         obtain rfl : ad450 = ad451 := (by injection e451)
         have HR451_3 := Aside0.mk hi451_3
         have HC451_3 := Aside0.mk hl451_3
         clear hi451_3 hl451_3
         replace p451 := eq_true p451
         replace q451 := eq_true q451
         have ea_ := Option.some.inj (hx450_3.symm.trans hx451_3)
         injection ea_ with ea_ en_ ec_
         subst ea_
         subst ec_
         clear en_
         have p452 : 0 ≤ (x5_1 : Int) := od_
         have q452 : x5_1 < (l0.length : Int) := od_
         obtain ⟨ad452,A452_3,c452_3,e452,hx452_0,hx452_1,hx452_2,hx452_3,hl452_3,hi452_3⟩ := at_T50 HR0.out x5_1 p452 q452
         obtain rfl : ad450 = ad452 := (by injection e452)
         have HR452_3 := Aside0.mk hi452_3
         have HC452_3 := Aside0.mk hl452_3
         clear hi452_3 hl452_3
         replace p452 := eq_true p452
         replace q452 := eq_true q452
         have ea_ := Option.some.inj (hx450_3.symm.trans hx452_3)
         injection ea_ with ea_ en_ ec_
         subst ea_
         subst ec_
         clear en_
         have p453 : 0 ≤ (x5_1 : Int) := od_
         have q453 : x5_1 < (l0.length : Int) := od_
         obtain ⟨ad453,A453_3,c453_3,e453,hx453_0,hx453_1,hx453_2,hx453_3,hl453_3,hi453_3⟩ := at_T50 HR0.out x5_1 p453 q453
         obtain rfl : ad450 = ad453 := (by injection e453)
         have HR453_3 := Aside0.mk hi453_3
         have HC453_3 := Aside0.mk hl453_3
         clear hi453_3 hl453_3
         replace p453 := eq_true p453
         replace q453 := eq_true q453
         have ea_ := Option.some.inj (hx450_3.symm.trans hx453_3)
         injection ea_ with ea_ en_ ec_
         subst ea_
         subst ec_
         clear en_
         go_wp2_with (first|((with_reducible refine gcal_ (f := 92) rfl ?_);refine gl_ (some 45) Tryz.func92 #[.slice A450_3 ((rd_T50 l0 x5_1).f3).length c450_3,.int .i64 (wrap64 ((wrap64 ((wrap64 (x1_1 + 1)) + 1)) + 1))] ?_;(with_reducible refine (laws_heldSetS.calls k1 _ _ ((rd_T50 l0 x5_1).f3) (wrap64 ((wrap64 ((wrap64 (x1_1 + 1)) + 1)) + 1)) t454 _ ?side1 ?side2 A8.out).mono ?_);(case side1 => repeat (first|exact HR453_3.out|(with_reducible refine Kd.C_alloc ?_ _)|(with_reducible refine Kd.C_drewN ?_ _)|(with_reducible refine Kd.C_drew ?_)));(case side2 => exact HC453_3.out);rintro e w' ⟨rfl,⟨nd,rfl⟩⟩;refine ⟨_,rfl,?_⟩))
         go_roundg k1
         case measure => have := HK1.out;omega
         case rel => exact ⟨(t454),(wrap64 (x5_1 + 1)),rs_,rs_,H',⟨by have := HK1.out;omega⟩,by repeat (first|exact Drawn0.refl _|apply Drawn0.step)⟩
       ·rw [if_neg c7] at H
        have c7b0 : (((rd_T50 l0 x5_1).f2) == (wrap64 ((wrap64 (x1_1 + 1)) + 1))) = false := beq_eq_false_iff_ne.mpr c7
        have c7b1 : (((rd_T50 l0 x5_1).f2) != (wrap64 ((wrap64 (x1_1 + 1)) + 1))) = true := bne_iff_ne.mpr c7
        obtain rfl := Option.some.inj H
        have p450 : 0 ≤ (x5_1 : Int) := od_
        have q450 : x5_1 < (l0.length : Int) := od_
        obtain ⟨ad450,A450_3,c450_3,e450,hx450_0,hx450_1,hx450_2,hx450_3,hl450_3,hi450_3⟩ := at_T50 HR0.out x5_1 p450 q450
        cases e450
        have HR450_3 := Aside0.mk hi450_3
        have HC450_3 := Aside0.mk hl450_3
        clear hi450_3 hl450_3
        replace p450 := eq_true p450
        replace q450 := eq_true q450
        have p451 : 0 ≤ (x5_1 : Int) := od_
        have q451 : x5_1 < (l0.length : Int) := od_
        obtain ⟨ad451,A451_3,c451_3,e451,hx451_0,hx451_1,hx451_2,hx451_3,hl451_3,hi451_3⟩ := at_T50 HR0.out x5_1 p451 q451
        obtain rfl : ad450 = ad451 := (by injection e451)
        have HR451_3 := Aside0.mk hi451_3
        have HC451_3 := Aside0.mk hl451_3
        clear hi451_3 hl451_3
        replace p451 := eq_true p451
        replace q451 := eq_true q451
        have ea_ := Option.some.inj (hx450_3.symm.trans hx451_3)
        injection ea_ with ea_ en_ ec_
        subst ea_
        subst ec_
        clear en_
        have p452 : 0 ≤ (x5_1 : Int) := od_
        have q452 : x5_1 < (l0.length : Int) := od_
        obtain ⟨ad452,A452_3,c452_3,e452,hx452_0,hx452_1,hx452_2,hx452_3,hl452_3,hi452_3⟩ := at_T50 HR0.out x5_1 p452 q452
        obtain rfl : ad450 = ad452 := (by injection e452)
        have HR452_3 := Aside0.mk hi452_3
        have HC452_3 := Aside0.mk hl452_3
        clear hi452_3 hl452_3
        replace p452 := eq_true p452
        replace q452 := eq_true q452
        have ea_ := Option.some.inj (hx450_3.symm.trans hx452_3)
        injection ea_ with ea_ en_ ec_
        subst ea_
        subst ec_
        clear en_
        go_wp2
        go_ret
        exact ⟨rs_,by repeat (first|exact Drawn0.refl _|apply Drawn0.step)⟩
      ·rw [if_neg c6] at H
       have c6b0 : (((rd_T50 l0 x5_1).f1) == (wrap64 (x1_1 + 1))) = false := beq_eq_false_iff_ne.mpr c6
       have c6b1 : (((rd_T50 l0 x5_1).f1) != (wrap64 (x1_1 + 1))) = true := bne_iff_ne.mpr c6
       obtain rfl := Option.some.inj H
       have p450 : 0 ≤ (x5_1 : Int) := od_
       have q450 : x5_1 < (l0.length : Int) := od_
       obtain ⟨ad450,A450_3,c450_3,e450,hx450_0,hx450_1,hx450_2,hx450_3,hl450_3,hi450_3⟩ := at_T50 HR0.out x5_1 p450 q450
       cases e450
       have HR450_3 := Aside0.mk hi450_3
       have HC450_3 := Aside0.mk hl450_3
       clear hi450_3 hl450_3
       replace p450 := eq_true p450
       replace q450 := eq_true q450
       have p451 : 0 ≤ (x5_1 : Int) := od_
       have q451 : x5_1 < (l0.length : Int) := od_
       obtain ⟨ad451,A451_3,c451_3,e451,hx451_0,hx451_1,hx451_2,hx451_3,hl451_3,hi451_3⟩ := at_T50 HR0.out x5_1 p451 q451
       obtain rfl : ad450 = ad451 := (by injection e451)
       have HR451_3 := Aside0.mk hi451_3
       have HC451_3 := Aside0.mk hl451_3
       clear hi451_3 hl451_3
       replace p451 := eq_true p451
       replace q451 := eq_true q451
       have ea_ := Option.some.inj (hx450_3.symm.trans hx451_3)
       injection ea_ with ea_ en_ ec_
       subst ea_
       subst ec_
       clear en_
       go_wp2
       go_ret
       exact ⟨rs_,by repeat (first|exact Drawn0.refl _|apply Drawn0.step)⟩
     ·rw [if_neg c5] at H
      have c5b0 : (((rd_T50 l0 x5_1).f0) == x1_1) = false := beq_eq_false_iff_ne.mpr c5
      have c5b1 : (((rd_T50 l0 x5_1).f0) != x1_1) = true := bne_iff_ne.mpr c5
      obtain rfl := Option.some.inj H
      have p450 : 0 ≤ (x5_1 : Int) := od_
      have q450 : x5_1 < (l0.length : Int) := od_
      obtain ⟨ad450,A450_3,c450_3,e450,hx450_0,hx450_1,hx450_2,hx450_3,hl450_3,hi450_3⟩ := at_T50 HR0.out x5_1 p450 q450
      cases e450
      have HR450_3 := Aside0.mk hi450_3
      have HC450_3 := Aside0.mk hl450_3
      clear hi450_3 hl450_3
      replace p450 := eq_true p450
      replace q450 := eq_true q450
      go_wp2
      go_ret
      exact ⟨rs_,by repeat (first|exact Drawn0.refl _|apply Drawn0.step)⟩
    ·rw [if_neg c4] at H
     exact absurd H (by simp)
   ·rw [if_neg c3] at H
    have c3b0 : decide (x5_1 < (l0.length : Int)) = false := decide_eq_false c3
    clear c3
    obtain rfl := Option.some.inj H
    go_wp2
    go_ret
    exact ⟨rs_,by repeat (first|exact Drawn0.refl _|apply Drawn0.step)⟩

/-! ### laws_heldInt64S: function 49 -/
def laws_heldInt64S.l0 : Nat → List Int → Int → Int → Option (Int)
  | 0, _, _, _ => none
  | k + 1, x0, x1, x5 => if x5 < (x0.length : Int) then (if 0 ≤ x5 then (if (rd x0 x5) = x1 then (laws_heldInt64S.l0 k x0 (wrap64 (x1 + 1)) (wrap64 (x5 + 1))) else (some (-1))) else (none)) else (some x1)
def laws_heldInt64S.f (k : Nat) (l0 : List Int) (a1 : Int) : Option (Int) := laws_heldInt64S.l0 k l0 a1 0

set_option maxHeartbeats 8000000 in
set_option maxRecDepth 100000 in
theorem laws_heldInt64S.calls (k : Nat) (A0 : Option Addr) (c0 : Nat) (l0 : List Int) (a1 : Int) (r : Int) (w : World) (hr0 : Kd.C (Kd.int .i64) w A0 l0.length l0) (hc0 : l0.length ≤ c0) (h : laws_heldInt64S.f k l0 a1 = some r) :
    Calls Tryz.prog 49 #[.slice A0 l0.length c0, .int .i64 a1] w fun e w' => e = .returned (.int .i64 r) ∧ Drawn0 w w' := by
 have HR0 := Aside0.mk hr0
 have HC0 := Aside0.mk hc0
 clear hr0 hc0
 have H : (laws_heldInt64S.l0 k l0 a1 0) = some r := h
 clear h
 have H' := Aside0.mk H
 clear H
 go_enter Tryz.func49,Tryz.ntmps49
 go_wp2
 go_loopg [1,5] k (fun kq v1 v5 w' => ∃ (x1_1 : Int) (x5_1 : Int),v1 = .int .i64 x1_1 ∧ v5 = .int .i64 x5_1 ∧ Aside0 (laws_heldInt64S.l0 kq l0 x1_1 x5_1 = some r) ∧ Aside0 (kq ≤ k) ∧ Drawn0 w w')
 case atStart => exact ⟨(a1),(0),rs_,rs_,H',⟨Nat.le_refl _⟩,by repeat (first|exact Drawn0.refl _|apply Drawn0.step)⟩
 case round =>
  clear H'
  try clear p2
  obtain ⟨x1_1,x5_1,rfl,rfl,HA,HK1,⟨m1,rfl⟩⟩ := hrel
  cases gk with
    | zero => exact absurd HA.out (by simp [laws_heldInt64S.l0])
    | succ k1 =>
   have H := HA.out
   clear HA
   simp only [laws_heldInt64S.l0] at H
   by_cases c3 : x5_1 < (l0.length : Int)
   ·rw [if_pos c3] at H
    have c3b0 : decide (x5_1 < (l0.length : Int)) = true := decide_eq_true c3
    clear c3
    by_cases c4 : 0 ≤ x5_1
    ·rw [if_pos c4] at H
     have c4b0 : decide (0 ≤ x5_1) = true := decide_eq_true c4
     clear c4
     by_cases c5 : (rd l0 x5_1) = x1_1
     ·rw [if_pos c5] at H
      have c5b0 : ((rd l0 x5_1) == x1_1) = true := beq_iff_eq.mpr c5
      have c5b1 : ((rd l0 x5_1) != x1_1) = false := bne_eq_false_iff_eq.mpr c5
      clear c5
      have H' := Aside0.mk H
      clear H
      have p455 : 0 ≤ (x5_1 : Int) := od_
      have q455 : x5_1 < (l0.length : Int) := od_
      obtain ⟨ad455,e455,hx455_0⟩ := Kd.at_int HR0.out x5_1 p455 q455
      cases e455
      replace p455 := eq_true p455
      replace q455 := eq_true q455
      go_wp2
      go_roundg k1
      case measure => have := HK1.out;omega
      case rel => exact ⟨(wrap64 (x1_1 + 1)),(wrap64 (x5_1 + 1)),rs_,rs_,H',⟨by have := HK1.out;omega⟩,by repeat (first|exact Drawn0.refl _|apply Drawn0.step)⟩
     ·rw [if_neg c5] at H
      have c5b0 : ((rd l0 x5_1) == x1_1) = false := beq_eq_false_iff_ne.mpr c5
      have c5b1 : ((rd l0 x5_1) != x1_1) = true := bne_iff_ne.mpr c5
      obtain rfl := Option.some.inj H
      have p455 : 0 ≤ (x5_1 : Int) := od_
      have q455 : x5_1 < (l0.length : Int) := od_
      obtain ⟨ad455,e455,hx455_0⟩ := Kd.at_int HR0.out x5_1 p455 q455
      cases e455
      replace p455 := eq_true p455
      replace q455 := eq_true q455
      go_wp2
      go_ret
      exact ⟨rs_,by repeat (first|exact Drawn0.refl _|apply Drawn0.step)⟩
    ·rw [if_neg c4] at H
     exact absurd H (by simp)
   ·rw [if_neg c3] at H
    have c3b0 : decide (x5_1 < (l0.length : Int)) = false := decide_eq_false c3
    clear c3
    obtain rfl := Option.some.inj H
    go_wp2
    go_ret
    exact ⟨rs_,by repeat (first|exact Drawn0.refl _|apply Drawn0.step)⟩

/-! ### laws_heldMachine: function 11 -/
def laws_heldMachine.f (k : Nat) (a0_0 : Bool) (l0_1 : List (S83)) (l0_2 : List (S50)) (l0_3 : List Int) (a1 : Int) : Option (Int) := (laws_heldCopyS.f k l0_1 a1).bind fun t457 => (if t457 < 0 then (some (-1)) else ((laws_heldRecordS.f k l0_2 t457).bind fun t458 => (if t458 < 0 then (some (-1)) else ((laws_heldInt64S.f k l0_3 t458).bind fun t459 => (if t459 < 0 then (some (-1)) else (some t459))))))

set_option maxHeartbeats 8000000 in
set_option maxRecDepth 100000 in
theorem laws_heldMachine.calls (k : Nat) (a0_0 : Bool) (A0_1 : Option Addr) (c0_1 : Nat) (l0_1 : List (S83)) (A0_2 : Option Addr) (c0_2 : Nat) (l0_2 : List (S50)) (A0_3 : Option Addr) (c0_3 : Nat) (l0_3 : List Int) (a1 : Int) (r : Int) (w : World) (hr0_1 : Kd.C k83 w A0_1 l0_1.length l0_1) (hc0_1 : l0_1.length ≤ c0_1) (hr0_2 : Kd.C k50 w A0_2 l0_2.length l0_2) (hc0_2 : l0_2.length ≤ c0_2) (hr0_3 : Kd.C (Kd.int .i64) w A0_3 l0_3.length l0_3) (hc0_3 : l0_3.length ≤ c0_3) (h : laws_heldMachine.f k a0_0 l0_1 l0_2 l0_3 a1 = some r) :
    Calls Tryz.prog 11 #[.agg #[.bool a0_0, .slice A0_1 l0_1.length c0_1, .slice A0_2 l0_2.length c0_2, .slice A0_3 l0_3.length c0_3], .int .i64 a1] w fun e w' => e = .returned (.int .i64 r) ∧ Below w.heap.size w w' := by
 have hu31 := Tryz.underlying31
 have HR0_1 := Aside0.mk hr0_1
 have HC0_1 := Aside0.mk hc0_1
 clear hr0_1 hc0_1
 have HR0_2 := Aside0.mk hr0_2
 have HC0_2 := Aside0.mk hc0_2
 clear hr0_2 hc0_2
 have HR0_3 := Aside0.mk hr0_3
 have HC0_3 := Aside0.mk hc0_3
 clear hr0_3 hc0_3
 have HB := Aside0.mk (Below.refl w.heap.size w)
 have H : ((laws_heldCopyS.f k l0_1 a1).bind fun t457 => (if t457 < 0 then (some (-1)) else ((laws_heldRecordS.f k l0_2 t457).bind fun t458 => (if t458 < 0 then (some (-1)) else ((laws_heldInt64S.f k l0_3 t458).bind fun t459 => (if t459 < 0 then (some (-1)) else (some t459))))))) = some r := h
 clear h
 replace H := bs_ H
 obtain ⟨t457,A3,H⟩ := H
 by_cases c4 : t457 < 0
 ·rw [if_pos c4] at H
  have c4b0 : decide (t457 < 0) = true := decide_eq_true c4
  clear c4
  obtain rfl := Option.some.inj H
  go_enter Tryz.func11,Tryz.ntmps11
  go_wp2_with (first|((with_reducible refine gate_dst (N := 2) rfl ?_);refine bx_ 2 #[.bool a0_0,.slice A0_1 l0_1.length c0_1,.slice A0_2 l0_2.length c0_2,.slice A0_3 l0_3.length c0_3] 31 ?_;intro gb456 hg w5 hbox hb;replace HB := nb_ hg hbox hb;obtain ⟨BK456,GW456,GE456,HB⟩ := HB;clear hb hbox hg;obtain ⟨⟨hcz6_0,hcz6_1,hcz6_2,hcz6_3⟩,hfz6_0,hfz6_1,hfz6_2,hfz6_3⟩ := cl4_ BK456.out)|((with_reducible refine gcal_ (f := 47) rfl ?_);refine gl_ (some 8) Tryz.func47 #[.slice A0_1 l0_1.length c0_1,.int .i64 a1] ?_;(with_reducible refine (laws_heldCopyS.calls k _ _ l0_1 a1 t457 _ ?side1 ?side2 A3.out).mono ?_);(case side1 => exact cb_ HR0_1);(case side2 => exact HC0_1.out);rintro e w' ⟨rfl,⟨nd,rfl⟩⟩;refine ⟨_,rfl,?_⟩))
  go_ret
  exact ⟨rf_,b_⟩
 ·rw [if_neg c4] at H
  have c4b0 : decide (t457 < 0) = false := decide_eq_false c4
  clear c4
  replace H := bs_ H
  obtain ⟨t458,A7,H⟩ := H
  by_cases c8 : t458 < 0
  ·rw [if_pos c8] at H
   have c8b0 : decide (t458 < 0) = true := decide_eq_true c8
   clear c8
   obtain rfl := Option.some.inj H
   go_enter Tryz.func11,Tryz.ntmps11
   go_wp2_with (first|((with_reducible refine gate_dst (N := 2) rfl ?_);refine bx_ 2 #[.bool a0_0,.slice A0_1 l0_1.length c0_1,.slice A0_2 l0_2.length c0_2,.slice A0_3 l0_3.length c0_3] 31 ?_;intro gb456 hg w9 hbox hb;replace HB := nb_ hg hbox hb;obtain ⟨BK456,GW456,GE456,HB⟩ := HB;clear hb hbox hg;obtain ⟨⟨hcz10_0,hcz10_1,hcz10_2,hcz10_3⟩,hfz10_0,hfz10_1,hfz10_2,hfz10_3⟩ := cl4_ BK456.out)|((with_reducible refine gcal_ (f := 47) rfl ?_);refine gl_ (some 8) Tryz.func47 #[.slice A0_1 l0_1.length c0_1,.int .i64 a1] ?_;(with_reducible refine (laws_heldCopyS.calls k _ _ l0_1 a1 t457 _ ?side1 ?side2 A3.out).mono ?_);(case side1 => exact cb_ HR0_1);(case side2 => exact HC0_1.out);rintro e w' ⟨rfl,⟨nd,rfl⟩⟩;refine ⟨_,rfl,?_⟩)|((with_reducible refine gcal_ (f := 48) rfl ?_);refine gl_ (some 14) Tryz.func48 #[.slice A0_2 l0_2.length c0_2,.int .i64 t457] ?_;(with_reducible refine (laws_heldRecordS.calls k _ _ l0_2 t457 t458 _ ?side1 ?side2 A7.out).mono ?_);(case side1 => exact cb_ HR0_2);(case side2 => exact HC0_2.out);rintro e w' ⟨rfl,⟨nd,rfl⟩⟩;refine ⟨_,rfl,?_⟩))
   go_ret
   exact ⟨rf_,b_⟩
  ·rw [if_neg c8] at H
   have c8b0 : decide (t458 < 0) = false := decide_eq_false c8
   clear c8
   replace H := bs_ H
   obtain ⟨t459,A11,H⟩ := H
   by_cases c12 : t459 < 0
   ·rw [if_pos c12] at H
    have c12b0 : decide (t459 < 0) = true := decide_eq_true c12
    clear c12
    obtain rfl := Option.some.inj H
    go_enter Tryz.func11,Tryz.ntmps11
    go_wp2_with (first|((with_reducible refine gate_dst (N := 2) rfl ?_);refine bx_ 2 #[.bool a0_0,.slice A0_1 l0_1.length c0_1,.slice A0_2 l0_2.length c0_2,.slice A0_3 l0_3.length c0_3] 31 ?_;intro gb456 hg w13 hbox hb;replace HB := nb_ hg hbox hb;obtain ⟨BK456,GW456,GE456,HB⟩ := HB;clear hb hbox hg;obtain ⟨⟨hcz14_0,hcz14_1,hcz14_2,hcz14_3⟩,hfz14_0,hfz14_1,hfz14_2,hfz14_3⟩ := cl4_ BK456.out)|((with_reducible refine gcal_ (f := 47) rfl ?_);refine gl_ (some 8) Tryz.func47 #[.slice A0_1 l0_1.length c0_1,.int .i64 a1] ?_;(with_reducible refine (laws_heldCopyS.calls k _ _ l0_1 a1 t457 _ ?side1 ?side2 A3.out).mono ?_);(case side1 => exact cb_ HR0_1);(case side2 => exact HC0_1.out);rintro e w' ⟨rfl,⟨nd,rfl⟩⟩;refine ⟨_,rfl,?_⟩)|((with_reducible refine gcal_ (f := 48) rfl ?_);refine gl_ (some 14) Tryz.func48 #[.slice A0_2 l0_2.length c0_2,.int .i64 t457] ?_;(with_reducible refine (laws_heldRecordS.calls k _ _ l0_2 t457 t458 _ ?side1 ?side2 A7.out).mono ?_);(case side1 => exact cb_ HR0_2);(case side2 => exact HC0_2.out);rintro e w' ⟨rfl,⟨nd,rfl⟩⟩;refine ⟨_,rfl,?_⟩)|((with_reducible refine gcal_ (f := 49) rfl ?_);refine gl_ (some 20) Tryz.func49 #[.slice A0_3 l0_3.length c0_3,.int .i64 t458] ?_;(with_reducible refine (laws_heldInt64S.calls k _ _ l0_3 t458 t459 _ ?side1 ?side2 A11.out).mono ?_);(case side1 => exact cb_ HR0_3);(case side2 => exact HC0_3.out);rintro e w' ⟨rfl,⟨nd,rfl⟩⟩;refine ⟨_,rfl,?_⟩))
    go_ret
    exact ⟨rf_,b_⟩
   ·rw [if_neg c12] at H
    have c12b0 : decide (t459 < 0) = false := decide_eq_false c12
    clear c12
    obtain rfl := Option.some.inj H
    go_enter Tryz.func11,Tryz.ntmps11
    go_wp2_with (first|((with_reducible refine gate_dst (N := 2) rfl ?_);refine bx_ 2 #[.bool a0_0,.slice A0_1 l0_1.length c0_1,.slice A0_2 l0_2.length c0_2,.slice A0_3 l0_3.length c0_3] 31 ?_;intro gb456 hg w15 hbox hb;replace HB := nb_ hg hbox hb;obtain ⟨BK456,GW456,GE456,HB⟩ := HB;clear hb hbox hg;obtain ⟨⟨hcz16_0,hcz16_1,hcz16_2,hcz16_3⟩,hfz16_0,hfz16_1,hfz16_2,hfz16_3⟩ := cl4_ BK456.out)|((with_reducible refine gcal_ (f := 47) rfl ?_);refine gl_ (some 8) Tryz.func47 #[.slice A0_1 l0_1.length c0_1,.int .i64 a1] ?_;(with_reducible refine (laws_heldCopyS.calls k _ _ l0_1 a1 t457 _ ?side1 ?side2 A3.out).mono ?_);(case side1 => exact cb_ HR0_1);(case side2 => exact HC0_1.out);rintro e w' ⟨rfl,⟨nd,rfl⟩⟩;refine ⟨_,rfl,?_⟩)|((with_reducible refine gcal_ (f := 48) rfl ?_);refine gl_ (some 14) Tryz.func48 #[.slice A0_2 l0_2.length c0_2,.int .i64 t457] ?_;(with_reducible refine (laws_heldRecordS.calls k _ _ l0_2 t457 t458 _ ?side1 ?side2 A7.out).mono ?_);(case side1 => exact cb_ HR0_2);(case side2 => exact HC0_2.out);rintro e w' ⟨rfl,⟨nd,rfl⟩⟩;refine ⟨_,rfl,?_⟩)|((with_reducible refine gcal_ (f := 49) rfl ?_);refine gl_ (some 20) Tryz.func49 #[.slice A0_3 l0_3.length c0_3,.int .i64 t458] ?_;(with_reducible refine (laws_heldInt64S.calls k _ _ l0_3 t458 t459 _ ?side1 ?side2 A11.out).mono ?_);(case side1 => exact cb_ HR0_3);(case side2 => exact HC0_3.out);rintro e w' ⟨rfl,⟨nd,rfl⟩⟩;refine ⟨_,rfl,?_⟩))
    go_ret
    exact ⟨rf_,b_⟩

end Go.Proofs.YthplaakckfhaaaaGreat.XCr
