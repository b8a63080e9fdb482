/- Proved: of each Go function here that a call comes to what the Lean function of its name tells. Written by a program of this session over the translation. No conditions beyond each theorem's own. -/
import Derived.Test.YthplaakckfhaaaaXRp0
import Derived.Test.YthplaakckfhaaaaXRp5
namespace Go.Proofs.Ythplaakckfhaaaa.XRp
open Go.RowKit Go.Proofs.Ythplaakckfhaaaa.Aid Go.Proofs.YthplaakckfhaaaaW.PrintWords Go.Proofs.YthplaakckfhaaaaW.PrintLast Go.Proofs.YthplaakckfhaaaaW.PrintMore
set_option linter.unusedVariables false
set_option linter.unusedSimpArgs false

/-! ### laws_heldRecordS: function 79 -/
def laws_heldRecordS.l0 : Nat → List (S45) → Int → Int → Option (Int)
  | 0, _, _, _ => none
  | k + 1, x0, x1, x5 => if x5 < (x0.length : Int) then (if 0 ≤ x5 then (if ((rd_T45 x0 x5).f0) = x1 then (if ((rd_T45 x0 x5).f1) = (wrap64 (x1 + 1)) then (if ((rd_T45 x0 x5).f2) = (wrap64 ((wrap64 (x1 + 1)) + 1)) then ((laws_heldSetS.f k ((rd_T45 x0 x5).f3) (wrap64 ((wrap64 ((wrap64 (x1 + 1)) + 1)) + 1))).bind fun t236 => (if t236 < 0 then (some (-1)) else (laws_heldRecordS.l0 k x0 t236 (wrap64 (x5 + 1))))) else (some (-1))) else (some (-1))) else (some (-1))) else (none)) else (some x1)
def laws_heldRecordS.f (k : Nat) (l0 : List (S45)) (a1 : Int) : Option (Int) := laws_heldRecordS.l0 k l0 a1 0

set_option maxHeartbeats 8000000 in
set_option maxRecDepth 100000 in
theorem laws_heldRecordS.calls (k : Nat) (A0 : Option Addr) (c0 : Nat) (l0 : List (S45)) (a1 : Int) (r : Int) (w : World) (hr0 : Kd.C k45 w A0 l0.length l0) (hc0 : l0.length ≤ c0) (h : laws_heldRecordS.f k l0 a1 = some r) :
    Calls Try.prog 79 #[.slice A0 l0.length c0, .int .i64 a1] w fun e w' => e = .returned (.int .i64 r) ∧ Drawn0 w w' := by
 have HR0 := Aside0.mk hr0
 have HC0 := Aside0.mk hc0
 clear hr0 hc0
 have H : (laws_heldRecordS.l0 k l0 a1 0) = some r := h
 clear h
 have H' := Aside0.mk H
 clear H
 go_enter Try.func79,Try.ntmps79
 go_wp2
 go_loopg [1,5] k (fun kq v1 v5 w' => ∃ (x1_1 : Int) (x5_1 : Int),v1 = .int .i64 x1_1 ∧ v5 = .int .i64 x5_1 ∧ Aside0 (laws_heldRecordS.l0 kq l0 x1_1 x5_1 = some r) ∧ Aside0 (kq ≤ k) ∧ Drawn0 w w')
 case atStart => exact ⟨(a1),(0),rs_,rs_,H',⟨Nat.le_refl _⟩,by repeat (first|exact Drawn0.refl _|apply Drawn0.step)⟩
 case round =>
  clear H'
  try clear p2
  obtain ⟨x1_1,x5_1,rfl,rfl,HA,HK1,⟨m1,rfl⟩⟩ := hrel
  cases gk with
    | zero => exact absurd HA.out (by simp [laws_heldRecordS.l0])
    | succ k1 =>
   have H := HA.out
   clear HA
   simp only [laws_heldRecordS.l0] at H
   by_cases c3 : x5_1 < (l0.length : Int)
   ·rw [if_pos c3] at H
    have c3b0 : decide (x5_1 < (l0.length : Int)) = true := decide_eq_true c3
    clear c3
    by_cases c4 : 0 ≤ x5_1
    ·rw [if_pos c4] at H
     have c4b0 : decide (0 ≤ x5_1) = true := decide_eq_true c4
     clear c4
     by_cases c5 : ((rd_T45 l0 x5_1).f0) = x1_1
     ·rw [if_pos c5] at H
      have c5b0 : (((rd_T45 l0 x5_1).f0) == x1_1) = true := beq_iff_eq.mpr c5
      have c5b1 : (((rd_T45 l0 x5_1).f0) != x1_1) = false := bne_eq_false_iff_eq.mpr c5
      clear c5
      by_cases c6 : ((rd_T45 l0 x5_1).f1) = (wrap64 (x1_1 + 1))
      ·rw [if_pos c6] at H
       have c6b0 : (((rd_T45 l0 x5_1).f1) == (wrap64 (x1_1 + 1))) = true := beq_iff_eq.mpr c6
       have c6b1 : (((rd_T45 l0 x5_1).f1) != (wrap64 (x1_1 + 1))) = false := bne_eq_false_iff_eq.mpr c6
       clear c6
       by_cases c7 : ((rd_T45 l0 x5_1).f2) = (wrap64 ((wrap64 (x1_1 + 1)) + 1))
       ·rw [if_pos c7] at H
        have c7b0 : (((rd_T45 l0 x5_1).f2) == (wrap64 ((wrap64 (x1_1 + 1)) + 1))) = true := beq_iff_eq.mpr c7
        have c7b1 : (((rd_T45 l0 x5_1).f2) != (wrap64 ((wrap64 (x1_1 + 1)) + 1))) = false := bne_eq_false_iff_eq.mpr c7
        clear c7
        replace H := bs_ H
        obtain ⟨t236,A8,H⟩ := H
        by_cases c9 : t236 < 0
        ·rw [if_pos c9] at H
         have c9b0 : decide (t236 < 0) = true := decide_eq_true c9
         clear c9
         obtain rfl := Option.some.inj H
         have p232 : 0 ≤ (x5_1 : Int) := od_
         have q232 : x5_1 < (l0.length : Int) := od_
         obtain ⟨ad232,A232_3,c232_3,e232,hx232_0,hx232_1,hx232_2,hx232_3,hl232_3,hi232_3⟩ := at_T45 HR0.out x5_1 p232 q232
         cases e232
         have HR232_3 := Aside0.mk hi232_3
         have HC232_3 := Aside0.mk hl232_3
         clear hi232_3 hl232_3
         replace p232 := eq_true p232
         replace q232 := eq_true q232
         have p233 : 0 ≤ (x5_1 : Int) := od_
         have q233 : x5_1 < (l0.length : Int) := od_
         obtain ⟨ad233,A233_3,c233_3,e233,hx233_0,hx233_1,hx233_2,hx233_3,hl233_3,hi233_3⟩ := at_T45 HR0.out x5_1 p233 q233
         obtain rfl : ad232 = ad233 := (by injection e233)
         have HR233_3 := Aside0.mk hi233_3
         have HC233_3 := Aside0.mk hl233_3
         clear hi233_3 hl233_3
         replace p233 := eq_true p233
         replace q233 := eq_true q233
         have ea_ := Option.some.inj (hx232_3.symm.trans hx233_3)
         injection ea_ with ea_ en_ ec_
         subst ea_
         subst ec_
         clear en_
         have p234 : 0 ≤ (x5_1 : Int) := od_
         have q234 : x5_1 < (l0.length : Int) := od_
         obtain ⟨ad234,A234_3,c234_3,e234,hx234_0,hx234_1,hx234_2,hx234_3,hl234_3,hi234_3⟩ := at_T45 HR0.out x5_1 p234 q234
         obtain rfl : ad232 = ad234 := (by injection e234)
         have HR234_3 := Aside0.mk hi234_3
         have HC234_3 := Aside0.mk hl234_3
         clear hi234_3 hl234_3
         replace p234 := eq_true p234
         replace q234 := eq_true q234
         have ea_ := Option.some.inj (hx232_3.symm.trans hx234_3)
         injection ea_ with ea_ en_ ec_
         subst ea_
         subst ec_
         clear en_
         have p235 : 0 ≤ (x5_1 : Int) := od_
         have q235 : x5_1 < (l0.length : Int) := od_
         obtain ⟨ad235,A235_3,c235_3,e235,hx235_0,hx235_1,hx235_2,hx235_3,hl235_3,hi235_3⟩ := at_T45 HR0.out x5_1 p235 q235
         obtain rfl : ad232 = ad235 := (by injection e235)
         have HR235_3 := Aside0.mk hi235_3
         have HC235_3 := Aside0.mk hl235_3
         clear hi235_3 hl235_3
         replace p235 := eq_true p235
         replace q235 := eq_true q235
         have ea_ := Option.some.inj (hx232_3.symm.trans hx235_3)
         injection ea_ with ea_ en_ ec_
         subst ea_
         subst ec_
         clear en_
         go_wp2_with (first|((with_reducible refine gcal_ (f := 71) rfl ?_);refine gl_ (some 45) Try.func71 #[.slice A232_3 ((rd_T45 l0 x5_1).f3).length c232_3,.int .i64 (wrap64 ((wrap64 ((wrap64 (x1_1 + 1)) + 1)) + 1))] ?_;(with_reducible refine (laws_heldSetS.calls k1 _ _ ((rd_T45 l0 x5_1).f3) (wrap64 ((wrap64 ((wrap64 (x1_1 + 1)) + 1)) + 1)) t236 _ ?side1 ?side2 A8.out).mono ?_);(case side1 => repeat (first|exact HR235_3.out|(with_reducible refine Kd.C_alloc ?_ _)|(with_reducible refine Kd.C_drewN ?_ _)|(with_reducible refine Kd.C_drew ?_)));(case side2 => exact HC235_3.out);rintro e w' ⟨rfl,⟨nd,rfl⟩⟩;refine ⟨_,rfl,?_⟩))
         go_ret
         exact ⟨rs_,by repeat (first|exact Drawn0.refl _|apply Drawn0.step)⟩
        ·rw [if_neg c9] at H
         have c9b0 : decide (t236 < 0) = false := decide_eq_false c9
         clear c9
         have H' := Aside0.mk H
         clear H
         have p232 : 0 ≤ (x5_1 : Int) := od_
         have q232 : x5_1 < (l0.length : Int) := od_
         obtain ⟨ad232,A232_3,c232_3,e232,hx232_0,hx232_1,hx232_2,hx232_3,hl232_3,hi232_3⟩ := at_T45 HR0.out x5_1 p232 q232
         cases e232
         have HR232_3 := Aside0.mk hi232_3
         have HC232_3 := Aside0.mk hl232_3
         clear hi232_3 hl232_3
         replace p232 := eq_true p232
         replace q232 := eq_true q232
         have p233 : 0 ≤ (x5_1 : Int) := od_
         have q233 : x5_1 < (l0.length : Int) := od_
         obtain ⟨ad233,A233_3,c233_3,e233,hx233_0,hx233_1,hx233_2,hx233_3,hl233_3,hi233_3⟩ := at_T45 HR0.out x5_1 p233 q233
         obtain rfl : ad232 = ad233 := (by injection e233)
         have HR233_3 := Aside0.mk hi233_3
         have HC233_3 := Aside0.mk hl233_3
         clear hi233_3 hl233_3
         replace p233 := eq_true p233
         replace q233 := eq_true q233
         have ea_ := Option.some.inj (hx232_3.symm.trans hx233_3)
         injection ea_ with ea_ en_ ec_
         subst ea_
         subst ec_
         clear en_
         have p234 : 0 ≤ (x5_1 : Int) := od_
         have q234 : x5_1 < (l0.length : Int) := od_
         obtain ⟨ad234,A234_3,c234_3,e234,hx234_0,hx234_1,hx234_2,hx234_3,hl234_3,hi234_3⟩ := at_T45 HR0.out x5_1 p234 q234
         obtain rfl : ad232 = ad234 := (by injection e234)
         have HR234_3 := Aside0.mk hi234_3
         have HC234_3 := Aside0.mk hl234_3
         clear hi234_3 hl234_3
         replace p234 := eq_true p234
         replace q234 := eq_true q234
         have ea_ := Option.some.inj (hx232_3.symm.trans hx234_3)
         injection ea_ with ea_ en_ ec_
         subst ea_
         subst ec_
         clear en_
         have p235 : 0 ≤ (x5_1 : Int) := od_
         have q235 : x5_1 < (l0.length : Int) := od_
         obtain ⟨ad235,A235_3,c235_3,e235,hx235_0,hx235_1,hx235_2,hx235_3,hl235_3,hi235_3⟩ := at_T45 HR0.out x5_1 p235 q235
         obtain rfl : ad232 = ad235 := (by injection e235)
         have HR235_3 := Aside0.mk hi235_3
         have HC235_3 := Aside0.mk hl235_3
         clear hi235_3 hl235_3
         replace p235 := eq_true p235
         replace q235 := eq_true q235
         have ea_ := Option.some.inj (hx232_3.symm.trans hx235_3)
         injection ea_ with ea_ en_ ec_
         subst ea_
         subst ec_
         clear en_
         go_wp2_with (first|((with_reducible refine gcal_ (f := 71) rfl ?_);refine gl_ (some 45) Try.func71 #[.slice A232_3 ((rd_T45 l0 x5_1).f3).length c232_3,.int .i64 (wrap64 ((wrap64 ((wrap64 (x1_1 + 1)) + 1)) + 1))] ?_;(with_reducible refine (laws_heldSetS.calls k1 _ _ ((rd_T45 l0 x5_1).f3) (wrap64 ((wrap64 ((wrap64 (x1_1 + 1)) + 1)) + 1)) t236 _ ?side1 ?side2 A8.out).mono ?_);(case side1 => repeat (first|exact HR235_3.out|(with_reducible refine Kd.C_alloc ?_ _)|(with_reducible refine Kd.C_drewN ?_ _)|(with_reducible refine Kd.C_drew ?_)));(case side2 => exact HC235_3.out);rintro e w' ⟨rfl,⟨nd,rfl⟩⟩;refine ⟨_,rfl,?_⟩))
         go_roundg k1
         case measure => have := HK1.out;omega
         case rel => exact ⟨(t236),(wrap64 (x5_1 + 1)),rs_,rs_,H',⟨by have := HK1.out;omega⟩,by repeat (first|exact Drawn0.refl _|apply Drawn0.step)⟩
       ·rw [if_neg c7] at H
        have c7b0 : (((rd_T45 l0 x5_1).f2) == (wrap64 ((wrap64 (x1_1 + 1)) + 1))) = false := beq_eq_false_iff_ne.mpr c7
        have c7b1 : (((rd_T45 l0 x5_1).f2) != (wrap64 ((wrap64 (x1_1 + 1)) + 1))) = true := bne_iff_ne.mpr c7
        obtain rfl := Option.some.inj H
        have p232 : 0 ≤ (x5_1 : Int) := od_
        have q232 : x5_1 < (l0.length : Int) := od_
        obtain ⟨ad232,A232_3,c232_3,e232,hx232_0,hx232_1,hx232_2,hx232_3,hl232_3,hi232_3⟩ := at_T45 HR0.out x5_1 p232 q232
        cases e232
        have HR232_3 := Aside0.mk hi232_3
        have HC232_3 := Aside0.mk hl232_3
        clear hi232_3 hl232_3
        replace p232 := eq_true p232
        replace q232 := eq_true q232
        have p233 : 0 ≤ (x5_1 : Int) := od_
        have q233 : x5_1 < (l0.length : Int) := od_
        obtain ⟨ad233,A233_3,c233_3,e233,hx233_0,hx233_1,hx233_2,hx233_3,hl233_3,hi233_3⟩ := at_T45 HR0.out x5_1 p233 q233
        obtain rfl : ad232 = ad233 := (by injection e233)
        have HR233_3 := Aside0.mk hi233_3
        have HC233_3 := Aside0.mk hl233_3
        clear hi233_3 hl233_3
        replace p233 := eq_true p233
        replace q233 := eq_true q233
        have ea_ := Option.some.inj (hx232_3.symm.trans hx233_3)
        injection ea_ with ea_ en_ ec_
        subst ea_
        subst ec_
        clear en_
        have p234 : 0 ≤ (x5_1 : Int) := od_
        have q234 : x5_1 < (l0.length : Int) := od_
        obtain ⟨ad234,A234_3,c234_3,e234,hx234_0,hx234_1,hx234_2,hx234_3,hl234_3,hi234_3⟩ := at_T45 HR0.out x5_1 p234 q234
        obtain rfl : ad232 = ad234 := (by injection e234)
        have HR234_3 := Aside0.mk hi234_3
        have HC234_3 := Aside0.mk hl234_3
        clear hi234_3 hl234_3
        replace p234 := eq_true p234
        replace q234 := eq_true q234
        have ea_ := Option.some.inj (hx232_3.symm.trans hx234_3)
        injection ea_ with ea_ en_ ec_
        subst ea_
        subst ec_
        clear en_
        go_wp2
        go_ret
        exact ⟨rs_,by repeat (first|exact Drawn0.refl _|apply Drawn0.step)⟩
      ·rw [if_neg c6] at H
       have c6b0 : (((rd_T45 l0 x5_1).f1) == (wrap64 (x1_1 + 1))) = false := beq_eq_false_iff_ne.mpr c6
       have c6b1 : (((rd_T45 l0 x5_1).f1) != (wrap64 (x1_1 + 1))) = true := bne_iff_ne.mpr c6
       obtain rfl := Option.some.inj H
       have p232 : 0 ≤ (x5_1 : Int) := od_
       have q232 : x5_1 < (l0.length : Int) := od_
       obtain ⟨ad232,A232_3,c232_3,e232,hx232_0,hx232_1,hx232_2,hx232_3,hl232_3,hi232_3⟩ := at_T45 HR0.out x5_1 p232 q232
       cases e232
       have HR232_3 := Aside0.mk hi232_3
       have HC232_3 := Aside0.mk hl232_3
       clear hi232_3 hl232_3
       replace p232 := eq_true p232
       replace q232 := eq_true q232
       have p233 : 0 ≤ (x5_1 : Int) := od_
       have q233 : x5_1 < (l0.length : Int) := od_
       obtain ⟨ad233,A233_3,c233_3,e233,hx233_0,hx233_1,hx233_2,hx233_3,hl233_3,hi233_3⟩ := at_T45 HR0.out x5_1 p233 q233
       obtain rfl : ad232 = ad233 := (by injection e233)
       have HR233_3 := Aside0.mk hi233_3
       have HC233_3 := Aside0.mk hl233_3
       clear hi233_3 hl233_3
       replace p233 := eq_true p233
       replace q233 := eq_true q233
       have ea_ := Option.some.inj (hx232_3.symm.trans hx233_3)
       injection ea_ with ea_ en_ ec_
       subst ea_
       subst ec_
       clear en_
       go_wp2
       go_ret
       exact ⟨rs_,by repeat (first|exact Drawn0.refl _|apply Drawn0.step)⟩
     ·rw [if_neg c5] at H
      have c5b0 : (((rd_T45 l0 x5_1).f0) == x1_1) = false := beq_eq_false_iff_ne.mpr c5
      have c5b1 : (((rd_T45 l0 x5_1).f0) != x1_1) = true := bne_iff_ne.mpr c5
      obtain rfl := Option.some.inj H
      have p232 : 0 ≤ (x5_1 : Int) := od_
      have q232 : x5_1 < (l0.length : Int) := od_
      obtain ⟨ad232,A232_3,c232_3,e232,hx232_0,hx232_1,hx232_2,hx232_3,hl232_3,hi232_3⟩ := at_T45 HR0.out x5_1 p232 q232
      cases e232
      have HR232_3 := Aside0.mk hi232_3
      have HC232_3 := Aside0.mk hl232_3
      clear hi232_3 hl232_3
      replace p232 := eq_true p232
      replace q232 := eq_true q232
      go_wp2
      go_ret
      exact ⟨rs_,by repeat (first|exact Drawn0.refl _|apply Drawn0.step)⟩
    ·rw [if_neg c4] at H
     exact absurd H (by simp)
   ·rw [if_neg c3] at H
    have c3b0 : decide (x5_1 < (l0.length : Int)) = false := decide_eq_false c3
    clear c3
    obtain rfl := Option.some.inj H
    go_wp2
    go_ret
    exact ⟨rs_,by repeat (first|exact Drawn0.refl _|apply Drawn0.step)⟩

/-! ### laws_heldInt64S: function 80 -/
def laws_heldInt64S.l0 : Nat → List Int → Int → Int → Option (Int)
  | 0, _, _, _ => none
  | k + 1, x0, x1, x5 => if x5 < (x0.length : Int) then (if 0 ≤ x5 then (if (rd x0 x5) = x1 then (laws_heldInt64S.l0 k x0 (wrap64 (x1 + 1)) (wrap64 (x5 + 1))) else (some (-1))) else (none)) else (some x1)
def laws_heldInt64S.f (k : Nat) (l0 : List Int) (a1 : Int) : Option (Int) := laws_heldInt64S.l0 k l0 a1 0

set_option maxHeartbeats 8000000 in
set_option maxRecDepth 100000 in
theorem laws_heldInt64S.calls (k : Nat) (A0 : Option Addr) (c0 : Nat) (l0 : List Int) (a1 : Int) (r : Int) (w : World) (hr0 : Kd.C (Kd.int .i64) w A0 l0.length l0) (hc0 : l0.length ≤ c0) (h : laws_heldInt64S.f k l0 a1 = some r) :
    Calls Try.prog 80 #[.slice A0 l0.length c0, .int .i64 a1] w fun e w' => e = .returned (.int .i64 r) ∧ Drawn0 w w' := by
 have HR0 := Aside0.mk hr0
 have HC0 := Aside0.mk hc0
 clear hr0 hc0
 have H : (laws_heldInt64S.l0 k l0 a1 0) = some r := h
 clear h
 have H' := Aside0.mk H
 clear H
 go_enter Try.func80,Try.ntmps80
 go_wp2
 go_loopg [1,5] k (fun kq v1 v5 w' => ∃ (x1_1 : Int) (x5_1 : Int),v1 = .int .i64 x1_1 ∧ v5 = .int .i64 x5_1 ∧ Aside0 (laws_heldInt64S.l0 kq l0 x1_1 x5_1 = some r) ∧ Aside0 (kq ≤ k) ∧ Drawn0 w w')
 case atStart => exact ⟨(a1),(0),rs_,rs_,H',⟨Nat.le_refl _⟩,by repeat (first|exact Drawn0.refl _|apply Drawn0.step)⟩
 case round =>
  clear H'
  try clear p2
  obtain ⟨x1_1,x5_1,rfl,rfl,HA,HK1,⟨m1,rfl⟩⟩ := hrel
  cases gk with
    | zero => exact absurd HA.out (by simp [laws_heldInt64S.l0])
    | succ k1 =>
   have H := HA.out
   clear HA
   simp only [laws_heldInt64S.l0] at H
   by_cases c3 : x5_1 < (l0.length : Int)
   ·rw [if_pos c3] at H
    have c3b0 : decide (x5_1 < (l0.length : Int)) = true := decide_eq_true c3
    clear c3
    by_cases c4 : 0 ≤ x5_1
    ·rw [if_pos c4] at H
     have c4b0 : decide (0 ≤ x5_1) = true := decide_eq_true c4
     clear c4
     by_cases c5 : (rd l0 x5_1) = x1_1
     ·rw [if_pos c5] at H
      have c5b0 : ((rd l0 x5_1) == x1_1) = true := beq_iff_eq.mpr c5
      have c5b1 : ((rd l0 x5_1) != x1_1) = false := bne_eq_false_iff_eq.mpr c5
      clear c5
      have H' := Aside0.mk H
      clear H
      have p237 : 0 ≤ (x5_1 : Int) := od_
      have q237 : x5_1 < (l0.length : Int) := od_
      obtain ⟨ad237,e237,hx237_0⟩ := Kd.at_int HR0.out x5_1 p237 q237
      cases e237
      replace p237 := eq_true p237
      replace q237 := eq_true q237
      go_wp2
      go_roundg k1
      case measure => have := HK1.out;omega
      case rel => exact ⟨(wrap64 (x1_1 + 1)),(wrap64 (x5_1 + 1)),rs_,rs_,H',⟨by have := HK1.out;omega⟩,by repeat (first|exact Drawn0.refl _|apply Drawn0.step)⟩
     ·rw [if_neg c5] at H
      have c5b0 : ((rd l0 x5_1) == x1_1) = false := beq_eq_false_iff_ne.mpr c5
      have c5b1 : ((rd l0 x5_1) != x1_1) = true := bne_iff_ne.mpr c5
      obtain rfl := Option.some.inj H
      have p237 : 0 ≤ (x5_1 : Int) := od_
      have q237 : x5_1 < (l0.length : Int) := od_
      obtain ⟨ad237,e237,hx237_0⟩ := Kd.at_int HR0.out x5_1 p237 q237
      cases e237
      replace p237 := eq_true p237
      replace q237 := eq_true q237
      go_wp2
      go_ret
      exact ⟨rs_,by repeat (first|exact Drawn0.refl _|apply Drawn0.step)⟩
    ·rw [if_neg c4] at H
     exact absurd H (by simp)
   ·rw [if_neg c3] at H
    have c3b0 : decide (x5_1 < (l0.length : Int)) = false := decide_eq_false c3
    clear c3
    obtain rfl := Option.some.inj H
    go_wp2
    go_ret
    exact ⟨rs_,by repeat (first|exact Drawn0.refl _|apply Drawn0.step)⟩

/-! ### laws_heldMachine: function 30 -/
def laws_heldMachine.f (k : Nat) (a0_0 : Bool) (l0_1 : List (S79)) (l0_2 : List (S45)) (l0_3 : List Int) (a1 : Int) : Option (Int) := (laws_heldCopyS.f k l0_1 a1).bind fun t239 => (if t239 < 0 then (some (-1)) else ((laws_heldRecordS.f k l0_2 t239).bind fun t240 => (if t240 < 0 then (some (-1)) else ((laws_heldInt64S.f k l0_3 t240).bind fun t241 => (if t241 < 0 then (some (-1)) else (some t241))))))

set_option maxHeartbeats 8000000 in
set_option maxRecDepth 100000 in
theorem laws_heldMachine.calls (k : Nat) (a0_0 : Bool) (A0_1 : Option Addr) (c0_1 : Nat) (l0_1 : List (S79)) (A0_2 : Option Addr) (c0_2 : Nat) (l0_2 : List (S45)) (A0_3 : Option Addr) (c0_3 : Nat) (l0_3 : List Int) (a1 : Int) (r : Int) (w : World) (hr0_1 : Kd.C k79 w A0_1 l0_1.length l0_1) (hc0_1 : l0_1.length ≤ c0_1) (hr0_2 : Kd.C k45 w A0_2 l0_2.length l0_2) (hc0_2 : l0_2.length ≤ c0_2) (hr0_3 : Kd.C (Kd.int .i64) w A0_3 l0_3.length l0_3) (hc0_3 : l0_3.length ≤ c0_3) (h : laws_heldMachine.f k a0_0 l0_1 l0_2 l0_3 a1 = some r) :
    Calls Try.prog 30 #[.agg #[.bool a0_0, .slice A0_1 l0_1.length c0_1, .slice A0_2 l0_2.length c0_2, .slice A0_3 l0_3.length c0_3], .int .i64 a1] w fun e w' => e = .returned (.int .i64 r) ∧ Below w.heap.size w w' := by
 have hu32 := Try.underlying32
 have HR0_1 := Aside0.mk hr0_1
 have HC0_1 := Aside0.mk hc0_1
 clear hr0_1 hc0_1
 have HR0_2 := Aside0.mk hr0_2
 have HC0_2 := Aside0.mk hc0_2
 clear hr0_2 hc0_2
 have HR0_3 := Aside0.mk hr0_3
 have HC0_3 := Aside0.mk hc0_3
 clear hr0_3 hc0_3
 have HB := Aside0.mk (Below.refl w.heap.size w)
 have H : ((laws_heldCopyS.f k l0_1 a1).bind fun t239 => (if t239 < 0 then (some (-1)) else ((laws_heldRecordS.f k l0_2 t239).bind fun t240 => (if t240 < 0 then (some (-1)) else ((laws_heldInt64S.f k l0_3 t240).bind fun t241 => (if t241 < 0 then (some (-1)) else (some t241))))))) = some r := h
 clear h
 replace H := bs_ H
 obtain ⟨t239,A3,H⟩ := H
 by_cases c4 : t239 < 0
 ·rw [if_pos c4] at H
  have c4b0 : decide (t239 < 0) = true := decide_eq_true c4
  clear c4
  obtain rfl := Option.some.inj H
  go_enter Try.func30,Try.ntmps30
  go_wp2_with (first|((with_reducible refine gate_dst (N := 2) rfl ?_);refine bx_ 2 #[.bool a0_0,.slice A0_1 l0_1.length c0_1,.slice A0_2 l0_2.length c0_2,.slice A0_3 l0_3.length c0_3] 32 ?_;intro gb238 hg w5 hbox hb;replace HB := nb_ hg hbox hb;obtain ⟨BK238,GW238,GE238,HB⟩ := HB;clear hb hbox hg;obtain ⟨⟨hcz6_0,hcz6_1,hcz6_2,hcz6_3⟩,hfz6_0,hfz6_1,hfz6_2,hfz6_3⟩ := cl4_ BK238.out)|((with_reducible refine gcal_ (f := 78) rfl ?_);refine gl_ (some 8) Try.func78 #[.slice A0_1 l0_1.length c0_1,.int .i64 a1] ?_;(with_reducible refine (laws_heldCopyS.calls k _ _ l0_1 a1 t239 _ ?side1 ?side2 A3.out).mono ?_);(case side1 => exact cb_ HR0_1);(case side2 => exact HC0_1.out);rintro e w' ⟨rfl,⟨nd,rfl⟩⟩;refine ⟨_,rfl,?_⟩))
  go_ret
  exact ⟨rf_,b_⟩
 ·rw [if_neg c4] at H
  have c4b0 : decide (t239 < 0) = false := decide_eq_false c4
  clear c4
  replace H := bs_ H
  obtain ⟨t240,A7,H⟩ := H
  by_cases c8 : t240 < 0
  ·rw [if_pos c8] at H
   have c8b0 : decide (t240 < 0) = true := decide_eq_true c8
   clear c8
   obtain rfl := Option.some.inj H
   go_enter Try.func30,Try.ntmps30
   go_wp2_with (first|((with_reducible refine gate_dst (N := 2) rfl ?_);refine bx_ 2 #[.bool a0_0,.slice A0_1 l0_1.length c0_1,.slice A0_2 l0_2.length c0_2,.slice A0_3 l0_3.length c0_3] 32 ?_;intro gb238 hg w9 hbox hb;replace HB := nb_ hg hbox hb;obtain ⟨BK238,GW238,GE238,HB⟩ := HB;clear hb hbox hg;obtain ⟨⟨hcz10_0,hcz10_1,hcz10_2,hcz10_3⟩,hfz10_0,hfz10_1,hfz10_2,hfz10_3⟩ := cl4_ BK238.out)|((with_reducible refine gcal_ (f := 78) rfl ?_);refine gl_ (some 8) Try.func78 #[.slice A0_1 l0_1.length c0_1,.int .i64 a1] ?_;(with_reducible refine (laws_heldCopyS.calls k _ _ l0_1 a1 t239 _ ?side1 ?side2 A3.out).mono ?_);(case side1 => exact cb_ HR0_1);(case side2 => exact HC0_1.out);rintro e w' ⟨rfl,⟨nd,rfl⟩⟩;refine ⟨_,rfl,?_⟩)|((with_reducible refine gcal_ (f := 79) rfl ?_);refine gl_ (some 14) Try.func79 #[.slice A0_2 l0_2.length c0_2,.int .i64 t239] ?_;(with_reducible refine (laws_heldRecordS.calls k _ _ l0_2 t239 t240 _ ?side1 ?side2 A7.out).mono ?_);(case side1 => exact cb_ HR0_2);(case side2 => exact HC0_2.out);rintro e w' ⟨rfl,⟨nd,rfl⟩⟩;refine ⟨_,rfl,?_⟩))
   go_ret
   exact ⟨rf_,b_⟩
  ·rw [if_neg c8] at H
   have c8b0 : decide (t240 < 0) = false := decide_eq_false c8
   clear c8
   replace H := bs_ H
   obtain ⟨t241,A11,H⟩ := H
   by_cases c12 : t241 < 0
   ·rw [if_pos c12] at H
    have c12b0 : decide (t241 < 0) = true := decide_eq_true c12
    clear c12
    obtain rfl := Option.some.inj H
    go_enter Try.func30,Try.ntmps30
    go_wp2_with (first|((with_reducible refine gate_dst (N := 2) rfl ?_);refine bx_ 2 #[.bool a0_0,.slice A0_1 l0_1.length c0_1,.slice A0_2 l0_2.length c0_2,.slice A0_3 l0_3.length c0_3] 32 ?_;intro gb238 hg w13 hbox hb;replace HB := nb_ hg hbox hb;obtain ⟨BK238,GW238,GE238,HB⟩ := HB;clear hb hbox hg;obtain ⟨⟨hcz14_0,hcz14_1,hcz14_2,hcz14_3⟩,hfz14_0,hfz14_1,hfz14_2,hfz14_3⟩ := cl4_ BK238.out)|((with_reducible refine gcal_ (f := 78) rfl ?_);refine gl_ (some 8) Try.func78 #[.slice A0_1 l0_1.length c0_1,.int .i64 a1] ?_;(with_reducible refine (laws_heldCopyS.calls k _ _ l0_1 a1 t239 _ ?side1 ?side2 A3.out).mono ?_);(case side1 => exact cb_ HR0_1);(case side2 => exact HC0_1.out);rintro e w' ⟨rfl,⟨nd,rfl⟩⟩;refine ⟨_,rfl,?_⟩)|((with_reducible refine gcal_ (f := 79) rfl ?_);refine gl_ (some 14) Try.func79 #[.slice A0_2 l0_2.length c0_2,.int .i64 t239] ?_;(with_reducible refine (laws_heldRecordS.calls k _ _ l0_2 t239 t240 _ ?side1 ?side2 A7.out).mono ?_);(case side1 => exact cb_ HR0_2);(case side2 => exact HC0_2.out);rintro e w' ⟨rfl,⟨nd,rfl⟩⟩;refine ⟨_,rfl,?_⟩)|((with_reducible refine gcal_ (f := 80) rfl ?_);refine gl_ (some 20) Try.func80 #[.slice A0_3 l0_3.length c0_3,.int .i64 t240] ?_;(with_reducible refine (laws_heldInt64S.calls k _ _ l0_3 t240 t241 _ ?side1 ?side2 A11.out).mono ?_);(case side1 => exact cb_ HR0_3);(case side2 => exact HC0_3.out);rintro e w' ⟨rfl,⟨nd,rfl⟩⟩;refine ⟨_,rfl,?_⟩))
    go_ret
    exact ⟨rf_,b_⟩
   ·rw [if_neg c12] at H
    have c12b0 : decide (t241 < 0) = false := decide_eq_false c12
    clear c12
    obtain rfl := Option.some.inj H
    go_enter Try.func30,Try.ntmps30
    go_wp2_with (first|((with_reducible refine gate_dst (N := 2) rfl ?_);refine bx_ 2 #[.bool a0_0,.slice A0_1 l0_1.length c0_1,.slice A0_2 l0_2.length c0_2,.slice A0_3 l0_3.length c0_3] 32 ?_;intro gb238 hg w15 hbox hb;replace HB := nb_ hg hbox hb;obtain ⟨BK238,GW238,GE238,HB⟩ := HB;clear hb hbox hg;obtain ⟨⟨hcz16_0,hcz16_1,hcz16_2,hcz16_3⟩,hfz16_0,hfz16_1,hfz16_2,hfz16_3⟩ := cl4_ BK238.out)|((with_reducible refine gcal_ (f := 78) rfl ?_);refine gl_ (some 8) Try.func78 #[.slice A0_1 l0_1.length c0_1,.int .i64 a1] ?_;(with_reducible refine (laws_heldCopyS.calls k _ _ l0_1 a1 t239 _ ?side1 ?side2 A3.out).mono ?_);(case side1 => exact cb_ HR0_1);(case side2 => exact HC0_1.out);rintro e w' ⟨rfl,⟨nd,rfl⟩⟩;refine ⟨_,rfl,?_⟩)|((with_reducible refine gcal_ (f := 79) rfl ?_);refine gl_ (some 14) Try.func79 #[.slice A0_2 l0_2.length c0_2,.int .i64 t239] ?_;(with_reducible refine (laws_heldRecordS.calls k _ _ l0_2 t239 t240 _ ?side1 ?side2 A7.out).mono ?_);(case side1 => exact cb_ HR0_2);(case side2 => exact HC0_2.out);rintro e w' ⟨rfl,⟨nd,rfl⟩⟩;refine ⟨_,rfl,?_⟩)|((with_reducible refine gcal_ (f := 80) rfl ?_);refine gl_ (some 20) Try.func80 #[.slice A0_3 l0_3.length c0_3,.int .i64 t240] ?_;(with_reducible refine (laws_heldInt64S.calls k _ _ l0_3 t240 t241 _ ?side1 ?side2 A11.out).mono ?_);(case side1 => exact cb_ HR0_3);(case side2 => exact HC0_3.out);rintro e w' ⟨rfl,⟨nd,rfl⟩⟩;refine ⟨_,rfl,?_⟩))
    go_ret
    exact ⟨rf_,b_⟩

/-! ### spec_l1In: function 102 -/
def spec_l1In.f (a0 : Int) (a1 : Int) (a2 : Int) : Option (Bool) := if a0 ≥ a1 then (some (decide (a0 ≤ a2))) else (some false)
set_option maxHeartbeats 8000000 in
set_option maxRecDepth 100000 in
theorem spec_l1In.calls (a0 : Int) (a1 : Int) (a2 : Int) (r : Bool) (w : World) (h : spec_l1In.f a0 a1 a2 = some r) :
    Calls Try.prog 102 #[.int .i64 a0, .int .i64 a1, .int .i64 a2] w fun e w' => e = .returned (.bool r) ∧ Drawn0 w w' := by
 have H : (if a0 ≥ a1 then (some (decide (a0 ≤ a2))) else (some false)) = some r := h
 clear h
 by_cases c4 : a0 ≥ a1
 ·rw [if_pos c4] at H
  have c4b0 : decide (a1 ≤ a0) = true := decide_eq_true c4
  clear c4
  obtain rfl := Option.some.inj H
  go_enter Try.func102,Try.ntmps102
  go_wp2
  go_ret
  exact ⟨rs_,by repeat (first|exact Drawn0.refl _|apply Drawn0.step)⟩
 ·rw [if_neg c4] at H
  have c4b0 : decide (a1 ≤ a0) = false := decide_eq_false c4
  clear c4
  obtain rfl := Option.some.inj H
  go_enter Try.func102,Try.ntmps102
  go_wp2
  go_ret
  exact ⟨rs_,by repeat (first|exact Drawn0.refl _|apply Drawn0.step)⟩

/-! ### spec_l1Id: function 95 -/
def spec_l1Id.f (a0 : Int) : Option (Bool) := (spec_l1In.f a0 1 1000000).bind fun t242 => (some t242)
set_option maxHeartbeats 8000000 in
set_option maxRecDepth 100000 in
theorem spec_l1Id.calls (a0 : Int) (r : Bool) (w : World) (h : spec_l1Id.f a0 = some r) :
    Calls Try.prog 95 #[.int .i64 a0] w fun e w' => e = .returned (.bool r) ∧ Drawn0 w w' := by
 have H : ((spec_l1In.f a0 1 1000000).bind fun t242 => (some t242)) = some r := h
 clear h
 replace H := bs_ H
 obtain ⟨t242,A2,H⟩ := H
 obtain rfl := Option.some.inj H
 go_enter Try.func95,Try.ntmps95
 go_wp2_with (first|((with_reducible refine gcal_ (f := 102) rfl ?_);refine gl_ (some 4) Try.func102 #[.int .i64 a0,.int .i64 1,.int .i64 1000000] ?_;(with_reducible refine (spec_l1In.calls a0 1 1000000 t242 _ A2.out).mono ?_);rintro e w' ⟨rfl,⟨nd,rfl⟩⟩;refine ⟨_,rfl,?_⟩))
 go_ret
 exact ⟨rs_,by repeat (first|exact Drawn0.refl _|apply Drawn0.step)⟩

end Go.Proofs.Ythplaakckfhaaaa.XRp
