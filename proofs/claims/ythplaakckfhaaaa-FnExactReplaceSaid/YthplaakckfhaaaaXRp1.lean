/- Proved: of each Go function here that a call comes to what the Lean function of its name tells. Written by a program of this session over the translation. No conditions beyond each theorem's own. -/
import Derived.Test.YthplaakckfhaaaaXRp0
namespace Go.Proofs.Ythplaakckfhaaaa.XRp
open Go.RowKit Go.Proofs.Ythplaakckfhaaaa.Aid Go.Proofs.YthplaakckfhaaaaW.PrintWords Go.Proofs.YthplaakckfhaaaaW.PrintLast Go.Proofs.YthplaakckfhaaaaW.PrintMore
set_option linter.unusedVariables false
set_option linter.unusedSimpArgs false

/-! ### laws_szCellS: function 33 -/
def laws_szCellS.f (l0 : List (S110)) (a1 : Int) : Option (Int) := if (wrap64 (a1 - (l0.length : Int))) < 0 then (some (-1)) else (some (wrap64 (a1 - (l0.length : Int))))
set_option maxHeartbeats 8000000 in
set_option maxRecDepth 100000 in
theorem laws_szCellS.calls (A0 : Option Addr) (c0 : Nat) (l0 : List (S110)) (a1 : Int) (r : Int) (w : World) (hr0 : Kd.C k110 w A0 l0.length l0) (hc0 : l0.length ≤ c0) (h : laws_szCellS.f l0 a1 = some r) :
    Calls Try.prog 33 #[.slice A0 l0.length c0, .int .i64 a1] w fun e w' => e = .returned (.int .i64 r) ∧ Drawn0 w w' := by
 have HR0 := Aside0.mk hr0
 have HC0 := Aside0.mk hc0
 clear hr0 hc0
 have H : (if (wrap64 (a1 - (l0.length : Int))) < 0 then (some (-1)) else (some (wrap64 (a1 - (l0.length : Int))))) = some r := h
 clear h
 by_cases c3 : (wrap64 (a1 - (l0.length : Int))) < 0
 ·rw [if_pos c3] at H
  have c3b0 : decide ((wrap64 (a1 - (l0.length : Int))) < 0) = true := decide_eq_true c3
  clear c3
  obtain rfl := Option.some.inj H
  go_enter Try.func33,Try.ntmps33
  go_wp2
  go_ret
  exact ⟨rs_,by repeat (first|exact Drawn0.refl _|apply Drawn0.step)⟩
 ·rw [if_neg c3] at H
  have c3b0 : decide ((wrap64 (a1 - (l0.length : Int))) < 0) = false := decide_eq_false c3
  clear c3
  obtain rfl := Option.some.inj H
  go_enter Try.func33,Try.ntmps33
  go_wp2
  go_ret
  exact ⟨rs_,by repeat (first|exact Drawn0.refl _|apply Drawn0.step)⟩

/-! ### laws_szCopy: function 101 -/
def laws_szCopy.f (a0_0 : Int) (l0_1 : List (S110)) (a1 : Int) : Option (Int) := (laws_szCellS.f l0_1 a1).bind fun t102 => (if t102 < 0 then (some (-1)) else (some t102))
set_option maxHeartbeats 8000000 in
set_option maxRecDepth 100000 in
theorem laws_szCopy.calls (a0_0 : Int) (A0_1 : Option Addr) (c0_1 : Nat) (l0_1 : List (S110)) (a1 : Int) (r : Int) (w : World) (hr0_1 : Kd.C k110 w A0_1 l0_1.length l0_1) (hc0_1 : l0_1.length ≤ c0_1) (h : laws_szCopy.f a0_0 l0_1 a1 = some r) :
    Calls Try.prog 101 #[.agg #[.int .i64 a0_0, .slice A0_1 l0_1.length c0_1], .int .i64 a1] w fun e w' => e = .returned (.int .i64 r) ∧ Below w.heap.size w w' := by
 have hu123 := Try.underlying123
 have HR0_1 := Aside0.mk hr0_1
 have HC0_1 := Aside0.mk hc0_1
 clear hr0_1 hc0_1
 have HB := Aside0.mk (Below.refl w.heap.size w)
 have H : ((laws_szCellS.f l0_1 a1).bind fun t102 => (if t102 < 0 then (some (-1)) else (some t102))) = some r := h
 clear h
 replace H := bs_ H
 obtain ⟨t102,A3,H⟩ := H
 by_cases c4 : t102 < 0
 ·rw [if_pos c4] at H
  have c4b0 : decide (t102 < 0) = true := decide_eq_true c4
  clear c4
  obtain rfl := Option.some.inj H
  go_enter Try.func101,Try.ntmps101
  go_wp2_with (first|((with_reducible refine gate_dst (N := 2) rfl ?_);refine bx_ 2 #[.int .i64 a0_0,.slice A0_1 l0_1.length c0_1] 123 ?_;intro gb101 hg w5 hbox hb;replace HB := nb_ hg hbox hb;obtain ⟨BK101,GW101,GE101,HB⟩ := HB;clear hb hbox hg;obtain ⟨⟨hcz6_0,hcz6_1⟩,hfz6_0,hfz6_1⟩ := cl2_ BK101.out)|((with_reducible refine gcal_ (f := 33) rfl ?_);refine gl_ (some 8) Try.func33 #[.slice A0_1 l0_1.length c0_1,.int .i64 a1] ?_;(with_reducible refine (laws_szCellS.calls _ _ l0_1 a1 t102 _ ?side1 ?side2 A3.out).mono ?_);(case side1 => exact cb_ HR0_1);(case side2 => exact HC0_1.out);rintro e w' ⟨rfl,⟨nd,rfl⟩⟩;refine ⟨_,rfl,?_⟩))
  go_ret
  exact ⟨rf_,b_⟩
 ·rw [if_neg c4] at H
  have c4b0 : decide (t102 < 0) = false := decide_eq_false c4
  clear c4
  obtain rfl := Option.some.inj H
  go_enter Try.func101,Try.ntmps101
  go_wp2_with (first|((with_reducible refine gate_dst (N := 2) rfl ?_);refine bx_ 2 #[.int .i64 a0_0,.slice A0_1 l0_1.length c0_1] 123 ?_;intro gb101 hg w7 hbox hb;replace HB := nb_ hg hbox hb;obtain ⟨BK101,GW101,GE101,HB⟩ := HB;clear hb hbox hg;obtain ⟨⟨hcz8_0,hcz8_1⟩,hfz8_0,hfz8_1⟩ := cl2_ BK101.out)|((with_reducible refine gcal_ (f := 33) rfl ?_);refine gl_ (some 8) Try.func33 #[.slice A0_1 l0_1.length c0_1,.int .i64 a1] ?_;(with_reducible refine (laws_szCellS.calls _ _ l0_1 a1 t102 _ ?side1 ?side2 A3.out).mono ?_);(case side1 => exact cb_ HR0_1);(case side2 => exact HC0_1.out);rintro e w' ⟨rfl,⟨nd,rfl⟩⟩;refine ⟨_,rfl,?_⟩))
  go_ret
  exact ⟨rf_,b_⟩

/-! ### laws_szCopyS: function 43 -/
def laws_szCopyS.l0 : Nat → List (S123) → Int → Int → Option (Int)
  | 0, _, _, _ => none
  | k + 1, x0, x1, x5 => if x5 < (x0.length : Int) then (if 0 ≤ x5 then ((laws_szCopy.f ((rd_T123 x0 x5).f0) ((rd_T123 x0 x5).f1) x1).bind fun t104 => (if t104 < 0 then (some (-1)) else (laws_szCopyS.l0 k x0 t104 (wrap64 (x5 + 1))))) else (none)) else (some x1)
def laws_szCopyS.f (k : Nat) (l0 : List (S123)) (a1 : Int) : Option (Int) := if (wrap64 (a1 - (l0.length : Int))) < 0 then (some (-1)) else (laws_szCopyS.l0 k l0 (wrap64 (a1 - (l0.length : Int))) 0)

set_option maxHeartbeats 8000000 in
set_option maxRecDepth 100000 in
theorem laws_szCopyS.calls (k : Nat) (A0 : Option Addr) (c0 : Nat) (l0 : List (S123)) (a1 : Int) (r : Int) (w : World) (hr0 : Kd.C k123 w A0 l0.length l0) (hc0 : l0.length ≤ c0) (h : laws_szCopyS.f k l0 a1 = some r) :
    Calls Try.prog 43 #[.slice A0 l0.length c0, .int .i64 a1] w fun e w' => e = .returned (.int .i64 r) ∧ Below w.heap.size w w' := by
 have hu123 := Try.underlying123
 have HR0 := Aside0.mk hr0
 have HC0 := Aside0.mk hc0
 clear hr0 hc0
 have HB := Aside0.mk (Below.refl w.heap.size w)
 have H : (if (wrap64 (a1 - (l0.length : Int))) < 0 then (some (-1)) else (laws_szCopyS.l0 k l0 (wrap64 (a1 - (l0.length : Int))) 0)) = some r := h
 clear h
 by_cases c3 : (wrap64 (a1 - (l0.length : Int))) < 0
 ·rw [if_pos c3] at H
  have c3b0 : decide ((wrap64 (a1 - (l0.length : Int))) < 0) = true := decide_eq_true c3
  clear c3
  obtain rfl := Option.some.inj H
  go_enter Try.func43,Try.ntmps43
  go_wp2
  go_ret
  exact ⟨rf_,b_⟩
 ·rw [if_neg c3] at H
  have c3b0 : decide ((wrap64 (a1 - (l0.length : Int))) < 0) = false := decide_eq_false c3
  clear c3
  have H' := Aside0.mk H
  clear H
  go_enter Try.func43,Try.ntmps43
  go_wp2
  go_loopg [1,5] k (fun kq v1 v5 w' => ∃ (x1_1 : Int) (x5_1 : Int),v1 = .int .i64 x1_1 ∧ v5 = .int .i64 x5_1 ∧ Aside0 (laws_szCopyS.l0 kq l0 x1_1 x5_1 = some r) ∧ Aside0 (kq ≤ k) ∧ Aside0 (Below w.heap.size w w'))
  case atStart => exact ⟨(wrap64 (a1 - (l0.length : Int))),(0),rs_,rs_,H',⟨Nat.le_refl _⟩,⟨b_⟩⟩
  case round =>
   clear H'
   try clear p2
   try clear c3
   try clear c3b0
   obtain ⟨x1_1,x5_1,rfl,rfl,HA,HK1,HB⟩ := hrel
   cases gk with
   | zero => exact absurd HA.out (by simp [laws_szCopyS.l0])
   | succ k1 =>
    have H := HA.out
    clear HA
    simp only [laws_szCopyS.l0] at H
    by_cases c4 : x5_1 < (l0.length : Int)
    ·rw [if_pos c4] at H
     have c4b0 : decide (x5_1 < (l0.length : Int)) = true := decide_eq_true c4
     clear c4
     by_cases c5 : 0 ≤ x5_1
     ·rw [if_pos c5] at H
      have c5b0 : decide (0 ≤ x5_1) = true := decide_eq_true c5
      clear c5
      replace H := bs_ H
      obtain ⟨t104,A6,H⟩ := H
      by_cases c7 : t104 < 0
      ·rw [if_pos c7] at H
       have c7b0 : decide (t104 < 0) = true := decide_eq_true c7
       clear c7
       obtain rfl := Option.some.inj H
       have p103 : 0 ≤ (x5_1 : Int) := od_
       have q103 : x5_1 < (l0.length : Int) := od_
       obtain ⟨ad103,A103_1,c103_1,e103,hx103_0,hx103_1,hl103_1,hi103_1⟩ := at_T123 HR0.out x5_1 p103 q103
       cases e103
       replace hx103_0 := hx_ HB hx103_0
       replace hx103_1 := hx_ HB hx103_1
       have HR103_1 := Aside0.mk hi103_1
       have HC103_1 := Aside0.mk hl103_1
       clear hi103_1 hl103_1
       replace p103 := eq_true p103
       replace q103 := eq_true q103
       go_wp2_with (first|((with_reducible refine gcal_ (f := 101) rfl ?_);refine gl_ (some 23) Try.func101 #[.agg #[.int .i64 ((rd_T123 l0 x5_1).f0),.slice A103_1 ((rd_T123 l0 x5_1).f1).length c103_1],.int .i64 x1_1] ?_;(with_reducible refine (laws_szCopy.calls ((rd_T123 l0 x5_1).f0) _ _ ((rd_T123 l0 x5_1).f1) x1_1 t104 _ ?side1 ?side2 A6.out).mono ?_);(case side1 => exact cb_ HR103_1);(case side2 => exact HC103_1.out);rintro e w8 ⟨rfl,hb⟩;refine ⟨_,rfl,?_⟩;replace HB := Aside0.mk (below_step b_ hb);(try clear hb);(try clear hb2);(try clear hk);(try clear hi)))
       go_ret
       exact ⟨rf_,b_⟩
      ·rw [if_neg c7] at H
       have c7b0 : decide (t104 < 0) = false := decide_eq_false c7
       clear c7
       have H' := Aside0.mk H
       clear H
       have p103 : 0 ≤ (x5_1 : Int) := od_
       have q103 : x5_1 < (l0.length : Int) := od_
       obtain ⟨ad103,A103_1,c103_1,e103,hx103_0,hx103_1,hl103_1,hi103_1⟩ := at_T123 HR0.out x5_1 p103 q103
       cases e103
       replace hx103_0 := hx_ HB hx103_0
       replace hx103_1 := hx_ HB hx103_1
       have HR103_1 := Aside0.mk hi103_1
       have HC103_1 := Aside0.mk hl103_1
       clear hi103_1 hl103_1
       replace p103 := eq_true p103
       replace q103 := eq_true q103
       go_wp2_with (first|((with_reducible refine gcal_ (f := 101) rfl ?_);refine gl_ (some 23) Try.func101 #[.agg #[.int .i64 ((rd_T123 l0 x5_1).f0),.slice A103_1 ((rd_T123 l0 x5_1).f1).length c103_1],.int .i64 x1_1] ?_;(with_reducible refine (laws_szCopy.calls ((rd_T123 l0 x5_1).f0) _ _ ((rd_T123 l0 x5_1).f1) x1_1 t104 _ ?side1 ?side2 A6.out).mono ?_);(case side1 => exact cb_ HR103_1);(case side2 => exact HC103_1.out);rintro e w9 ⟨rfl,hb⟩;refine ⟨_,rfl,?_⟩;replace HB := Aside0.mk (below_step b_ hb);(try clear hb);(try clear hb2);(try clear hk);(try clear hi)))
       go_roundg k1
       case measure => have := HK1.out;omega
       case rel => exact ⟨(t104),(wrap64 (x5_1 + 1)),rs_,rs_,H',⟨by have := HK1.out;omega⟩,⟨b_⟩⟩
     ·rw [if_neg c5] at H
      exact absurd H (by simp)
    ·rw [if_neg c4] at H
     have c4b0 : decide (x5_1 < (l0.length : Int)) = false := decide_eq_false c4
     clear c4
     obtain rfl := Option.some.inj H
     go_wp2
     go_ret
     exact ⟨rf_,b_⟩

/-! ### laws_szSetS: function 72 -/
def laws_szSetS.f (l0 : List (S135)) (a1 : Int) : Option (Int) := if (wrap64 (a1 - (l0.length : Int))) < 0 then (some (-1)) else (some (wrap64 (a1 - (l0.length : Int))))
set_option maxHeartbeats 8000000 in
set_option maxRecDepth 100000 in
theorem laws_szSetS.calls (A0 : Option Addr) (c0 : Nat) (l0 : List (S135)) (a1 : Int) (r : Int) (w : World) (hr0 : Kd.C k135 w A0 l0.length l0) (hc0 : l0.length ≤ c0) (h : laws_szSetS.f l0 a1 = some r) :
    Calls Try.prog 72 #[.slice A0 l0.length c0, .int .i64 a1] w fun e w' => e = .returned (.int .i64 r) ∧ Drawn0 w w' := by
 have HR0 := Aside0.mk hr0
 have HC0 := Aside0.mk hc0
 clear hr0 hc0
 have H : (if (wrap64 (a1 - (l0.length : Int))) < 0 then (some (-1)) else (some (wrap64 (a1 - (l0.length : Int))))) = some r := h
 clear h
 by_cases c3 : (wrap64 (a1 - (l0.length : Int))) < 0
 ·rw [if_pos c3] at H
  have c3b0 : decide ((wrap64 (a1 - (l0.length : Int))) < 0) = true := decide_eq_true c3
  clear c3
  obtain rfl := Option.some.inj H
  go_enter Try.func72,Try.ntmps72
  go_wp2
  go_ret
  exact ⟨rs_,by repeat (first|exact Drawn0.refl _|apply Drawn0.step)⟩
 ·rw [if_neg c3] at H
  have c3b0 : decide ((wrap64 (a1 - (l0.length : Int))) < 0) = false := decide_eq_false c3
  clear c3
  obtain rfl := Option.some.inj H
  go_enter Try.func72,Try.ntmps72
  go_wp2
  go_ret
  exact ⟨rs_,by repeat (first|exact Drawn0.refl _|apply Drawn0.step)⟩

/-! ### laws_szRecord: function 26 -/
def laws_szRecord.f (a0_0 : Int) (a0_1 : Int) (a0_2 : Int) (l0_3 : List (S135)) (a1 : Int) : Option (Int) := (laws_szSetS.f l0_3 a1).bind fun t106 => (if t106 < 0 then (some (-1)) else (some t106))
set_option maxHeartbeats 8000000 in
set_option maxRecDepth 100000 in
theorem laws_szRecord.calls (a0_0 : Int) (a0_1 : Int) (a0_2 : Int) (A0_3 : Option Addr) (c0_3 : Nat) (l0_3 : List (S135)) (a1 : Int) (r : Int) (w : World) (hr0_3 : Kd.C k135 w A0_3 l0_3.length l0_3) (hc0_3 : l0_3.length ≤ c0_3) (h : laws_szRecord.f a0_0 a0_1 a0_2 l0_3 a1 = some r) :
    Calls Try.prog 26 #[.agg #[.int .i64 a0_0, .int .i64 a0_1, .int .i64 a0_2, .slice A0_3 l0_3.length c0_3], .int .i64 a1] w fun e w' => e = .returned (.int .i64 r) ∧ Below w.heap.size w w' := by
 have hu53 := Try.underlying53
 have HR0_3 := Aside0.mk hr0_3
 have HC0_3 := Aside0.mk hc0_3
 clear hr0_3 hc0_3
 have HB := Aside0.mk (Below.refl w.heap.size w)
 have H : ((laws_szSetS.f l0_3 a1).bind fun t106 => (if t106 < 0 then (some (-1)) else (some t106))) = some r := h
 clear h
 replace H := bs_ H
 obtain ⟨t106,A3,H⟩ := H
 by_cases c4 : t106 < 0
 ·rw [if_pos c4] at H
  have c4b0 : decide (t106 < 0) = true := decide_eq_true c4
  clear c4
  obtain rfl := Option.some.inj H
  go_enter Try.func26,Try.ntmps26
  go_wp2_with (first|((with_reducible refine gate_dst (N := 2) rfl ?_);refine bx_ 2 #[.int .i64 a0_0,.int .i64 a0_1,.int .i64 a0_2,.slice A0_3 l0_3.length c0_3] 53 ?_;intro gb105 hg w5 hbox hb;replace HB := nb_ hg hbox hb;obtain ⟨BK105,GW105,GE105,HB⟩ := HB;clear hb hbox hg;obtain ⟨⟨hcz6_0,hcz6_1,hcz6_2,hcz6_3⟩,hfz6_0,hfz6_1,hfz6_2,hfz6_3⟩ := cl4_ BK105.out)|((with_reducible refine gcal_ (f := 72) rfl ?_);refine gl_ (some 8) Try.func72 #[.slice A0_3 l0_3.length c0_3,.int .i64 a1] ?_;(with_reducible refine (laws_szSetS.calls _ _ l0_3 a1 t106 _ ?side1 ?side2 A3.out).mono ?_);(case side1 => exact cb_ HR0_3);(case side2 => exact HC0_3.out);rintro e w' ⟨rfl,⟨nd,rfl⟩⟩;refine ⟨_,rfl,?_⟩))
  go_ret
  exact ⟨rf_,b_⟩
 ·rw [if_neg c4] at H
  have c4b0 : decide (t106 < 0) = false := decide_eq_false c4
  clear c4
  obtain rfl := Option.some.inj H
  go_enter Try.func26,Try.ntmps26
  go_wp2_with (first|((with_reducible refine gate_dst (N := 2) rfl ?_);refine bx_ 2 #[.int .i64 a0_0,.int .i64 a0_1,.int .i64 a0_2,.slice A0_3 l0_3.length c0_3] 53 ?_;intro gb105 hg w7 hbox hb;replace HB := nb_ hg hbox hb;obtain ⟨BK105,GW105,GE105,HB⟩ := HB;clear hb hbox hg;obtain ⟨⟨hcz8_0,hcz8_1,hcz8_2,hcz8_3⟩,hfz8_0,hfz8_1,hfz8_2,hfz8_3⟩ := cl4_ BK105.out)|((with_reducible refine gcal_ (f := 72) rfl ?_);refine gl_ (some 8) Try.func72 #[.slice A0_3 l0_3.length c0_3,.int .i64 a1] ?_;(with_reducible refine (laws_szSetS.calls _ _ l0_3 a1 t106 _ ?side1 ?side2 A3.out).mono ?_);(case side1 => exact cb_ HR0_3);(case side2 => exact HC0_3.out);rintro e w' ⟨rfl,⟨nd,rfl⟩⟩;refine ⟨_,rfl,?_⟩))
  go_ret
  exact ⟨rf_,b_⟩

/-! ### laws_szRecordS: function 44 -/
def laws_szRecordS.l0 : Nat → List (S53) → Int → Int → Option (Int)
  | 0, _, _, _ => none
  | k + 1, x0, x1, x5 => if x5 < (x0.length : Int) then (if 0 ≤ x5 then ((laws_szRecord.f ((rd_T53 x0 x5).f0) ((rd_T53 x0 x5).f1) ((rd_T53 x0 x5).f2) ((rd_T53 x0 x5).f3) x1).bind fun t108 => (if t108 < 0 then (some (-1)) else (laws_szRecordS.l0 k x0 t108 (wrap64 (x5 + 1))))) else (none)) else (some x1)
def laws_szRecordS.f (k : Nat) (l0 : List (S53)) (a1 : Int) : Option (Int) := if (wrap64 (a1 - (l0.length : Int))) < 0 then (some (-1)) else (laws_szRecordS.l0 k l0 (wrap64 (a1 - (l0.length : Int))) 0)

set_option maxHeartbeats 8000000 in
set_option maxRecDepth 100000 in
theorem laws_szRecordS.calls (k : Nat) (A0 : Option Addr) (c0 : Nat) (l0 : List (S53)) (a1 : Int) (r : Int) (w : World) (hr0 : Kd.C k53 w A0 l0.length l0) (hc0 : l0.length ≤ c0) (h : laws_szRecordS.f k l0 a1 = some r) :
    Calls Try.prog 44 #[.slice A0 l0.length c0, .int .i64 a1] w fun e w' => e = .returned (.int .i64 r) ∧ Below w.heap.size w w' := by
 have hu53 := Try.underlying53
 have HR0 := Aside0.mk hr0
 have HC0 := Aside0.mk hc0
 clear hr0 hc0
 have HB := Aside0.mk (Below.refl w.heap.size w)
 have H : (if (wrap64 (a1 - (l0.length : Int))) < 0 then (some (-1)) else (laws_szRecordS.l0 k l0 (wrap64 (a1 - (l0.length : Int))) 0)) = some r := h
 clear h
 by_cases c3 : (wrap64 (a1 - (l0.length : Int))) < 0
 ·rw [if_pos c3] at H
  have c3b0 : decide ((wrap64 (a1 - (l0.length : Int))) < 0) = true := decide_eq_true c3
  clear c3
  obtain rfl := Option.some.inj H
  go_enter Try.func44,Try.ntmps44
  go_wp2
  go_ret
  exact ⟨rf_,b_⟩
 ·rw [if_neg c3] at H
  have c3b0 : decide ((wrap64 (a1 - (l0.length : Int))) < 0) = false := decide_eq_false c3
  clear c3
  have H' := Aside0.mk H
  clear H
  go_enter Try.func44,Try.ntmps44
  go_wp2
  go_loopg [1,5] k (fun kq v1 v5 w' => ∃ (x1_1 : Int) (x5_1 : Int),v1 = .int .i64 x1_1 ∧ v5 = .int .i64 x5_1 ∧ Aside0 (laws_szRecordS.l0 kq l0 x1_1 x5_1 = some r) ∧ Aside0 (kq ≤ k) ∧ Aside0 (Below w.heap.size w w'))
  case atStart => exact ⟨(wrap64 (a1 - (l0.length : Int))),(0),rs_,rs_,H',⟨Nat.le_refl _⟩,⟨b_⟩⟩
  case round =>
   clear H'
   try clear p2
   try clear c3
   try clear c3b0
   obtain ⟨x1_1,x5_1,rfl,rfl,HA,HK1,HB⟩ := hrel
   cases gk with
   | zero => exact absurd HA.out (by simp [laws_szRecordS.l0])
   | succ k1 =>
    have H := HA.out
    clear HA
    simp only [laws_szRecordS.l0] at H
    by_cases c4 : x5_1 < (l0.length : Int)
    ·rw [if_pos c4] at H
     have c4b0 : decide (x5_1 < (l0.length : Int)) = true := decide_eq_true c4
     clear c4
     by_cases c5 : 0 ≤ x5_1
     ·rw [if_pos c5] at H
      have c5b0 : decide (0 ≤ x5_1) = true := decide_eq_true c5
      clear c5
      replace H := bs_ H
      obtain ⟨t108,A6,H⟩ := H
      by_cases c7 : t108 < 0
      ·rw [if_pos c7] at H
       have c7b0 : decide (t108 < 0) = true := decide_eq_true c7
       clear c7
       obtain rfl := Option.some.inj H
       have p107 : 0 ≤ (x5_1 : Int) := od_
       have q107 : x5_1 < (l0.length : Int) := od_
       obtain ⟨ad107,A107_3,c107_3,e107,hx107_0,hx107_1,hx107_2,hx107_3,hl107_3,hi107_3⟩ := at_T53 HR0.out x5_1 p107 q107
       cases e107
       replace hx107_0 := hx_ HB hx107_0
       replace hx107_1 := hx_ HB hx107_1
       replace hx107_2 := hx_ HB hx107_2
       replace hx107_3 := hx_ HB hx107_3
       have HR107_3 := Aside0.mk hi107_3
       have HC107_3 := Aside0.mk hl107_3
       clear hi107_3 hl107_3
       replace p107 := eq_true p107
       replace q107 := eq_true q107
       go_wp2_with (first|((with_reducible refine gcal_ (f := 26) rfl ?_);refine gl_ (some 23) Try.func26 #[.agg #[.int .i64 ((rd_T53 l0 x5_1).f0),.int .i64 ((rd_T53 l0 x5_1).f1),.int .i64 ((rd_T53 l0 x5_1).f2),.slice A107_3 ((rd_T53 l0 x5_1).f3).length c107_3],.int .i64 x1_1] ?_;(with_reducible refine (laws_szRecord.calls ((rd_T53 l0 x5_1).f0) ((rd_T53 l0 x5_1).f1) ((rd_T53 l0 x5_1).f2) _ _ ((rd_T53 l0 x5_1).f3) x1_1 t108 _ ?side1 ?side2 A6.out).mono ?_);(case side1 => exact cb_ HR107_3);(case side2 => exact HC107_3.out);rintro e w8 ⟨rfl,hb⟩;refine ⟨_,rfl,?_⟩;replace HB := Aside0.mk (below_step b_ hb);(try clear hb);(try clear hb2);(try clear hk);(try clear hi)))
       go_ret
       exact ⟨rf_,b_⟩
      ·rw [if_neg c7] at H
       have c7b0 : decide (t108 < 0) = false := decide_eq_false c7
       clear c7
       have H' := Aside0.mk H
       clear H
       have p107 : 0 ≤ (x5_1 : Int) := od_
       have q107 : x5_1 < (l0.length : Int) := od_
       obtain ⟨ad107,A107_3,c107_3,e107,hx107_0,hx107_1,hx107_2,hx107_3,hl107_3,hi107_3⟩ := at_T53 HR0.out x5_1 p107 q107
       cases e107
       replace hx107_0 := hx_ HB hx107_0
       replace hx107_1 := hx_ HB hx107_1
       replace hx107_2 := hx_ HB hx107_2
       replace hx107_3 := hx_ HB hx107_3
       have HR107_3 := Aside0.mk hi107_3
       have HC107_3 := Aside0.mk hl107_3
       clear hi107_3 hl107_3
       replace p107 := eq_true p107
       replace q107 := eq_true q107
       go_wp2_with (first|((with_reducible refine gcal_ (f := 26) rfl ?_);refine gl_ (some 23) Try.func26 #[.agg #[.int .i64 ((rd_T53 l0 x5_1).f0),.int .i64 ((rd_T53 l0 x5_1).f1),.int .i64 ((rd_T53 l0 x5_1).f2),.slice A107_3 ((rd_T53 l0 x5_1).f3).length c107_3],.int .i64 x1_1] ?_;(with_reducible refine (laws_szRecord.calls ((rd_T53 l0 x5_1).f0) ((rd_T53 l0 x5_1).f1) ((rd_T53 l0 x5_1).f2) _ _ ((rd_T53 l0 x5_1).f3) x1_1 t108 _ ?side1 ?side2 A6.out).mono ?_);(case side1 => exact cb_ HR107_3);(case side2 => exact HC107_3.out);rintro e w9 ⟨rfl,hb⟩;refine ⟨_,rfl,?_⟩;replace HB := Aside0.mk (below_step b_ hb);(try clear hb);(try clear hb2);(try clear hk);(try clear hi)))
       go_roundg k1
       case measure => have := HK1.out;omega
       case rel => exact ⟨(t108),(wrap64 (x5_1 + 1)),rs_,rs_,H',⟨by have := HK1.out;omega⟩,⟨b_⟩⟩
     ·rw [if_neg c5] at H
      exact absurd H (by simp)
    ·rw [if_neg c4] at H
     have c4b0 : decide (x5_1 < (l0.length : Int)) = false := decide_eq_false c4
     clear c4
     obtain rfl := Option.some.inj H
     go_wp2
     go_ret
     exact ⟨rf_,b_⟩

/-! ### laws_szInt64S: function 45 -/
def laws_szInt64S.f (l0 : List Int) (a1 : Int) : Option (Int) := if (wrap64 (a1 - (l0.length : Int))) < 0 then (some (-1)) else (some (wrap64 (a1 - (l0.length : Int))))
set_option maxHeartbeats 8000000 in
set_option maxRecDepth 100000 in
theorem laws_szInt64S.calls (A0 : Option Addr) (c0 : Nat) (l0 : List Int) (a1 : Int) (r : Int) (w : World) (hr0 : Kd.C (Kd.int .i64) w A0 l0.length l0) (hc0 : l0.length ≤ c0) (h : laws_szInt64S.f l0 a1 = some r) :
    Calls Try.prog 45 #[.slice A0 l0.length c0, .int .i64 a1] w fun e w' => e = .returned (.int .i64 r) ∧ Drawn0 w w' := by
 have HR0 := Aside0.mk hr0
 have HC0 := Aside0.mk hc0
 clear hr0 hc0
 have H : (if (wrap64 (a1 - (l0.length : Int))) < 0 then (some (-1)) else (some (wrap64 (a1 - (l0.length : Int))))) = some r := h
 clear h
 by_cases c3 : (wrap64 (a1 - (l0.length : Int))) < 0
 ·rw [if_pos c3] at H
  have c3b0 : decide ((wrap64 (a1 - (l0.length : Int))) < 0) = true := decide_eq_true c3
  clear c3
  obtain rfl := Option.some.inj H
  go_enter Try.func45,Try.ntmps45
  go_wp2
  go_ret
  exact ⟨rs_,by repeat (first|exact Drawn0.refl _|apply Drawn0.step)⟩
 ·rw [if_neg c3] at H
  have c3b0 : decide ((wrap64 (a1 - (l0.length : Int))) < 0) = false := decide_eq_false c3
  clear c3
  obtain rfl := Option.some.inj H
  go_enter Try.func45,Try.ntmps45
  go_wp2
  go_ret
  exact ⟨rs_,by repeat (first|exact Drawn0.refl _|apply Drawn0.step)⟩

/-! ### laws_szMachine: function 10 -/
def laws_szMachine.f (k : Nat) (a0_0 : Bool) (l0_1 : List (S123)) (l0_2 : List (S53)) (l0_3 : List Int) (a1 : Int) : Option (Int) := (laws_szCopyS.f k l0_1 a1).bind fun t110 => (if t110 < 0 then (some (-1)) else ((laws_szRecordS.f k l0_2 t110).bind fun t111 => (if t111 < 0 then (some (-1)) else ((laws_szInt64S.f l0_3 t111).bind fun t112 => (if t112 < 0 then (some (-1)) else (some t112))))))

set_option maxHeartbeats 8000000 in
set_option maxRecDepth 100000 in
theorem laws_szMachine.calls (k : Nat) (a0_0 : Bool) (A0_1 : Option Addr) (c0_1 : Nat) (l0_1 : List (S123)) (A0_2 : Option Addr) (c0_2 : Nat) (l0_2 : List (S53)) (A0_3 : Option Addr) (c0_3 : Nat) (l0_3 : List Int) (a1 : Int) (r : Int) (w : World) (hr0_1 : Kd.C k123 w A0_1 l0_1.length l0_1) (hc0_1 : l0_1.length ≤ c0_1) (hr0_2 : Kd.C k53 w A0_2 l0_2.length l0_2) (hc0_2 : l0_2.length ≤ c0_2) (hr0_3 : Kd.C (Kd.int .i64) w A0_3 l0_3.length l0_3) (hc0_3 : l0_3.length ≤ c0_3) (h : laws_szMachine.f k a0_0 l0_1 l0_2 l0_3 a1 = some r) :
    Calls Try.prog 10 #[.agg #[.bool a0_0, .slice A0_1 l0_1.length c0_1, .slice A0_2 l0_2.length c0_2, .slice A0_3 l0_3.length c0_3], .int .i64 a1] w fun e w' => e = .returned (.int .i64 r) ∧ Below w.heap.size w w' := by
 have hu26 := Try.underlying26
 have HR0_1 := Aside0.mk hr0_1
 have HC0_1 := Aside0.mk hc0_1
 clear hr0_1 hc0_1
 have HR0_2 := Aside0.mk hr0_2
 have HC0_2 := Aside0.mk hc0_2
 clear hr0_2 hc0_2
 have HR0_3 := Aside0.mk hr0_3
 have HC0_3 := Aside0.mk hc0_3
 clear hr0_3 hc0_3
 have HB := Aside0.mk (Below.refl w.heap.size w)
 have H : ((laws_szCopyS.f k l0_1 a1).bind fun t110 => (if t110 < 0 then (some (-1)) else ((laws_szRecordS.f k l0_2 t110).bind fun t111 => (if t111 < 0 then (some (-1)) else ((laws_szInt64S.f l0_3 t111).bind fun t112 => (if t112 < 0 then (some (-1)) else (some t112))))))) = some r := h
 clear h
 replace H := bs_ H
 obtain ⟨t110,A3,H⟩ := H
 by_cases c4 : t110 < 0
 ·rw [if_pos c4] at H
  have c4b0 : decide (t110 < 0) = true := decide_eq_true c4
  clear c4
  obtain rfl := Option.some.inj H
  go_enter Try.func10,Try.ntmps10
  go_wp2_with (first|((with_reducible refine gate_dst (N := 2) rfl ?_);refine bx_ 2 #[.bool a0_0,.slice A0_1 l0_1.length c0_1,.slice A0_2 l0_2.length c0_2,.slice A0_3 l0_3.length c0_3] 26 ?_;intro gb109 hg w5 hbox hb;replace HB := nb_ hg hbox hb;obtain ⟨BK109,GW109,GE109,HB⟩ := HB;clear hb hbox hg;obtain ⟨⟨hcz6_0,hcz6_1,hcz6_2,hcz6_3⟩,hfz6_0,hfz6_1,hfz6_2,hfz6_3⟩ := cl4_ BK109.out)|((with_reducible refine gcal_ (f := 43) rfl ?_);refine gl_ (some 8) Try.func43 #[.slice A0_1 l0_1.length c0_1,.int .i64 a1] ?_;(with_reducible refine (laws_szCopyS.calls k _ _ l0_1 a1 t110 _ ?side1 ?side2 A3.out).mono ?_);(case side1 => exact cb_ HR0_1);(case side2 => exact HC0_1.out);rintro e w7 ⟨rfl,hb⟩;refine ⟨_,rfl,?_⟩;replace BK109 := Aside0.mk (blk_below (kb_ BK109) hb);replace HB := Aside0.mk (below_step b_ hb);(try clear hb);(try clear hb2);(try clear hk);(try clear hi)))
  go_ret
  exact ⟨rf_,b_⟩
 ·rw [if_neg c4] at H
  have c4b0 : decide (t110 < 0) = false := decide_eq_false c4
  clear c4
  replace H := bs_ H
  obtain ⟨t111,A8,H⟩ := H
  by_cases c9 : t111 < 0
  ·rw [if_pos c9] at H
   have c9b0 : decide (t111 < 0) = true := decide_eq_true c9
   clear c9
   obtain rfl := Option.some.inj H
   go_enter Try.func10,Try.ntmps10
   go_wp2_with (first|((with_reducible refine gate_dst (N := 2) rfl ?_);refine bx_ 2 #[.bool a0_0,.slice A0_1 l0_1.length c0_1,.slice A0_2 l0_2.length c0_2,.slice A0_3 l0_3.length c0_3] 26 ?_;intro gb109 hg w10 hbox hb;replace HB := nb_ hg hbox hb;obtain ⟨BK109,GW109,GE109,HB⟩ := HB;clear hb hbox hg;obtain ⟨⟨hcz11_0,hcz11_1,hcz11_2,hcz11_3⟩,hfz11_0,hfz11_1,hfz11_2,hfz11_3⟩ := cl4_ BK109.out)|((with_reducible refine gcal_ (f := 43) rfl ?_);refine gl_ (some 8) Try.func43 #[.slice A0_1 l0_1.length c0_1,.int .i64 a1] ?_;(with_reducible refine (laws_szCopyS.calls k _ _ l0_1 a1 t110 _ ?side1 ?side2 A3.out).mono ?_);(case side1 => exact cb_ HR0_1);(case side2 => exact HC0_1.out);rintro e w12 ⟨rfl,hb⟩;refine ⟨_,rfl,?_⟩;replace BK109 := Aside0.mk (blk_below (kb_ BK109) hb);replace HB := Aside0.mk (below_step b_ hb);(try clear hb);(try clear hb2);(try clear hk);(try clear hi);obtain ⟨⟨hcz13_0,hcz13_1,hcz13_2,hcz13_3⟩,hfz13_0,hfz13_1,hfz13_2,hfz13_3⟩ := cl4_ BK109.out)|((with_reducible refine gcal_ (f := 44) rfl ?_);refine gl_ (some 14) Try.func44 #[.slice A0_2 l0_2.length c0_2,.int .i64 t110] ?_;(with_reducible refine (laws_szRecordS.calls k _ _ l0_2 t110 t111 _ ?side1 ?side2 A8.out).mono ?_);(case side1 => exact cb_ HR0_2);(case side2 => exact HC0_2.out);rintro e w14 ⟨rfl,hb⟩;refine ⟨_,rfl,?_⟩;replace BK109 := Aside0.mk (blk_below (kb_ BK109) hb);replace HB := Aside0.mk (below_step b_ hb);(try clear hb);(try clear hb2);(try clear hk);(try clear hi)))
   go_ret
   exact ⟨rf_,b_⟩
  ·rw [if_neg c9] at H
   have c9b0 : decide (t111 < 0) = false := decide_eq_false c9
   clear c9
   replace H := bs_ H
   obtain ⟨t112,A15,H⟩ := H
   by_cases c16 : t112 < 0
   ·rw [if_pos c16] at H
    have c16b0 : decide (t112 < 0) = true := decide_eq_true c16
    clear c16
    obtain rfl := Option.some.inj H
    go_enter Try.func10,Try.ntmps10
    go_wp2_with (first|((with_reducible refine gate_dst (N := 2) rfl ?_);refine bx_ 2 #[.bool a0_0,.slice A0_1 l0_1.length c0_1,.slice A0_2 l0_2.length c0_2,.slice A0_3 l0_3.length c0_3] 26 ?_;intro gb109 hg w17 hbox hb;replace HB := nb_ hg hbox hb;obtain ⟨BK109,GW109,GE109,HB⟩ := HB;clear hb hbox hg;obtain ⟨⟨hcz18_0,hcz18_1,hcz18_2,hcz18_3⟩,hfz18_0,hfz18_1,hfz18_2,hfz18_3⟩ := cl4_ BK109.out)|((with_reducible refine gcal_ (f := 43) rfl ?_);refine gl_ (some 8) Try.func43 #[.slice A0_1 l0_1.length c0_1,.int .i64 a1] ?_;(with_reducible refine (laws_szCopyS.calls k _ _ l0_1 a1 t110 _ ?side1 ?side2 A3.out).mono ?_);(case side1 => exact cb_ HR0_1);(case side2 => exact HC0_1.out);rintro e w19 ⟨rfl,hb⟩;refine ⟨_,rfl,?_⟩;replace BK109 := Aside0.mk (blk_below (kb_ BK109) hb);replace HB := Aside0.mk (below_step b_ hb);(try clear hb);(try clear hb2);(try clear hk);(try clear hi);obtain ⟨⟨hcz20_0,hcz20_1,hcz20_2,hcz20_3⟩,hfz20_0,hfz20_1,hfz20_2,hfz20_3⟩ := cl4_ BK109.out)|((with_reducible refine gcal_ (f := 44) rfl ?_);refine gl_ (some 14) Try.func44 #[.slice A0_2 l0_2.length c0_2,.int .i64 t110] ?_;(with_reducible refine (laws_szRecordS.calls k _ _ l0_2 t110 t111 _ ?side1 ?side2 A8.out).mono ?_);(case side1 => exact cb_ HR0_2);(case side2 => exact HC0_2.out);rintro e w21 ⟨rfl,hb⟩;refine ⟨_,rfl,?_⟩;replace BK109 := Aside0.mk (blk_below (kb_ BK109) hb);replace HB := Aside0.mk (below_step b_ hb);(try clear hb);(try clear hb2);(try clear hk);(try clear hi);obtain ⟨⟨hcz22_0,hcz22_1,hcz22_2,hcz22_3⟩,hfz22_0,hfz22_1,hfz22_2,hfz22_3⟩ := cl4_ BK109.out)|((with_reducible refine gcal_ (f := 45) rfl ?_);refine gl_ (some 20) Try.func45 #[.slice A0_3 l0_3.length c0_3,.int .i64 t111] ?_;(with_reducible refine (laws_szInt64S.calls _ _ l0_3 t111 t112 _ ?side1 ?side2 A15.out).mono ?_);(case side1 => exact cb_ HR0_3);(case side2 => exact HC0_3.out);rintro e w' ⟨rfl,⟨nd,rfl⟩⟩;refine ⟨_,rfl,?_⟩))
    go_ret
    exact ⟨rf_,b_⟩
   ·rw [if_neg c16] at H
    have c16b0 : decide (t112 < 0) = false := decide_eq_false c16
    clear c16
    obtain rfl := Option.some.inj H
    go_enter Try.func10,Try.ntmps10
    go_wp2_with (first|((with_reducible refine gate_dst (N := 2) rfl ?_);refine bx_ 2 #[.bool a0_0,.slice A0_1 l0_1.length c0_1,.slice A0_2 l0_2.length c0_2,.slice A0_3 l0_3.length c0_3] 26 ?_;intro gb109 hg w23 hbox hb;replace HB := nb_ hg hbox hb;obtain ⟨BK109,GW109,GE109,HB⟩ := HB;clear hb hbox hg;obtain ⟨⟨hcz24_0,hcz24_1,hcz24_2,hcz24_3⟩,hfz24_0,hfz24_1,hfz24_2,hfz24_3⟩ := cl4_ BK109.out)|((with_reducible refine gcal_ (f := 43) rfl ?_);refine gl_ (some 8) Try.func43 #[.slice A0_1 l0_1.length c0_1,.int .i64 a1] ?_;(with_reducible refine (laws_szCopyS.calls k _ _ l0_1 a1 t110 _ ?side1 ?side2 A3.out).mono ?_);(case side1 => exact cb_ HR0_1);(case side2 => exact HC0_1.out);rintro e w25 ⟨rfl,hb⟩;refine ⟨_,rfl,?_⟩;replace BK109 := Aside0.mk (blk_below (kb_ BK109) hb);replace HB := Aside0.mk (below_step b_ hb);(try clear hb);(try clear hb2);(try clear hk);(try clear hi);obtain ⟨⟨hcz26_0,hcz26_1,hcz26_2,hcz26_3⟩,hfz26_0,hfz26_1,hfz26_2,hfz26_3⟩ := cl4_ BK109.out)|((with_reducible refine gcal_ (f := 44) rfl ?_);refine gl_ (some 14) Try.func44 #[.slice A0_2 l0_2.length c0_2,.int .i64 t110] ?_;(with_reducible refine (laws_szRecordS.calls k _ _ l0_2 t110 t111 _ ?side1 ?side2 A8.out).mono ?_);(case side1 => exact cb_ HR0_2);(case side2 => exact HC0_2.out);rintro e w27 ⟨rfl,hb⟩;refine ⟨_,rfl,?_⟩;replace BK109 := Aside0.mk (blk_below (kb_ BK109) hb);replace HB := Aside0.mk (below_step b_ hb);(try clear hb);(try clear hb2);(try clear hk);(try clear hi);obtain ⟨⟨hcz28_0,hcz28_1,hcz28_2,hcz28_3⟩,hfz28_0,hfz28_1,hfz28_2,hfz28_3⟩ := cl4_ BK109.out)|((with_reducible refine gcal_ (f := 45) rfl ?_);refine gl_ (some 20) Try.func45 #[.slice A0_3 l0_3.length c0_3,.int .i64 t111] ?_;(with_reducible refine (laws_szInt64S.calls _ _ l0_3 t111 t112 _ ?side1 ?side2 A15.out).mono ?_);(case side1 => exact cb_ HR0_3);(case side2 => exact HC0_3.out);rintro e w' ⟨rfl,⟨nd,rfl⟩⟩;refine ⟨_,rfl,?_⟩))
    go_ret
    exact ⟨rf_,b_⟩

/-! ### laws_toCell: function 84 -/
def laws_toCell.f (a0_0 : Int) (a0_1 : Int) : Option (Int × Int) := some (a0_0, a0_1)
set_option maxHeartbeats 8000000 in
set_option maxRecDepth 100000 in
theorem laws_toCell.calls (a0_0 : Int) (a0_1 : Int) (r1 : Int) (r2 : Int) (w : World) (h : laws_toCell.f a0_0 a0_1 = some (r1, r2)) :
    Calls Try.prog 84 #[.agg #[.int .i64 a0_0, .int .i64 a0_1]] w fun e w' => e = .returned (.agg #[.int .i64 r1, .int .i64 r2]) ∧ Below w.heap.size w w' := by
 have hu110 := Try.underlying110
 have hu92 := Try.underlying92
 have HB := Aside0.mk (Below.refl w.heap.size w)
 have H : (some (a0_0,a0_1)) = some (r1,r2) := h
 clear h
 simp only [Option.some.injEq,Prod.mk.injEq] at H
 obtain ⟨rfl,rfl⟩ := H
 go_enter Try.func84,Try.ntmps84
 go_wp2_with (first|((with_reducible refine gate_dst (N := 1) rfl ?_);refine bx_ 1 #[.int .i64 a0_0,.int .i64 a0_1] 110 ?_;intro gb113 hg w2 hbox hb;replace HB := nb_ hg hbox hb;obtain ⟨BK113,GW113,GE113,HB⟩ := HB;clear hb hbox hg)|((with_reducible refine gate_dst (N := 2) rfl ?_);refine bx_ 2 #[.int .i64 0,.int .i64 0] 92 ?_;intro gb114 hg w3 hbox hb;replace HB := nb_ hg hbox hb;obtain ⟨BK114,GW114,GE114,HB⟩ := HB;have NB113_114 := Aside0.mk ((nl_ BK113 hg));have NB114_113 := Aside0.mk ((ng_ BK113 hg));replace BK113 := Aside0.mk (blk_below (kb_ BK113) hb);clear hb hbox hg)|((with_reducible refine gate_dst (N := 3) rfl ?_);refine bx_ 3 #[.int .i64 0,.int .i64 0] 92 ?_;intro gb115 hg w4 hbox hb;replace HB := nb_ hg hbox hb;obtain ⟨BK115,GW115,GE115,HB⟩ := HB;have NB113_115 := Aside0.mk ((nl_ BK113 hg));have NB115_113 := Aside0.mk ((ng_ BK113 hg));replace BK113 := Aside0.mk (blk_below (kb_ BK113) hb);have NB114_115 := Aside0.mk ((nl_ BK114 hg));have NB115_114 := Aside0.mk ((ng_ BK114 hg));replace BK114 := Aside0.mk (blk_below (kb_ BK114) hb);clear hb hbox hg;have hnb5 := NB113_114.out;have hnc5 := NB114_113.out;have hnb6 := NB113_115.out;have hnc6 := NB115_113.out;obtain ⟨⟨hcz7_0,hcz7_1⟩,hfz7_0,hfz7_1⟩ := cl2_ BK113.out;have hnb8 := NB115_114.out;have hnc8 := NB114_115.out;obtain ⟨⟨hcz9_0,hcz9_1⟩,hfz9_0,hfz9_1⟩ := cl2_ BK115.out;obtain ⟨⟨hcz10_0,hcz10_1⟩,hfz10_0,hfz10_1⟩ := cl2_ BK114.out))
 refine bodyPost_ret (results_cell_row rfl _ _ gb114 92 #[.int .i64 a0_0,.int .i64 a0_1] (0,0) _ rfl (by (with_reducible repeat (first|refine blk_drewN ?_ _|refine blk_drew ?_|refine blk_alloc ?_ _));refine blk_put (cs := #[.int .i64 a0_0,.int .i64 0]) ?_ 1 _ rfl;(with_reducible repeat (first|refine blk_drewN ?_ _|refine blk_drew ?_|refine blk_alloc ?_ _));refine blk_put (cs := #[.int .i64 0,.int .i64 0]) ?_ 0 _ rfl;(with_reducible repeat (first|refine blk_drewN ?_ _|refine blk_drew ?_|refine blk_alloc ?_ _));refine blk_far ?_ NB114_115.out _;(with_reducible repeat (first|refine blk_drewN ?_ _|refine blk_drew ?_|refine blk_alloc ?_ _));refine blk_far ?_ NB114_115.out _;(with_reducible repeat (first|refine blk_drewN ?_ _|refine blk_drew ?_|refine blk_alloc ?_ _));exact BK114.out) Try.underlying92 rfl (by kernel_rfl)) rfl ?_
 exact ⟨rf_,b_⟩

/-! ### laws_toCellS: function 35 -/
def laws_toCellS.l0 : Nat → List (S110) → List (S92) → Int → Option ((List (S92)))
  | 0, _, _, _ => none
  | k + 1, x0, x3, x4 => if x4 < (x0.length : Int) then (if 0 ≤ x4 then ((laws_toCell.f ((rd_T110 x0 x4).f0) ((rd_T110 x0 x4).f1)).bind fun bt120 => (if x4 < (x3.length : Int) then (laws_toCellS.l0 k x0 (x3.set (x4 : Int).toNat (⟨bt120.1, bt120.2⟩ : S92)) (wrap64 (x4 + 1))) else (none))) else (none)) else (some x3)
def laws_toCellS.f (k : Nat) (l0 : List (S110)) : Option ((List (S92))) := if 0 ≤ (l0.length : Int) then (if ((l0.length : Int) : Int).toNat ≤ 17592186044416 then (laws_toCellS.l0 k l0 (List.replicate ((l0.length : Int) : Int).toNat z92) 0) else (none)) else (none)

set_option maxHeartbeats 8000000 in
set_option maxRecDepth 100000 in
theorem laws_toCellS.calls (k : Nat) (A0 : Option Addr) (c0 : Nat) (l0 : List (S110)) (r : List (S92)) (w : World) (hr0 : Kd.C k110 w A0 l0.length l0) (hc0 : l0.length ≤ c0) (h : laws_toCellS.f k l0 = some r) :
    Calls Try.prog 35 #[.slice A0 l0.length c0] w fun e w' => ∃ v0_ : Value, e = .returned (v0_) ∧ Kd.R k92 92 w' w.heap.size (fun _ => True) v0_ r ∧ Below w.heap.size w w' := by
 have hu110 := Try.underlying110
 have hu92 := Try.underlying92
 have HR0 := Aside0.mk hr0
 have HC0 := Aside0.mk hc0
 clear hr0 hc0
 have HB := Aside0.mk (Below.refl w.heap.size w)
 have H : (if 0 ≤ (l0.length : Int) then (if ((l0.length : Int) : Int).toNat ≤ 17592186044416 then (laws_toCellS.l0 k l0 (List.replicate ((l0.length : Int) : Int).toNat z92) 0) else (none)) else (none)) = some r := h
 clear h
 by_cases c2 : 0 ≤ (l0.length : Int)
 ·rw [if_pos c2] at H
  have c2b0 := eq_true c2
  have c2b1 : decide (0 ≤ (l0.length : Int)) = true := decide_eq_true c2
  clear c2
  by_cases c3 : ((l0.length : Int) : Int).toNat ≤ 17592186044416
  ·rw [if_pos c3] at H
   have c3b0 := eq_true c3
   have c3b1 : decide (((l0.length : Int) : Int).toNat ≤ 17592186044416) = true := decide_eq_true c3
   clear c3
   obtain ⟨y116,hy116⟩ : ∃ y_ : List (S92),y_ = (List.replicate ((l0.length : Int) : Int).toNat z92) := ⟨_,rfl⟩
   replace H : (laws_toCellS.l0 k l0 y116 0) = some r := by first|(rw [hy116];with_reducible exact H)|(have H2_ := (Option.bind_some _ _).symm.trans H;rw [hy116];with_reducible exact H2_)|(have H2_ := (Option.bind_some _ _).symm.trans H;with_reducible exact H2_)|with_reducible exact H|(rw [hy116];exact H)|exact H
   have Ny116 := Aside0.mk hy116
   clear hy116
   have H' := Aside0.mk H
   clear H
   go_enter Try.func35,Try.ntmps35
   go_wp2_with (first|((with_reducible refine gate_dst (N := 7) rfl ?_);refine Kd.R_make k92 _ 92 rfl (N := 7) rfl 36 _ _ rfl (l0.length : Int) rfl rfl Try.underlying36 (.agg #[(.int .i64 0),(.int .i64 0)]) 16 info92 rfl (by decide) (by omega) z92 (ok := fun _ => True) (okp := fun _ => True) (k92_mkM _ _ _ z92 ) (fun _ hk => hk) trivial (od_) (Nat.le_trans (Nat.mul_le_mul_right _ (od_ : (l0.length : Int).toNat ≤ 17592186044416)) (by omega)) (Below.refl _ _) (Nat.le_refl _) ?_;intro v117 w4 ho5 hb hg_ hnew_;clear hg_ hnew_;(first|rw [← Ny116.out] at ho5|(simp only [Int.reduceToNat] at ho5;rw [← Ny116.out] at ho5));have HO118 := Aside0.mk (Kd.R_lower ho5 (below_size b_));replace HB := Aside0.mk (below_step b_ hb);clear hb ho5))
   go_loopg [4] k (fun kq v4 w' => ∃ (x3_1 : List (S92)) (x4_1 : Int),v4 = .int .i64 x4_1 ∧ Aside0 (laws_toCellS.l0 kq l0 x3_1 x4_1 = some r) ∧ Aside0 (kq ≤ k) ∧ Aside0 (Kd.R k92 92 w' w.heap.size (fun _ => True) v117 x3_1) ∧ Aside0 (Below w.heap.size w w'))
   case atStart => exact ⟨(y116),(0),rs_,H',⟨Nat.le_refl _⟩,⟨by (with_reducible repeat (first|apply Kd.R_alloc|apply Kd.R_drewN|apply Kd.R_drew));exact HO118.out⟩,⟨b_⟩⟩
   case round =>
    clear H'
    try clear c2
    try clear c2b0
    try clear c2b1
    try clear p2
    try clear c3
    try clear c3b0
    try clear c3b1
    obtain ⟨x3_1,x4_1,rfl,HA,HK1,HO_3,HB⟩ := hrel
    cases gk with
    | zero => exact absurd HA.out (by simp [laws_toCellS.l0])
    | succ k1 =>
     have H := HA.out
     clear HA
     simp only [laws_toCellS.l0] at H
     by_cases c6 : x4_1 < (l0.length : Int)
     ·rw [if_pos c6] at H
      have c6b0 : decide (x4_1 < (l0.length : Int)) = true := decide_eq_true c6
      clear c6
      by_cases c7 : 0 ≤ x4_1
      ·rw [if_pos c7] at H
       have c7b0 : decide (0 ≤ x4_1) = true := decide_eq_true c7
       clear c7
       replace H := Option.bind_eq_some_iff.mp H
       obtain ⟨⟨t120,t121⟩,A80,H⟩ := H
       replace H : (if x4_1 < (x3_1.length : Int) then (laws_toCellS.l0 k1 l0 (x3_1.set (x4_1 : Int).toNat (⟨t120,t121⟩ : S92)) (wrap64 (x4_1 + 1))) else (none)) = some r := H
       have A8 := Aside0.mk A80
       clear A80
       by_cases c9 : x4_1 < (x3_1.length : Int)
       ·rw [if_pos c9] at H
        have c9b0 : decide (x4_1 < (x3_1.length : Int)) = true := decide_eq_true c9
        clear c9
        obtain ⟨y122,hy122⟩ : ∃ y_ : List (S92),y_ = (x3_1.set (x4_1 : Int).toNat (⟨t120,t121⟩ : S92)) := ⟨_,rfl⟩
        replace H : (laws_toCellS.l0 k1 l0 y122 (wrap64 (x4_1 + 1))) = some r := by first|(rw [hy122];with_reducible exact H)|(have H2_ := (Option.bind_some _ _).symm.trans H;rw [hy122];with_reducible exact H2_)|(have H2_ := (Option.bind_some _ _).symm.trans H;with_reducible exact H2_)|with_reducible exact H|(rw [hy122];exact H)|exact H
        have Ny122 := Aside0.mk hy122
        clear hy122
        have H' := Aside0.mk H
        clear H
        have p119 : 0 ≤ (x4_1 : Int) := od_
        have q119 : x4_1 < (l0.length : Int) := od_
        obtain ⟨ad119,e119,hx119_0,hx119_1⟩ := at_T110 HR0.out x4_1 p119 q119
        cases e119
        replace hx119_0 := hx_ HB hx119_0
        replace hx119_1 := hx_ HB hx119_1
        replace p119 := eq_true p119
        replace q119 := eq_true q119
        go_wp2_with (first|((with_reducible refine gcal_ (f := 84) rfl ?_);refine gl_ (some 20) Try.func84 #[.agg #[.int .i64 ((rd_T110 l0 x4_1).f0),.int .i64 ((rd_T110 l0 x4_1).f1)]] ?_;(with_reducible refine (laws_toCell.calls ((rd_T110 l0 x4_1).f0) ((rd_T110 l0 x4_1).f1) t120 t121 _ A8.out).mono ?_);rintro e w11 ⟨rfl,hb⟩;refine ⟨_,rfl,?_⟩;replace HO_3 := Aside0.mk (Kd.R_below (by (with_reducible repeat (first|apply Kd.R_alloc|apply Kd.R_drewN|apply Kd.R_drew));exact HO_3.out) hb);replace HB := Aside0.mk (below_step b_ hb);(try clear hb);(try clear hb2);(try clear hk);(try clear hi);have p10 : 0 ≤ (x4_1 : Int) := od_;have q10 : (x4_1 : Int) < ((x3_1.length : Int) : Int) := od_;obtain ⟨go10,co10,eo10,gb10,gl10,cl10,HG10⟩ := Kd.R_form HO_3.out (by omega);(first|cases eo10|(injection eo10 with ea_ en_ ec_;(first|subst ea_|(injection ea_ with ea_;subst ea_));subst ec_;clear en_));have GB10 := Aside0.mk gb10;have GG10 := Aside0.mk HG10;clear gb10 gl10 HG10;obtain ⟨ce10,hcl10,hM10,hcc10,hfr10⟩ := Kd.R_elem HO_3.out z92 (x4_1 : Int) p10 q10;obtain rfl := k92_openM hM10;have hx10_0 : w11.cell? ⟨go10,(x4_1 : Int).toNat * 2,none⟩ = some (.int .i64 ((rd_T92 x3_1 x4_1).f0)) := hcc10 0 _ rfl;have hx10_1 : w11.cell? ⟨go10,(x4_1 : Int).toNat * 2 + 1,none⟩ = some (.int .i64 ((rd_T92 x3_1 x4_1).f1)) := hcc10 1 _ rfl;have hf10_0 : w11.frozen? ⟨go10,(x4_1 : Int).toNat * 2,none⟩ = false := hfr10 0;have hf10_1 : w11.frozen? ⟨go10,(x4_1 : Int).toNat * 2 + 1,none⟩ = false := hfr10 1;clear hcl10 hcc10 hfr10 hM10;replace p10 := eq_true p10;replace q10 := eq_true q10;have HX12 := Aside0.mk (show Kd.R k92 92 w11 w.heap.size (fun _ => True) (.slice (some ⟨go10,0,none⟩) x3_1.length co10) x3_1 from (by (with_reducible repeat (first|apply Kd.R_alloc|apply Kd.R_drewN|apply Kd.R_drew));exact HO_3.out));obtain ⟨ce12,hcl12,hM12,hcc12,hfr12⟩ := Kd.R_elem HX12.out z92 (x4_1 : Int) (od_) (by have h_ : (x4_1 : Int) < ((x3_1.length : Int) : Int) := od_;first|exact h_|(have e_ := (Kd.R_reads' HO_3.out).1;omega)|simpa using h_);obtain rfl := k92_openM hM12;have HP12 := Kd.R_seg HX12.out (x4_1 : Int) (od_) (by have h_ : (x4_1 : Int) < ((x3_1.length : Int) : Int) := od_;first|exact h_|(have e_ := (Kd.R_reads' HO_3.out).1;omega)|simpa using h_) (seg := [.int .i64 t120,.int .i64 t121]) (j := 0) hcl12 hcc12 (show 2 ≤ 2 from by decide) (x' := (⟨t120,t121⟩ : S92)) (k92_mkM _ _ _ (⟨t120,t121⟩ : S92) ) (fun _ hk => hk);have hx12_0 := hcc12 0 _ rfl;(try simp only [show (k92).sz = 2 from rfl,Nat.mul_one,Nat.add_zero] at hx12_0);have hf12_0 := hfr12 0;(try simp only [show (k92).sz = 2 from rfl,Nat.mul_one,Nat.add_zero] at hf12_0);have hx12_1 := hcc12 1 _ rfl;(try simp only [show (k92).sz = 2 from rfl,Nat.mul_one,Nat.add_zero] at hx12_1);have hf12_1 := hfr12 1;(try simp only [show (k92).sz = 2 from rfl,Nat.mul_one,Nat.add_zero] at hf12_1);clear hcl12 hcc12 hfr12 hM12)|((with_reducible refine gate_store (t := 92) (p := 21) rfl ?_);refine store_event (t := 92) (p := 21) (v := ?vo_w13) (w1 := ((w11.setCell ⟨go10,(x4_1 : Int).toNat * 2,none⟩ (.int .i64 t120)).setCell ⟨go10,(x4_1 : Int).toNat * 2 + 1,none⟩ (.int .i64 t121))) ?hg ?ho ?hn ?hr ?_;(case ho => rfl);(case hg => rfl);(case hn => rfl);(case hr => first|(go_simp;done)|(go_simp;rfl)|(obtain ⟨_,_,e_⟩ := Kd.R_slice HO_3.out;subst e_;first|(go_simp;done)|(go_simp;rfl)));intro w13 hw;have hg : w11.grownBy w13 (some go10) := (by rw [hw];exact HP12.2);have hp_ : Kd.R k92 92 w13 w.heap.size (fun _ => True) (.slice (some ⟨go10,0,none⟩) x3_1.length co10) y122 := (by rw [hw,Ny122.out];exact HP12.1);clear HP12;replace HO_3 := Aside0.mk (hp_);replace HB := Aside0.mk ((by rw [hw];exact below_set (below_set (HB.out) GB10.out) GB10.out : Below w.heap.size w w13));clear hg hw hp_))
        go_roundg k1
        case measure => have := HK1.out;omega
        case rel => exact ⟨(y122),(wrap64 (x4_1 + 1)),rs_,H',⟨by have := HK1.out;omega⟩,⟨by (with_reducible repeat (first|apply Kd.R_alloc|apply Kd.R_drewN|apply Kd.R_drew));exact HO_3.out⟩,⟨b_⟩⟩
       ·rw [if_neg c9] at H
        exact absurd H (by simp)
      ·rw [if_neg c7] at H
       exact absurd H (by simp)
     ·rw [if_neg c6] at H
      have c6b0 : decide (x4_1 < (l0.length : Int)) = false := decide_eq_false c6
      clear c6
      obtain rfl := Option.some.inj H
      go_wp2
      go_ret
      exact ⟨_,rf_,by (with_reducible repeat (first|apply Kd.R_alloc|apply Kd.R_drewN|apply Kd.R_drew));exact HO_3.out,b_⟩
  ·rw [if_neg c3] at H
   exact absurd H (by simp)
 ·rw [if_neg c2] at H
  exact absurd H (by simp)

/-! ### laws_toCopy: function 107 -/
def laws_toCopy.f (k : Nat) (a0_0 : Int) (l0_1 : List (S110)) : Option (Int × (List (S92))) := (laws_toCellS.f k l0_1).bind fun t126 => (some (a0_0, t126))

set_option maxHeartbeats 8000000 in
set_option maxRecDepth 100000 in
theorem laws_toCopy.calls (k : Nat) (a0_0 : Int) (A0_1 : Option Addr) (c0_1 : Nat) (l0_1 : List (S110)) (r1 : Int) (r2 : List (S92)) (w : World) (hr0_1 : Kd.C k110 w A0_1 l0_1.length l0_1) (hc0_1 : l0_1.length ≤ c0_1) (h : laws_toCopy.f k a0_0 l0_1 = some (r1, r2)) :
    Calls Try.prog 107 #[.agg #[.int .i64 a0_0, .slice A0_1 l0_1.length c0_1]] w fun e w' => ∃ v1_ : Value, e = .returned (.agg #[.int .i64 r1, v1_]) ∧ Kd.R k92 92 w' w.heap.size (fun _ => True) v1_ r2 ∧ Below w.heap.size w w' := by
 have hu123 := Try.underlying123
 have hu79 := Try.underlying79
 have HR0_1 := Aside0.mk hr0_1
 have HC0_1 := Aside0.mk hc0_1
 clear hr0_1 hc0_1
 have HB := Aside0.mk (Below.refl w.heap.size w)
 have H : ((laws_toCellS.f k l0_1).bind fun t126 => (some (a0_0,t126))) = some (r1,r2) := h
 clear h
 replace H := bs_ H
 obtain ⟨t126,A2,H⟩ := H
 simp only [Option.some.injEq,Prod.mk.injEq] at H
 obtain ⟨rfl,rfl⟩ := H
 go_enter Try.func107,Try.ntmps107
 go_wp2_with (first|((with_reducible refine gate_dst (N := 1) rfl ?_);refine bx_ 1 #[.int .i64 a0_0,.slice A0_1 l0_1.length c0_1] 123 ?_;intro gb123 hg w3 hbox hb;replace HB := nb_ hg hbox hb;obtain ⟨BK123,GW123,GE123,HB⟩ := HB;clear hb hbox hg)|((with_reducible refine gate_dst (N := 2) rfl ?_);refine bx_ 2 #[.int .i64 0,.slice none 0 0] 79 ?_;intro gb124 hg w4 hbox hb;replace HB := nb_ hg hbox hb;obtain ⟨BK124,GW124,GE124,HB⟩ := HB;have NB123_124 := Aside0.mk ((nl_ BK123 hg));have NB124_123 := Aside0.mk ((ng_ BK123 hg));replace BK123 := Aside0.mk (blk_below (kb_ BK123) hb);clear hb hbox hg)|((with_reducible refine gate_dst (N := 3) rfl ?_);refine bx_ 3 #[.int .i64 0,.slice none 0 0] 79 ?_;intro gb125 hg w5 hbox hb;replace HB := nb_ hg hbox hb;obtain ⟨BK125,GW125,GE125,HB⟩ := HB;have NB123_125 := Aside0.mk ((nl_ BK123 hg));have NB125_123 := Aside0.mk ((ng_ BK123 hg));replace BK123 := Aside0.mk (blk_below (kb_ BK123) hb);have NB124_125 := Aside0.mk ((nl_ BK124 hg));have NB125_124 := Aside0.mk ((ng_ BK124 hg));replace BK124 := Aside0.mk (blk_below (kb_ BK124) hb);clear hb hbox hg;have hnb6 := NB123_124.out;have hnc6 := NB124_123.out;have hnb7 := NB123_125.out;have hnc7 := NB125_123.out;obtain ⟨⟨hcz8_0,hcz8_1⟩,hfz8_0,hfz8_1⟩ := cl2_ BK123.out;have hnb9 := NB125_124.out;have hnc9 := NB124_125.out;obtain ⟨⟨hcz10_0,hcz10_1⟩,hfz10_0,hfz10_1⟩ := cl2_ BK125.out)|((with_reducible refine gcal_ (f := 35) rfl ?_);refine gl_ (some 9) Try.func35 #[.slice A0_1 l0_1.length c0_1] ?_;(with_reducible refine (laws_toCellS.calls k _ _ l0_1 t126 _ ?side1 ?side2 A2.out).mono ?_);(case side1 => exact Kd.C_below HR0_1.out b_);(case side2 => exact HC0_1.out);rintro e w11 ⟨v127,rfl,ho0,hb⟩;refine ⟨_,rfl,?_⟩;replace BK123 := Aside0.mk (blk_below (kf_ BK123) hb);replace BK124 := Aside0.mk (blk_below (kf_ BK124) hb);replace BK125 := Aside0.mk (blk_below (g := gb125) (o := .cells #[.int .i64 a0_0,.slice none 0 0] 79 (0,0)) (by (with_reducible repeat (first|refine blk_drewN ?_ _|refine blk_drew ?_|refine blk_alloc ?_ _));refine blk_put (cs := #[.int .i64 0,.slice none 0 0]) ?_ 0 _ rfl;(with_reducible repeat (first|refine blk_drewN ?_ _|refine blk_drew ?_|refine blk_alloc ?_ _));exact BK125.out) hb);have HO128 := Aside0.mk (Kd.R_lower ho0 (below_size b_));replace HB := Aside0.mk (below_step b_ hb);(try clear hb);(try clear hb2);(try clear hk);(try clear hi);(try clear ho0);obtain ⟨Ao12,co12,eo12⟩ := Kd.R_slice HO128.out;subst eo12;obtain ⟨⟨hcz13_0,hcz13_1⟩,hfz13_0,hfz13_1⟩ := cl2_ BK125.out;obtain ⟨⟨hcz14_0,hcz14_1⟩,hfz14_0,hfz14_1⟩ := cl2_ BK124.out))
 refine bodyPost_ret (results_cell_row rfl _ _ gb124 79 #[.int .i64 a0_0,.slice Ao12 t126.length co12] (0,0) _ rfl (by (with_reducible repeat (first|refine blk_drewN ?_ _|refine blk_drew ?_|refine blk_alloc ?_ _));refine blk_put (cs := #[.int .i64 a0_0,.slice none 0 0]) ?_ 1 _ rfl;(with_reducible repeat (first|refine blk_drewN ?_ _|refine blk_drew ?_|refine blk_alloc ?_ _));refine blk_put (cs := #[.int .i64 0,.slice none 0 0]) ?_ 0 _ rfl;(with_reducible repeat (first|refine blk_drewN ?_ _|refine blk_drew ?_|refine blk_alloc ?_ _));refine blk_far ?_ NB124_125.out _;(with_reducible repeat (first|refine blk_drewN ?_ _|refine blk_drew ?_|refine blk_alloc ?_ _));exact BK124.out) Try.underlying79 rfl (by kernel_rfl)) rfl ?_
 exact ⟨_,rf_,by (with_reducible repeat (first|apply Kd.R_alloc|apply Kd.R_drewN|apply Kd.R_drew));exact Kd.R_mono (Kd.R_far (p := ⟨gb124,1,none⟩) (Kd.R_far (p := ⟨gb124,0,none⟩) (Kd.R_far (p := ⟨gb125,1,none⟩) (Kd.R_types (Kd.R_types HO128.out BK125.out (by decide)) BK124.out (by decide)) (fun _ hk => hk.1.2) (.slice Ao12 t126.length co12)) (fun _ hk => hk.2) (.int .i64 a0_0)) (fun _ hk => hk.2) (.slice Ao12 t126.length co12)) (fun _ hk => trivial),b_⟩

/-! ### laws_toCopyS: function 50 -/
def laws_toCopyS.l0 : Nat → List (S123) → List (S79) → Int → Option ((List (S79)))
  | 0, _, _, _ => none
  | k + 1, x0, x3, x4 => if x4 < (x0.length : Int) then (if 0 ≤ x4 then ((laws_toCopy.f k ((rd_T123 x0 x4).f0) ((rd_T123 x0 x4).f1)).bind fun bt133 => (if x4 < (x3.length : Int) then (laws_toCopyS.l0 k x0 (x3.set (x4 : Int).toNat (⟨bt133.1, bt133.2⟩ : S79)) (wrap64 (x4 + 1))) else (none))) else (none)) else (some x3)
def laws_toCopyS.f (k : Nat) (l0 : List (S123)) : Option ((List (S79))) := if 0 ≤ (l0.length : Int) then (if ((l0.length : Int) : Int).toNat ≤ 8796093022208 then (laws_toCopyS.l0 k l0 (List.replicate ((l0.length : Int) : Int).toNat z79) 0) else (none)) else (none)

set_option maxHeartbeats 8000000 in
set_option maxRecDepth 100000 in
theorem laws_toCopyS.calls (k : Nat) (A0 : Option Addr) (c0 : Nat) (l0 : List (S123)) (r : List (S79)) (w : World) (hr0 : Kd.C k123 w A0 l0.length l0) (hc0 : l0.length ≤ c0) (h : laws_toCopyS.f k l0 = some r) :
    Calls Try.prog 50 #[.slice A0 l0.length c0] w fun e w' => ∃ v0_ : Value, e = .returned (v0_) ∧ Kd.S k79 79 w' w.heap.size (fun _ => True) v0_ r ∧ Below w.heap.size w w' := by
 have hu123 := Try.underlying123
 have hu79 := Try.underlying79
 have HR0 := Aside0.mk hr0
 have HC0 := Aside0.mk hc0
 clear hr0 hc0
 have HB := Aside0.mk (Below.refl w.heap.size w)
 have H : (if 0 ≤ (l0.length : Int) then (if ((l0.length : Int) : Int).toNat ≤ 8796093022208 then (laws_toCopyS.l0 k l0 (List.replicate ((l0.length : Int) : Int).toNat z79) 0) else (none)) else (none)) = some r := h
 clear h
 by_cases c2 : 0 ≤ (l0.length : Int)
 ·rw [if_pos c2] at H
  have c2b0 := eq_true c2
  have c2b1 : decide (0 ≤ (l0.length : Int)) = true := decide_eq_true c2
  clear c2
  by_cases c3 : ((l0.length : Int) : Int).toNat ≤ 8796093022208
  ·rw [if_pos c3] at H
   have c3b0 := eq_true c3
   have c3b1 : decide (((l0.length : Int) : Int).toNat ≤ 8796093022208) = true := decide_eq_true c3
   clear c3
   obtain ⟨y129,hy129⟩ : ∃ y_ : List (S79),y_ = (List.replicate ((l0.length : Int) : Int).toNat z79) := ⟨_,rfl⟩
   replace H : (laws_toCopyS.l0 k l0 y129 0) = some r := by first|(rw [hy129];with_reducible exact H)|(have H2_ := (Option.bind_some _ _).symm.trans H;rw [hy129];with_reducible exact H2_)|(have H2_ := (Option.bind_some _ _).symm.trans H;with_reducible exact H2_)|with_reducible exact H|(rw [hy129];exact H)|exact H
   have Ny129 := Aside0.mk hy129
   clear hy129
   have H' := Aside0.mk H
   clear H
   go_enter Try.func50,Try.ntmps50
   go_wp2_with (first|((with_reducible refine gate_dst (N := 7) rfl ?_);refine Kd.S_make k79 _ 79 rfl (N := 7) rfl 29 _ _ rfl (l0.length : Int) rfl rfl Try.underlying29 (.agg #[(.int .i64 0),(.slice none 0 0)]) 32 info79 rfl (by decide) (by omega) z79 (ok := fun _ => True) (okp := fun _ => True) (k79_mkM _ _ _ z79 (Kd.R_nil _ _ _ _ _)) (fun _ hk => hk) trivial (od_) (Nat.le_trans (Nat.mul_le_mul_right _ (od_ : (l0.length : Int).toNat ≤ 8796093022208)) (by omega)) (Below.refl _ _) (Nat.le_refl _) ?_;intro v130 w4 ho5 hb hg_ hnew_;clear hg_ hnew_;(first|rw [← Ny129.out] at ho5|(simp only [Int.reduceToNat] at ho5;rw [← Ny129.out] at ho5));have HO131 := Aside0.mk (Kd.S_lower ho5 (below_size b_));replace HB := Aside0.mk (below_step b_ hb);clear hb ho5))
   go_loopg [4] k (fun kq v4 w' => ∃ (x3_1 : List (S79)) (x4_1 : Int),v4 = .int .i64 x4_1 ∧ Aside0 (laws_toCopyS.l0 kq l0 x3_1 x4_1 = some r) ∧ Aside0 (kq ≤ k) ∧ Aside0 (Kd.S k79 79 w' w.heap.size (fun _ => True) v130 x3_1) ∧ Aside0 (Below w.heap.size w w'))
   case atStart => exact ⟨(y129),(0),rs_,H',⟨Nat.le_refl _⟩,⟨by (with_reducible repeat (first|apply Kd.S_alloc|apply Kd.S_drewN|apply Kd.S_drew));exact HO131.out⟩,⟨b_⟩⟩
   case round =>
    clear H'
    try clear c2
    try clear c2b0
    try clear c2b1
    try clear p2
    try clear c3
    try clear c3b0
    try clear c3b1
    try clear c5
    obtain ⟨x3_1,x4_1,rfl,HA,HK1,HO_3,HB⟩ := hrel
    cases gk with
    | zero => exact absurd HA.out (by simp [laws_toCopyS.l0])
    | succ k1 =>
     have H := HA.out
     clear HA
     simp only [laws_toCopyS.l0] at H
     by_cases c6 : x4_1 < (l0.length : Int)
     ·rw [if_pos c6] at H
      have c6b0 : decide (x4_1 < (l0.length : Int)) = true := decide_eq_true c6
      clear c6
      by_cases c7 : 0 ≤ x4_1
      ·rw [if_pos c7] at H
       have c7b0 : decide (0 ≤ x4_1) = true := decide_eq_true c7
       clear c7
       replace H := Option.bind_eq_some_iff.mp H
       obtain ⟨⟨t133,t134⟩,A80,H⟩ := H
       replace H : (if x4_1 < (x3_1.length : Int) then (laws_toCopyS.l0 k1 l0 (x3_1.set (x4_1 : Int).toNat (⟨t133,t134⟩ : S79)) (wrap64 (x4_1 + 1))) else (none)) = some r := H
       have A8 := Aside0.mk A80
       clear A80
       by_cases c9 : x4_1 < (x3_1.length : Int)
       ·rw [if_pos c9] at H
        have c9b0 : decide (x4_1 < (x3_1.length : Int)) = true := decide_eq_true c9
        clear c9
        obtain ⟨y137,hy137⟩ : ∃ y_ : List (S79),y_ = (x3_1.set (x4_1 : Int).toNat (⟨t133,t134⟩ : S79)) := ⟨_,rfl⟩
        replace H : (laws_toCopyS.l0 k1 l0 y137 (wrap64 (x4_1 + 1))) = some r := by first|(rw [hy137];with_reducible exact H)|(have H2_ := (Option.bind_some _ _).symm.trans H;rw [hy137];with_reducible exact H2_)|(have H2_ := (Option.bind_some _ _).symm.trans H;with_reducible exact H2_)|with_reducible exact H|(rw [hy137];exact H)|exact H
        have Ny137 := Aside0.mk hy137
        clear hy137
        have H' := Aside0.mk H
        clear H
        have p132 : 0 ≤ (x4_1 : Int) := od_
        have q132 : x4_1 < (l0.length : Int) := od_
        obtain ⟨ad132,A132_1,c132_1,e132,hx132_0,hx132_1,hl132_1,hi132_1⟩ := at_T123 HR0.out x4_1 p132 q132
        cases e132
        replace hx132_0 := hx_ HB hx132_0
        replace hx132_1 := hx_ HB hx132_1
        have HR132_1 := Aside0.mk hi132_1
        have HC132_1 := Aside0.mk hl132_1
        clear hi132_1 hl132_1
        replace p132 := eq_true p132
        replace q132 := eq_true q132
        go_wp2_with (first|((with_reducible refine gcal_ (f := 107) rfl ?_);refine gl_ (some 20) Try.func107 #[.agg #[.int .i64 ((rd_T123 l0 x4_1).f0),.slice A132_1 ((rd_T123 l0 x4_1).f1).length c132_1]] ?_;(with_reducible refine (laws_toCopy.calls k1 ((rd_T123 l0 x4_1).f0) _ _ ((rd_T123 l0 x4_1).f1) t133 t134 _ ?side1 ?side2 A8.out).mono ?_);(case side1 => exact cb_ HR132_1);(case side2 => exact HC132_1.out);rintro e w11 ⟨v135,rfl,ho0,hb⟩;refine ⟨_,rfl,?_⟩;replace HO_3 := Aside0.mk (Kd.S_elder' (by (with_reducible repeat (first|apply Kd.S_alloc|apply Kd.S_drewN|apply Kd.S_drew));exact HO_3.out) (Kd.R_base ho0) hb);have HO136 := Aside0.mk (Kd.R_lower ho0 (below_size b_));replace HB := Aside0.mk (below_step b_ hb);(try clear hb);(try clear hb2);(try clear hk);(try clear hi);(try clear ho0);have p10 : 0 ≤ (x4_1 : Int) := od_;have q10 : (x4_1 : Int) < ((x3_1.length : Int) : Int) := od_;obtain ⟨go10,co10,eo10,gb10,gl10,cl10,HG10⟩ := Kd.S_form HO_3.out (by omega);(first|cases eo10|(injection eo10 with ea_ en_ ec_;(first|subst ea_|(injection ea_ with ea_;subst ea_));subst ec_;clear en_));have GB10 := Aside0.mk gb10;have GG10 := Aside0.mk HG10;clear gb10 gl10 HG10;obtain ⟨_,ce10,hcl10,hM10,hcc10,hfr10,_,_⟩ := Kd.S_elem HO_3.out z79 (x4_1 : Int) p10 q10;obtain ⟨ve10_1,rfl,ge10_1⟩ := k79_openM hM10;have hx10_0 : w11.cell? ⟨go10,(x4_1 : Int).toNat * 2,none⟩ = some (.int .i64 ((rd_T79 x3_1 x4_1).f0)) := hcc10 0 _ rfl;have hx10_1 : w11.cell? ⟨go10,(x4_1 : Int).toNat * 2 + 1,none⟩ = some (ve10_1) := hcc10 1 _ rfl;have hf10_0 : w11.frozen? ⟨go10,(x4_1 : Int).toNat * 2,none⟩ = false := hfr10 0;have hf10_1 : w11.frozen? ⟨go10,(x4_1 : Int).toNat * 2 + 1,none⟩ = false := hfr10 1;clear hcl10 hcc10 hfr10 hM10;replace p10 := eq_true p10;replace q10 := eq_true q10;have n_ := Aside0.mk (Kd.S_mono (ok' := (fun k_ => some k_ ≠ (v135 : Value).ownBlock)) HO_3.out (fun k_ hk => hk.2));clear HO_3;have HO_3 := n_;clear n_;have HX12 := Aside0.mk (show Kd.S k79 79 w11 w.heap.size (fun k_ => ((fun _ => True)) k_ ∧ ¬ ((fun k_ => some k_ = (v135 : Value).ownBlock)) k_) (.slice (some ⟨go10,0,none⟩) x3_1.length co10) x3_1 from (by (with_reducible repeat (first|apply Kd.S_alloc|apply Kd.S_drewN|apply Kd.S_drew));exact Kd.S_mono HO_3.out (fun k_ hk => ⟨trivial,fun e_ => hk e_⟩)));obtain ⟨oki12,ce12,hcl12,hM12,hcc12,hfr12,hoki12,hH12⟩ := Kd.S_elem HX12.out z79 (x4_1 : Int) (od_) (by have h_ : (x4_1 : Int) < ((x3_1.length : Int) : Int) := od_;first|exact h_|(have e_ := (Kd.S_reads' HO_3.out).1;omega)|simpa using h_);obtain ⟨ve12_1,rfl,ge12_1⟩ := k79_openM hM12;have HP12 := Kd.S_seg hH12 (od_) (by have h_ : (x4_1 : Int) < ((x3_1.length : Int) : Int) := od_;first|exact h_|(have e_ := (Kd.S_reads' HO_3.out).1;omega)|simpa using h_) (seg := [.int .i64 t133,v135]) (j := 0) (show 2 ≤ 2 from by decide) (x' := (⟨t133,t134⟩ : S79)) (k79_mkM _ _ _ (⟨t133,t134⟩ : S79) (Kd.R_mono (Kd.R_tight rfl (Kd.R_mono (ok' := fun k_ => ((fun _ => True)) k_ ∧ k_ ≠ go10) (Kd.R_apart' (HO136.out) (Kd.S_typed HO_3.out) (by decide)) (fun k_ hk => ⟨trivial,fun e_ => (hk.2) (by rw [e_];rfl)⟩))) (fun _ h_ => Or.inr (h_)))) (fun _ hk => hk) (fun k_ hk_ => ((Kd.R_mono (ok' := fun k_ => ((fun _ => True)) k_ ∧ k_ ≠ go10) (Kd.R_apart' (HO136.out) (Kd.S_typed HO_3.out) (by decide)) (fun k_ hk => ⟨trivial,fun e_ => (hk.2) (by rw [e_];rfl)⟩))).1 k_ hk_.symm);have hx12_0 := hcc12 0 _ rfl;(try simp only [show (k79).sz = 2 from rfl,Nat.mul_one,Nat.add_zero] at hx12_0);have hf12_0 := hfr12 0;(try simp only [show (k79).sz = 2 from rfl,Nat.mul_one,Nat.add_zero] at hf12_0);have hx12_1 := hcc12 1 _ rfl;(try simp only [show (k79).sz = 2 from rfl,Nat.mul_one,Nat.add_zero] at hx12_1);have hf12_1 := hfr12 1;(try simp only [show (k79).sz = 2 from rfl,Nat.mul_one,Nat.add_zero] at hf12_1);clear hcl12 hcc12 hfr12 hM12 hoki12 hH12)|((with_reducible refine gate_store (t := 79) (p := 21) rfl ?_);refine store_event (t := 79) (p := 21) (v := ?vo_w13) (w1 := ((w11.setCell ⟨go10,(x4_1 : Int).toNat * 2,none⟩ (.int .i64 t133)).setCell ⟨go10,(x4_1 : Int).toNat * 2 + 1,none⟩ (v135))) ?hg ?ho ?hn ?hr ?_;(case ho => rfl);(case hg => rfl);(case hn => rfl);(case hr => first|(go_simp;done)|(go_simp;rfl)|(obtain ⟨_,_,e_⟩ := Kd.R_slice HO_3.out;subst e_;first|(go_simp;done)|(go_simp;rfl))|(obtain ⟨_,_,e_⟩ := Kd.R_slice HO136.out;subst e_;first|(go_simp;done)|(go_simp;rfl)));intro w13 hw;have hg : w11.grownBy w13 (some go10) := (by rw [hw];exact HP12.2);have hp_ : Kd.S k79 79 w13 w.heap.size (fun _ => True) (.slice (some ⟨go10,0,none⟩) x3_1.length co10) y137 := (by rw [hw,Ny137.out];exact HP12.1);clear HP12;replace HO_3 := Aside0.mk (hp_);replace HB := Aside0.mk ((by rw [hw];exact below_set (below_set (HB.out) GB10.out) GB10.out : Below w.heap.size w w13));clear HO136;clear hg hw hp_))
        go_roundg k1
        case measure => have := HK1.out;omega
        case rel => exact ⟨(y137),(wrap64 (x4_1 + 1)),rs_,H',⟨by have := HK1.out;omega⟩,⟨by (with_reducible repeat (first|apply Kd.S_alloc|apply Kd.S_drewN|apply Kd.S_drew));exact HO_3.out⟩,⟨b_⟩⟩
       ·rw [if_neg c9] at H
        exact absurd H (by simp)
      ·rw [if_neg c7] at H
       exact absurd H (by simp)
     ·rw [if_neg c6] at H
      have c6b0 : decide (x4_1 < (l0.length : Int)) = false := decide_eq_false c6
      clear c6
      obtain rfl := Option.some.inj H
      go_wp2
      go_ret
      exact ⟨_,rf_,by (with_reducible repeat (first|apply Kd.S_alloc|apply Kd.S_drewN|apply Kd.S_drew));exact HO_3.out,b_⟩
  ·rw [if_neg c3] at H
   exact absurd H (by simp)
 ·rw [if_neg c2] at H
  exact absurd H (by simp)

/-! ### laws_toSet: function 115 -/
def laws_toSet.f (a0_0 : Int) (a0_1 : Int) (a0_2 : Int) (a0_3 : Bool) (a0_4 : Int) : Option (Int × Int × Int × Bool × Int) := some (a0_0, a0_1, a0_2, a0_3, a0_4)
set_option maxHeartbeats 8000000 in
set_option maxRecDepth 100000 in
theorem laws_toSet.calls (a0_0 : Int) (a0_1 : Int) (a0_2 : Int) (a0_3 : Bool) (a0_4 : Int) (r1 : Int) (r2 : Int) (r3 : Int) (r4 : Bool) (r5 : Int) (w : World) (h : laws_toSet.f a0_0 a0_1 a0_2 a0_3 a0_4 = some (r1, r2, r3, r4, r5)) :
    Calls Try.prog 115 #[.agg #[.int .i64 a0_0, .int .i64 a0_1, .int .i64 a0_2, .bool a0_3, .int .i64 a0_4]] w fun e w' => e = .returned (.agg #[.int .i64 r1, .int .i64 r2, .int .i64 r3, .bool r4, .int .i64 r5]) ∧ Below w.heap.size w w' := by
 have hu135 := Try.underlying135
 have hu127 := Try.underlying127
 have HB := Aside0.mk (Below.refl w.heap.size w)
 have H : (some (a0_0,a0_1,a0_2,a0_3,a0_4)) = some (r1,r2,r3,r4,r5) := h
 clear h
 simp only [Option.some.injEq,Prod.mk.injEq] at H
 obtain ⟨rfl,rfl,rfl,rfl,rfl⟩ := H
 go_enter Try.func115,Try.ntmps115
 go_wp2_with (first|((with_reducible refine gate_dst (N := 1) rfl ?_);refine bx_ 1 #[.int .i64 a0_0,.int .i64 a0_1,.int .i64 a0_2,.bool a0_3,.int .i64 a0_4] 135 ?_;intro gb138 hg w2 hbox hb;replace HB := nb_ hg hbox hb;obtain ⟨BK138,GW138,GE138,HB⟩ := HB;clear hb hbox hg)|((with_reducible refine gate_dst (N := 2) rfl ?_);refine bx_ 2 #[.int .i64 0,.int .i64 0,.int .i64 0,.bool false,.int .i64 0] 127 ?_;intro gb139 hg w3 hbox hb;replace HB := nb_ hg hbox hb;obtain ⟨BK139,GW139,GE139,HB⟩ := HB;have NB138_139 := Aside0.mk ((nl_ BK138 hg));have NB139_138 := Aside0.mk ((ng_ BK138 hg));replace BK138 := Aside0.mk (blk_below (kb_ BK138) hb);clear hb hbox hg)|((with_reducible refine gate_dst (N := 3) rfl ?_);refine bx_ 3 #[.int .i64 0,.int .i64 0,.int .i64 0,.bool false,.int .i64 0] 127 ?_;intro gb140 hg w4 hbox hb;replace HB := nb_ hg hbox hb;obtain ⟨BK140,GW140,GE140,HB⟩ := HB;have NB138_140 := Aside0.mk ((nl_ BK138 hg));have NB140_138 := Aside0.mk ((ng_ BK138 hg));replace BK138 := Aside0.mk (blk_below (kb_ BK138) hb);have NB139_140 := Aside0.mk ((nl_ BK139 hg));have NB140_139 := Aside0.mk ((ng_ BK139 hg));replace BK139 := Aside0.mk (blk_below (kb_ BK139) hb);clear hb hbox hg;have hnb5 := NB138_139.out;have hnc5 := NB139_138.out;have hnb6 := NB138_140.out;have hnc6 := NB140_138.out;obtain ⟨⟨hcz7_0,hcz7_1,hcz7_2,hcz7_3,hcz7_4⟩,hfz7_0,hfz7_1,hfz7_2,hfz7_3,hfz7_4⟩ := cl5_ BK138.out;have hnb8 := NB140_139.out;have hnc8 := NB139_140.out;obtain ⟨⟨hcz9_0,hcz9_1,hcz9_2,hcz9_3,hcz9_4⟩,hfz9_0,hfz9_1,hfz9_2,hfz9_3,hfz9_4⟩ := cl5_ BK140.out;obtain ⟨⟨hcz10_0,hcz10_1,hcz10_2,hcz10_3,hcz10_4⟩,hfz10_0,hfz10_1,hfz10_2,hfz10_3,hfz10_4⟩ := cl5_ BK139.out))
 refine bodyPost_ret (results_cell_row rfl _ _ gb139 127 #[.int .i64 a0_0,.int .i64 a0_1,.int .i64 a0_2,.bool a0_3,.int .i64 a0_4] (0,0) _ rfl (by (with_reducible repeat (first|refine blk_drewN ?_ _|refine blk_drew ?_|refine blk_alloc ?_ _));refine blk_put (cs := #[.int .i64 a0_0,.int .i64 a0_1,.int .i64 a0_2,.bool a0_3,.int .i64 0]) ?_ 4 _ rfl;(with_reducible repeat (first|refine blk_drewN ?_ _|refine blk_drew ?_|refine blk_alloc ?_ _));refine blk_put (cs := #[.int .i64 a0_0,.int .i64 a0_1,.int .i64 a0_2,.bool false,.int .i64 0]) ?_ 3 _ rfl;(with_reducible repeat (first|refine blk_drewN ?_ _|refine blk_drew ?_|refine blk_alloc ?_ _));refine blk_put (cs := #[.int .i64 a0_0,.int .i64 a0_1,.int .i64 0,.bool false,.int .i64 0]) ?_ 2 _ rfl;(with_reducible repeat (first|refine blk_drewN ?_ _|refine blk_drew ?_|refine blk_alloc ?_ _));refine blk_put (cs := #[.int .i64 a0_0,.int .i64 0,.int .i64 0,.bool false,.int .i64 0]) ?_ 1 _ rfl;(with_reducible repeat (first|refine blk_drewN ?_ _|refine blk_drew ?_|refine blk_alloc ?_ _));refine blk_put (cs := #[.int .i64 0,.int .i64 0,.int .i64 0,.bool false,.int .i64 0]) ?_ 0 _ rfl;(with_reducible repeat (first|refine blk_drewN ?_ _|refine blk_drew ?_|refine blk_alloc ?_ _));refine blk_far ?_ NB139_140.out _;(with_reducible repeat (first|refine blk_drewN ?_ _|refine blk_drew ?_|refine blk_alloc ?_ _));refine blk_far ?_ NB139_140.out _;(with_reducible repeat (first|refine blk_drewN ?_ _|refine blk_drew ?_|refine blk_alloc ?_ _));refine blk_far ?_ NB139_140.out _;(with_reducible repeat (first|refine blk_drewN ?_ _|refine blk_drew ?_|refine blk_alloc ?_ _));refine blk_far ?_ NB139_140.out _;(with_reducible repeat (first|refine blk_drewN ?_ _|refine blk_drew ?_|refine blk_alloc ?_ _));refine blk_far ?_ NB139_140.out _;(with_reducible repeat (first|refine blk_drewN ?_ _|refine blk_drew ?_|refine blk_alloc ?_ _));exact BK139.out) Try.underlying127 rfl (by kernel_rfl)) rfl ?_
 exact ⟨rf_,b_⟩

/-! ### laws_toSetS: function 74 -/
def laws_toSetS.l0 : Nat → List (S135) → List (S127) → Int → Option ((List (S127)))
  | 0, _, _, _ => none
  | k + 1, x0, x3, x4 => if x4 < (x0.length : Int) then (if 0 ≤ x4 then ((laws_toSet.f ((rd_T135 x0 x4).f0) ((rd_T135 x0 x4).f1) ((rd_T135 x0 x4).f2) ((rd_T135 x0 x4).f3) ((rd_T135 x0 x4).f4)).bind fun bt145 => (if x4 < (x3.length : Int) then (laws_toSetS.l0 k x0 (x3.set (x4 : Int).toNat (⟨bt145.1, bt145.2.1, bt145.2.2.1, bt145.2.2.2.1, bt145.2.2.2.2⟩ : S127)) (wrap64 (x4 + 1))) else (none))) else (none)) else (some x3)
def laws_toSetS.f (k : Nat) (l0 : List (S135)) : Option ((List (S127))) := if 0 ≤ (l0.length : Int) then (if ((l0.length : Int) : Int).toNat ≤ 7036874417766 then (laws_toSetS.l0 k l0 (List.replicate ((l0.length : Int) : Int).toNat z127) 0) else (none)) else (none)

set_option maxHeartbeats 8000000 in
set_option maxRecDepth 100000 in
theorem laws_toSetS.calls (k : Nat) (A0 : Option Addr) (c0 : Nat) (l0 : List (S135)) (r : List (S127)) (w : World) (hr0 : Kd.C k135 w A0 l0.length l0) (hc0 : l0.length ≤ c0) (h : laws_toSetS.f k l0 = some r) :
    Calls Try.prog 74 #[.slice A0 l0.length c0] w fun e w' => ∃ v0_ : Value, e = .returned (v0_) ∧ Kd.R k127 127 w' w.heap.size (fun _ => True) v0_ r ∧ Below w.heap.size w w' := by
 have hu135 := Try.underlying135
 have hu127 := Try.underlying127
 have HR0 := Aside0.mk hr0
 have HC0 := Aside0.mk hc0
 clear hr0 hc0
 have HB := Aside0.mk (Below.refl w.heap.size w)
 have H : (if 0 ≤ (l0.length : Int) then (if ((l0.length : Int) : Int).toNat ≤ 7036874417766 then (laws_toSetS.l0 k l0 (List.replicate ((l0.length : Int) : Int).toNat z127) 0) else (none)) else (none)) = some r := h
 clear h
 by_cases c2 : 0 ≤ (l0.length : Int)
 ·rw [if_pos c2] at H
  have c2b0 := eq_true c2
  have c2b1 : decide (0 ≤ (l0.length : Int)) = true := decide_eq_true c2
  clear c2
  by_cases c3 : ((l0.length : Int) : Int).toNat ≤ 7036874417766
  ·rw [if_pos c3] at H
   have c3b0 := eq_true c3
   have c3b1 : decide (((l0.length : Int) : Int).toNat ≤ 7036874417766) = true := decide_eq_true c3
   clear c3
   obtain ⟨y141,hy141⟩ : ∃ y_ : List (S127),y_ = (List.replicate ((l0.length : Int) : Int).toNat z127) := ⟨_,rfl⟩
   replace H : (laws_toSetS.l0 k l0 y141 0) = some r := by first|(rw [hy141];with_reducible exact H)|(have H2_ := (Option.bind_some _ _).symm.trans H;rw [hy141];with_reducible exact H2_)|(have H2_ := (Option.bind_some _ _).symm.trans H;with_reducible exact H2_)|with_reducible exact H|(rw [hy141];exact H)|exact H
   have Ny141 := Aside0.mk hy141
   clear hy141
   have H' := Aside0.mk H
   clear H
   go_enter Try.func74,Try.ntmps74
   go_wp2_with (first|((with_reducible refine gate_dst (N := 7) rfl ?_);refine Kd.R_make k127 _ 127 rfl (N := 7) rfl 43 _ _ rfl (l0.length : Int) rfl rfl Try.underlying43 (.agg #[(.int .i64 0),(.int .i64 0),(.int .i64 0),(.bool false),(.int .i64 0)]) 40 info127 rfl (by decide) (by omega) z127 (ok := fun _ => True) (okp := fun _ => True) (k127_mkM _ _ _ z127 ) (fun _ hk => hk) trivial (od_) (Nat.le_trans (Nat.mul_le_mul_right _ (od_ : (l0.length : Int).toNat ≤ 7036874417766)) (by omega)) (Below.refl _ _) (Nat.le_refl _) ?_;intro v142 w4 ho5 hb hg_ hnew_;clear hg_ hnew_;(first|rw [← Ny141.out] at ho5|(simp only [Int.reduceToNat] at ho5;rw [← Ny141.out] at ho5));have HO143 := Aside0.mk (Kd.R_lower ho5 (below_size b_));replace HB := Aside0.mk (below_step b_ hb);clear hb ho5))
   go_loopg [4] k (fun kq v4 w' => ∃ (x3_1 : List (S127)) (x4_1 : Int),v4 = .int .i64 x4_1 ∧ Aside0 (laws_toSetS.l0 kq l0 x3_1 x4_1 = some r) ∧ Aside0 (kq ≤ k) ∧ Aside0 (Kd.R k127 127 w' w.heap.size (fun _ => True) v142 x3_1) ∧ Aside0 (Below w.heap.size w w'))
   case atStart => exact ⟨(y141),(0),rs_,H',⟨Nat.le_refl _⟩,⟨by (with_reducible repeat (first|apply Kd.R_alloc|apply Kd.R_drewN|apply Kd.R_drew));exact HO143.out⟩,⟨b_⟩⟩
   case round =>
    clear H'
    try clear c2
    try clear c2b0
    try clear c2b1
    try clear p2
    try clear c3
    try clear c3b0
    try clear c3b1
    obtain ⟨x3_1,x4_1,rfl,HA,HK1,HO_3,HB⟩ := hrel
    cases gk with
    | zero => exact absurd HA.out (by simp [laws_toSetS.l0])
    | succ k1 =>
     have H := HA.out
     clear HA
     simp only [laws_toSetS.l0] at H
     by_cases c6 : x4_1 < (l0.length : Int)
     ·rw [if_pos c6] at H
      have c6b0 : decide (x4_1 < (l0.length : Int)) = true := decide_eq_true c6
      clear c6
      by_cases c7 : 0 ≤ x4_1
      ·rw [if_pos c7] at H
       have c7b0 : decide (0 ≤ x4_1) = true := decide_eq_true c7
       clear c7
       replace H := Option.bind_eq_some_iff.mp H
       obtain ⟨⟨t145,t146,t147,t148,t149⟩,A80,H⟩ := H
       replace H : (if x4_1 < (x3_1.length : Int) then (laws_toSetS.l0 k1 l0 (x3_1.set (x4_1 : Int).toNat (⟨t145,t146,t147,t148,t149⟩ : S127)) (wrap64 (x4_1 + 1))) else (none)) = some r := H
       have A8 := Aside0.mk A80
       clear A80
       by_cases c9 : x4_1 < (x3_1.length : Int)
       ·rw [if_pos c9] at H
        have c9b0 : decide (x4_1 < (x3_1.length : Int)) = true := decide_eq_true c9
        clear c9
        obtain ⟨y150,hy150⟩ : ∃ y_ : List (S127),y_ = (x3_1.set (x4_1 : Int).toNat (⟨t145,t146,t147,t148,t149⟩ : S127)) := ⟨_,rfl⟩
        replace H : (laws_toSetS.l0 k1 l0 y150 (wrap64 (x4_1 + 1))) = some r := by first|(rw [hy150];with_reducible exact H)|(have H2_ := (Option.bind_some _ _).symm.trans H;rw [hy150];with_reducible exact H2_)|(have H2_ := (Option.bind_some _ _).symm.trans H;with_reducible exact H2_)|with_reducible exact H|(rw [hy150];exact H)|exact H
        have Ny150 := Aside0.mk hy150
        clear hy150
        have H' := Aside0.mk H
        clear H
        have p144 : 0 ≤ (x4_1 : Int) := od_
        have q144 : x4_1 < (l0.length : Int) := od_
        obtain ⟨ad144,e144,hx144_0,hx144_1,hx144_2,hx144_3,hx144_4⟩ := at_T135 HR0.out x4_1 p144 q144
        cases e144
        replace hx144_0 := hx_ HB hx144_0
        replace hx144_1 := hx_ HB hx144_1
        replace hx144_2 := hx_ HB hx144_2
        replace hx144_3 := hx_ HB hx144_3
        replace hx144_4 := hx_ HB hx144_4
        replace p144 := eq_true p144
        replace q144 := eq_true q144
        go_wp2_with (first|((with_reducible refine gcal_ (f := 115) rfl ?_);refine gl_ (some 20) Try.func115 #[.agg #[.int .i64 ((rd_T135 l0 x4_1).f0),.int .i64 ((rd_T135 l0 x4_1).f1),.int .i64 ((rd_T135 l0 x4_1).f2),.bool ((rd_T135 l0 x4_1).f3),.int .i64 ((rd_T135 l0 x4_1).f4)]] ?_;(with_reducible refine (laws_toSet.calls ((rd_T135 l0 x4_1).f0) ((rd_T135 l0 x4_1).f1) ((rd_T135 l0 x4_1).f2) ((rd_T135 l0 x4_1).f3) ((rd_T135 l0 x4_1).f4) t145 t146 t147 t148 t149 _ A8.out).mono ?_);rintro e w11 ⟨rfl,hb⟩;refine ⟨_,rfl,?_⟩;replace HO_3 := Aside0.mk (Kd.R_below (by (with_reducible repeat (first|apply Kd.R_alloc|apply Kd.R_drewN|apply Kd.R_drew));exact HO_3.out) hb);replace HB := Aside0.mk (below_step b_ hb);(try clear hb);(try clear hb2);(try clear hk);(try clear hi);have p10 : 0 ≤ (x4_1 : Int) := od_;have q10 : (x4_1 : Int) < ((x3_1.length : Int) : Int) := od_;obtain ⟨go10,co10,eo10,gb10,gl10,cl10,HG10⟩ := Kd.R_form HO_3.out (by omega);(first|cases eo10|(injection eo10 with ea_ en_ ec_;(first|subst ea_|(injection ea_ with ea_;subst ea_));subst ec_;clear en_));have GB10 := Aside0.mk gb10;have GG10 := Aside0.mk HG10;clear gb10 gl10 HG10;obtain ⟨ce10,hcl10,hM10,hcc10,hfr10⟩ := Kd.R_elem HO_3.out z127 (x4_1 : Int) p10 q10;obtain rfl := k127_openM hM10;have hx10_0 : w11.cell? ⟨go10,(x4_1 : Int).toNat * 5,none⟩ = some (.int .i64 ((rd_T127 x3_1 x4_1).f0)) := hcc10 0 _ rfl;have hx10_1 : w11.cell? ⟨go10,(x4_1 : Int).toNat * 5 + 1,none⟩ = some (.int .i64 ((rd_T127 x3_1 x4_1).f1)) := hcc10 1 _ rfl;have hx10_2 : w11.cell? ⟨go10,(x4_1 : Int).toNat * 5 + 2,none⟩ = some (.int .i64 ((rd_T127 x3_1 x4_1).f2)) := hcc10 2 _ rfl;have hx10_3 : w11.cell? ⟨go10,(x4_1 : Int).toNat * 5 + 3,none⟩ = some (.bool ((rd_T127 x3_1 x4_1).f3)) := hcc10 3 _ rfl;have hx10_4 : w11.cell? ⟨go10,(x4_1 : Int).toNat * 5 + 4,none⟩ = some (.int .i64 ((rd_T127 x3_1 x4_1).f4)) := hcc10 4 _ rfl;have hf10_0 : w11.frozen? ⟨go10,(x4_1 : Int).toNat * 5,none⟩ = false := hfr10 0;have hf10_1 : w11.frozen? ⟨go10,(x4_1 : Int).toNat * 5 + 1,none⟩ = false := hfr10 1;have hf10_2 : w11.frozen? ⟨go10,(x4_1 : Int).toNat * 5 + 2,none⟩ = false := hfr10 2;have hf10_3 : w11.frozen? ⟨go10,(x4_1 : Int).toNat * 5 + 3,none⟩ = false := hfr10 3;have hf10_4 : w11.frozen? ⟨go10,(x4_1 : Int).toNat * 5 + 4,none⟩ = false := hfr10 4;clear hcl10 hcc10 hfr10 hM10;replace p10 := eq_true p10;replace q10 := eq_true q10;have HX12 := Aside0.mk (show Kd.R k127 127 w11 w.heap.size (fun _ => True) (.slice (some ⟨go10,0,none⟩) x3_1.length co10) x3_1 from (by (with_reducible repeat (first|apply Kd.R_alloc|apply Kd.R_drewN|apply Kd.R_drew));exact HO_3.out));obtain ⟨ce12,hcl12,hM12,hcc12,hfr12⟩ := Kd.R_elem HX12.out z127 (x4_1 : Int) (od_) (by have h_ : (x4_1 : Int) < ((x3_1.length : Int) : Int) := od_;first|exact h_|(have e_ := (Kd.R_reads' HO_3.out).1;omega)|simpa using h_);obtain rfl := k127_openM hM12;have HP12 := Kd.R_seg HX12.out (x4_1 : Int) (od_) (by have h_ : (x4_1 : Int) < ((x3_1.length : Int) : Int) := od_;first|exact h_|(have e_ := (Kd.R_reads' HO_3.out).1;omega)|simpa using h_) (seg := [.int .i64 t145,.int .i64 t146,.int .i64 t147,.bool t148,.int .i64 t149]) (j := 0) hcl12 hcc12 (show 5 ≤ 5 from by decide) (x' := (⟨t145,t146,t147,t148,t149⟩ : S127)) (k127_mkM _ _ _ (⟨t145,t146,t147,t148,t149⟩ : S127) ) (fun _ hk => hk);have hx12_0 := hcc12 0 _ rfl;(try simp only [show (k127).sz = 5 from rfl,Nat.mul_one,Nat.add_zero] at hx12_0);have hf12_0 := hfr12 0;(try simp only [show (k127).sz = 5 from rfl,Nat.mul_one,Nat.add_zero] at hf12_0);have hx12_1 := hcc12 1 _ rfl;(try simp only [show (k127).sz = 5 from rfl,Nat.mul_one,Nat.add_zero] at hx12_1);have hf12_1 := hfr12 1;(try simp only [show (k127).sz = 5 from rfl,Nat.mul_one,Nat.add_zero] at hf12_1);have hx12_2 := hcc12 2 _ rfl;(try simp only [show (k127).sz = 5 from rfl,Nat.mul_one,Nat.add_zero] at hx12_2);have hf12_2 := hfr12 2;(try simp only [show (k127).sz = 5 from rfl,Nat.mul_one,Nat.add_zero] at hf12_2);have hx12_3 := hcc12 3 _ rfl;(try simp only [show (k127).sz = 5 from rfl,Nat.mul_one,Nat.add_zero] at hx12_3);have hf12_3 := hfr12 3;(try simp only [show (k127).sz = 5 from rfl,Nat.mul_one,Nat.add_zero] at hf12_3);have hx12_4 := hcc12 4 _ rfl;(try simp only [show (k127).sz = 5 from rfl,Nat.mul_one,Nat.add_zero] at hx12_4);have hf12_4 := hfr12 4;(try simp only [show (k127).sz = 5 from rfl,Nat.mul_one,Nat.add_zero] at hf12_4);clear hcl12 hcc12 hfr12 hM12)|((with_reducible refine gate_store (t := 127) (p := 21) rfl ?_);refine store_event (t := 127) (p := 21) (v := ?vo_w13) (w1 := (((((w11.setCell ⟨go10,(x4_1 : Int).toNat * 5,none⟩ (.int .i64 t145)).setCell ⟨go10,(x4_1 : Int).toNat * 5 + 1,none⟩ (.int .i64 t146)).setCell ⟨go10,(x4_1 : Int).toNat * 5 + 2,none⟩ (.int .i64 t147)).setCell ⟨go10,(x4_1 : Int).toNat * 5 + 3,none⟩ (.bool t148)).setCell ⟨go10,(x4_1 : Int).toNat * 5 + 4,none⟩ (.int .i64 t149))) ?hg ?ho ?hn ?hr ?_;(case ho => rfl);(case hg => rfl);(case hn => rfl);(case hr => first|(go_simp;done)|(go_simp;rfl)|(obtain ⟨_,_,e_⟩ := Kd.R_slice HO_3.out;subst e_;first|(go_simp;done)|(go_simp;rfl)));intro w13 hw;have hg : w11.grownBy w13 (some go10) := (by rw [hw];exact HP12.2);have hp_ : Kd.R k127 127 w13 w.heap.size (fun _ => True) (.slice (some ⟨go10,0,none⟩) x3_1.length co10) y150 := (by rw [hw,Ny150.out];exact HP12.1);clear HP12;replace HO_3 := Aside0.mk (hp_);replace HB := Aside0.mk ((by rw [hw];exact below_set (below_set (below_set (below_set (below_set (HB.out) GB10.out) GB10.out) GB10.out) GB10.out) GB10.out : Below w.heap.size w w13));clear hg hw hp_))
        go_roundg k1
        case measure => have := HK1.out;omega
        case rel => exact ⟨(y150),(wrap64 (x4_1 + 1)),rs_,H',⟨by have := HK1.out;omega⟩,⟨by (with_reducible repeat (first|apply Kd.R_alloc|apply Kd.R_drewN|apply Kd.R_drew));exact HO_3.out⟩,⟨b_⟩⟩
       ·rw [if_neg c9] at H
        exact absurd H (by simp)
      ·rw [if_neg c7] at H
       exact absurd H (by simp)
     ·rw [if_neg c6] at H
      have c6b0 : decide (x4_1 < (l0.length : Int)) = false := decide_eq_false c6
      clear c6
      obtain rfl := Option.some.inj H
      go_wp2
      go_ret
      exact ⟨_,rf_,by (with_reducible repeat (first|apply Kd.R_alloc|apply Kd.R_drewN|apply Kd.R_drew));exact HO_3.out,b_⟩
  ·rw [if_neg c3] at H
   exact absurd H (by simp)
 ·rw [if_neg c2] at H
  exact absurd H (by simp)

/-! ### laws_toRecord: function 28 -/
def laws_toRecord.f (k : Nat) (a0_0 : Int) (a0_1 : Int) (a0_2 : Int) (l0_3 : List (S135)) : Option (Int × Int × Int × (List (S127))) := (laws_toSetS.f k l0_3).bind fun t154 => (some (a0_0, a0_1, a0_2, t154))

set_option maxHeartbeats 8000000 in
set_option maxRecDepth 100000 in
theorem laws_toRecord.calls (k : Nat) (a0_0 : Int) (a0_1 : Int) (a0_2 : Int) (A0_3 : Option Addr) (c0_3 : Nat) (l0_3 : List (S135)) (r1 : Int) (r2 : Int) (r3 : Int) (r4 : List (S127)) (w : World) (hr0_3 : Kd.C k135 w A0_3 l0_3.length l0_3) (hc0_3 : l0_3.length ≤ c0_3) (h : laws_toRecord.f k a0_0 a0_1 a0_2 l0_3 = some (r1, r2, r3, r4)) :
    Calls Try.prog 28 #[.agg #[.int .i64 a0_0, .int .i64 a0_1, .int .i64 a0_2, .slice A0_3 l0_3.length c0_3]] w fun e w' => ∃ v3_ : Value, e = .returned (.agg #[.int .i64 r1, .int .i64 r2, .int .i64 r3, v3_]) ∧ Kd.R k127 127 w' w.heap.size (fun _ => True) v3_ r4 ∧ Below w.heap.size w w' := by
 have hu53 := Try.underlying53
 have hu45 := Try.underlying45
 have HR0_3 := Aside0.mk hr0_3
 have HC0_3 := Aside0.mk hc0_3
 clear hr0_3 hc0_3
 have HB := Aside0.mk (Below.refl w.heap.size w)
 have H : ((laws_toSetS.f k l0_3).bind fun t154 => (some (a0_0,a0_1,a0_2,t154))) = some (r1,r2,r3,r4) := h
 clear h
 replace H := bs_ H
 obtain ⟨t154,A2,H⟩ := H
 simp only [Option.some.injEq,Prod.mk.injEq] at H
 obtain ⟨rfl,rfl,rfl,rfl⟩ := H
 go_enter Try.func28,Try.ntmps28
 go_wp2_with (first|((with_reducible refine gate_dst (N := 1) rfl ?_);refine bx_ 1 #[.int .i64 a0_0,.int .i64 a0_1,.int .i64 a0_2,.slice A0_3 l0_3.length c0_3] 53 ?_;intro gb151 hg w3 hbox hb;replace HB := nb_ hg hbox hb;obtain ⟨BK151,GW151,GE151,HB⟩ := HB;clear hb hbox hg)|((with_reducible refine gate_dst (N := 2) rfl ?_);refine bx_ 2 #[.int .i64 0,.int .i64 0,.int .i64 0,.slice none 0 0] 45 ?_;intro gb152 hg w4 hbox hb;replace HB := nb_ hg hbox hb;obtain ⟨BK152,GW152,GE152,HB⟩ := HB;have NB151_152 := Aside0.mk ((nl_ BK151 hg));have NB152_151 := Aside0.mk ((ng_ BK151 hg));replace BK151 := Aside0.mk (blk_below (kb_ BK151) hb);clear hb hbox hg)|((with_reducible refine gate_dst (N := 3) rfl ?_);refine bx_ 3 #[.int .i64 0,.int .i64 0,.int .i64 0,.slice none 0 0] 45 ?_;intro gb153 hg w5 hbox hb;replace HB := nb_ hg hbox hb;obtain ⟨BK153,GW153,GE153,HB⟩ := HB;have NB151_153 := Aside0.mk ((nl_ BK151 hg));have NB153_151 := Aside0.mk ((ng_ BK151 hg));replace BK151 := Aside0.mk (blk_below (kb_ BK151) hb);have NB152_153 := Aside0.mk ((nl_ BK152 hg));have NB153_152 := Aside0.mk ((ng_ BK152 hg));replace BK152 := Aside0.mk (blk_below (kb_ BK152) hb);clear hb hbox hg;have hnb6 := NB151_152.out;have hnc6 := NB152_151.out;have hnb7 := NB151_153.out;have hnc7 := NB153_151.out;obtain ⟨⟨hcz8_0,hcz8_1,hcz8_2,hcz8_3⟩,hfz8_0,hfz8_1,hfz8_2,hfz8_3⟩ := cl4_ BK151.out;have hnb9 := NB153_152.out;have hnc9 := NB152_153.out;obtain ⟨⟨hcz10_0,hcz10_1,hcz10_2,hcz10_3⟩,hfz10_0,hfz10_1,hfz10_2,hfz10_3⟩ := cl4_ BK153.out)|((with_reducible refine gcal_ (f := 74) rfl ?_);refine gl_ (some 15) Try.func74 #[.slice A0_3 l0_3.length c0_3] ?_;(with_reducible refine (laws_toSetS.calls k _ _ l0_3 t154 _ ?side1 ?side2 A2.out).mono ?_);(case side1 => exact Kd.C_below HR0_3.out b_);(case side2 => exact HC0_3.out);rintro e w11 ⟨v155,rfl,ho0,hb⟩;refine ⟨_,rfl,?_⟩;replace BK151 := Aside0.mk (blk_below (kf_ BK151) hb);replace BK152 := Aside0.mk (blk_below (kf_ BK152) hb);replace BK153 := Aside0.mk (blk_below (g := gb153) (o := .cells #[.int .i64 a0_0,.int .i64 a0_1,.int .i64 a0_2,.slice none 0 0] 45 (0,0)) (by (with_reducible repeat (first|refine blk_drewN ?_ _|refine blk_drew ?_|refine blk_alloc ?_ _));refine blk_put (cs := #[.int .i64 a0_0,.int .i64 a0_1,.int .i64 0,.slice none 0 0]) ?_ 2 _ rfl;(with_reducible repeat (first|refine blk_drewN ?_ _|refine blk_drew ?_|refine blk_alloc ?_ _));refine blk_put (cs := #[.int .i64 a0_0,.int .i64 0,.int .i64 0,.slice none 0 0]) ?_ 1 _ rfl;(with_reducible repeat (first|refine blk_drewN ?_ _|refine blk_drew ?_|refine blk_alloc ?_ _));refine blk_put (cs := #[.int .i64 0,.int .i64 0,.int .i64 0,.slice none 0 0]) ?_ 0 _ rfl;(with_reducible repeat (first|refine blk_drewN ?_ _|refine blk_drew ?_|refine blk_alloc ?_ _));exact BK153.out) hb);have HO156 := Aside0.mk (Kd.R_lower ho0 (below_size b_));replace HB := Aside0.mk (below_step b_ hb);(try clear hb);(try clear hb2);(try clear hk);(try clear hi);(try clear ho0);obtain ⟨Ao12,co12,eo12⟩ := Kd.R_slice HO156.out;subst eo12;obtain ⟨⟨hcz13_0,hcz13_1,hcz13_2,hcz13_3⟩,hfz13_0,hfz13_1,hfz13_2,hfz13_3⟩ := cl4_ BK153.out;obtain ⟨⟨hcz14_0,hcz14_1,hcz14_2,hcz14_3⟩,hfz14_0,hfz14_1,hfz14_2,hfz14_3⟩ := cl4_ BK152.out))
 refine bodyPost_ret (results_cell_row rfl _ _ gb152 45 #[.int .i64 a0_0,.int .i64 a0_1,.int .i64 a0_2,.slice Ao12 t154.length co12] (0,0) _ rfl (by (with_reducible repeat (first|refine blk_drewN ?_ _|refine blk_drew ?_|refine blk_alloc ?_ _));refine blk_put (cs := #[.int .i64 a0_0,.int .i64 a0_1,.int .i64 a0_2,.slice none 0 0]) ?_ 3 _ rfl;(with_reducible repeat (first|refine blk_drewN ?_ _|refine blk_drew ?_|refine blk_alloc ?_ _));refine blk_put (cs := #[.int .i64 a0_0,.int .i64 a0_1,.int .i64 0,.slice none 0 0]) ?_ 2 _ rfl;(with_reducible repeat (first|refine blk_drewN ?_ _|refine blk_drew ?_|refine blk_alloc ?_ _));refine blk_put (cs := #[.int .i64 a0_0,.int .i64 0,.int .i64 0,.slice none 0 0]) ?_ 1 _ rfl;(with_reducible repeat (first|refine blk_drewN ?_ _|refine blk_drew ?_|refine blk_alloc ?_ _));refine blk_put (cs := #[.int .i64 0,.int .i64 0,.int .i64 0,.slice none 0 0]) ?_ 0 _ rfl;(with_reducible repeat (first|refine blk_drewN ?_ _|refine blk_drew ?_|refine blk_alloc ?_ _));refine blk_far ?_ NB152_153.out _;(with_reducible repeat (first|refine blk_drewN ?_ _|refine blk_drew ?_|refine blk_alloc ?_ _));exact BK152.out) Try.underlying45 rfl (by kernel_rfl)) rfl ?_
 exact ⟨_,rf_,by (with_reducible repeat (first|apply Kd.R_alloc|apply Kd.R_drewN|apply Kd.R_drew));exact Kd.R_mono (Kd.R_far (p := ⟨gb152,3,none⟩) (Kd.R_far (p := ⟨gb152,2,none⟩) (Kd.R_far (p := ⟨gb152,1,none⟩) (Kd.R_far (p := ⟨gb152,0,none⟩) (Kd.R_far (p := ⟨gb153,3,none⟩) (Kd.R_types (Kd.R_types HO156.out BK153.out (by decide)) BK152.out (by decide)) (fun _ hk => hk.1.2) (.slice Ao12 t154.length co12)) (fun _ hk => hk.2) (.int .i64 a0_0)) (fun _ hk => hk.2) (.int .i64 a0_1)) (fun _ hk => hk.2) (.int .i64 a0_2)) (fun _ hk => hk.2) (.slice Ao12 t154.length co12)) (fun _ hk => trivial),b_⟩

end Go.Proofs.Ythplaakckfhaaaa.XRp
