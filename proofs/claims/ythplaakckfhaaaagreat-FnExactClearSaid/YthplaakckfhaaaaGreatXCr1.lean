/- Proved: of each Go function here that a call comes to what the Lean function of its name tells. Written by a program of this session over the translation. No conditions beyond each theorem's own. -/
import Derived.Test.YthplaakckfhaaaaGreatXCr0
namespace Go.Proofs.YthplaakckfhaaaaGreat.XCr
open Go.RowKit Go.Proofs.YthplaakckfhaaaaGreat.Aid Go.Proofs.YthplaakckfhaaaaGreatW.PrintWords Go.Proofs.YthplaakckfhaaaaGreatW.PrintLast Go.Proofs.YthplaakckfhaaaaGreatW.PrintMore
set_option linter.unusedVariables false
set_option linter.unusedSimpArgs false

/-! ### laws_szCellS: function 119 -/
def laws_szCellS.f (l0 : List (S151)) (a1 : Int) : Option (Int) := if (wrap64 (a1 - (l0.length : Int))) < 0 then (some (-1)) else (some (wrap64 (a1 - (l0.length : Int))))
set_option maxHeartbeats 8000000 in
set_option maxRecDepth 100000 in
theorem laws_szCellS.calls (A0 : Option Addr) (c0 : Nat) (l0 : List (S151)) (a1 : Int) (r : Int) (w : World) (hr0 : Kd.C k151 w A0 l0.length l0) (hc0 : l0.length ≤ c0) (h : laws_szCellS.f l0 a1 = some r) :
    Calls Tryz.prog 119 #[.slice A0 l0.length c0, .int .i64 a1] w fun e w' => e = .returned (.int .i64 r) ∧ Drawn0 w w' := by
 have HR0 := Aside0.mk hr0
 have HC0 := Aside0.mk hc0
 clear hr0 hc0
 have H : (if (wrap64 (a1 - (l0.length : Int))) < 0 then (some (-1)) else (some (wrap64 (a1 - (l0.length : Int))))) = some r := h
 clear h
 by_cases c3 : (wrap64 (a1 - (l0.length : Int))) < 0
 ·rw [if_pos c3] at H
  have c3b0 : decide ((wrap64 (a1 - (l0.length : Int))) < 0) = true := decide_eq_true c3
  clear c3
  obtain rfl := Option.some.inj H
  go_enter Tryz.func119,Tryz.ntmps119
  go_wp2
  go_ret
  exact ⟨rs_,by repeat (first|exact Drawn0.refl _|apply Drawn0.step)⟩
 ·rw [if_neg c3] at H
  have c3b0 : decide ((wrap64 (a1 - (l0.length : Int))) < 0) = false := decide_eq_false c3
  clear c3
  obtain rfl := Option.some.inj H
  go_enter Tryz.func119,Tryz.ntmps119
  go_wp2
  go_ret
  exact ⟨rs_,by repeat (first|exact Drawn0.refl _|apply Drawn0.step)⟩

/-! ### laws_szCopy: function 71 -/
def laws_szCopy.f (a0_0 : Int) (l0_1 : List (S151)) (a1 : Int) : Option (Int) := (laws_szCellS.f l0_1 a1).bind fun t102 => (if t102 < 0 then (some (-1)) else (some t102))
set_option maxHeartbeats 8000000 in
set_option maxRecDepth 100000 in
theorem laws_szCopy.calls (a0_0 : Int) (A0_1 : Option Addr) (c0_1 : Nat) (l0_1 : List (S151)) (a1 : Int) (r : Int) (w : World) (hr0_1 : Kd.C k151 w A0_1 l0_1.length l0_1) (hc0_1 : l0_1.length ≤ c0_1) (h : laws_szCopy.f a0_0 l0_1 a1 = some r) :
    Calls Tryz.prog 71 #[.agg #[.int .i64 a0_0, .slice A0_1 l0_1.length c0_1], .int .i64 a1] w fun e w' => e = .returned (.int .i64 r) ∧ Below w.heap.size w w' := by
 have hu96 := Tryz.underlying96
 have HR0_1 := Aside0.mk hr0_1
 have HC0_1 := Aside0.mk hc0_1
 clear hr0_1 hc0_1
 have HB := Aside0.mk (Below.refl w.heap.size w)
 have H : ((laws_szCellS.f l0_1 a1).bind fun t102 => (if t102 < 0 then (some (-1)) else (some t102))) = some r := h
 clear h
 replace H := bs_ H
 obtain ⟨t102,A3,H⟩ := H
 by_cases c4 : t102 < 0
 ·rw [if_pos c4] at H
  have c4b0 : decide (t102 < 0) = true := decide_eq_true c4
  clear c4
  obtain rfl := Option.some.inj H
  go_enter Tryz.func71,Tryz.ntmps71
  go_wp2_with (first|((with_reducible refine gate_dst (N := 2) rfl ?_);refine bx_ 2 #[.int .i64 a0_0,.slice A0_1 l0_1.length c0_1] 96 ?_;intro gb101 hg w5 hbox hb;replace HB := nb_ hg hbox hb;obtain ⟨BK101,GW101,GE101,HB⟩ := HB;clear hb hbox hg;obtain ⟨⟨hcz6_0,hcz6_1⟩,hfz6_0,hfz6_1⟩ := cl2_ BK101.out)|((with_reducible refine gcal_ (f := 119) rfl ?_);refine gl_ (some 8) Tryz.func119 #[.slice A0_1 l0_1.length c0_1,.int .i64 a1] ?_;(with_reducible refine (laws_szCellS.calls _ _ l0_1 a1 t102 _ ?side1 ?side2 A3.out).mono ?_);(case side1 => exact cb_ HR0_1);(case side2 => exact HC0_1.out);rintro e w' ⟨rfl,⟨nd,rfl⟩⟩;refine ⟨_,rfl,?_⟩))
  go_ret
  exact ⟨rf_,b_⟩
 ·rw [if_neg c4] at H
  have c4b0 : decide (t102 < 0) = false := decide_eq_false c4
  clear c4
  obtain rfl := Option.some.inj H
  go_enter Tryz.func71,Tryz.ntmps71
  go_wp2_with (first|((with_reducible refine gate_dst (N := 2) rfl ?_);refine bx_ 2 #[.int .i64 a0_0,.slice A0_1 l0_1.length c0_1] 96 ?_;intro gb101 hg w7 hbox hb;replace HB := nb_ hg hbox hb;obtain ⟨BK101,GW101,GE101,HB⟩ := HB;clear hb hbox hg;obtain ⟨⟨hcz8_0,hcz8_1⟩,hfz8_0,hfz8_1⟩ := cl2_ BK101.out)|((with_reducible refine gcal_ (f := 119) rfl ?_);refine gl_ (some 8) Tryz.func119 #[.slice A0_1 l0_1.length c0_1,.int .i64 a1] ?_;(with_reducible refine (laws_szCellS.calls _ _ l0_1 a1 t102 _ ?side1 ?side2 A3.out).mono ?_);(case side1 => exact cb_ HR0_1);(case side2 => exact HC0_1.out);rintro e w' ⟨rfl,⟨nd,rfl⟩⟩;refine ⟨_,rfl,?_⟩))
  go_ret
  exact ⟨rf_,b_⟩

/-! ### laws_szCopyS: function 25 -/
def laws_szCopyS.l0 : Nat → List (S96) → Int → Int → Option (Int)
  | 0, _, _, _ => none
  | k + 1, x0, x1, x5 => if x5 < (x0.length : Int) then (if 0 ≤ x5 then ((laws_szCopy.f ((rd_T96 x0 x5).f0) ((rd_T96 x0 x5).f1) x1).bind fun t104 => (if t104 < 0 then (some (-1)) else (laws_szCopyS.l0 k x0 t104 (wrap64 (x5 + 1))))) else (none)) else (some x1)
def laws_szCopyS.f (k : Nat) (l0 : List (S96)) (a1 : Int) : Option (Int) := if (wrap64 (a1 - (l0.length : Int))) < 0 then (some (-1)) else (laws_szCopyS.l0 k l0 (wrap64 (a1 - (l0.length : Int))) 0)

set_option maxHeartbeats 8000000 in
set_option maxRecDepth 100000 in
theorem laws_szCopyS.calls (k : Nat) (A0 : Option Addr) (c0 : Nat) (l0 : List (S96)) (a1 : Int) (r : Int) (w : World) (hr0 : Kd.C k96 w A0 l0.length l0) (hc0 : l0.length ≤ c0) (h : laws_szCopyS.f k l0 a1 = some r) :
    Calls Tryz.prog 25 #[.slice A0 l0.length c0, .int .i64 a1] w fun e w' => e = .returned (.int .i64 r) ∧ Below w.heap.size w w' := by
 have hu96 := Tryz.underlying96
 have HR0 := Aside0.mk hr0
 have HC0 := Aside0.mk hc0
 clear hr0 hc0
 have HB := Aside0.mk (Below.refl w.heap.size w)
 have H : (if (wrap64 (a1 - (l0.length : Int))) < 0 then (some (-1)) else (laws_szCopyS.l0 k l0 (wrap64 (a1 - (l0.length : Int))) 0)) = some r := h
 clear h
 by_cases c3 : (wrap64 (a1 - (l0.length : Int))) < 0
 ·rw [if_pos c3] at H
  have c3b0 : decide ((wrap64 (a1 - (l0.length : Int))) < 0) = true := decide_eq_true c3
  clear c3
  obtain rfl := Option.some.inj H
  go_enter Tryz.func25,Tryz.ntmps25
  go_wp2
  go_ret
  exact ⟨rf_,b_⟩
 ·rw [if_neg c3] at H
  have c3b0 : decide ((wrap64 (a1 - (l0.length : Int))) < 0) = false := decide_eq_false c3
  clear c3
  have H' := Aside0.mk H
  clear H
  go_enter Tryz.func25,Tryz.ntmps25
  go_wp2
  go_loopg [1,5] k (fun kq v1 v5 w' => ∃ (x1_1 : Int) (x5_1 : Int),v1 = .int .i64 x1_1 ∧ v5 = .int .i64 x5_1 ∧ Aside0 (laws_szCopyS.l0 kq l0 x1_1 x5_1 = some r) ∧ Aside0 (kq ≤ k) ∧ Aside0 (Below w.heap.size w w'))
  case atStart => exact ⟨(wrap64 (a1 - (l0.length : Int))),(0),rs_,rs_,H',⟨Nat.le_refl _⟩,⟨b_⟩⟩
  case round =>
   clear H'
   try clear c2
   try clear p2
   try clear c3
   try clear c3b0
   obtain ⟨x1_1,x5_1,rfl,rfl,HA,HK1,HB⟩ := hrel
   cases gk with
   | zero => exact absurd HA.out (by simp [laws_szCopyS.l0])
   | succ k1 =>
    have H := HA.out
    clear HA
    simp only [laws_szCopyS.l0] at H
    by_cases c4 : x5_1 < (l0.length : Int)
    ·rw [if_pos c4] at H
     have c4b0 : decide (x5_1 < (l0.length : Int)) = true := decide_eq_true c4
     clear c4
     by_cases c5 : 0 ≤ x5_1
     ·rw [if_pos c5] at H
      have c5b0 : decide (0 ≤ x5_1) = true := decide_eq_true c5
      clear c5
      replace H := bs_ H
      obtain ⟨t104,A6,H⟩ := H
      by_cases c7 : t104 < 0
      ·rw [if_pos c7] at H
       have c7b0 : decide (t104 < 0) = true := decide_eq_true c7
       clear c7
       obtain rfl := Option.some.inj H
       have p103 : 0 ≤ (x5_1 : Int) := od_
       have q103 : x5_1 < (l0.length : Int) := od_
       obtain ⟨ad103,A103_1,c103_1,e103,hx103_0,hx103_1,hl103_1,hi103_1⟩ := at_T96 HR0.out x5_1 p103 q103
       cases e103
       replace hx103_0 := hx_ HB hx103_0
       replace hx103_1 := hx_ HB hx103_1
       have HR103_1 := Aside0.mk hi103_1
       have HC103_1 := Aside0.mk hl103_1
       clear hi103_1 hl103_1
       replace p103 := eq_true p103
       replace q103 := eq_true q103
       go_wp2_with (first|((with_reducible refine gcal_ (f := 71) rfl ?_);refine gl_ (some 23) Tryz.func71 #[.agg #[.int .i64 ((rd_T96 l0 x5_1).f0),.slice A103_1 ((rd_T96 l0 x5_1).f1).length c103_1],.int .i64 x1_1] ?_;(with_reducible refine (laws_szCopy.calls ((rd_T96 l0 x5_1).f0) _ _ ((rd_T96 l0 x5_1).f1) x1_1 t104 _ ?side1 ?side2 A6.out).mono ?_);(case side1 => exact cb_ HR103_1);(case side2 => exact HC103_1.out);rintro e w8 ⟨rfl,hb⟩;refine ⟨_,rfl,?_⟩;replace HB := Aside0.mk (below_step b_ hb);(try clear hb);(try clear hb2);(try clear hk);(try clear hi)))
       go_ret
       exact ⟨rf_,b_⟩
      ·rw [if_neg c7] at H
       have c7b0 : decide (t104 < 0) = false := decide_eq_false c7
       clear c7
       have H' := Aside0.mk H
       clear H
       have p103 : 0 ≤ (x5_1 : Int) := od_
       have q103 : x5_1 < (l0.length : Int) := od_
       obtain ⟨ad103,A103_1,c103_1,e103,hx103_0,hx103_1,hl103_1,hi103_1⟩ := at_T96 HR0.out x5_1 p103 q103
       cases e103
       replace hx103_0 := hx_ HB hx103_0
       replace hx103_1 := hx_ HB hx103_1
       have HR103_1 := Aside0.mk hi103_1
       have HC103_1 := Aside0.mk hl103_1
       clear hi103_1 hl103_1
       replace p103 := eq_true p103
       replace q103 := eq_true q103
       go_wp2_with (first|((with_reducible refine gcal_ (f := 71) rfl ?_);refine gl_ (some 23) Tryz.func71 #[.agg #[.int .i64 ((rd_T96 l0 x5_1).f0),.slice A103_1 ((rd_T96 l0 x5_1).f1).length c103_1],.int .i64 x1_1] ?_;(with_reducible refine (laws_szCopy.calls ((rd_T96 l0 x5_1).f0) _ _ ((rd_T96 l0 x5_1).f1) x1_1 t104 _ ?side1 ?side2 A6.out).mono ?_);(case side1 => exact cb_ HR103_1);(case side2 => exact HC103_1.out);rintro e w9 ⟨rfl,hb⟩;refine ⟨_,rfl,?_⟩;replace HB := Aside0.mk (below_step b_ hb);(try clear hb);(try clear hb2);(try clear hk);(try clear hi)))
       go_roundg k1
       case measure => have := HK1.out;omega
       case rel => exact ⟨(t104),(wrap64 (x5_1 + 1)),rs_,rs_,H',⟨by have := HK1.out;omega⟩,⟨b_⟩⟩
     ·rw [if_neg c5] at H
      exact absurd H (by simp)
    ·rw [if_neg c4] at H
     have c4b0 : decide (x5_1 < (l0.length : Int)) = false := decide_eq_false c4
     clear c4
     obtain rfl := Option.some.inj H
     go_wp2
     go_ret
     exact ⟨rf_,b_⟩

/-! ### laws_szSetS: function 120 -/
def laws_szSetS.f (l0 : List (S153)) (a1 : Int) : Option (Int) := if (wrap64 (a1 - (l0.length : Int))) < 0 then (some (-1)) else (some (wrap64 (a1 - (l0.length : Int))))
set_option maxHeartbeats 8000000 in
set_option maxRecDepth 100000 in
theorem laws_szSetS.calls (A0 : Option Addr) (c0 : Nat) (l0 : List (S153)) (a1 : Int) (r : Int) (w : World) (hr0 : Kd.C k153 w A0 l0.length l0) (hc0 : l0.length ≤ c0) (h : laws_szSetS.f l0 a1 = some r) :
    Calls Tryz.prog 120 #[.slice A0 l0.length c0, .int .i64 a1] w fun e w' => e = .returned (.int .i64 r) ∧ Drawn0 w w' := by
 have HR0 := Aside0.mk hr0
 have HC0 := Aside0.mk hc0
 clear hr0 hc0
 have H : (if (wrap64 (a1 - (l0.length : Int))) < 0 then (some (-1)) else (some (wrap64 (a1 - (l0.length : Int))))) = some r := h
 clear h
 by_cases c3 : (wrap64 (a1 - (l0.length : Int))) < 0
 ·rw [if_pos c3] at H
  have c3b0 : decide ((wrap64 (a1 - (l0.length : Int))) < 0) = true := decide_eq_true c3
  clear c3
  obtain rfl := Option.some.inj H
  go_enter Tryz.func120,Tryz.ntmps120
  go_wp2
  go_ret
  exact ⟨rs_,by repeat (first|exact Drawn0.refl _|apply Drawn0.step)⟩
 ·rw [if_neg c3] at H
  have c3b0 : decide ((wrap64 (a1 - (l0.length : Int))) < 0) = false := decide_eq_false c3
  clear c3
  obtain rfl := Option.some.inj H
  go_enter Tryz.func120,Tryz.ntmps120
  go_wp2
  go_ret
  exact ⟨rs_,by repeat (first|exact Drawn0.refl _|apply Drawn0.step)⟩

/-! ### laws_szRecord: function 72 -/
def laws_szRecord.f (a0_0 : Int) (a0_1 : Int) (a0_2 : Int) (l0_3 : List (S153)) (a1 : Int) : Option (Int) := (laws_szSetS.f l0_3 a1).bind fun t106 => (if t106 < 0 then (some (-1)) else (some t106))
set_option maxHeartbeats 8000000 in
set_option maxRecDepth 100000 in
theorem laws_szRecord.calls (a0_0 : Int) (a0_1 : Int) (a0_2 : Int) (A0_3 : Option Addr) (c0_3 : Nat) (l0_3 : List (S153)) (a1 : Int) (r : Int) (w : World) (hr0_3 : Kd.C k153 w A0_3 l0_3.length l0_3) (hc0_3 : l0_3.length ≤ c0_3) (h : laws_szRecord.f a0_0 a0_1 a0_2 l0_3 a1 = some r) :
    Calls Tryz.prog 72 #[.agg #[.int .i64 a0_0, .int .i64 a0_1, .int .i64 a0_2, .slice A0_3 l0_3.length c0_3], .int .i64 a1] w fun e w' => e = .returned (.int .i64 r) ∧ Below w.heap.size w w' := by
 have hu100 := Tryz.underlying100
 have HR0_3 := Aside0.mk hr0_3
 have HC0_3 := Aside0.mk hc0_3
 clear hr0_3 hc0_3
 have HB := Aside0.mk (Below.refl w.heap.size w)
 have H : ((laws_szSetS.f l0_3 a1).bind fun t106 => (if t106 < 0 then (some (-1)) else (some t106))) = some r := h
 clear h
 replace H := bs_ H
 obtain ⟨t106,A3,H⟩ := H
 by_cases c4 : t106 < 0
 ·rw [if_pos c4] at H
  have c4b0 : decide (t106 < 0) = true := decide_eq_true c4
  clear c4
  obtain rfl := Option.some.inj H
  go_enter Tryz.func72,Tryz.ntmps72
  go_wp2_with (first|((with_reducible refine gate_dst (N := 2) rfl ?_);refine bx_ 2 #[.int .i64 a0_0,.int .i64 a0_1,.int .i64 a0_2,.slice A0_3 l0_3.length c0_3] 100 ?_;intro gb105 hg w5 hbox hb;replace HB := nb_ hg hbox hb;obtain ⟨BK105,GW105,GE105,HB⟩ := HB;clear hb hbox hg;obtain ⟨⟨hcz6_0,hcz6_1,hcz6_2,hcz6_3⟩,hfz6_0,hfz6_1,hfz6_2,hfz6_3⟩ := cl4_ BK105.out)|((with_reducible refine gcal_ (f := 120) rfl ?_);refine gl_ (some 8) Tryz.func120 #[.slice A0_3 l0_3.length c0_3,.int .i64 a1] ?_;(with_reducible refine (laws_szSetS.calls _ _ l0_3 a1 t106 _ ?side1 ?side2 A3.out).mono ?_);(case side1 => exact cb_ HR0_3);(case side2 => exact HC0_3.out);rintro e w' ⟨rfl,⟨nd,rfl⟩⟩;refine ⟨_,rfl,?_⟩))
  go_ret
  exact ⟨rf_,b_⟩
 ·rw [if_neg c4] at H
  have c4b0 : decide (t106 < 0) = false := decide_eq_false c4
  clear c4
  obtain rfl := Option.some.inj H
  go_enter Tryz.func72,Tryz.ntmps72
  go_wp2_with (first|((with_reducible refine gate_dst (N := 2) rfl ?_);refine bx_ 2 #[.int .i64 a0_0,.int .i64 a0_1,.int .i64 a0_2,.slice A0_3 l0_3.length c0_3] 100 ?_;intro gb105 hg w7 hbox hb;replace HB := nb_ hg hbox hb;obtain ⟨BK105,GW105,GE105,HB⟩ := HB;clear hb hbox hg;obtain ⟨⟨hcz8_0,hcz8_1,hcz8_2,hcz8_3⟩,hfz8_0,hfz8_1,hfz8_2,hfz8_3⟩ := cl4_ BK105.out)|((with_reducible refine gcal_ (f := 120) rfl ?_);refine gl_ (some 8) Tryz.func120 #[.slice A0_3 l0_3.length c0_3,.int .i64 a1] ?_;(with_reducible refine (laws_szSetS.calls _ _ l0_3 a1 t106 _ ?side1 ?side2 A3.out).mono ?_);(case side1 => exact cb_ HR0_3);(case side2 => exact HC0_3.out);rintro e w' ⟨rfl,⟨nd,rfl⟩⟩;refine ⟨_,rfl,?_⟩))
  go_ret
  exact ⟨rf_,b_⟩

/-! ### laws_szRecordS: function 26 -/
def laws_szRecordS.l0 : Nat → List (S100) → Int → Int → Option (Int)
  | 0, _, _, _ => none
  | k + 1, x0, x1, x5 => if x5 < (x0.length : Int) then (if 0 ≤ x5 then ((laws_szRecord.f ((rd_T100 x0 x5).f0) ((rd_T100 x0 x5).f1) ((rd_T100 x0 x5).f2) ((rd_T100 x0 x5).f3) x1).bind fun t108 => (if t108 < 0 then (some (-1)) else (laws_szRecordS.l0 k x0 t108 (wrap64 (x5 + 1))))) else (none)) else (some x1)
def laws_szRecordS.f (k : Nat) (l0 : List (S100)) (a1 : Int) : Option (Int) := if (wrap64 (a1 - (l0.length : Int))) < 0 then (some (-1)) else (laws_szRecordS.l0 k l0 (wrap64 (a1 - (l0.length : Int))) 0)

set_option maxHeartbeats 8000000 in
set_option maxRecDepth 100000 in
theorem laws_szRecordS.calls (k : Nat) (A0 : Option Addr) (c0 : Nat) (l0 : List (S100)) (a1 : Int) (r : Int) (w : World) (hr0 : Kd.C k100 w A0 l0.length l0) (hc0 : l0.length ≤ c0) (h : laws_szRecordS.f k l0 a1 = some r) :
    Calls Tryz.prog 26 #[.slice A0 l0.length c0, .int .i64 a1] w fun e w' => e = .returned (.int .i64 r) ∧ Below w.heap.size w w' := by
 have hu100 := Tryz.underlying100
 have HR0 := Aside0.mk hr0
 have HC0 := Aside0.mk hc0
 clear hr0 hc0
 have HB := Aside0.mk (Below.refl w.heap.size w)
 have H : (if (wrap64 (a1 - (l0.length : Int))) < 0 then (some (-1)) else (laws_szRecordS.l0 k l0 (wrap64 (a1 - (l0.length : Int))) 0)) = some r := h
 clear h
 by_cases c3 : (wrap64 (a1 - (l0.length : Int))) < 0
 ·rw [if_pos c3] at H
  have c3b0 : decide ((wrap64 (a1 - (l0.length : Int))) < 0) = true := decide_eq_true c3
  clear c3
  obtain rfl := Option.some.inj H
  go_enter Tryz.func26,Tryz.ntmps26
  go_wp2
  go_ret
  exact ⟨rf_,b_⟩
 ·rw [if_neg c3] at H
  have c3b0 : decide ((wrap64 (a1 - (l0.length : Int))) < 0) = false := decide_eq_false c3
  clear c3
  have H' := Aside0.mk H
  clear H
  go_enter Tryz.func26,Tryz.ntmps26
  go_wp2
  go_loopg [1,5] k (fun kq v1 v5 w' => ∃ (x1_1 : Int) (x5_1 : Int),v1 = .int .i64 x1_1 ∧ v5 = .int .i64 x5_1 ∧ Aside0 (laws_szRecordS.l0 kq l0 x1_1 x5_1 = some r) ∧ Aside0 (kq ≤ k) ∧ Aside0 (Below w.heap.size w w'))
  case atStart => exact ⟨(wrap64 (a1 - (l0.length : Int))),(0),rs_,rs_,H',⟨Nat.le_refl _⟩,⟨b_⟩⟩
  case round =>
   clear H'
   try clear c2
   try clear p2
   try clear c3
   try clear c3b0
   obtain ⟨x1_1,x5_1,rfl,rfl,HA,HK1,HB⟩ := hrel
   cases gk with
   | zero => exact absurd HA.out (by simp [laws_szRecordS.l0])
   | succ k1 =>
    have H := HA.out
    clear HA
    simp only [laws_szRecordS.l0] at H
    by_cases c4 : x5_1 < (l0.length : Int)
    ·rw [if_pos c4] at H
     have c4b0 : decide (x5_1 < (l0.length : Int)) = true := decide_eq_true c4
     clear c4
     by_cases c5 : 0 ≤ x5_1
     ·rw [if_pos c5] at H
      have c5b0 : decide (0 ≤ x5_1) = true := decide_eq_true c5
      clear c5
      replace H := bs_ H
      obtain ⟨t108,A6,H⟩ := H
      by_cases c7 : t108 < 0
      ·rw [if_pos c7] at H
       have c7b0 : decide (t108 < 0) = true := decide_eq_true c7
       clear c7
       obtain rfl := Option.some.inj H
       have p107 : 0 ≤ (x5_1 : Int) := od_
       have q107 : x5_1 < (l0.length : Int) := od_
       obtain ⟨ad107,A107_3,c107_3,e107,hx107_0,hx107_1,hx107_2,hx107_3,hl107_3,hi107_3⟩ := at_T100 HR0.out x5_1 p107 q107
       cases e107
       replace hx107_0 := hx_ HB hx107_0
       replace hx107_1 := hx_ HB hx107_1
       replace hx107_2 := hx_ HB hx107_2
       replace hx107_3 := hx_ HB hx107_3
       have HR107_3 := Aside0.mk hi107_3
       have HC107_3 := Aside0.mk hl107_3
       clear hi107_3 hl107_3
       replace p107 := eq_true p107
       replace q107 := eq_true q107
       go_wp2_with (first|((with_reducible refine gcal_ (f := 72) rfl ?_);refine gl_ (some 23) Tryz.func72 #[.agg #[.int .i64 ((rd_T100 l0 x5_1).f0),.int .i64 ((rd_T100 l0 x5_1).f1),.int .i64 ((rd_T100 l0 x5_1).f2),.slice A107_3 ((rd_T100 l0 x5_1).f3).length c107_3],.int .i64 x1_1] ?_;(with_reducible refine (laws_szRecord.calls ((rd_T100 l0 x5_1).f0) ((rd_T100 l0 x5_1).f1) ((rd_T100 l0 x5_1).f2) _ _ ((rd_T100 l0 x5_1).f3) x1_1 t108 _ ?side1 ?side2 A6.out).mono ?_);(case side1 => exact cb_ HR107_3);(case side2 => exact HC107_3.out);rintro e w8 ⟨rfl,hb⟩;refine ⟨_,rfl,?_⟩;replace HB := Aside0.mk (below_step b_ hb);(try clear hb);(try clear hb2);(try clear hk);(try clear hi)))
       go_ret
       exact ⟨rf_,b_⟩
      ·rw [if_neg c7] at H
       have c7b0 : decide (t108 < 0) = false := decide_eq_false c7
       clear c7
       have H' := Aside0.mk H
       clear H
       have p107 : 0 ≤ (x5_1 : Int) := od_
       have q107 : x5_1 < (l0.length : Int) := od_
       obtain ⟨ad107,A107_3,c107_3,e107,hx107_0,hx107_1,hx107_2,hx107_3,hl107_3,hi107_3⟩ := at_T100 HR0.out x5_1 p107 q107
       cases e107
       replace hx107_0 := hx_ HB hx107_0
       replace hx107_1 := hx_ HB hx107_1
       replace hx107_2 := hx_ HB hx107_2
       replace hx107_3 := hx_ HB hx107_3
       have HR107_3 := Aside0.mk hi107_3
       have HC107_3 := Aside0.mk hl107_3
       clear hi107_3 hl107_3
       replace p107 := eq_true p107
       replace q107 := eq_true q107
       go_wp2_with (first|((with_reducible refine gcal_ (f := 72) rfl ?_);refine gl_ (some 23) Tryz.func72 #[.agg #[.int .i64 ((rd_T100 l0 x5_1).f0),.int .i64 ((rd_T100 l0 x5_1).f1),.int .i64 ((rd_T100 l0 x5_1).f2),.slice A107_3 ((rd_T100 l0 x5_1).f3).length c107_3],.int .i64 x1_1] ?_;(with_reducible refine (laws_szRecord.calls ((rd_T100 l0 x5_1).f0) ((rd_T100 l0 x5_1).f1) ((rd_T100 l0 x5_1).f2) _ _ ((rd_T100 l0 x5_1).f3) x1_1 t108 _ ?side1 ?side2 A6.out).mono ?_);(case side1 => exact cb_ HR107_3);(case side2 => exact HC107_3.out);rintro e w9 ⟨rfl,hb⟩;refine ⟨_,rfl,?_⟩;replace HB := Aside0.mk (below_step b_ hb);(try clear hb);(try clear hb2);(try clear hk);(try clear hi)))
       go_roundg k1
       case measure => have := HK1.out;omega
       case rel => exact ⟨(t108),(wrap64 (x5_1 + 1)),rs_,rs_,H',⟨by have := HK1.out;omega⟩,⟨b_⟩⟩
     ·rw [if_neg c5] at H
      exact absurd H (by simp)
    ·rw [if_neg c4] at H
     have c4b0 : decide (x5_1 < (l0.length : Int)) = false := decide_eq_false c4
     clear c4
     obtain rfl := Option.some.inj H
     go_wp2
     go_ret
     exact ⟨rf_,b_⟩

/-! ### laws_szInt64S: function 27 -/
def laws_szInt64S.f (l0 : List Int) (a1 : Int) : Option (Int) := if (wrap64 (a1 - (l0.length : Int))) < 0 then (some (-1)) else (some (wrap64 (a1 - (l0.length : Int))))
set_option maxHeartbeats 8000000 in
set_option maxRecDepth 100000 in
theorem laws_szInt64S.calls (A0 : Option Addr) (c0 : Nat) (l0 : List Int) (a1 : Int) (r : Int) (w : World) (hr0 : Kd.C (Kd.int .i64) w A0 l0.length l0) (hc0 : l0.length ≤ c0) (h : laws_szInt64S.f l0 a1 = some r) :
    Calls Tryz.prog 27 #[.slice A0 l0.length c0, .int .i64 a1] w fun e w' => e = .returned (.int .i64 r) ∧ Drawn0 w w' := by
 have HR0 := Aside0.mk hr0
 have HC0 := Aside0.mk hc0
 clear hr0 hc0
 have H : (if (wrap64 (a1 - (l0.length : Int))) < 0 then (some (-1)) else (some (wrap64 (a1 - (l0.length : Int))))) = some r := h
 clear h
 by_cases c3 : (wrap64 (a1 - (l0.length : Int))) < 0
 ·rw [if_pos c3] at H
  have c3b0 : decide ((wrap64 (a1 - (l0.length : Int))) < 0) = true := decide_eq_true c3
  clear c3
  obtain rfl := Option.some.inj H
  go_enter Tryz.func27,Tryz.ntmps27
  go_wp2
  go_ret
  exact ⟨rs_,by repeat (first|exact Drawn0.refl _|apply Drawn0.step)⟩
 ·rw [if_neg c3] at H
  have c3b0 : decide ((wrap64 (a1 - (l0.length : Int))) < 0) = false := decide_eq_false c3
  clear c3
  obtain rfl := Option.some.inj H
  go_enter Tryz.func27,Tryz.ntmps27
  go_wp2
  go_ret
  exact ⟨rs_,by repeat (first|exact Drawn0.refl _|apply Drawn0.step)⟩

/-! ### laws_szMachine: function 5 -/
def laws_szMachine.f (k : Nat) (a0_0 : Bool) (l0_1 : List (S96)) (l0_2 : List (S100)) (l0_3 : List Int) (a1 : Int) : Option (Int) := (laws_szCopyS.f k l0_1 a1).bind fun t110 => (if t110 < 0 then (some (-1)) else ((laws_szRecordS.f k l0_2 t110).bind fun t111 => (if t111 < 0 then (some (-1)) else ((laws_szInt64S.f l0_3 t111).bind fun t112 => (if t112 < 0 then (some (-1)) else (some t112))))))

set_option maxHeartbeats 8000000 in
set_option maxRecDepth 100000 in
theorem laws_szMachine.calls (k : Nat) (a0_0 : Bool) (A0_1 : Option Addr) (c0_1 : Nat) (l0_1 : List (S96)) (A0_2 : Option Addr) (c0_2 : Nat) (l0_2 : List (S100)) (A0_3 : Option Addr) (c0_3 : Nat) (l0_3 : List Int) (a1 : Int) (r : Int) (w : World) (hr0_1 : Kd.C k96 w A0_1 l0_1.length l0_1) (hc0_1 : l0_1.length ≤ c0_1) (hr0_2 : Kd.C k100 w A0_2 l0_2.length l0_2) (hc0_2 : l0_2.length ≤ c0_2) (hr0_3 : Kd.C (Kd.int .i64) w A0_3 l0_3.length l0_3) (hc0_3 : l0_3.length ≤ c0_3) (h : laws_szMachine.f k a0_0 l0_1 l0_2 l0_3 a1 = some r) :
    Calls Tryz.prog 5 #[.agg #[.bool a0_0, .slice A0_1 l0_1.length c0_1, .slice A0_2 l0_2.length c0_2, .slice A0_3 l0_3.length c0_3], .int .i64 a1] w fun e w' => e = .returned (.int .i64 r) ∧ Below w.heap.size w w' := by
 have hu26 := Tryz.underlying26
 have HR0_1 := Aside0.mk hr0_1
 have HC0_1 := Aside0.mk hc0_1
 clear hr0_1 hc0_1
 have HR0_2 := Aside0.mk hr0_2
 have HC0_2 := Aside0.mk hc0_2
 clear hr0_2 hc0_2
 have HR0_3 := Aside0.mk hr0_3
 have HC0_3 := Aside0.mk hc0_3
 clear hr0_3 hc0_3
 have HB := Aside0.mk (Below.refl w.heap.size w)
 have H : ((laws_szCopyS.f k l0_1 a1).bind fun t110 => (if t110 < 0 then (some (-1)) else ((laws_szRecordS.f k l0_2 t110).bind fun t111 => (if t111 < 0 then (some (-1)) else ((laws_szInt64S.f l0_3 t111).bind fun t112 => (if t112 < 0 then (some (-1)) else (some t112))))))) = some r := h
 clear h
 replace H := bs_ H
 obtain ⟨t110,A3,H⟩ := H
 by_cases c4 : t110 < 0
 ·rw [if_pos c4] at H
  have c4b0 : decide (t110 < 0) = true := decide_eq_true c4
  clear c4
  obtain rfl := Option.some.inj H
  go_enter Tryz.func5,Tryz.ntmps5
  go_wp2_with (first|((with_reducible refine gate_dst (N := 2) rfl ?_);refine bx_ 2 #[.bool a0_0,.slice A0_1 l0_1.length c0_1,.slice A0_2 l0_2.length c0_2,.slice A0_3 l0_3.length c0_3] 26 ?_;intro gb109 hg w5 hbox hb;replace HB := nb_ hg hbox hb;obtain ⟨BK109,GW109,GE109,HB⟩ := HB;clear hb hbox hg;obtain ⟨⟨hcz6_0,hcz6_1,hcz6_2,hcz6_3⟩,hfz6_0,hfz6_1,hfz6_2,hfz6_3⟩ := cl4_ BK109.out)|((with_reducible refine gcal_ (f := 25) rfl ?_);refine gl_ (some 8) Tryz.func25 #[.slice A0_1 l0_1.length c0_1,.int .i64 a1] ?_;(with_reducible refine (laws_szCopyS.calls k _ _ l0_1 a1 t110 _ ?side1 ?side2 A3.out).mono ?_);(case side1 => exact cb_ HR0_1);(case side2 => exact HC0_1.out);rintro e w7 ⟨rfl,hb⟩;refine ⟨_,rfl,?_⟩;replace BK109 := Aside0.mk (blk_below (kb_ BK109) hb);replace HB := Aside0.mk (below_step b_ hb);(try clear hb);(try clear hb2);(try clear hk);(try clear hi)))
  go_ret
  exact ⟨rf_,b_⟩
 ·rw [if_neg c4] at H
  have c4b0 : decide (t110 < 0) = false := decide_eq_false c4
  clear c4
  replace H := bs_ H
  obtain ⟨t111,A8,H⟩ := H
  by_cases c9 : t111 < 0
  ·rw [if_pos c9] at H
   have c9b0 : decide (t111 < 0) = true := decide_eq_true c9
   clear c9
   obtain rfl := Option.some.inj H
   go_enter Tryz.func5,Tryz.ntmps5
   go_wp2_with (first|((with_reducible refine gate_dst (N := 2) rfl ?_);refine bx_ 2 #[.bool a0_0,.slice A0_1 l0_1.length c0_1,.slice A0_2 l0_2.length c0_2,.slice A0_3 l0_3.length c0_3] 26 ?_;intro gb109 hg w10 hbox hb;replace HB := nb_ hg hbox hb;obtain ⟨BK109,GW109,GE109,HB⟩ := HB;clear hb hbox hg;obtain ⟨⟨hcz11_0,hcz11_1,hcz11_2,hcz11_3⟩,hfz11_0,hfz11_1,hfz11_2,hfz11_3⟩ := cl4_ BK109.out)|((with_reducible refine gcal_ (f := 25) rfl ?_);refine gl_ (some 8) Tryz.func25 #[.slice A0_1 l0_1.length c0_1,.int .i64 a1] ?_;(with_reducible refine (laws_szCopyS.calls k _ _ l0_1 a1 t110 _ ?side1 ?side2 A3.out).mono ?_);(case side1 => exact cb_ HR0_1);(case side2 => exact HC0_1.out);rintro e w12 ⟨rfl,hb⟩;refine ⟨_,rfl,?_⟩;replace BK109 := Aside0.mk (blk_below (kb_ BK109) hb);replace HB := Aside0.mk (below_step b_ hb);(try clear hb);(try clear hb2);(try clear hk);(try clear hi);obtain ⟨⟨hcz13_0,hcz13_1,hcz13_2,hcz13_3⟩,hfz13_0,hfz13_1,hfz13_2,hfz13_3⟩ := cl4_ BK109.out)|((with_reducible refine gcal_ (f := 26) rfl ?_);refine gl_ (some 14) Tryz.func26 #[.slice A0_2 l0_2.length c0_2,.int .i64 t110] ?_;(with_reducible refine (laws_szRecordS.calls k _ _ l0_2 t110 t111 _ ?side1 ?side2 A8.out).mono ?_);(case side1 => exact cb_ HR0_2);(case side2 => exact HC0_2.out);rintro e w14 ⟨rfl,hb⟩;refine ⟨_,rfl,?_⟩;replace BK109 := Aside0.mk (blk_below (kb_ BK109) hb);replace HB := Aside0.mk (below_step b_ hb);(try clear hb);(try clear hb2);(try clear hk);(try clear hi)))
   go_ret
   exact ⟨rf_,b_⟩
  ·rw [if_neg c9] at H
   have c9b0 : decide (t111 < 0) = false := decide_eq_false c9
   clear c9
   replace H := bs_ H
   obtain ⟨t112,A15,H⟩ := H
   by_cases c16 : t112 < 0
   ·rw [if_pos c16] at H
    have c16b0 : decide (t112 < 0) = true := decide_eq_true c16
    clear c16
    obtain rfl := Option.some.inj H
    go_enter Tryz.func5,Tryz.ntmps5
    go_wp2_with (first|((with_reducible refine gate_dst (N := 2) rfl ?_);refine bx_ 2 #[.bool a0_0,.slice A0_1 l0_1.length c0_1,.slice A0_2 l0_2.length c0_2,.slice A0_3 l0_3.length c0_3] 26 ?_;intro gb109 hg w17 hbox hb;replace HB := nb_ hg hbox hb;obtain ⟨BK109,GW109,GE109,HB⟩ := HB;clear hb hbox hg;obtain ⟨⟨hcz18_0,hcz18_1,hcz18_2,hcz18_3⟩,hfz18_0,hfz18_1,hfz18_2,hfz18_3⟩ := cl4_ BK109.out)|((with_reducible refine gcal_ (f := 25) rfl ?_);refine gl_ (some 8) Tryz.func25 #[.slice A0_1 l0_1.length c0_1,.int .i64 a1] ?_;(with_reducible refine (laws_szCopyS.calls k _ _ l0_1 a1 t110 _ ?side1 ?side2 A3.out).mono ?_);(case side1 => exact cb_ HR0_1);(case side2 => exact HC0_1.out);rintro e w19 ⟨rfl,hb⟩;refine ⟨_,rfl,?_⟩;replace BK109 := Aside0.mk (blk_below (kb_ BK109) hb);replace HB := Aside0.mk (below_step b_ hb);(try clear hb);(try clear hb2);(try clear hk);(try clear hi);obtain ⟨⟨hcz20_0,hcz20_1,hcz20_2,hcz20_3⟩,hfz20_0,hfz20_1,hfz20_2,hfz20_3⟩ := cl4_ BK109.out)|((with_reducible refine gcal_ (f := 26) rfl ?_);refine gl_ (some 14) Tryz.func26 #[.slice A0_2 l0_2.length c0_2,.int .i64 t110] ?_;(with_reducible refine (laws_szRecordS.calls k _ _ l0_2 t110 t111 _ ?side1 ?side2 A8.out).mono ?_);(case side1 => exact cb_ HR0_2);(case side2 => exact HC0_2.out);rintro e w21 ⟨rfl,hb⟩;refine ⟨_,rfl,?_⟩;replace BK109 := Aside0.mk (blk_below (kb_ BK109) hb);replace HB := Aside0.mk (below_step b_ hb);(try clear hb);(try clear hb2);(try clear hk);(try clear hi);obtain ⟨⟨hcz22_0,hcz22_1,hcz22_2,hcz22_3⟩,hfz22_0,hfz22_1,hfz22_2,hfz22_3⟩ := cl4_ BK109.out)|((with_reducible refine gcal_ (f := 27) rfl ?_);refine gl_ (some 20) Tryz.func27 #[.slice A0_3 l0_3.length c0_3,.int .i64 t111] ?_;(with_reducible refine (laws_szInt64S.calls _ _ l0_3 t111 t112 _ ?side1 ?side2 A15.out).mono ?_);(case side1 => exact cb_ HR0_3);(case side2 => exact HC0_3.out);rintro e w' ⟨rfl,⟨nd,rfl⟩⟩;refine ⟨_,rfl,?_⟩))
    go_ret
    exact ⟨rf_,b_⟩
   ·rw [if_neg c16] at H
    have c16b0 : decide (t112 < 0) = false := decide_eq_false c16
    clear c16
    obtain rfl := Option.some.inj H
    go_enter Tryz.func5,Tryz.ntmps5
    go_wp2_with (first|((with_reducible refine gate_dst (N := 2) rfl ?_);refine bx_ 2 #[.bool a0_0,.slice A0_1 l0_1.length c0_1,.slice A0_2 l0_2.length c0_2,.slice A0_3 l0_3.length c0_3] 26 ?_;intro gb109 hg w23 hbox hb;replace HB := nb_ hg hbox hb;obtain ⟨BK109,GW109,GE109,HB⟩ := HB;clear hb hbox hg;obtain ⟨⟨hcz24_0,hcz24_1,hcz24_2,hcz24_3⟩,hfz24_0,hfz24_1,hfz24_2,hfz24_3⟩ := cl4_ BK109.out)|((with_reducible refine gcal_ (f := 25) rfl ?_);refine gl_ (some 8) Tryz.func25 #[.slice A0_1 l0_1.length c0_1,.int .i64 a1] ?_;(with_reducible refine (laws_szCopyS.calls k _ _ l0_1 a1 t110 _ ?side1 ?side2 A3.out).mono ?_);(case side1 => exact cb_ HR0_1);(case side2 => exact HC0_1.out);rintro e w25 ⟨rfl,hb⟩;refine ⟨_,rfl,?_⟩;replace BK109 := Aside0.mk (blk_below (kb_ BK109) hb);replace HB := Aside0.mk (below_step b_ hb);(try clear hb);(try clear hb2);(try clear hk);(try clear hi);obtain ⟨⟨hcz26_0,hcz26_1,hcz26_2,hcz26_3⟩,hfz26_0,hfz26_1,hfz26_2,hfz26_3⟩ := cl4_ BK109.out)|((with_reducible refine gcal_ (f := 26) rfl ?_);refine gl_ (some 14) Tryz.func26 #[.slice A0_2 l0_2.length c0_2,.int .i64 t110] ?_;(with_reducible refine (laws_szRecordS.calls k _ _ l0_2 t110 t111 _ ?side1 ?side2 A8.out).mono ?_);(case side1 => exact cb_ HR0_2);(case side2 => exact HC0_2.out);rintro e w27 ⟨rfl,hb⟩;refine ⟨_,rfl,?_⟩;replace BK109 := Aside0.mk (blk_below (kb_ BK109) hb);replace HB := Aside0.mk (below_step b_ hb);(try clear hb);(try clear hb2);(try clear hk);(try clear hi);obtain ⟨⟨hcz28_0,hcz28_1,hcz28_2,hcz28_3⟩,hfz28_0,hfz28_1,hfz28_2,hfz28_3⟩ := cl4_ BK109.out)|((with_reducible refine gcal_ (f := 27) rfl ?_);refine gl_ (some 20) Tryz.func27 #[.slice A0_3 l0_3.length c0_3,.int .i64 t111] ?_;(with_reducible refine (laws_szInt64S.calls _ _ l0_3 t111 t112 _ ?side1 ?side2 A15.out).mono ?_);(case side1 => exact cb_ HR0_3);(case side2 => exact HC0_3.out);rintro e w' ⟨rfl,⟨nd,rfl⟩⟩;refine ⟨_,rfl,?_⟩))
    go_ret
    exact ⟨rf_,b_⟩

/-! ### spec_l1In: function 74 -/
def spec_l1In.f (a0 : Int) (a1 : Int) (a2 : Int) : Option (Bool) := if a0 ≥ a1 then (some (decide (a0 ≤ a2))) else (some false)
set_option maxHeartbeats 8000000 in
set_option maxRecDepth 100000 in
theorem spec_l1In.calls (a0 : Int) (a1 : Int) (a2 : Int) (r : Bool) (w : World) (h : spec_l1In.f a0 a1 a2 = some r) :
    Calls Tryz.prog 74 #[.int .i64 a0, .int .i64 a1, .int .i64 a2] w fun e w' => e = .returned (.bool r) ∧ Drawn0 w w' := by
 have H : (if a0 ≥ a1 then (some (decide (a0 ≤ a2))) else (some false)) = some r := h
 clear h
 by_cases c4 : a0 ≥ a1
 ·rw [if_pos c4] at H
  have c4b0 : decide (a1 ≤ a0) = true := decide_eq_true c4
  clear c4
  obtain rfl := Option.some.inj H
  go_enter Tryz.func74,Tryz.ntmps74
  go_wp2
  go_ret
  exact ⟨rs_,by repeat (first|exact Drawn0.refl _|apply Drawn0.step)⟩
 ·rw [if_neg c4] at H
  have c4b0 : decide (a1 ≤ a0) = false := decide_eq_false c4
  clear c4
  obtain rfl := Option.some.inj H
  go_enter Tryz.func74,Tryz.ntmps74
  go_wp2
  go_ret
  exact ⟨rs_,by repeat (first|exact Drawn0.refl _|apply Drawn0.step)⟩

/-! ### spec_l1Region: function 57 -/
def spec_l1Region.f (a0 : Int) : Option (Bool) := (spec_l1In.f a0 0 5).bind fun t113 => (some t113)
set_option maxHeartbeats 8000000 in
set_option maxRecDepth 100000 in
theorem spec_l1Region.calls (a0 : Int) (r : Bool) (w : World) (h : spec_l1Region.f a0 = some r) :
    Calls Tryz.prog 57 #[.int .i64 a0] w fun e w' => e = .returned (.bool r) ∧ Drawn0 w w' := by
 have H : ((spec_l1In.f a0 0 5).bind fun t113 => (some t113)) = some r := h
 clear h
 replace H := bs_ H
 obtain ⟨t113,A2,H⟩ := H
 obtain rfl := Option.some.inj H
 go_enter Tryz.func57,Tryz.ntmps57
 go_wp2_with (first|((with_reducible refine gcal_ (f := 74) rfl ?_);refine gl_ (some 4) Tryz.func74 #[.int .i64 a0,.int .i64 0,.int .i64 5] ?_;(with_reducible refine (spec_l1In.calls a0 0 5 t113 _ A2.out).mono ?_);rintro e w' ⟨rfl,⟨nd,rfl⟩⟩;refine ⟨_,rfl,?_⟩))
 go_ret
 exact ⟨rs_,by repeat (first|exact Drawn0.refl _|apply Drawn0.step)⟩

/-! ### spec_HeadOk: function 105 -/
def spec_HeadOk.f (a0 : Int) : Option (Bool) := (spec_l1In.f a0 0 4000003).bind fun t114 => (some t114)
set_option maxHeartbeats 8000000 in
set_option maxRecDepth 100000 in
theorem spec_HeadOk.calls (a0 : Int) (r : Bool) (w : World) (h : spec_HeadOk.f a0 = some r) :
    Calls Tryz.prog 105 #[.int .i64 a0] w fun e w' => e = .returned (.bool r) ∧ Drawn0 w w' := by
 have H : ((spec_l1In.f a0 0 4000003).bind fun t114 => (some t114)) = some r := h
 clear h
 replace H := bs_ H
 obtain ⟨t114,A2,H⟩ := H
 obtain rfl := Option.some.inj H
 go_enter Tryz.func105,Tryz.ntmps105
 go_wp2_with (first|((with_reducible refine gcal_ (f := 74) rfl ?_);refine gl_ (some 4) Tryz.func74 #[.int .i64 a0,.int .i64 0,.int .i64 4000003] ?_;(with_reducible refine (spec_l1In.calls a0 0 4000003 t114 _ A2.out).mono ?_);rintro e w' ⟨rfl,⟨nd,rfl⟩⟩;refine ⟨_,rfl,?_⟩))
 go_ret
 exact ⟨rs_,by repeat (first|exact Drawn0.refl _|apply Drawn0.step)⟩

/-! ### spec_l1Value: function 106 -/
def spec_l1Value.f (a0 : Int) : Option (Bool) := (spec_l1In.f a0 (-1000000000) 1000000000).bind fun t115 => (some t115)
set_option maxHeartbeats 8000000 in
set_option maxRecDepth 100000 in
theorem spec_l1Value.calls (a0 : Int) (r : Bool) (w : World) (h : spec_l1Value.f a0 = some r) :
    Calls Tryz.prog 106 #[.int .i64 a0] w fun e w' => e = .returned (.bool r) ∧ Drawn0 w w' := by
 have H : ((spec_l1In.f a0 (-1000000000) 1000000000).bind fun t115 => (some t115)) = some r := h
 clear h
 replace H := bs_ H
 obtain ⟨t115,A2,H⟩ := H
 obtain rfl := Option.some.inj H
 go_enter Tryz.func106,Tryz.ntmps106
 go_wp2_with (first|((with_reducible refine gcal_ (f := 74) rfl ?_);refine gl_ (some 4) Tryz.func74 #[.int .i64 a0,.int .i64 (-1000000000),.int .i64 1000000000] ?_;(with_reducible refine (spec_l1In.calls a0 (-1000000000) 1000000000 t115 _ A2.out).mono ?_);rintro e w' ⟨rfl,⟨nd,rfl⟩⟩;refine ⟨_,rfl,?_⟩))
 go_ret
 exact ⟨rs_,by repeat (first|exact Drawn0.refl _|apply Drawn0.step)⟩

/-! ### spec_Used: function 107 -/
def spec_Used.f (a0 : Int) : Option (Bool) := (spec_HeadOk.f a0).bind fun t116 => (if t116 = true then (some ((Int.tmod (wrap64 (Int.tdiv a0 2)) 2) == 1)) else (some false))
set_option maxHeartbeats 8000000 in
set_option maxRecDepth 100000 in
theorem spec_Used.calls (a0 : Int) (r : Bool) (w : World) (h : spec_Used.f a0 = some r) :
    Calls Tryz.prog 107 #[.int .i64 a0] w fun e w' => e = .returned (.bool r) ∧ Drawn0 w w' := by
 have H : ((spec_HeadOk.f a0).bind fun t116 => (if t116 = true then (some ((Int.tmod (wrap64 (Int.tdiv a0 2)) 2) == 1)) else (some false))) = some r := h
 clear h
 replace H := bs_ H
 obtain ⟨t116,A2,H⟩ := H
 by_cases c3 : t116 = true
 ·subst c3
  replace H := it_ H
  obtain rfl := Option.some.inj H
  go_enter Tryz.func107,Tryz.ntmps107
  go_wp2_with (first|((with_reducible refine gcal_ (f := 105) rfl ?_);refine gl_ (some 4) Tryz.func105 #[.int .i64 a0] ?_;(with_reducible refine (spec_HeadOk.calls a0 true _ A2.out).mono ?_);rintro e w' ⟨rfl,⟨nd,rfl⟩⟩;refine ⟨_,rfl,?_⟩))
  go_ret
  exact ⟨rs_,by repeat (first|exact Drawn0.refl _|apply Drawn0.step)⟩
 ·replace c3 := Bool.eq_false_iff.mpr c3
  subst c3
  replace H := ie_ H
  obtain rfl := Option.some.inj H
  go_enter Tryz.func107,Tryz.ntmps107
  go_wp2_with (first|((with_reducible refine gcal_ (f := 105) rfl ?_);refine gl_ (some 4) Tryz.func105 #[.int .i64 a0] ?_;(with_reducible refine (spec_HeadOk.calls a0 false _ A2.out).mono ?_);rintro e w' ⟨rfl,⟨nd,rfl⟩⟩;refine ⟨_,rfl,?_⟩))
  go_ret
  exact ⟨rs_,by repeat (first|exact Drawn0.refl _|apply Drawn0.step)⟩

/-! ### spec_CellsOk: function 58 -/
def spec_CellsOk.l0 : Nat → List (S87) → Int → Option (Bool)
  | 0, _, _ => none
  | k + 1, x0, x3 => if x3 < (x0.length : Int) then (if 0 ≤ x3 then ((spec_HeadOk.f ((rd_T87 x0 x3).f0)).bind fun t119 => (if t119 = true then ((spec_l1Value.f ((rd_T87 x0 x3).f1)).bind fun t120 => (if t120 = true then ((spec_Used.f ((rd_T87 x0 x3).f0)).bind fun t121 => (if t121 = true then (spec_CellsOk.l0 k x0 (wrap64 (x3 + 1))) else (if ((rd_T87 x0 x3).f1) = 0 then (spec_CellsOk.l0 k x0 (wrap64 (x3 + 1))) else (some false)))) else (some false))) else (some false))) else (none)) else (some true)
def spec_CellsOk.f (k : Nat) (l0 : List (S87)) : Option (Bool) := if (l0.length : Int) = 6 then (spec_CellsOk.l0 k l0 0) else (some false)

set_option maxHeartbeats 8000000 in
set_option maxRecDepth 100000 in
theorem spec_CellsOk.calls (k : Nat) (A0 : Option Addr) (c0 : Nat) (l0 : List (S87)) (r : Bool) (w : World) (hr0 : Kd.C k87 w A0 l0.length l0) (hc0 : l0.length ≤ c0) (h : spec_CellsOk.f k l0 = some r) :
    Calls Tryz.prog 58 #[.slice A0 l0.length c0] w fun e w' => e = .returned (.bool r) ∧ Below w.heap.size w w' := by
 have hu87 := Tryz.underlying87
 have HR0 := Aside0.mk hr0
 have HC0 := Aside0.mk hc0
 clear hr0 hc0
 have HB := Aside0.mk (Below.refl w.heap.size w)
 have H : (if (l0.length : Int) = 6 then (spec_CellsOk.l0 k l0 0) else (some false)) = some r := h
 clear h
 by_cases c2 : (l0.length : Int) = 6
 ·rw [if_pos c2] at H
  have c2b0 : ((l0.length : Int) == 6) = true := beq_iff_eq.mpr c2
  have c2b1 : ((l0.length : Int) != 6) = false := bne_eq_false_iff_eq.mpr c2
  clear c2
  have H' := Aside0.mk H
  clear H
  go_enter Tryz.func58,Tryz.ntmps58
  go_wp2
  go_loopg [3] k (fun kq v3 w' => ∃ (x3_1 : Int),v3 = .int .i64 x3_1 ∧ Aside0 (spec_CellsOk.l0 kq l0 x3_1 = some r) ∧ Aside0 (kq ≤ k) ∧ Aside0 (Below w.heap.size w w'))
  case atStart => exact ⟨(0),rs_,H',⟨Nat.le_refl _⟩,⟨b_⟩⟩
  case round =>
   clear H'
   try clear c2
   try clear c2b0
   try clear c2b1
   try clear p2
   obtain ⟨x3_1,rfl,HA,HK1,HB⟩ := hrel
   cases gk with
   | zero => exact absurd HA.out (by simp [spec_CellsOk.l0])
   | succ k1 =>
    have H := HA.out
    clear HA
    simp only [spec_CellsOk.l0] at H
    by_cases c3 : x3_1 < (l0.length : Int)
    ·rw [if_pos c3] at H
     have c3b0 : decide (x3_1 < (l0.length : Int)) = true := decide_eq_true c3
     clear c3
     by_cases c4 : 0 ≤ x3_1
     ·rw [if_pos c4] at H
      have c4b0 : decide (0 ≤ x3_1) = true := decide_eq_true c4
      clear c4
      replace H := bs_ H
      obtain ⟨t119,A5,H⟩ := H
      by_cases c6 : t119 = true
      ·subst c6
       replace H := it_ H
       replace H := bs_ H
       obtain ⟨t120,A7,H⟩ := H
       by_cases c8 : t120 = true
       ·subst c8
        replace H := it_ H
        replace H := bs_ H
        obtain ⟨t121,A9,H⟩ := H
        by_cases c10 : t121 = true
        ·subst c10
         replace H := it_ H
         have H' := Aside0.mk H
         clear H
         have p117 : 0 ≤ (x3_1 : Int) := od_
         have q117 : x3_1 < (l0.length : Int) := od_
         obtain ⟨ad117,e117,hx117_0,hx117_1⟩ := at_T87 HR0.out x3_1 p117 q117
         cases e117
         replace hx117_0 := hx_ HB hx117_0
         replace hx117_1 := hx_ HB hx117_1
         replace p117 := eq_true p117
         replace q117 := eq_true q117
         go_wp2_with (first|((with_reducible refine gate_dst (N := 4) rfl ?_);refine bx_ 4 #[.int .i64 0,.int .i64 0] 87 ?_;intro gb118 hg w11 hbox hb;replace HB := nb_ hg hbox hb;obtain ⟨BK118,GW118,GE118,HB⟩ := HB;clear hb hbox hg;obtain ⟨⟨hcz12_0,hcz12_1⟩,hfz12_0,hfz12_1⟩ := cl2_ BK118.out)|((with_reducible refine gcal_ (f := 105) rfl ?_);refine gl_ (some 20) Tryz.func105 #[.int .i64 ((rd_T87 l0 x3_1).f0)] ?_;(with_reducible refine (spec_HeadOk.calls ((rd_T87 l0 x3_1).f0) true _ A5.out).mono ?_);rintro e w' ⟨rfl,⟨nd,rfl⟩⟩;refine ⟨_,rfl,?_⟩)|(go_at_call 106;(with_reducible refine (spec_l1Value.calls ((rd_T87 l0 x3_1).f1) true _ A7.out).mono ?_);rintro e w' ⟨rfl,⟨nd,rfl⟩⟩)|(go_at_call 107;(with_reducible refine (spec_Used.calls ((rd_T87 l0 x3_1).f0) true _ A9.out).mono ?_);rintro e w' ⟨rfl,⟨nd,rfl⟩⟩))
         go_roundg k1
         case measure => have := HK1.out;omega
         case rel => exact ⟨(wrap64 (x3_1 + 1)),rs_,H',⟨by have := HK1.out;omega⟩,⟨b_⟩⟩
        ·replace c10 := Bool.eq_false_iff.mpr c10
         subst c10
         replace H := ie_ H
         by_cases c13 : ((rd_T87 l0 x3_1).f1) = 0
         ·rw [if_pos c13] at H
          have c13b0 : (((rd_T87 l0 x3_1).f1) == 0) = true := beq_iff_eq.mpr c13
          have c13b1 : (((rd_T87 l0 x3_1).f1) != 0) = false := bne_eq_false_iff_eq.mpr c13
          clear c13
          have H' := Aside0.mk H
          clear H
          have p117 : 0 ≤ (x3_1 : Int) := od_
          have q117 : x3_1 < (l0.length : Int) := od_
          obtain ⟨ad117,e117,hx117_0,hx117_1⟩ := at_T87 HR0.out x3_1 p117 q117
          cases e117
          replace hx117_0 := hx_ HB hx117_0
          replace hx117_1 := hx_ HB hx117_1
          replace p117 := eq_true p117
          replace q117 := eq_true q117
          go_wp2_with (first|((with_reducible refine gate_dst (N := 4) rfl ?_);refine bx_ 4 #[.int .i64 0,.int .i64 0] 87 ?_;intro gb118 hg w14 hbox hb;replace HB := nb_ hg hbox hb;obtain ⟨BK118,GW118,GE118,HB⟩ := HB;clear hb hbox hg;obtain ⟨⟨hcz15_0,hcz15_1⟩,hfz15_0,hfz15_1⟩ := cl2_ BK118.out)|((with_reducible refine gcal_ (f := 105) rfl ?_);refine gl_ (some 20) Tryz.func105 #[.int .i64 ((rd_T87 l0 x3_1).f0)] ?_;(with_reducible refine (spec_HeadOk.calls ((rd_T87 l0 x3_1).f0) true _ A5.out).mono ?_);rintro e w' ⟨rfl,⟨nd,rfl⟩⟩;refine ⟨_,rfl,?_⟩)|(go_at_call 106;(with_reducible refine (spec_l1Value.calls ((rd_T87 l0 x3_1).f1) true _ A7.out).mono ?_);rintro e w' ⟨rfl,⟨nd,rfl⟩⟩)|(go_at_call 107;(with_reducible refine (spec_Used.calls ((rd_T87 l0 x3_1).f0) false _ A9.out).mono ?_);rintro e w' ⟨rfl,⟨nd,rfl⟩⟩))
          go_roundg k1
          case measure => have := HK1.out;omega
          case rel => exact ⟨(wrap64 (x3_1 + 1)),rs_,H',⟨by have := HK1.out;omega⟩,⟨b_⟩⟩
         ·rw [if_neg c13] at H
          have c13b0 : (((rd_T87 l0 x3_1).f1) == 0) = false := beq_eq_false_iff_ne.mpr c13
          have c13b1 : (((rd_T87 l0 x3_1).f1) != 0) = true := bne_iff_ne.mpr c13
          obtain rfl := Option.some.inj H
          have p117 : 0 ≤ (x3_1 : Int) := od_
          have q117 : x3_1 < (l0.length : Int) := od_
          obtain ⟨ad117,e117,hx117_0,hx117_1⟩ := at_T87 HR0.out x3_1 p117 q117
          cases e117
          replace hx117_0 := hx_ HB hx117_0
          replace hx117_1 := hx_ HB hx117_1
          replace p117 := eq_true p117
          replace q117 := eq_true q117
          go_wp2_with (first|((with_reducible refine gate_dst (N := 4) rfl ?_);refine bx_ 4 #[.int .i64 0,.int .i64 0] 87 ?_;intro gb118 hg w16 hbox hb;replace HB := nb_ hg hbox hb;obtain ⟨BK118,GW118,GE118,HB⟩ := HB;clear hb hbox hg;obtain ⟨⟨hcz17_0,hcz17_1⟩,hfz17_0,hfz17_1⟩ := cl2_ BK118.out)|((with_reducible refine gcal_ (f := 105) rfl ?_);refine gl_ (some 20) Tryz.func105 #[.int .i64 ((rd_T87 l0 x3_1).f0)] ?_;(with_reducible refine (spec_HeadOk.calls ((rd_T87 l0 x3_1).f0) true _ A5.out).mono ?_);rintro e w' ⟨rfl,⟨nd,rfl⟩⟩;refine ⟨_,rfl,?_⟩)|(go_at_call 106;(with_reducible refine (spec_l1Value.calls ((rd_T87 l0 x3_1).f1) true _ A7.out).mono ?_);rintro e w' ⟨rfl,⟨nd,rfl⟩⟩)|(go_at_call 107;(with_reducible refine (spec_Used.calls ((rd_T87 l0 x3_1).f0) false _ A9.out).mono ?_);rintro e w' ⟨rfl,⟨nd,rfl⟩⟩))
          go_ret
          exact ⟨rf_,b_⟩
       ·replace c8 := Bool.eq_false_iff.mpr c8
        subst c8
        replace H := ie_ H
        obtain rfl := Option.some.inj H
        have p117 : 0 ≤ (x3_1 : Int) := od_
        have q117 : x3_1 < (l0.length : Int) := od_
        obtain ⟨ad117,e117,hx117_0,hx117_1⟩ := at_T87 HR0.out x3_1 p117 q117
        cases e117
        replace hx117_0 := hx_ HB hx117_0
        replace hx117_1 := hx_ HB hx117_1
        replace p117 := eq_true p117
        replace q117 := eq_true q117
        go_wp2_with (first|((with_reducible refine gate_dst (N := 4) rfl ?_);refine bx_ 4 #[.int .i64 0,.int .i64 0] 87 ?_;intro gb118 hg w18 hbox hb;replace HB := nb_ hg hbox hb;obtain ⟨BK118,GW118,GE118,HB⟩ := HB;clear hb hbox hg;obtain ⟨⟨hcz19_0,hcz19_1⟩,hfz19_0,hfz19_1⟩ := cl2_ BK118.out)|((with_reducible refine gcal_ (f := 105) rfl ?_);refine gl_ (some 20) Tryz.func105 #[.int .i64 ((rd_T87 l0 x3_1).f0)] ?_;(with_reducible refine (spec_HeadOk.calls ((rd_T87 l0 x3_1).f0) true _ A5.out).mono ?_);rintro e w' ⟨rfl,⟨nd,rfl⟩⟩;refine ⟨_,rfl,?_⟩)|(go_at_call 106;(with_reducible refine (spec_l1Value.calls ((rd_T87 l0 x3_1).f1) false _ A7.out).mono ?_);rintro e w' ⟨rfl,⟨nd,rfl⟩⟩))
        go_ret
        exact ⟨rf_,b_⟩
      ·replace c6 := Bool.eq_false_iff.mpr c6
       subst c6
       replace H := ie_ H
       obtain rfl := Option.some.inj H
       have p117 : 0 ≤ (x3_1 : Int) := od_
       have q117 : x3_1 < (l0.length : Int) := od_
       obtain ⟨ad117,e117,hx117_0,hx117_1⟩ := at_T87 HR0.out x3_1 p117 q117
       cases e117
       replace hx117_0 := hx_ HB hx117_0
       replace hx117_1 := hx_ HB hx117_1
       replace p117 := eq_true p117
       replace q117 := eq_true q117
       go_wp2_with (first|((with_reducible refine gate_dst (N := 4) rfl ?_);refine bx_ 4 #[.int .i64 0,.int .i64 0] 87 ?_;intro gb118 hg w20 hbox hb;replace HB := nb_ hg hbox hb;obtain ⟨BK118,GW118,GE118,HB⟩ := HB;clear hb hbox hg;obtain ⟨⟨hcz21_0,hcz21_1⟩,hfz21_0,hfz21_1⟩ := cl2_ BK118.out)|((with_reducible refine gcal_ (f := 105) rfl ?_);refine gl_ (some 20) Tryz.func105 #[.int .i64 ((rd_T87 l0 x3_1).f0)] ?_;(with_reducible refine (spec_HeadOk.calls ((rd_T87 l0 x3_1).f0) false _ A5.out).mono ?_);rintro e w' ⟨rfl,⟨nd,rfl⟩⟩;refine ⟨_,rfl,?_⟩))
       go_ret
       exact ⟨rf_,b_⟩
     ·rw [if_neg c4] at H
      exact absurd H (by simp)
    ·rw [if_neg c3] at H
     have c3b0 : decide (x3_1 < (l0.length : Int)) = false := decide_eq_false c3
     clear c3
     obtain rfl := Option.some.inj H
     go_wp2
     go_ret
     exact ⟨rf_,b_⟩
 ·rw [if_neg c2] at H
  have c2b0 : ((l0.length : Int) == 6) = false := beq_eq_false_iff_ne.mpr c2
  have c2b1 : ((l0.length : Int) != 6) = true := bne_iff_ne.mpr c2
  obtain rfl := Option.some.inj H
  go_enter Tryz.func58,Tryz.ntmps58
  go_wp2
  go_ret
  exact ⟨rf_,b_⟩

/-! ### spec_l1Id: function 29 -/
def spec_l1Id.f (a0 : Int) : Option (Bool) := (spec_l1In.f a0 1 1000000).bind fun t122 => (some t122)
set_option maxHeartbeats 8000000 in
set_option maxRecDepth 100000 in
theorem spec_l1Id.calls (a0 : Int) (r : Bool) (w : World) (h : spec_l1Id.f a0 = some r) :
    Calls Tryz.prog 29 #[.int .i64 a0] w fun e w' => e = .returned (.bool r) ∧ Drawn0 w w' := by
 have H : ((spec_l1In.f a0 1 1000000).bind fun t122 => (some t122)) = some r := h
 clear h
 replace H := bs_ H
 obtain ⟨t122,A2,H⟩ := H
 obtain rfl := Option.some.inj H
 go_enter Tryz.func29,Tryz.ntmps29
 go_wp2_with (first|((with_reducible refine gcal_ (f := 74) rfl ?_);refine gl_ (some 4) Tryz.func74 #[.int .i64 a0,.int .i64 1,.int .i64 1000000] ?_;(with_reducible refine (spec_l1In.calls a0 1 1000000 t122 _ A2.out).mono ?_);rintro e w' ⟨rfl,⟨nd,rfl⟩⟩;refine ⟨_,rfl,?_⟩))
 go_ret
 exact ⟨rs_,by repeat (first|exact Drawn0.refl _|apply Drawn0.step)⟩

/-! ### spec_l1Slot: function 139 -/
def spec_l1Slot.f (a0 : Int) : Option (Bool) := (spec_l1In.f a0 0 5).bind fun t123 => (some t123)
set_option maxHeartbeats 8000000 in
set_option maxRecDepth 100000 in
theorem spec_l1Slot.calls (a0 : Int) (r : Bool) (w : World) (h : spec_l1Slot.f a0 = some r) :
    Calls Tryz.prog 139 #[.int .i64 a0] w fun e w' => e = .returned (.bool r) ∧ Drawn0 w w' := by
 have H : ((spec_l1In.f a0 0 5).bind fun t123 => (some t123)) = some r := h
 clear h
 replace H := bs_ H
 obtain ⟨t123,A2,H⟩ := H
 obtain rfl := Option.some.inj H
 go_enter Tryz.func139,Tryz.ntmps139
 go_wp2_with (first|((with_reducible refine gcal_ (f := 74) rfl ?_);refine gl_ (some 4) Tryz.func74 #[.int .i64 a0,.int .i64 0,.int .i64 5] ?_;(with_reducible refine (spec_l1In.calls a0 0 5 t123 _ A2.out).mono ?_);rintro e w' ⟨rfl,⟨nd,rfl⟩⟩;refine ⟨_,rfl,?_⟩))
 go_ret
 exact ⟨rs_,by repeat (first|exact Drawn0.refl _|apply Drawn0.step)⟩

/-! ### spec_SetOk: function 142 -/
def spec_SetOk.f (a0_0 : Int) (a0_1 : Int) (a0_2 : Int) (a0_3 : Bool) (a0_4 : Int) : Option (Bool) := (spec_l1Region.f a0_0).bind fun t125 => (if t125 = true then ((spec_l1Slot.f a0_1).bind fun t126 => (if t126 = true then ((spec_l1Value.f a0_2).bind fun t127 => (if t127 = true then ((spec_l1In.f a0_4 0 999999).bind fun t128 => (some t128)) else (some false))) else (some false))) else (some false))
set_option maxHeartbeats 8000000 in
set_option maxRecDepth 100000 in
theorem spec_SetOk.calls (a0_0 : Int) (a0_1 : Int) (a0_2 : Int) (a0_3 : Bool) (a0_4 : Int) (r : Bool) (w : World) (h : spec_SetOk.f a0_0 a0_1 a0_2 a0_3 a0_4 = some r) :
    Calls Tryz.prog 142 #[.agg #[.int .i64 a0_0, .int .i64 a0_1, .int .i64 a0_2, .bool a0_3, .int .i64 a0_4]] w fun e w' => e = .returned (.bool r) ∧ Below w.heap.size w w' := by
 have hu119 := Tryz.underlying119
 have HB := Aside0.mk (Below.refl w.heap.size w)
 have H : ((spec_l1Region.f a0_0).bind fun t125 => (if t125 = true then ((spec_l1Slot.f a0_1).bind fun t126 => (if t126 = true then ((spec_l1Value.f a0_2).bind fun t127 => (if t127 = true then ((spec_l1In.f a0_4 0 999999).bind fun t128 => (some t128)) else (some false))) else (some false))) else (some false))) = some r := h
 clear h
 replace H := bs_ H
 obtain ⟨t125,A2,H⟩ := H
 by_cases c3 : t125 = true
 ·subst c3
  replace H := it_ H
  replace H := bs_ H
  obtain ⟨t126,A4,H⟩ := H
  by_cases c5 : t126 = true
  ·subst c5
   replace H := it_ H
   replace H := bs_ H
   obtain ⟨t127,A6,H⟩ := H
   by_cases c7 : t127 = true
   ·subst c7
    replace H := it_ H
    replace H := bs_ H
    obtain ⟨t128,A8,H⟩ := H
    obtain rfl := Option.some.inj H
    go_enter Tryz.func142,Tryz.ntmps142
    go_wp2_with (first|((with_reducible refine gate_dst (N := 1) rfl ?_);refine bx_ 1 #[.int .i64 a0_0,.int .i64 a0_1,.int .i64 a0_2,.bool a0_3,.int .i64 a0_4] 119 ?_;intro gb124 hg w9 hbox hb;replace HB := nb_ hg hbox hb;obtain ⟨BK124,GW124,GE124,HB⟩ := HB;clear hb hbox hg;obtain ⟨⟨hcz10_0,hcz10_1,hcz10_2,hcz10_3,hcz10_4⟩,hfz10_0,hfz10_1,hfz10_2,hfz10_3,hfz10_4⟩ := cl5_ BK124.out)|((with_reducible refine gcal_ (f := 57) rfl ?_);refine gl_ (some 5) Tryz.func57 #[.int .i64 a0_0] ?_;(with_reducible refine (spec_l1Region.calls a0_0 true _ A2.out).mono ?_);rintro e w' ⟨rfl,⟨nd,rfl⟩⟩;refine ⟨_,rfl,?_⟩)|(go_at_call 139;(with_reducible refine (spec_l1Slot.calls a0_1 true _ A4.out).mono ?_);rintro e w' ⟨rfl,⟨nd,rfl⟩⟩)|(go_at_call 106;(with_reducible refine (spec_l1Value.calls a0_2 true _ A6.out).mono ?_);rintro e w' ⟨rfl,⟨nd,rfl⟩⟩)|(go_at_call 74;(with_reducible refine (spec_l1In.calls a0_4 0 999999 t128 _ A8.out).mono ?_);rintro e w' ⟨rfl,⟨nd,rfl⟩⟩))
    go_ret
    exact ⟨rf_,b_⟩
   ·replace c7 := Bool.eq_false_iff.mpr c7
    subst c7
    replace H := ie_ H
    obtain rfl := Option.some.inj H
    go_enter Tryz.func142,Tryz.ntmps142
    go_wp2_with (first|((with_reducible refine gate_dst (N := 1) rfl ?_);refine bx_ 1 #[.int .i64 a0_0,.int .i64 a0_1,.int .i64 a0_2,.bool a0_3,.int .i64 a0_4] 119 ?_;intro gb124 hg w11 hbox hb;replace HB := nb_ hg hbox hb;obtain ⟨BK124,GW124,GE124,HB⟩ := HB;clear hb hbox hg;obtain ⟨⟨hcz12_0,hcz12_1,hcz12_2,hcz12_3,hcz12_4⟩,hfz12_0,hfz12_1,hfz12_2,hfz12_3,hfz12_4⟩ := cl5_ BK124.out)|((with_reducible refine gcal_ (f := 57) rfl ?_);refine gl_ (some 5) Tryz.func57 #[.int .i64 a0_0] ?_;(with_reducible refine (spec_l1Region.calls a0_0 true _ A2.out).mono ?_);rintro e w' ⟨rfl,⟨nd,rfl⟩⟩;refine ⟨_,rfl,?_⟩)|(go_at_call 139;(with_reducible refine (spec_l1Slot.calls a0_1 true _ A4.out).mono ?_);rintro e w' ⟨rfl,⟨nd,rfl⟩⟩)|(go_at_call 106;(with_reducible refine (spec_l1Value.calls a0_2 false _ A6.out).mono ?_);rintro e w' ⟨rfl,⟨nd,rfl⟩⟩))
    go_ret
    exact ⟨rf_,b_⟩
  ·replace c5 := Bool.eq_false_iff.mpr c5
   subst c5
   replace H := ie_ H
   obtain rfl := Option.some.inj H
   go_enter Tryz.func142,Tryz.ntmps142
   go_wp2_with (first|((with_reducible refine gate_dst (N := 1) rfl ?_);refine bx_ 1 #[.int .i64 a0_0,.int .i64 a0_1,.int .i64 a0_2,.bool a0_3,.int .i64 a0_4] 119 ?_;intro gb124 hg w13 hbox hb;replace HB := nb_ hg hbox hb;obtain ⟨BK124,GW124,GE124,HB⟩ := HB;clear hb hbox hg;obtain ⟨⟨hcz14_0,hcz14_1,hcz14_2,hcz14_3,hcz14_4⟩,hfz14_0,hfz14_1,hfz14_2,hfz14_3,hfz14_4⟩ := cl5_ BK124.out)|((with_reducible refine gcal_ (f := 57) rfl ?_);refine gl_ (some 5) Tryz.func57 #[.int .i64 a0_0] ?_;(with_reducible refine (spec_l1Region.calls a0_0 true _ A2.out).mono ?_);rintro e w' ⟨rfl,⟨nd,rfl⟩⟩;refine ⟨_,rfl,?_⟩)|(go_at_call 139;(with_reducible refine (spec_l1Slot.calls a0_1 false _ A4.out).mono ?_);rintro e w' ⟨rfl,⟨nd,rfl⟩⟩))
   go_ret
   exact ⟨rf_,b_⟩
 ·replace c3 := Bool.eq_false_iff.mpr c3
  subst c3
  replace H := ie_ H
  obtain rfl := Option.some.inj H
  go_enter Tryz.func142,Tryz.ntmps142
  go_wp2_with (first|((with_reducible refine gate_dst (N := 1) rfl ?_);refine bx_ 1 #[.int .i64 a0_0,.int .i64 a0_1,.int .i64 a0_2,.bool a0_3,.int .i64 a0_4] 119 ?_;intro gb124 hg w15 hbox hb;replace HB := nb_ hg hbox hb;obtain ⟨BK124,GW124,GE124,HB⟩ := HB;clear hb hbox hg;obtain ⟨⟨hcz16_0,hcz16_1,hcz16_2,hcz16_3,hcz16_4⟩,hfz16_0,hfz16_1,hfz16_2,hfz16_3,hfz16_4⟩ := cl5_ BK124.out)|((with_reducible refine gcal_ (f := 57) rfl ?_);refine gl_ (some 5) Tryz.func57 #[.int .i64 a0_0] ?_;(with_reducible refine (spec_l1Region.calls a0_0 false _ A2.out).mono ?_);rintro e w' ⟨rfl,⟨nd,rfl⟩⟩;refine ⟨_,rfl,?_⟩))
  go_ret
  exact ⟨rf_,b_⟩

end Go.Proofs.YthplaakckfhaaaaGreat.XCr
