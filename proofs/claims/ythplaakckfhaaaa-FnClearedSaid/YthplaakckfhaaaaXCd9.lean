/- Proved: of each Go function here that a call comes to what the Lean function of its name tells. Written by a program of this session over the translation. No conditions beyond each theorem's own. -/
import Derived.Test.YthplaakckfhaaaaXCd0
import Derived.Test.YthplaakckfhaaaaXCd7
import Derived.Test.YthplaakckfhaaaaXCd8
namespace Go.Proofs.Ythplaakckfhaaaa.XCd
open Go.RowKit Go.Proofs.Ythplaakckfhaaaa.Aid Go.Proofs.YthplaakckfhaaaaW.PrintWords Go.Proofs.YthplaakckfhaaaaW.PrintLast Go.Proofs.YthplaakckfhaaaaW.PrintMore
set_option linter.unusedVariables false
set_option linter.unusedSimpArgs false

/-! ### spec_Used: function 105 -/
def spec_Used.f (a0 : Int) : Option (Bool) := (spec_HeadOk.f a0).bind fun t161 => (if t161 = true then (some ((Int.tmod (wrap64 (Int.tdiv a0 2)) 2) == 1)) else (some false))
set_option maxHeartbeats 8000000 in
set_option maxRecDepth 100000 in
theorem spec_Used.calls (a0 : Int) (r : Bool) (w : World) (h : spec_Used.f a0 = some r) :
    Calls Try.prog 105 #[.int .i64 a0] w fun e w' => e = .returned (.bool r) ∧ Drawn0 w w' := by
 have H : ((spec_HeadOk.f a0).bind fun t161 => (if t161 = true then (some ((Int.tmod (wrap64 (Int.tdiv a0 2)) 2) == 1)) else (some false))) = some r := h
 clear h
 replace H := bs_ H
 obtain ⟨t161,A2,H⟩ := H
 by_cases c3 : t161 = true
 ·subst c3
  replace H := it_ H
  obtain rfl := Option.some.inj H
  go_enter Try.func105,Try.ntmps105
  go_wp2_with (first|((with_reducible refine gcal_ (f := 103) rfl ?_);refine gl_ (some 4) Try.func103 #[.int .i64 a0] ?_;(with_reducible refine (spec_HeadOk.calls a0 true _ A2.out).mono ?_);rintro e w' ⟨rfl,⟨nd,rfl⟩⟩;refine ⟨_,rfl,?_⟩))
  go_ret
  exact ⟨rs_,by repeat (first|exact Drawn0.refl _|apply Drawn0.step)⟩
 ·replace c3 := Bool.eq_false_iff.mpr c3
  subst c3
  replace H := ie_ H
  obtain rfl := Option.some.inj H
  go_enter Try.func105,Try.ntmps105
  go_wp2_with (first|((with_reducible refine gcal_ (f := 103) rfl ?_);refine gl_ (some 4) Try.func103 #[.int .i64 a0] ?_;(with_reducible refine (spec_HeadOk.calls a0 false _ A2.out).mono ?_);rintro e w' ⟨rfl,⟨nd,rfl⟩⟩;refine ⟨_,rfl,?_⟩))
  go_ret
  exact ⟨rs_,by repeat (first|exact Drawn0.refl _|apply Drawn0.step)⟩

/-! ### spec_CellsOk: function 48 -/
def spec_CellsOk.l0 : Nat → List (S92) → Int → Option (Bool)
  | 0, _, _ => none
  | k + 1, x0, x3 => if x3 < (x0.length : Int) then (if 0 ≤ x3 then ((spec_HeadOk.f ((rd_T92 x0 x3).f0)).bind fun t164 => (if t164 = true then ((spec_l1Value.f ((rd_T92 x0 x3).f1)).bind fun t165 => (if t165 = true then ((spec_Used.f ((rd_T92 x0 x3).f0)).bind fun t166 => (if t166 = true then (spec_CellsOk.l0 k x0 (wrap64 (x3 + 1))) else (if ((rd_T92 x0 x3).f1) = 0 then (spec_CellsOk.l0 k x0 (wrap64 (x3 + 1))) else (some false)))) else (some false))) else (some false))) else (none)) else (some true)
def spec_CellsOk.f (k : Nat) (l0 : List (S92)) : Option (Bool) := if (l0.length : Int) = 6 then (spec_CellsOk.l0 k l0 0) else (some false)

set_option maxHeartbeats 8000000 in
set_option maxRecDepth 100000 in
theorem spec_CellsOk.calls (k : Nat) (A0 : Option Addr) (c0 : Nat) (l0 : List (S92)) (r : Bool) (w : World) (hr0 : Kd.C k92 w A0 l0.length l0) (hc0 : l0.length ≤ c0) (h : spec_CellsOk.f k l0 = some r) :
    Calls Try.prog 48 #[.slice A0 l0.length c0] w fun e w' => e = .returned (.bool r) ∧ Below w.heap.size w w' := by
 have hu92 := Try.underlying92
 have HR0 := ak hr0
 have HC0 := ak hc0
 clear hr0 hc0
 have HB := ak (Below.refl w.heap.size w)
 have H : (if (l0.length : Int) = 6 then (spec_CellsOk.l0 k l0 0) else (some false)) = some r := h
 clear h
 by_cases c2 : (l0.length : Int) = 6
 ·rw [if_pos c2] at H
  have c2b0 : ((l0.length : Int) == 6) = true := beq_iff_eq.mpr c2
  have c2b1 : ((l0.length : Int) != 6) = false := bne_eq_false_iff_eq.mpr c2
  clear c2
  have H' := ak H
  clear H
  go_enter Try.func48,Try.ntmps48
  go_wp2
  go_loopg [3] k (fun kq v3 w' => ∃ (x3_1 : Int),v3 = .int .i64 x3_1 ∧ Aside0 (spec_CellsOk.l0 kq l0 x3_1 = some r) ∧ Aside0 (kq ≤ k) ∧ Aside0 (Below w.heap.size w w'))
  case atStart => exact ⟨(0),rs_,H',⟨Nat.le_refl _⟩,⟨b_⟩⟩
  case round =>
   clear H'
   try clear c2
   try clear c2b0
   try clear c2b1
   try clear p2
   obtain ⟨x3_1,rfl,HA,HK1,HB⟩ := hrel
   cases gk with
   | zero => exact absurd HA.out (by simp [spec_CellsOk.l0])
   | succ k1 =>
    have H := HA.out
    clear HA
    simp only [spec_CellsOk.l0] at H
    by_cases c3 : x3_1 < (l0.length : Int)
    ·rw [if_pos c3] at H
     have c3b0 : decide (x3_1 < (l0.length : Int)) = true := decide_eq_true c3
     clear c3
     by_cases c4 : 0 ≤ x3_1
     ·rw [if_pos c4] at H
      have c4b0 : decide (0 ≤ x3_1) = true := decide_eq_true c4
      clear c4
      replace H := bs_ H
      obtain ⟨t164,A5,H⟩ := H
      by_cases c6 : t164 = true
      ·subst c6
       replace H := it_ H
       replace H := bs_ H
       obtain ⟨t165,A7,H⟩ := H
       by_cases c8 : t165 = true
       ·subst c8
        replace H := it_ H
        replace H := bs_ H
        obtain ⟨t166,A9,H⟩ := H
        by_cases c10 : t166 = true
        ·subst c10
         replace H := it_ H
         have H' := ak H
         clear H
         have p162 : 0 ≤ (x3_1 : Int) := od_
         have q162 : x3_1 < (l0.length : Int) := od_
         obtain ⟨ad162,e162,hx162_0,hx162_1⟩ := at_T92 HR0.out x3_1 p162 q162
         cases e162
         replace hx162_0 := hx_ HB hx162_0
         replace hx162_1 := hx_ HB hx162_1
         replace p162 := eq_true p162
         replace q162 := eq_true q162
         go_wp2_with (first|((with_reducible refine gate_dst (N := 4) rfl ?_);refine bx_ 4 #[.int .i64 0,.int .i64 0] 92 ?_;intro gb163 hg w11 hbox hb;replace HB := nb_ hg hbox hb;obtain ⟨BK163,GW163,GE163,HB⟩ := HB;clear hb hbox hg;obtain ⟨⟨hcz12_0,hcz12_1⟩,hfz12_0,hfz12_1⟩ := cl2_ BK163.out)|((with_reducible refine gcal_ (f := 103) rfl ?_);refine gl_ (some 20) Try.func103 #[.int .i64 ((rd_T92 l0 x3_1).f0)] ?_;(with_reducible refine (spec_HeadOk.calls ((rd_T92 l0 x3_1).f0) true _ A5.out).mono ?_);rintro e w' ⟨rfl,⟨nd,rfl⟩⟩;refine ⟨_,rfl,?_⟩)|(go_at_call 104;(with_reducible refine (spec_l1Value.calls ((rd_T92 l0 x3_1).f1) true _ A7.out).mono ?_);rintro e w' ⟨rfl,⟨nd,rfl⟩⟩)|(go_at_call 105;(with_reducible refine (spec_Used.calls ((rd_T92 l0 x3_1).f0) true _ A9.out).mono ?_);rintro e w' ⟨rfl,⟨nd,rfl⟩⟩))
         go_roundg k1
         case measure => have := HK1.out;omega
         case rel => exact ⟨(wrap64 (x3_1 + 1)),rs_,H',⟨by have := HK1.out;omega⟩,⟨b_⟩⟩
        ·replace c10 := Bool.eq_false_iff.mpr c10
         subst c10
         replace H := ie_ H
         by_cases c13 : ((rd_T92 l0 x3_1).f1) = 0
         ·rw [if_pos c13] at H
          have c13b0 : (((rd_T92 l0 x3_1).f1) == 0) = true := beq_iff_eq.mpr c13
          have c13b1 : (((rd_T92 l0 x3_1).f1) != 0) = false := bne_eq_false_iff_eq.mpr c13
          clear c13
          have H' := ak H
          clear H
          have p162 : 0 ≤ (x3_1 : Int) := od_
          have q162 : x3_1 < (l0.length : Int) := od_
          obtain ⟨ad162,e162,hx162_0,hx162_1⟩ := at_T92 HR0.out x3_1 p162 q162
          cases e162
          replace hx162_0 := hx_ HB hx162_0
          replace hx162_1 := hx_ HB hx162_1
          replace p162 := eq_true p162
          replace q162 := eq_true q162
          go_wp2_with (first|((with_reducible refine gate_dst (N := 4) rfl ?_);refine bx_ 4 #[.int .i64 0,.int .i64 0] 92 ?_;intro gb163 hg w14 hbox hb;replace HB := nb_ hg hbox hb;obtain ⟨BK163,GW163,GE163,HB⟩ := HB;clear hb hbox hg;obtain ⟨⟨hcz15_0,hcz15_1⟩,hfz15_0,hfz15_1⟩ := cl2_ BK163.out)|((with_reducible refine gcal_ (f := 103) rfl ?_);refine gl_ (some 20) Try.func103 #[.int .i64 ((rd_T92 l0 x3_1).f0)] ?_;(with_reducible refine (spec_HeadOk.calls ((rd_T92 l0 x3_1).f0) true _ A5.out).mono ?_);rintro e w' ⟨rfl,⟨nd,rfl⟩⟩;refine ⟨_,rfl,?_⟩)|(go_at_call 104;(with_reducible refine (spec_l1Value.calls ((rd_T92 l0 x3_1).f1) true _ A7.out).mono ?_);rintro e w' ⟨rfl,⟨nd,rfl⟩⟩)|(go_at_call 105;(with_reducible refine (spec_Used.calls ((rd_T92 l0 x3_1).f0) false _ A9.out).mono ?_);rintro e w' ⟨rfl,⟨nd,rfl⟩⟩))
          go_roundg k1
          case measure => have := HK1.out;omega
          case rel => exact ⟨(wrap64 (x3_1 + 1)),rs_,H',⟨by have := HK1.out;omega⟩,⟨b_⟩⟩
         ·rw [if_neg c13] at H
          have c13b0 : (((rd_T92 l0 x3_1).f1) == 0) = false := beq_eq_false_iff_ne.mpr c13
          have c13b1 : (((rd_T92 l0 x3_1).f1) != 0) = true := bne_iff_ne.mpr c13
          obtain rfl := Option.some.inj H
          have p162 : 0 ≤ (x3_1 : Int) := od_
          have q162 : x3_1 < (l0.length : Int) := od_
          obtain ⟨ad162,e162,hx162_0,hx162_1⟩ := at_T92 HR0.out x3_1 p162 q162
          cases e162
          replace hx162_0 := hx_ HB hx162_0
          replace hx162_1 := hx_ HB hx162_1
          replace p162 := eq_true p162
          replace q162 := eq_true q162
          go_wp2_with (first|((with_reducible refine gate_dst (N := 4) rfl ?_);refine bx_ 4 #[.int .i64 0,.int .i64 0] 92 ?_;intro gb163 hg w16 hbox hb;replace HB := nb_ hg hbox hb;obtain ⟨BK163,GW163,GE163,HB⟩ := HB;clear hb hbox hg;obtain ⟨⟨hcz17_0,hcz17_1⟩,hfz17_0,hfz17_1⟩ := cl2_ BK163.out)|((with_reducible refine gcal_ (f := 103) rfl ?_);refine gl_ (some 20) Try.func103 #[.int .i64 ((rd_T92 l0 x3_1).f0)] ?_;(with_reducible refine (spec_HeadOk.calls ((rd_T92 l0 x3_1).f0) true _ A5.out).mono ?_);rintro e w' ⟨rfl,⟨nd,rfl⟩⟩;refine ⟨_,rfl,?_⟩)|(go_at_call 104;(with_reducible refine (spec_l1Value.calls ((rd_T92 l0 x3_1).f1) true _ A7.out).mono ?_);rintro e w' ⟨rfl,⟨nd,rfl⟩⟩)|(go_at_call 105;(with_reducible refine (spec_Used.calls ((rd_T92 l0 x3_1).f0) false _ A9.out).mono ?_);rintro e w' ⟨rfl,⟨nd,rfl⟩⟩))
          go_ret
          exact ⟨rf_,b_⟩
       ·replace c8 := Bool.eq_false_iff.mpr c8
        subst c8
        replace H := ie_ H
        obtain rfl := Option.some.inj H
        have p162 : 0 ≤ (x3_1 : Int) := od_
        have q162 : x3_1 < (l0.length : Int) := od_
        obtain ⟨ad162,e162,hx162_0,hx162_1⟩ := at_T92 HR0.out x3_1 p162 q162
        cases e162
        replace hx162_0 := hx_ HB hx162_0
        replace hx162_1 := hx_ HB hx162_1
        replace p162 := eq_true p162
        replace q162 := eq_true q162
        go_wp2_with (first|((with_reducible refine gate_dst (N := 4) rfl ?_);refine bx_ 4 #[.int .i64 0,.int .i64 0] 92 ?_;intro gb163 hg w18 hbox hb;replace HB := nb_ hg hbox hb;obtain ⟨BK163,GW163,GE163,HB⟩ := HB;clear hb hbox hg;obtain ⟨⟨hcz19_0,hcz19_1⟩,hfz19_0,hfz19_1⟩ := cl2_ BK163.out)|((with_reducible refine gcal_ (f := 103) rfl ?_);refine gl_ (some 20) Try.func103 #[.int .i64 ((rd_T92 l0 x3_1).f0)] ?_;(with_reducible refine (spec_HeadOk.calls ((rd_T92 l0 x3_1).f0) true _ A5.out).mono ?_);rintro e w' ⟨rfl,⟨nd,rfl⟩⟩;refine ⟨_,rfl,?_⟩)|(go_at_call 104;(with_reducible refine (spec_l1Value.calls ((rd_T92 l0 x3_1).f1) false _ A7.out).mono ?_);rintro e w' ⟨rfl,⟨nd,rfl⟩⟩))
        go_ret
        exact ⟨rf_,b_⟩
      ·replace c6 := Bool.eq_false_iff.mpr c6
       subst c6
       replace H := ie_ H
       obtain rfl := Option.some.inj H
       have p162 : 0 ≤ (x3_1 : Int) := od_
       have q162 : x3_1 < (l0.length : Int) := od_
       obtain ⟨ad162,e162,hx162_0,hx162_1⟩ := at_T92 HR0.out x3_1 p162 q162
       cases e162
       replace hx162_0 := hx_ HB hx162_0
       replace hx162_1 := hx_ HB hx162_1
       replace p162 := eq_true p162
       replace q162 := eq_true q162
       go_wp2_with (first|((with_reducible refine gate_dst (N := 4) rfl ?_);refine bx_ 4 #[.int .i64 0,.int .i64 0] 92 ?_;intro gb163 hg w20 hbox hb;replace HB := nb_ hg hbox hb;obtain ⟨BK163,GW163,GE163,HB⟩ := HB;clear hb hbox hg;obtain ⟨⟨hcz21_0,hcz21_1⟩,hfz21_0,hfz21_1⟩ := cl2_ BK163.out)|((with_reducible refine gcal_ (f := 103) rfl ?_);refine gl_ (some 20) Try.func103 #[.int .i64 ((rd_T92 l0 x3_1).f0)] ?_;(with_reducible refine (spec_HeadOk.calls ((rd_T92 l0 x3_1).f0) false _ A5.out).mono ?_);rintro e w' ⟨rfl,⟨nd,rfl⟩⟩;refine ⟨_,rfl,?_⟩))
       go_ret
       exact ⟨rf_,b_⟩
     ·rw [if_neg c4] at H
      exact absurd H (by simp)
    ·rw [if_neg c3] at H
     have c3b0 : decide (x3_1 < (l0.length : Int)) = false := decide_eq_false c3
     clear c3
     obtain rfl := Option.some.inj H
     go_wp2
     go_ret
     exact ⟨rf_,b_⟩
 ·rw [if_neg c2] at H
  have c2b0 : ((l0.length : Int) == 6) = false := beq_eq_false_iff_ne.mpr c2
  have c2b1 : ((l0.length : Int) != 6) = true := bne_iff_ne.mpr c2
  obtain rfl := Option.some.inj H
  go_enter Try.func48,Try.ntmps48
  go_wp2
  go_ret
  exact ⟨rf_,b_⟩

/-! ### spec_l1Slot: function 155 -/
def spec_l1Slot.f (a0 : Int) : Option (Bool) := (spec_l1In.f a0 0 5).bind fun t167 => (some t167)
set_option maxHeartbeats 8000000 in
set_option maxRecDepth 100000 in
theorem spec_l1Slot.calls (a0 : Int) (r : Bool) (w : World) (h : spec_l1Slot.f a0 = some r) :
    Calls Try.prog 155 #[.int .i64 a0] w fun e w' => e = .returned (.bool r) ∧ Drawn0 w w' := by
 have H : ((spec_l1In.f a0 0 5).bind fun t167 => (some t167)) = some r := h
 clear h
 replace H := bs_ H
 obtain ⟨t167,A2,H⟩ := H
 obtain rfl := Option.some.inj H
 go_enter Try.func155,Try.ntmps155
 go_wp2_with (first|((with_reducible refine gcal_ (f := 102) rfl ?_);refine gl_ (some 4) Try.func102 #[.int .i64 a0,.int .i64 0,.int .i64 5] ?_;(with_reducible refine (spec_l1In.calls a0 0 5 t167 _ A2.out).mono ?_);rintro e w' ⟨rfl,⟨nd,rfl⟩⟩;refine ⟨_,rfl,?_⟩))
 go_ret
 exact ⟨rs_,by repeat (first|exact Drawn0.refl _|apply Drawn0.step)⟩

/-! ### spec_SetOk: function 140 -/
def spec_SetOk.f (a0_0 : Int) (a0_1 : Int) (a0_2 : Int) (a0_3 : Bool) (a0_4 : Int) : Option (Bool) := (spec_l1Region.f a0_0).bind fun t169 => (if t169 = true then ((spec_l1Slot.f a0_1).bind fun t170 => (if t170 = true then ((spec_l1Value.f a0_2).bind fun t171 => (if t171 = true then ((spec_l1In.f a0_4 0 999999).bind fun t172 => (some t172)) else (some false))) else (some false))) else (some false))
set_option maxHeartbeats 8000000 in
set_option maxRecDepth 100000 in
theorem spec_SetOk.calls (a0_0 : Int) (a0_1 : Int) (a0_2 : Int) (a0_3 : Bool) (a0_4 : Int) (r : Bool) (w : World) (h : spec_SetOk.f a0_0 a0_1 a0_2 a0_3 a0_4 = some r) :
    Calls Try.prog 140 #[.agg #[.int .i64 a0_0, .int .i64 a0_1, .int .i64 a0_2, .bool a0_3, .int .i64 a0_4]] w fun e w' => e = .returned (.bool r) ∧ Below w.heap.size w w' := by
 have hu127 := Try.underlying127
 have HB := ak (Below.refl w.heap.size w)
 have H : ((spec_l1Region.f a0_0).bind fun t169 => (if t169 = true then ((spec_l1Slot.f a0_1).bind fun t170 => (if t170 = true then ((spec_l1Value.f a0_2).bind fun t171 => (if t171 = true then ((spec_l1In.f a0_4 0 999999).bind fun t172 => (some t172)) else (some false))) else (some false))) else (some false))) = some r := h
 clear h
 replace H := bs_ H
 obtain ⟨t169,A2,H⟩ := H
 by_cases c3 : t169 = true
 ·subst c3
  replace H := it_ H
  replace H := bs_ H
  obtain ⟨t170,A4,H⟩ := H
  by_cases c5 : t170 = true
  ·subst c5
   replace H := it_ H
   replace H := bs_ H
   obtain ⟨t171,A6,H⟩ := H
   by_cases c7 : t171 = true
   ·subst c7
    replace H := it_ H
    replace H := bs_ H
    obtain ⟨t172,A8,H⟩ := H
    obtain rfl := Option.some.inj H
    go_enter Try.func140,Try.ntmps140
    go_wp2_with (first|((with_reducible refine gate_dst (N := 1) rfl ?_);refine bx_ 1 #[.int .i64 a0_0,.int .i64 a0_1,.int .i64 a0_2,.bool a0_3,.int .i64 a0_4] 127 ?_;intro gb168 hg w9 hbox hb;replace HB := nb_ hg hbox hb;obtain ⟨BK168,GW168,GE168,HB⟩ := HB;clear hb hbox hg;obtain ⟨⟨hcz10_0,hcz10_1,hcz10_2,hcz10_3,hcz10_4⟩,hfz10_0,hfz10_1,hfz10_2,hfz10_3,hfz10_4⟩ := cl5_ BK168.out)|((with_reducible refine gcal_ (f := 47) rfl ?_);refine gl_ (some 5) Try.func47 #[.int .i64 a0_0] ?_;(with_reducible refine (spec_l1Region.calls a0_0 true _ A2.out).mono ?_);rintro e w' ⟨rfl,⟨nd,rfl⟩⟩;refine ⟨_,rfl,?_⟩)|(go_at_call 155;(with_reducible refine (spec_l1Slot.calls a0_1 true _ A4.out).mono ?_);rintro e w' ⟨rfl,⟨nd,rfl⟩⟩)|(go_at_call 104;(with_reducible refine (spec_l1Value.calls a0_2 true _ A6.out).mono ?_);rintro e w' ⟨rfl,⟨nd,rfl⟩⟩)|(go_at_call 102;(with_reducible refine (spec_l1In.calls a0_4 0 999999 t172 _ A8.out).mono ?_);rintro e w' ⟨rfl,⟨nd,rfl⟩⟩))
    go_ret
    exact ⟨rf_,b_⟩
   ·replace c7 := Bool.eq_false_iff.mpr c7
    subst c7
    replace H := ie_ H
    obtain rfl := Option.some.inj H
    go_enter Try.func140,Try.ntmps140
    go_wp2_with (first|((with_reducible refine gate_dst (N := 1) rfl ?_);refine bx_ 1 #[.int .i64 a0_0,.int .i64 a0_1,.int .i64 a0_2,.bool a0_3,.int .i64 a0_4] 127 ?_;intro gb168 hg w11 hbox hb;replace HB := nb_ hg hbox hb;obtain ⟨BK168,GW168,GE168,HB⟩ := HB;clear hb hbox hg;obtain ⟨⟨hcz12_0,hcz12_1,hcz12_2,hcz12_3,hcz12_4⟩,hfz12_0,hfz12_1,hfz12_2,hfz12_3,hfz12_4⟩ := cl5_ BK168.out)|((with_reducible refine gcal_ (f := 47) rfl ?_);refine gl_ (some 5) Try.func47 #[.int .i64 a0_0] ?_;(with_reducible refine (spec_l1Region.calls a0_0 true _ A2.out).mono ?_);rintro e w' ⟨rfl,⟨nd,rfl⟩⟩;refine ⟨_,rfl,?_⟩)|(go_at_call 155;(with_reducible refine (spec_l1Slot.calls a0_1 true _ A4.out).mono ?_);rintro e w' ⟨rfl,⟨nd,rfl⟩⟩)|(go_at_call 104;(with_reducible refine (spec_l1Value.calls a0_2 false _ A6.out).mono ?_);rintro e w' ⟨rfl,⟨nd,rfl⟩⟩))
    go_ret
    exact ⟨rf_,b_⟩
  ·replace c5 := Bool.eq_false_iff.mpr c5
   subst c5
   replace H := ie_ H
   obtain rfl := Option.some.inj H
   go_enter Try.func140,Try.ntmps140
   go_wp2_with (first|((with_reducible refine gate_dst (N := 1) rfl ?_);refine bx_ 1 #[.int .i64 a0_0,.int .i64 a0_1,.int .i64 a0_2,.bool a0_3,.int .i64 a0_4] 127 ?_;intro gb168 hg w13 hbox hb;replace HB := nb_ hg hbox hb;obtain ⟨BK168,GW168,GE168,HB⟩ := HB;clear hb hbox hg;obtain ⟨⟨hcz14_0,hcz14_1,hcz14_2,hcz14_3,hcz14_4⟩,hfz14_0,hfz14_1,hfz14_2,hfz14_3,hfz14_4⟩ := cl5_ BK168.out)|((with_reducible refine gcal_ (f := 47) rfl ?_);refine gl_ (some 5) Try.func47 #[.int .i64 a0_0] ?_;(with_reducible refine (spec_l1Region.calls a0_0 true _ A2.out).mono ?_);rintro e w' ⟨rfl,⟨nd,rfl⟩⟩;refine ⟨_,rfl,?_⟩)|(go_at_call 155;(with_reducible refine (spec_l1Slot.calls a0_1 false _ A4.out).mono ?_);rintro e w' ⟨rfl,⟨nd,rfl⟩⟩))
   go_ret
   exact ⟨rf_,b_⟩
 ·replace c3 := Bool.eq_false_iff.mpr c3
  subst c3
  replace H := ie_ H
  obtain rfl := Option.some.inj H
  go_enter Try.func140,Try.ntmps140
  go_wp2_with (first|((with_reducible refine gate_dst (N := 1) rfl ?_);refine bx_ 1 #[.int .i64 a0_0,.int .i64 a0_1,.int .i64 a0_2,.bool a0_3,.int .i64 a0_4] 127 ?_;intro gb168 hg w15 hbox hb;replace HB := nb_ hg hbox hb;obtain ⟨BK168,GW168,GE168,HB⟩ := HB;clear hb hbox hg;obtain ⟨⟨hcz16_0,hcz16_1,hcz16_2,hcz16_3,hcz16_4⟩,hfz16_0,hfz16_1,hfz16_2,hfz16_3,hfz16_4⟩ := cl5_ BK168.out)|((with_reducible refine gcal_ (f := 47) rfl ?_);refine gl_ (some 5) Try.func47 #[.int .i64 a0_0] ?_;(with_reducible refine (spec_l1Region.calls a0_0 false _ A2.out).mono ?_);rintro e w' ⟨rfl,⟨nd,rfl⟩⟩;refine ⟨_,rfl,?_⟩))
  go_ret
  exact ⟨rf_,b_⟩

end Go.Proofs.Ythplaakckfhaaaa.XCd
