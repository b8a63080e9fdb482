/- Proved: a call of each Go function here comes to what its Lean function tells. -/
import Derived.Test.YthplaakckfhaaaaGreatXMs0
import Derived.Test.YthplaakckfhaaaaGreatXMs11
import Derived.Test.YthplaakckfhaaaaGreatXMs15
namespace Go.Proofs.YthplaakckfhaaaaGreat.XMs
open Go.RowKit Go.Proofs.YthplaakckfhaaaaGreat.Aid Go.Proofs.YthplaakckfhaaaaGreatW.PrintWords Go.Proofs.YthplaakckfhaaaaGreatW.PrintLast Go.Proofs.YthplaakckfhaaaaGreatW.PrintMore
set_option linter.unusedVariables false
set_option maxHeartbeats 8000000
set_option maxRecDepth 100000
set_option linter.unusedSimpArgs false

/-! ### spec_CellsOk: function 58 -/
def spec_CellsOk.l0 : Nat → List (S87) → Int → Option (Bool)
  | 0, _, _ => none
  | k + 1, x0, x3 => if x3 < (x0.length : Int) then (if 0 ≤ x3 then ((spec_HeadOk.f ((rd_T87 x0 x3).f0)).bind fun t268 => (if t268 = true then ((spec_l1Value.f ((rd_T87 x0 x3).f1)).bind fun t269 => (if t269 = true then ((spec_Used.f ((rd_T87 x0 x3).f0)).bind fun t270 => (if t270 = true then (spec_CellsOk.l0 k x0 (wrap64 (x3 + 1))) else (if ((rd_T87 x0 x3).f1) = 0 then (spec_CellsOk.l0 k x0 (wrap64 (x3 + 1))) else (some false)))) else (some false))) else (some false))) else (none)) else (some true)
def spec_CellsOk.f (k : Nat) (l0 : List (S87)) : Option (Bool) := if (l0.length : Int) = 6 then (spec_CellsOk.l0 k l0 0) else (some false)

theorem spec_CellsOk.calls (k : Nat) (A0 : Option Addr) (c0 : Nat) (l0 : List (S87)) (r : Bool) (w : World) (hr0 : Kd.C k87 w A0 l0.length l0) (hc0 : l0.length ≤ c0) (h : spec_CellsOk.f k l0 = some r) :
    Calls Tryz.prog 58 #[.slice A0 l0.length c0] w fun e w' => e = .returned (.bool r) ∧ Below w.heap.size w w' := by
 have hu87 := Tryz.underlying87
 have HR0 := ak hr0
 have HC0 := ak hc0
 clear hr0 hc0
 have HB := ak (Below.refl w.heap.size w)
 have H : (if (l0.length : Int) = 6 then (spec_CellsOk.l0 k l0 0) else (some false)) = some r := h
 clear h
 by_cases c2 : (l0.length : Int) = 6
 ·rw [if_pos c2] at H
  have c2b0 : ((l0.length : Int) == 6) = true := beq_iff_eq.mpr c2
  have c2b1 : ((l0.length : Int) != 6) = false := bne_eq_false_iff_eq.mpr c2
  clear c2
  have H' := ak H
  clear H
  go_enter Tryz.func58,Tryz.ntmps58
  go_wp2
  go_loopg [3] k (fun kq v3 w' => ∃ (x3_1 : Int),v3 = .int .i64 x3_1 ∧ Aside0 (spec_CellsOk.l0 kq l0 x3_1 = some r) ∧ Aside0 (kq ≤ k) ∧ Aside0 (Below w.heap.size w w'))
  case atStart => exact ⟨(0),rs_,H',⟨Nat.le_refl _⟩,⟨b_⟩⟩
  case round =>
   clear H'
   try clear c2
   try clear c2b0
   try clear c2b1
   try clear p2
   obtain ⟨x3_1,rfl,HA,HK1,HB⟩ := hrel
   cases gk with
   | zero => exact absurd HA.out (by simp [spec_CellsOk.l0])
   | succ k1 =>
    have H := HA.out
    clear HA
    simp only [spec_CellsOk.l0] at H
    by_cases c3 : x3_1 < (l0.length : Int)
    ·rw [if_pos c3] at H
     have c3b0 : decide (x3_1 < (l0.length : Int)) = true := decide_eq_true c3
     clear c3
     by_cases c4 : 0 ≤ x3_1
     ·rw [if_pos c4] at H
      have c4b0 : decide (0 ≤ x3_1) = true := decide_eq_true c4
      clear c4
      replace H := bs_ H
      obtain ⟨t268,A5,H⟩ := H
      by_cases c6 : t268 = true
      ·subst c6
       replace H := it_ H
       replace H := bs_ H
       obtain ⟨t269,A7,H⟩ := H
       by_cases c8 : t269 = true
       ·subst c8
        replace H := it_ H
        replace H := bs_ H
        obtain ⟨t270,A9,H⟩ := H
        by_cases c10 : t270 = true
        ·subst c10
         replace H := it_ H
         have H' := ak H
         clear H
         have p266 : 0 ≤ (x3_1 : Int) := od_
         have q266 : x3_1 < (l0.length : Int) := od_
         obtain ⟨ad266,e266,hx266_0,hx266_1⟩ := at_T87 HR0.out x3_1 p266 q266
         cases e266
         replace hx266_0 := hx_ HB hx266_0
         replace hx266_1 := hx_ HB hx266_1
         replace p266 := eq_true p266
         replace q266 := eq_true q266
         go_wp2_with (first|((with_reducible refine gate_dst (N := 4) rfl ?_);refine bx_ 4 #[.int .i64 0,.int .i64 0] 87 ?_;intro gb267 hg w11 hbox hb;replace HB := nb_ hg hbox hb;obtain ⟨BK267,GW267,GE267,HB⟩ := HB;clear hb hbox hg;obtain ⟨⟨hcz12_0,hcz12_1⟩,hfz12_0,hfz12_1⟩ := cl2_ BK267.out)|((with_reducible refine gcal_ (f := 105) rfl ?_);refine gl_ (some 20) Tryz.func105 #[.int .i64 ((rd_T87 l0 x3_1).f0)] ?_;(with_reducible refine (spec_HeadOk.calls ((rd_T87 l0 x3_1).f0) true _ A5.out).mono ?_);rintro e w' ⟨rfl,⟨nd,rfl⟩⟩;refine ⟨_,rfl,?_⟩)|(go_at_call 106;(with_reducible refine (spec_l1Value.calls ((rd_T87 l0 x3_1).f1) true _ A7.out).mono ?_);rintro e w' ⟨rfl,⟨nd,rfl⟩⟩)|(go_at_call 107;(with_reducible refine (spec_Used.calls ((rd_T87 l0 x3_1).f0) true _ A9.out).mono ?_);rintro e w' ⟨rfl,⟨nd,rfl⟩⟩))
         go_roundg k1
         case measure => have := HK1.out;omega
         case rel => exact ⟨(wrap64 (x3_1 + 1)),rs_,H',⟨by have := HK1.out;omega⟩,⟨b_⟩⟩
        ·replace c10 := Bool.eq_false_iff.mpr c10
         subst c10
         replace H := ie_ H
         by_cases c13 : ((rd_T87 l0 x3_1).f1) = 0
         ·rw [if_pos c13] at H
          have c13b0 : (((rd_T87 l0 x3_1).f1) == 0) = true := beq_iff_eq.mpr c13
          have c13b1 : (((rd_T87 l0 x3_1).f1) != 0) = false := bne_eq_false_iff_eq.mpr c13
          clear c13
          have H' := ak H
          clear H
          have p266 : 0 ≤ (x3_1 : Int) := od_
          have q266 : x3_1 < (l0.length : Int) := od_
          obtain ⟨ad266,e266,hx266_0,hx266_1⟩ := at_T87 HR0.out x3_1 p266 q266
          cases e266
          replace hx266_0 := hx_ HB hx266_0
          replace hx266_1 := hx_ HB hx266_1
          replace p266 := eq_true p266
          replace q266 := eq_true q266
          go_wp2_with (first|((with_reducible refine gate_dst (N := 4) rfl ?_);refine bx_ 4 #[.int .i64 0,.int .i64 0] 87 ?_;intro gb267 hg w14 hbox hb;replace HB := nb_ hg hbox hb;obtain ⟨BK267,GW267,GE267,HB⟩ := HB;clear hb hbox hg;obtain ⟨⟨hcz15_0,hcz15_1⟩,hfz15_0,hfz15_1⟩ := cl2_ BK267.out)|((with_reducible refine gcal_ (f := 105) rfl ?_);refine gl_ (some 20) Tryz.func105 #[.int .i64 ((rd_T87 l0 x3_1).f0)] ?_;(with_reducible refine (spec_HeadOk.calls ((rd_T87 l0 x3_1).f0) true _ A5.out).mono ?_);rintro e w' ⟨rfl,⟨nd,rfl⟩⟩;refine ⟨_,rfl,?_⟩)|(go_at_call 106;(with_reducible refine (spec_l1Value.calls ((rd_T87 l0 x3_1).f1) true _ A7.out).mono ?_);rintro e w' ⟨rfl,⟨nd,rfl⟩⟩)|(go_at_call 107;(with_reducible refine (spec_Used.calls ((rd_T87 l0 x3_1).f0) false _ A9.out).mono ?_);rintro e w' ⟨rfl,⟨nd,rfl⟩⟩))
          go_roundg k1
          case measure => have := HK1.out;omega
          case rel => exact ⟨(wrap64 (x3_1 + 1)),rs_,H',⟨by have := HK1.out;omega⟩,⟨b_⟩⟩
         ·rw [if_neg c13] at H
          have c13b0 : (((rd_T87 l0 x3_1).f1) == 0) = false := beq_eq_false_iff_ne.mpr c13
          have c13b1 : (((rd_T87 l0 x3_1).f1) != 0) = true := bne_iff_ne.mpr c13
          obtain rfl := Option.some.inj H
          have p266 : 0 ≤ (x3_1 : Int) := od_
          have q266 : x3_1 < (l0.length : Int) := od_
          obtain ⟨ad266,e266,hx266_0,hx266_1⟩ := at_T87 HR0.out x3_1 p266 q266
          cases e266
          replace hx266_0 := hx_ HB hx266_0
          replace hx266_1 := hx_ HB hx266_1
          replace p266 := eq_true p266
          replace q266 := eq_true q266
          go_wp2_with (first|((with_reducible refine gate_dst (N := 4) rfl ?_);refine bx_ 4 #[.int .i64 0,.int .i64 0] 87 ?_;intro gb267 hg w16 hbox hb;replace HB := nb_ hg hbox hb;obtain ⟨BK267,GW267,GE267,HB⟩ := HB;clear hb hbox hg;obtain ⟨⟨hcz17_0,hcz17_1⟩,hfz17_0,hfz17_1⟩ := cl2_ BK267.out)|((with_reducible refine gcal_ (f := 105) rfl ?_);refine gl_ (some 20) Tryz.func105 #[.int .i64 ((rd_T87 l0 x3_1).f0)] ?_;(with_reducible refine (spec_HeadOk.calls ((rd_T87 l0 x3_1).f0) true _ A5.out).mono ?_);rintro e w' ⟨rfl,⟨nd,rfl⟩⟩;refine ⟨_,rfl,?_⟩)|(go_at_call 106;(with_reducible refine (spec_l1Value.calls ((rd_T87 l0 x3_1).f1) true _ A7.out).mono ?_);rintro e w' ⟨rfl,⟨nd,rfl⟩⟩)|(go_at_call 107;(with_reducible refine (spec_Used.calls ((rd_T87 l0 x3_1).f0) false _ A9.out).mono ?_);rintro e w' ⟨rfl,⟨nd,rfl⟩⟩))
          go_ret
          exact ⟨rf_,b_⟩
       ·replace c8 := Bool.eq_false_iff.mpr c8
        subst c8
        replace H := ie_ H
        obtain rfl := Option.some.inj H
        have p266 : 0 ≤ (x3_1 : Int) := od_
        have q266 : x3_1 < (l0.length : Int) := od_
        obtain ⟨ad266,e266,hx266_0,hx266_1⟩ := at_T87 HR0.out x3_1 p266 q266
        cases e266
        replace hx266_0 := hx_ HB hx266_0
        replace hx266_1 := hx_ HB hx266_1
        replace p266 := eq_true p266
        replace q266 := eq_true q266
        go_wp2_with (first|((with_reducible refine gate_dst (N := 4) rfl ?_);refine bx_ 4 #[.int .i64 0,.int .i64 0] 87 ?_;intro gb267 hg w18 hbox hb;replace HB := nb_ hg hbox hb;obtain ⟨BK267,GW267,GE267,HB⟩ := HB;clear hb hbox hg;obtain ⟨⟨hcz19_0,hcz19_1⟩,hfz19_0,hfz19_1⟩ := cl2_ BK267.out)|((with_reducible refine gcal_ (f := 105) rfl ?_);refine gl_ (some 20) Tryz.func105 #[.int .i64 ((rd_T87 l0 x3_1).f0)] ?_;(with_reducible refine (spec_HeadOk.calls ((rd_T87 l0 x3_1).f0) true _ A5.out).mono ?_);rintro e w' ⟨rfl,⟨nd,rfl⟩⟩;refine ⟨_,rfl,?_⟩)|(go_at_call 106;(with_reducible refine (spec_l1Value.calls ((rd_T87 l0 x3_1).f1) false _ A7.out).mono ?_);rintro e w' ⟨rfl,⟨nd,rfl⟩⟩))
        go_ret
        exact ⟨rf_,b_⟩
      ·replace c6 := Bool.eq_false_iff.mpr c6
       subst c6
       replace H := ie_ H
       obtain rfl := Option.some.inj H
       have p266 : 0 ≤ (x3_1 : Int) := od_
       have q266 : x3_1 < (l0.length : Int) := od_
       obtain ⟨ad266,e266,hx266_0,hx266_1⟩ := at_T87 HR0.out x3_1 p266 q266
       cases e266
       replace hx266_0 := hx_ HB hx266_0
       replace hx266_1 := hx_ HB hx266_1
       replace p266 := eq_true p266
       replace q266 := eq_true q266
       go_wp2_with (first|((with_reducible refine gate_dst (N := 4) rfl ?_);refine bx_ 4 #[.int .i64 0,.int .i64 0] 87 ?_;intro gb267 hg w20 hbox hb;replace HB := nb_ hg hbox hb;obtain ⟨BK267,GW267,GE267,HB⟩ := HB;clear hb hbox hg;obtain ⟨⟨hcz21_0,hcz21_1⟩,hfz21_0,hfz21_1⟩ := cl2_ BK267.out)|((with_reducible refine gcal_ (f := 105) rfl ?_);refine gl_ (some 20) Tryz.func105 #[.int .i64 ((rd_T87 l0 x3_1).f0)] ?_;(with_reducible refine (spec_HeadOk.calls ((rd_T87 l0 x3_1).f0) false _ A5.out).mono ?_);rintro e w' ⟨rfl,⟨nd,rfl⟩⟩;refine ⟨_,rfl,?_⟩))
       go_ret
       exact ⟨rf_,b_⟩
     ·rw [if_neg c4] at H
      exact absurd H (by simp)
    ·rw [if_neg c3] at H
     have c3b0 : decide (x3_1 < (l0.length : Int)) = false := decide_eq_false c3
     clear c3
     obtain rfl := Option.some.inj H
     go_wp2
     go_ret
     exact ⟨rf_,b_⟩
 ·rw [if_neg c2] at H
  have c2b0 : ((l0.length : Int) == 6) = false := beq_eq_false_iff_ne.mpr c2
  have c2b1 : ((l0.length : Int) != 6) = true := bne_iff_ne.mpr c2
  obtain rfl := Option.some.inj H
  go_enter Tryz.func58,Tryz.ntmps58
  go_wp2
  go_ret
  exact ⟨rf_,b_⟩

/-! ### spec_l6Rises: function 73 -/
def spec_l6Rises.l0 : Nat → List Int → Int → Option (Bool)
  | 0, _, _ => none
  | k + 1, x0, x3 => if x3 < (x0.length : Int) then (if 0 ≤ x3 then ((spec_l1Id.f (rd x0 x3)).bind fun t272 => (if t272 = true then (if x3 > 0 then (if 0 ≤ (wrap64 (x3 - 1)) then (if (wrap64 (x3 - 1)) < (x0.length : Int) then (if (rd x0 x3) ≤ (rd x0 (wrap64 (x3 - 1))) then (some false) else (spec_l6Rises.l0 k x0 (wrap64 (x3 + 1)))) else (none)) else (none)) else (spec_l6Rises.l0 k x0 (wrap64 (x3 + 1)))) else (some false))) else (none)) else (some true)
def spec_l6Rises.f (k : Nat) (l0 : List Int) : Option (Bool) := spec_l6Rises.l0 k l0 0

def spec_l6Rises.T4 : Bool × List (List Nat × List Nat) := (true, [([], []), ([], []), ([0, 1], [0, 1]), ([2], [2]), ([3], [3]), ([4], [4]), ([5, 4], [5]), ([6], [6]), ([7, 6], [6, 7]), ([8, 6, 6], [6, 8]), ([9], [9]), ([9], [9]), ([10, 11, 9], [9, 10, 11]), ([12, 9], [9, 12]), ([9], [9]), ([9], [9]), ([15, 9], [9, 15]), ([14, 16, 9], [9, 14, 16]), ([17, 9], [9, 17]), ([13, 18, 9], [9, 13, 18]), ([9, 19, 6], [6, 9, 19]), ([6, 20], [6, 20])])
def spec_l6Rises.B4 : List Nat := [0, 0, 3, 7, 15, 31, 63, 127, 255, 511, 1023, 1023, 4095, 8191, 1023, 1023, 33791, 115711, 246783, 524287, 1048575, 2097151]
theorem spec_l6Rises.tab4 : rtab .any (opsOf Tryz.f73 4) = spec_l6Rises.T4 := by kernel_rfl
theorem spec_l6Rises.bits4 : waitsOk spec_l6Rises.T4.2 spec_l6Rises.B4 = true := by kernel_rfl
theorem spec_l6Rises.calls (k : Nat) (A0 : Option Addr) (c0 : Nat) (l0 : List Int) (r : Bool) (w : World) (hr0 : Kd.C (Kd.int .i64) w A0 l0.length l0) (hc0 : l0.length ≤ c0) (h : spec_l6Rises.f k l0 = some r) :
    Calls Tryz.prog 73 #[.slice A0 l0.length c0] w fun e w' => e = .returned (.bool r) ∧ Below w.heap.size w w' := by
 have HR0 := ak hr0
 have HC0 := ak hc0
 clear hr0 hc0
 have HB := ak (Below.refl w.heap.size w)
 have H : (spec_l6Rises.l0 k l0 0) = some r := h
 clear h
 have H' := ak H
 clear H
 go_enter Tryz.func73,Tryz.ntmps73
 go_wp2
 go_loopg [3] k (fun kq v3 w' => ∃ (x3_1 : Int),v3 = .int .i64 x3_1 ∧ Aside0 (spec_l6Rises.l0 kq l0 x3_1 = some r) ∧ Aside0 (kq ≤ k) ∧ Aside0 (Below w.heap.size w w'))
 case atStart => exact ⟨(0),rs_,H',⟨Nat.le_refl _⟩,⟨b_⟩⟩
 case round =>
  clear H'
  obtain ⟨x3_1,rfl,HA,HK1,HB⟩ := hrel
  cases gk with
    | zero => exact absurd HA.out (by simp [spec_l6Rises.l0])
    | succ k1 =>
   have H := HA.out
   clear HA
   simp only [spec_l6Rises.l0] at H
   by_cases c2 : x3_1 < (l0.length : Int)
   ·rw [if_pos c2] at H
    have c2b0 : decide (x3_1 < (l0.length : Int)) = true := decide_eq_true c2
    clear c2
    by_cases c3 : 0 ≤ x3_1
    ·rw [if_pos c3] at H
     have c3b0 : decide (0 ≤ x3_1) = true := decide_eq_true c3
     clear c3
     replace H := bs_ H
     obtain ⟨t272,A4,H⟩ := H
     by_cases c5 : t272 = true
     ·subst c5
      replace H := it_ H
      by_cases c6 : x3_1 > 0
      ·rw [if_pos c6] at H
       have c6b0 : decide (0 < x3_1) = true := decide_eq_true c6
       clear c6
       obtain ⟨ji7,hji7⟩ : ∃ j_ : Int,(wrap64 (x3_1 - 1)) = j_ := ⟨_,rfl⟩
       replace H : (if 0 ≤ (ji7) then (if (ji7) < (l0.length : Int) then (if (rd l0 x3_1) ≤ (rd l0 (ji7)) then (some false) else (spec_l6Rises.l0 k1 l0 (wrap64 (x3_1 + 1)))) else (none)) else (none)) = some r := by first|(rw [hji7] at H;exact H)|(simp only [hji7] at H ⊢;exact H)
       (try rw [hji7] at A4)
       have hji7w : (IntKind.i64.wrap (x3_1 - 1)) = ji7 := (i64_w _).trans hji7
       by_cases c8 : 0 ≤ (ji7)
       ·rw [if_pos c8] at H
        have c8b0 : decide (0 ≤ (ji7)) = true := decide_eq_true c8
        clear c8
        by_cases c9 : (ji7) < (l0.length : Int)
        ·rw [if_pos c9] at H
         have c9b0 : decide ((ji7) < (l0.length : Int)) = true := decide_eq_true c9
         clear c9
         by_cases c10 : (rd l0 x3_1) ≤ (rd l0 (ji7))
         ·rw [if_pos c10] at H
          have c10b0 : decide ((rd l0 x3_1) ≤ (rd l0 (ji7))) = true := decide_eq_true c10
          clear c10
          obtain rfl := Option.some.inj H
          try go_wp2
          replace HB := ak (below_drew1 HB.out)
          have p271 : 0 ≤ (x3_1 : Int) := od_
          have q271 : x3_1 < (l0.length : Int) := od_
          obtain ⟨ad271,e271,hx271_0⟩ := Kd.at_int HR0.out x3_1 p271 q271
          have hw271_0 := hx271_0
          cases e271
          replace hx271_0 := hx_ HB hx271_0
          replace p271 := eq_true p271
          replace q271 := eq_true q271
          have p273 : 0 ≤ (x3_1 : Int) := od_
          have q273 : x3_1 < (l0.length : Int) := od_
          obtain ⟨ad273,e273,hx273_0⟩ := Kd.at_int HR0.out x3_1 p273 q273
          have hw273_0 := hx273_0
          obtain rfl : ad271 = ad273 := (by injection e273)
          replace hx273_0 := hx_ HB hx273_0
          replace p273 := eq_true p273
          replace q273 := eq_true q273
          have p274 : 0 ≤ ((ji7) : Int) := od_
          have q274 : (ji7) < (l0.length : Int) := od_
          obtain ⟨ad274,e274,hx274_0⟩ := Kd.at_int HR0.out (ji7) p274 q274
          have hw274_0 := hx274_0
          obtain rfl : ad271 = ad274 := (by injection e274)
          replace hx274_0 := hx_ HB hx274_0
          replace p274 := eq_true p274
          replace q274 := eq_true q274
          refine st_ 22 (S := fun w' => (w'.cell? (ad271.add (x3_1).toNat) = some (.int .i64 (rd l0 x3_1))) ∧ (w'.cell? (ad271.add (x3_1).toNat) = some (.int .i64 (rd l0 x3_1))) ∧ w'.cell? (ad271.add ((ji7)).toNat) = some (.int .i64 (rd l0 (ji7)))) hh_ (fun hHeld => ?_);refine with_tabW spec_l6Rises.tab4 spec_l6Rises.bits4 (fun HT_ HW_ => ?_)
          generalize wr.drew = w11 at HB hx271_0 hx273_0 hx274_0 hHeld ⊢
          refine pv_ 0 10 ?_
          refine pv_ 1 11 ?_
          refine pv_ 2 12 ?_
          refine tx_ 3 13 hHeld ?_
          refine oy_ 4 14 (fun K hK => ?_)
          refine gs_ Tryz.func29 #[.int .i64 (rd l0 x3_1)] ?_
          with_reducible refine (spec_l1Id.calls (rd l0 x3_1) true _ A4.out).mono ?_
          rintro e w' ⟨rfl,⟨nd,rfl⟩⟩
          refine ⟨_,rfl,?_⟩
          refine hK.out _ _ hh_ (fun hHeld => ?_)
          clear hK K
          refine nr_ (some 14) _ ?_
          refine pv_ 5 15 ?_
          refine pv_ 6 16 ?_
          refine pv_ 7 17 ?_
          refine pv_ 8 18 ?_
          refine pv_ 9 19 ?_
          refine pv_ 10 20 ?_
          refine pv_ 11 21 ?_
          refine pv_ 12 22 ?_
          refine pv_ 14 24 ?_
          refine pv_ 15 25 ?_
          refine pv_ 16 26 ?_
          refine pv_ 17 27 ?_
          refine tx_ 13 23 hHeld ?_
          refine tx_ 18 28 hHeld ?_
          refine pv_ 19 29 ?_
          refine pv_ 20 30 ?_
          refine pv_ 21 31 ?_
          refine done_ (done_of HT_.out (by kernel_rfl)) ?_
          try go_wp2
          go_ret
          exact ⟨by first|rfl|(simp [errW_none,errW_some] <;> rfl)|(simp only [← hji7];first|rfl|(simp [errW_none,errW_some] <;> rfl))|(simp [*,errW_none,errW_some] <;> rfl),b_⟩
         ·rw [if_neg c10] at H
          have c10b0 : decide ((rd l0 x3_1) ≤ (rd l0 (ji7))) = false := decide_eq_false c10
          clear c10
          have H' := ak H
          clear H
          try go_wp2
          replace HB := ak (below_drew1 HB.out)
          have p271 : 0 ≤ (x3_1 : Int) := od_
          have q271 : x3_1 < (l0.length : Int) := od_
          obtain ⟨ad271,e271,hx271_0⟩ := Kd.at_int HR0.out x3_1 p271 q271
          have hw271_0 := hx271_0
          cases e271
          replace hx271_0 := hx_ HB hx271_0
          replace p271 := eq_true p271
          replace q271 := eq_true q271
          have p273 : 0 ≤ (x3_1 : Int) := od_
          have q273 : x3_1 < (l0.length : Int) := od_
          obtain ⟨ad273,e273,hx273_0⟩ := Kd.at_int HR0.out x3_1 p273 q273
          have hw273_0 := hx273_0
          obtain rfl : ad271 = ad273 := (by injection e273)
          replace hx273_0 := hx_ HB hx273_0
          replace p273 := eq_true p273
          replace q273 := eq_true q273
          have p274 : 0 ≤ ((ji7) : Int) := od_
          have q274 : (ji7) < (l0.length : Int) := od_
          obtain ⟨ad274,e274,hx274_0⟩ := Kd.at_int HR0.out (ji7) p274 q274
          have hw274_0 := hx274_0
          obtain rfl : ad271 = ad274 := (by injection e274)
          replace hx274_0 := hx_ HB hx274_0
          replace p274 := eq_true p274
          replace q274 := eq_true q274
          refine st_ 22 (S := fun w' => (w'.cell? (ad271.add (x3_1).toNat) = some (.int .i64 (rd l0 x3_1))) ∧ (w'.cell? (ad271.add (x3_1).toNat) = some (.int .i64 (rd l0 x3_1))) ∧ w'.cell? (ad271.add ((ji7)).toNat) = some (.int .i64 (rd l0 (ji7)))) hh_ (fun hHeld => ?_);refine with_tabW spec_l6Rises.tab4 spec_l6Rises.bits4 (fun HT_ HW_ => ?_)
          generalize wr.drew = w12 at HB hx271_0 hx273_0 hx274_0 hHeld ⊢
          refine pv_ 0 10 ?_
          refine pv_ 1 11 ?_
          refine pv_ 2 12 ?_
          refine tx_ 3 13 hHeld ?_
          refine oy_ 4 14 (fun K hK => ?_)
          refine gs_ Tryz.func29 #[.int .i64 (rd l0 x3_1)] ?_
          with_reducible refine (spec_l1Id.calls (rd l0 x3_1) true _ A4.out).mono ?_
          rintro e w' ⟨rfl,⟨nd,rfl⟩⟩
          refine ⟨_,rfl,?_⟩
          refine hK.out _ _ hh_ (fun hHeld => ?_)
          clear hK K
          refine nr_ (some 14) _ ?_
          refine pv_ 5 15 ?_
          refine pv_ 6 16 ?_
          refine pv_ 7 17 ?_
          refine pv_ 8 18 ?_
          refine pv_ 9 19 ?_
          refine pv_ 10 20 ?_
          refine pv_ 11 21 ?_
          refine pv_ 12 22 ?_
          refine pv_ 14 24 ?_
          refine pv_ 15 25 ?_
          refine pv_ 16 26 ?_
          refine pv_ 17 27 ?_
          refine tx_ 13 23 hHeld ?_
          refine tx_ 18 28 hHeld ?_
          refine pv_ 19 29 ?_
          refine pv_ 20 30 ?_
          refine pv_ 21 31 ?_
          refine done_ (done_of HT_.out (by kernel_rfl)) ?_
          try go_wp2
          go_roundg k1
          case measure => have := HK1.out;omega
          case rel => exact ⟨(wrap64 (x3_1 + 1)),rs_,H',⟨by have := HK1.out;omega⟩,⟨b_⟩⟩
        ·rw [if_neg c9] at H
         exact absurd H (by simp)
       ·rw [if_neg c8] at H
        exact absurd H (by simp)
      ·rw [if_neg c6] at H
       have c6b0 : decide (0 < x3_1) = false := decide_eq_false c6
       clear c6
       have H' := ak H
       clear H
       try go_wp2
       replace HB := ak (below_drew1 HB.out)
       have p271 : 0 ≤ (x3_1 : Int) := od_
       have q271 : x3_1 < (l0.length : Int) := od_
       obtain ⟨ad271,e271,hx271_0⟩ := Kd.at_int HR0.out x3_1 p271 q271
       have hw271_0 := hx271_0
       cases e271
       replace hx271_0 := hx_ HB hx271_0
       replace p271 := eq_true p271
       replace q271 := eq_true q271
       refine st_ 22 (S := fun w' => w'.cell? (ad271.add (x3_1).toNat) = some (.int .i64 (rd l0 x3_1))) hh_ (fun hHeld => ?_);refine with_tabW spec_l6Rises.tab4 spec_l6Rises.bits4 (fun HT_ HW_ => ?_)
       generalize wr.drew = w13 at HB hx271_0 hHeld ⊢
       refine pv_ 0 10 ?_
       refine pv_ 1 11 ?_
       refine pv_ 2 12 ?_
       refine tz_ (i := 3) (N := some 13) (v := ?_) (a' := ?_) HT_.out HW_.out rfl rfl (by kernel_rfl) (fun _ _ _ h => h) (Or.inl ⟨by rfl,?_⟩) hHeld ?_ ?_
       rotate_left
       ·intro w' s0
        go_simp
        with_reducible rfl
       rotate_left
       ·simp only [Act.put,q1,q2,q3,i64_w,i32_w]
        rfl
       refine oy_ 4 14 (fun K hK => ?_)
       refine gs_ Tryz.func29 #[.int .i64 (rd l0 x3_1)] ?_
       with_reducible refine (spec_l1Id.calls (rd l0 x3_1) true _ A4.out).mono ?_
       rintro e w' ⟨rfl,⟨nd,rfl⟩⟩
       refine ⟨_,rfl,?_⟩
       refine hK.out _ _ hh_ (fun hHeld => ?_)
       clear hK K
       refine nr_ (some 14) _ ?_
       refine pv_ 5 15 ?_
       refine pv_ 6 16 ?_
       refine pv_ 7 17 ?_
       refine pv_ 8 18 ?_
       refine pv_ 9 19 ?_
       refine pn_ 10 20 ?_
       refine pn_ 11 21 ?_
       refine pn_ 12 22 ?_
       refine pn_ 13 23 ?_
       refine pn_ 14 24 ?_
       refine pn_ 15 25 ?_
       refine pn_ 16 26 ?_
       refine pn_ 17 27 ?_
       refine pn_ 18 28 ?_
       refine pn_ 19 29 ?_
       refine pv_ 20 30 ?_
       refine pv_ 21 31 ?_
       refine done_ (done_of HT_.out (by kernel_rfl)) ?_
       try go_wp2
       go_roundg k1
       case measure => have := HK1.out;omega
       case rel => exact ⟨(wrap64 (x3_1 + 1)),rs_,H',⟨by have := HK1.out;omega⟩,⟨b_⟩⟩
     ·replace c5 := Bool.eq_false_iff.mpr c5
      subst c5
      replace H := ie_ H
      obtain rfl := Option.some.inj H
      try go_wp2
      replace HB := ak (below_drew1 HB.out)
      have p271 : 0 ≤ (x3_1 : Int) := od_
      have q271 : x3_1 < (l0.length : Int) := od_
      obtain ⟨ad271,e271,hx271_0⟩ := Kd.at_int HR0.out x3_1 p271 q271
      have hw271_0 := hx271_0
      cases e271
      replace hx271_0 := hx_ HB hx271_0
      replace p271 := eq_true p271
      replace q271 := eq_true q271
      refine st_ 22 (S := fun w' => w'.cell? (ad271.add (x3_1).toNat) = some (.int .i64 (rd l0 x3_1))) hh_ (fun hHeld => ?_);refine with_tabW spec_l6Rises.tab4 spec_l6Rises.bits4 (fun HT_ HW_ => ?_)
      generalize wr.drew = w14 at HB hx271_0 hHeld ⊢
      refine pv_ 0 10 ?_
      refine pv_ 1 11 ?_
      refine pv_ 2 12 ?_
      refine tz_ (i := 3) (N := some 13) (v := ?_) (a' := ?_) HT_.out HW_.out rfl rfl (by kernel_rfl) (fun _ _ _ h => h) (Or.inl ⟨by rfl,?_⟩) hHeld ?_ ?_
      rotate_left
      ·intro w' s0
       go_simp
       with_reducible rfl
      rotate_left
      ·simp only [Act.put,q1,q2,q3,i64_w,i32_w]
       rfl
      refine oy_ 4 14 (fun K hK => ?_)
      refine gs_ Tryz.func29 #[.int .i64 (rd l0 x3_1)] ?_
      with_reducible refine (spec_l1Id.calls (rd l0 x3_1) false _ A4.out).mono ?_
      rintro e w' ⟨rfl,⟨nd,rfl⟩⟩
      refine ⟨_,rfl,?_⟩
      refine hK.out _ _ hh_ (fun hHeld => ?_)
      clear hK K
      refine nr_ (some 14) _ ?_
      refine pv_ 5 15 ?_
      refine pv_ 6 16 ?_
      refine pn_ 7 17 ?_
      refine pn_ 8 18 ?_
      refine pn_ 9 19 ?_
      refine pn_ 10 20 ?_
      refine pn_ 11 21 ?_
      refine pn_ 12 22 ?_
      refine pn_ 13 23 ?_
      refine pn_ 14 24 ?_
      refine pn_ 15 25 ?_
      refine pn_ 16 26 ?_
      refine pn_ 17 27 ?_
      refine pn_ 18 28 ?_
      refine pn_ 19 29 ?_
      refine pn_ 20 30 ?_
      refine pv_ 21 31 ?_
      refine done_ (done_of HT_.out (by kernel_rfl)) ?_
      try go_wp2
      go_ret
      exact ⟨rf_,b_⟩
    ·rw [if_neg c3] at H
     exact absurd H (by simp)
   ·rw [if_neg c2] at H
    have c2b0 : decide (x3_1 < (l0.length : Int)) = false := decide_eq_false c2
    clear c2
    obtain rfl := Option.some.inj H
    go_wp2
    go_ret
    exact ⟨rf_,b_⟩

end Go.Proofs.YthplaakckfhaaaaGreat.XMs
