/- Proved: of each Go function here that a call comes to what the Lean function of its name tells. Written by a program of this session over the translation. No conditions beyond each theorem's own. -/
import Derived.Test.YthplaakckfhaaaaXRp0
import Derived.Test.YthplaakckfhaaaaXRp2
namespace Go.Proofs.Ythplaakckfhaaaa.XRp
open Go.RowKit Go.Proofs.Ythplaakckfhaaaa.Aid Go.Proofs.YthplaakckfhaaaaW.PrintWords Go.Proofs.YthplaakckfhaaaaW.PrintLast Go.Proofs.YthplaakckfhaaaaW.PrintMore
set_option linter.unusedVariables false
set_option linter.unusedSimpArgs false

/-! ### laws_eqCopyS: function 54 -/
def laws_eqCopyS.l0 : Nat → List (S79) → List (S79) → Int → Option (Bool)
  | 0, _, _, _ => none
  | k + 1, x0, x1, x5 => if x5 < (x0.length : Int) then (if 0 ≤ x5 then (if x5 < (x1.length : Int) then ((laws_eqCopy.f k ((rd_T79 x0 x5).f0) ((rd_T79 x0 x5).f1) ((rd_T79 x1 x5).f0) ((rd_T79 x1 x5).f1)).bind fun t195 => (if t195 = true then (laws_eqCopyS.l0 k x0 x1 (wrap64 (x5 + 1))) else (some false))) else (none)) else (none)) else (some true)
def laws_eqCopyS.f (k : Nat) (l0 : List (S79)) (l1 : List (S79)) : Option (Bool) := if (l0.length : Int) = (l1.length : Int) then (laws_eqCopyS.l0 k l0 l1 0) else (some false)

def laws_eqCopyS.T6 : Bool × List (List Nat × List Nat) := (true, [([], []), ([], []), ([0, 1], [0, 1]), ([2], [2]), ([], []), ([], []), ([4, 5], [4, 5]), ([6], [6]), ([3, 7], [3, 7]), ([8], [8])])
def laws_eqCopyS.B6 : List Nat := [0, 0, 3, 7, 0, 0, 48, 112, 255, 511]
theorem laws_eqCopyS.tab6 : rtab .any (opsOf Try.f54 6) = laws_eqCopyS.T6 := by kernel_rfl
theorem laws_eqCopyS.bits6 : waitsOk laws_eqCopyS.T6.2 laws_eqCopyS.B6 = true := by kernel_rfl
set_option maxHeartbeats 8000000 in
set_option maxRecDepth 100000 in
theorem laws_eqCopyS.calls (k : Nat) (A0 : Option Addr) (c0 : Nat) (l0 : List (S79)) (A1 : Option Addr) (c1 : Nat) (l1 : List (S79)) (r : Bool) (w : World) (hr0 : Kd.C k79 w A0 l0.length l0) (hc0 : l0.length ≤ c0) (hr1 : Kd.C k79 w A1 l1.length l1) (hc1 : l1.length ≤ c1) (h : laws_eqCopyS.f k l0 l1 = some r) :
    Calls Try.prog 54 #[.slice A0 l0.length c0, .slice A1 l1.length c1] w fun e w' => e = .returned (.bool r) ∧ Below w.heap.size w w' := by
 have hu79 := Try.underlying79
 have HR0 := Aside0.mk hr0
 have HC0 := Aside0.mk hc0
 clear hr0 hc0
 have HR1 := Aside0.mk hr1
 have HC1 := Aside0.mk hc1
 clear hr1 hc1
 have HB := Aside0.mk (Below.refl w.heap.size w)
 have H : (if (l0.length : Int) = (l1.length : Int) then (laws_eqCopyS.l0 k l0 l1 0) else (some false)) = some r := h
 clear h
 by_cases c3 : (l0.length : Int) = (l1.length : Int)
 ·rw [if_pos c3] at H
  have c3b0 : ((l0.length : Int) == (l1.length : Int)) = true := beq_iff_eq.mpr c3
  have c3b1 : ((l0.length : Int) != (l1.length : Int)) = false := bne_eq_false_iff_eq.mpr c3
  have c3b2 : (l0.length == l1.length) = true := by first|simpa using c3|(simp at c3 ⊢;omega)
  clear c3
  have H' := Aside0.mk H
  clear H
  go_enter Try.func54,Try.ntmps54
  go_wp2
  go_loopg [5] k (fun kq v5 w' => ∃ (x5_1 : Int),v5 = .int .i64 x5_1 ∧ Aside0 (laws_eqCopyS.l0 kq l0 l1 x5_1 = some r) ∧ Aside0 (kq ≤ k) ∧ Aside0 (Below w.heap.size w w'))
  case atStart => exact ⟨(0),rs_,H',⟨Nat.le_refl _⟩,⟨b_⟩⟩
  case round =>
   clear H'
   try clear c1
   try clear p2
   try clear c3
   try clear c3b0
   try clear c3b1
   try clear c3b2
   obtain ⟨x5_1,rfl,HA,HK1,HB⟩ := hrel
   cases gk with
   | zero => exact absurd HA.out (by simp [laws_eqCopyS.l0])
   | succ k1 =>
    have H := HA.out
    clear HA
    simp only [laws_eqCopyS.l0] at H
    by_cases c4 : x5_1 < (l0.length : Int)
    ·rw [if_pos c4] at H
     have c4b0 : decide (x5_1 < (l0.length : Int)) = true := decide_eq_true c4
     clear c4
     by_cases c5 : 0 ≤ x5_1
     ·rw [if_pos c5] at H
      have c5b0 : decide (0 ≤ x5_1) = true := decide_eq_true c5
      clear c5
      by_cases c6 : x5_1 < (l1.length : Int)
      ·rw [if_pos c6] at H
       have c6b0 : decide (x5_1 < (l1.length : Int)) = true := decide_eq_true c6
       clear c6
       replace H := bs_ H
       obtain ⟨t195,A7,H⟩ := H
       by_cases c8 : t195 = true
       ·subst c8
        replace H := it_ H
        have H' := Aside0.mk H
        clear H
        try go_wp2
        replace HB := Aside0.mk (below_drew1 HB.out)
        have p193 : 0 ≤ (x5_1 : Int) := od_
        have q193 : x5_1 < (l0.length : Int) := od_
        obtain ⟨ad193,A193_1,c193_1,e193,hx193_0,hx193_1,hl193_1,hi193_1⟩ := at_T79 HR0.out x5_1 p193 q193
        have hw193_1 := hx193_1
        have hw193_0 := hx193_0
        cases e193
        replace hx193_0 := hx_ HB hx193_0
        replace hx193_1 := hx_ HB hx193_1
        have HR193_1 := Aside0.mk hi193_1
        have HC193_1 := Aside0.mk hl193_1
        clear hi193_1 hl193_1
        replace p193 := eq_true p193
        replace q193 := eq_true q193
        have p194 : 0 ≤ (x5_1 : Int) := od_
        have q194 : x5_1 < (l1.length : Int) := od_
        obtain ⟨ad194,A194_1,c194_1,e194,hx194_0,hx194_1,hl194_1,hi194_1⟩ := at_T79 HR1.out x5_1 p194 q194
        have hw194_1 := hx194_1
        have hw194_0 := hx194_0
        cases e194
        replace hx194_0 := hx_ HB hx194_0
        replace hx194_1 := hx_ HB hx194_1
        have HR194_1 := Aside0.mk hi194_1
        have HC194_1 := Aside0.mk hl194_1
        clear hi194_1 hl194_1
        replace p194 := eq_true p194
        replace q194 := eq_true q194
        refine st_ 10 (S := fun w' => he2 w' (ad193.add ((x5_1).toNat * 2)) (.int .i64 ((rd_T79 l0 x5_1).f0)) (.slice A193_1 ((rd_T79 l0 x5_1).f1).length c193_1) (hf2 w' (ad194.add ((x5_1).toNat * 2)) (.int .i64 ((rd_T79 l1 x5_1).f0)) (.slice A194_1 ((rd_T79 l1 x5_1).f1).length c194_1))) hh_ (fun hHeld => ?_);refine with_tabW laws_eqCopyS.tab6 laws_eqCopyS.bits6 (fun HT_ HW_ => ?_)
        generalize wr.drew = w9 at HB HR193_1 HR194_1 hx193_0 hx193_1 hx194_0 hx194_1 hHeld ⊢
        refine pv_ 0 17 ?_
        refine pv_ 1 18 ?_
        refine pv_ 2 19 ?_
        refine pv_ 4 21 ?_
        refine pv_ 5 22 ?_
        refine pv_ 6 23 ?_
        refine tx_ 3 20 hHeld ?_
        refine tx_ 7 24 hHeld ?_
        refine oy_ 8 25 (fun K hK => ?_)
        refine gs_ Try.func110 #[.agg #[.int .i64 ((rd_T79 l0 x5_1).f0),.slice A193_1 ((rd_T79 l0 x5_1).f1).length c193_1],.agg #[.int .i64 ((rd_T79 l1 x5_1).f0),.slice A194_1 ((rd_T79 l1 x5_1).f1).length c194_1]] ?_
        with_reducible refine (laws_eqCopy.calls k1 ((rd_T79 l0 x5_1).f0) _ _ ((rd_T79 l0 x5_1).f1) ((rd_T79 l1 x5_1).f0) _ _ ((rd_T79 l1 x5_1).f1) true _ ?side1 ?side2 ?side3 ?side4 A7.out).mono ?_
        (case side1 => exact cb_ HR193_1)
        (case side2 => exact HC193_1.out)
        (case side3 => exact cb_ HR194_1)
        (case side4 => exact HC194_1.out)
        rintro e w10 ⟨rfl,hb⟩
        refine ⟨_,rfl,?_⟩
        replace HB := Aside0.mk (below_step b_ hb)
        (try clear hb)
        (try clear hb2)
        (try clear hk)
        (try clear hi)
        refine hK.out _ _ hh_ (fun hHeld => ?_)
        clear hK K
        refine nr_ (some 25) _ ?_
        refine pv_ 9 26 ?_
        refine done_ (done_of HT_.out (by kernel_rfl)) ?_
        try go_wp2
        go_roundg k1
        case measure => have := HK1.out;omega
        case rel => exact ⟨(wrap64 (x5_1 + 1)),rs_,H',⟨by have := HK1.out;omega⟩,⟨b_⟩⟩
       ·replace c8 := Bool.eq_false_iff.mpr c8
        subst c8
        replace H := ie_ H
        obtain rfl := Option.some.inj H
        try go_wp2
        replace HB := Aside0.mk (below_drew1 HB.out)
        have p193 : 0 ≤ (x5_1 : Int) := od_
        have q193 : x5_1 < (l0.length : Int) := od_
        obtain ⟨ad193,A193_1,c193_1,e193,hx193_0,hx193_1,hl193_1,hi193_1⟩ := at_T79 HR0.out x5_1 p193 q193
        have hw193_1 := hx193_1
        have hw193_0 := hx193_0
        cases e193
        replace hx193_0 := hx_ HB hx193_0
        replace hx193_1 := hx_ HB hx193_1
        have HR193_1 := Aside0.mk hi193_1
        have HC193_1 := Aside0.mk hl193_1
        clear hi193_1 hl193_1
        replace p193 := eq_true p193
        replace q193 := eq_true q193
        have p194 : 0 ≤ (x5_1 : Int) := od_
        have q194 : x5_1 < (l1.length : Int) := od_
        obtain ⟨ad194,A194_1,c194_1,e194,hx194_0,hx194_1,hl194_1,hi194_1⟩ := at_T79 HR1.out x5_1 p194 q194
        have hw194_1 := hx194_1
        have hw194_0 := hx194_0
        cases e194
        replace hx194_0 := hx_ HB hx194_0
        replace hx194_1 := hx_ HB hx194_1
        have HR194_1 := Aside0.mk hi194_1
        have HC194_1 := Aside0.mk hl194_1
        clear hi194_1 hl194_1
        replace p194 := eq_true p194
        replace q194 := eq_true q194
        refine st_ 10 (S := fun w' => he2 w' (ad193.add ((x5_1).toNat * 2)) (.int .i64 ((rd_T79 l0 x5_1).f0)) (.slice A193_1 ((rd_T79 l0 x5_1).f1).length c193_1) (hf2 w' (ad194.add ((x5_1).toNat * 2)) (.int .i64 ((rd_T79 l1 x5_1).f0)) (.slice A194_1 ((rd_T79 l1 x5_1).f1).length c194_1))) hh_ (fun hHeld => ?_);refine with_tabW laws_eqCopyS.tab6 laws_eqCopyS.bits6 (fun HT_ HW_ => ?_)
        generalize wr.drew = w11 at HB HR193_1 HR194_1 hx193_0 hx193_1 hx194_0 hx194_1 hHeld ⊢
        refine pv_ 0 17 ?_
        refine pv_ 1 18 ?_
        refine pv_ 2 19 ?_
        refine pv_ 4 21 ?_
        refine pv_ 5 22 ?_
        refine pv_ 6 23 ?_
        refine tx_ 3 20 hHeld ?_
        refine tx_ 7 24 hHeld ?_
        refine oy_ 8 25 (fun K hK => ?_)
        refine gs_ Try.func110 #[.agg #[.int .i64 ((rd_T79 l0 x5_1).f0),.slice A193_1 ((rd_T79 l0 x5_1).f1).length c193_1],.agg #[.int .i64 ((rd_T79 l1 x5_1).f0),.slice A194_1 ((rd_T79 l1 x5_1).f1).length c194_1]] ?_
        with_reducible refine (laws_eqCopy.calls k1 ((rd_T79 l0 x5_1).f0) _ _ ((rd_T79 l0 x5_1).f1) ((rd_T79 l1 x5_1).f0) _ _ ((rd_T79 l1 x5_1).f1) false _ ?side1 ?side2 ?side3 ?side4 A7.out).mono ?_
        (case side1 => exact cb_ HR193_1)
        (case side2 => exact HC193_1.out)
        (case side3 => exact cb_ HR194_1)
        (case side4 => exact HC194_1.out)
        rintro e w12 ⟨rfl,hb⟩
        refine ⟨_,rfl,?_⟩
        replace HB := Aside0.mk (below_step b_ hb)
        (try clear hb)
        (try clear hb2)
        (try clear hk)
        (try clear hi)
        refine hK.out _ _ hh_ (fun hHeld => ?_)
        clear hK K
        refine nr_ (some 25) _ ?_
        refine pv_ 9 26 ?_
        refine done_ (done_of HT_.out (by kernel_rfl)) ?_
        try go_wp2
        go_ret
        exact ⟨rf_,b_⟩
      ·rw [if_neg c6] at H
       exact absurd H (by simp)
     ·rw [if_neg c5] at H
      exact absurd H (by simp)
    ·rw [if_neg c4] at H
     have c4b0 : decide (x5_1 < (l0.length : Int)) = false := decide_eq_false c4
     clear c4
     obtain rfl := Option.some.inj H
     go_wp2
     go_ret
     exact ⟨rf_,b_⟩
 ·rw [if_neg c3] at H
  have c3b0 : ((l0.length : Int) == (l1.length : Int)) = false := beq_eq_false_iff_ne.mpr c3
  have c3b1 : ((l0.length : Int) != (l1.length : Int)) = true := bne_iff_ne.mpr c3
  have c3b2 : (l0.length == l1.length) = false := by first|simpa using c3|(simp at c3 ⊢;omega)
  obtain rfl := Option.some.inj H
  go_enter Try.func54,Try.ntmps54
  go_wp2
  go_ret
  exact ⟨rf_,b_⟩

/-! ### laws_eqSet: function 114 -/
def laws_eqSet.f (a0_0 : Int) (a0_1 : Int) (a0_2 : Int) (a0_3 : Bool) (a0_4 : Int) (a1_0 : Int) (a1_1 : Int) (a1_2 : Int) (a1_3 : Bool) (a1_4 : Int) : Option (Bool) := if a0_0 = a1_0 then (if a0_1 = a1_1 then (if a0_2 = a1_2 then (if (a0_3 != a1_3) = true then (some false) else (if a0_4 = a1_4 then (some true) else (some false))) else (some false)) else (some false)) else (some false)
set_option maxHeartbeats 8000000 in
set_option maxRecDepth 100000 in
theorem laws_eqSet.calls (a0_0 : Int) (a0_1 : Int) (a0_2 : Int) (a0_3 : Bool) (a0_4 : Int) (a1_0 : Int) (a1_1 : Int) (a1_2 : Int) (a1_3 : Bool) (a1_4 : Int) (r : Bool) (w : World) (h : laws_eqSet.f a0_0 a0_1 a0_2 a0_3 a0_4 a1_0 a1_1 a1_2 a1_3 a1_4 = some r) :
    Calls Try.prog 114 #[.agg #[.int .i64 a0_0, .int .i64 a0_1, .int .i64 a0_2, .bool a0_3, .int .i64 a0_4], .agg #[.int .i64 a1_0, .int .i64 a1_1, .int .i64 a1_2, .bool a1_3, .int .i64 a1_4]] w fun e w' => e = .returned (.bool r) ∧ Below w.heap.size w w' := by
 have hu127 := Try.underlying127
 have HB := Aside0.mk (Below.refl w.heap.size w)
 have H : (if a0_0 = a1_0 then (if a0_1 = a1_1 then (if a0_2 = a1_2 then (if (a0_3 != a1_3) = true then (some false) else (if a0_4 = a1_4 then (some true) else (some false))) else (some false)) else (some false)) else (some false)) = some r := h
 clear h
 by_cases c3 : a0_0 = a1_0
 ·rw [if_pos c3] at H
  have c3b0 : (a0_0 == a1_0) = true := beq_iff_eq.mpr c3
  have c3b1 : (a0_0 != a1_0) = false := bne_eq_false_iff_eq.mpr c3
  clear c3
  by_cases c4 : a0_1 = a1_1
  ·rw [if_pos c4] at H
   have c4b0 : (a0_1 == a1_1) = true := beq_iff_eq.mpr c4
   have c4b1 : (a0_1 != a1_1) = false := bne_eq_false_iff_eq.mpr c4
   clear c4
   by_cases c5 : a0_2 = a1_2
   ·rw [if_pos c5] at H
    have c5b0 : (a0_2 == a1_2) = true := beq_iff_eq.mpr c5
    have c5b1 : (a0_2 != a1_2) = false := bne_eq_false_iff_eq.mpr c5
    clear c5
    by_cases c6 : (a0_3 != a1_3) = true
    ·rw [if_pos c6] at H
     have c6b0 : (a0_3 != a1_3) = true := c6
     (try (have c6b1 : decide (a0_3 = a1_3) = false := by simpa using c6))
     (try (have c6b2 : (a0_3 == a1_3) = false := by simpa using c6))
     (try (have c6b3 : ¬ (a0_3 = a1_3) := by simpa using c6))
     clear c6
     obtain rfl := Option.some.inj H
     go_enter Try.func114,Try.ntmps114
     go_wp2_with (first|((with_reducible refine gate_dst (N := 2) rfl ?_);refine bx_ 2 #[.int .i64 a0_0,.int .i64 a0_1,.int .i64 a0_2,.bool a0_3,.int .i64 a0_4] 127 ?_;intro gb196 hg w7 hbox hb;replace HB := nb_ hg hbox hb;obtain ⟨BK196,GW196,GE196,HB⟩ := HB;clear hb hbox hg)|((with_reducible refine gate_dst (N := 3) rfl ?_);refine bx_ 3 #[.int .i64 a1_0,.int .i64 a1_1,.int .i64 a1_2,.bool a1_3,.int .i64 a1_4] 127 ?_;intro gb197 hg w8 hbox hb;replace HB := nb_ hg hbox hb;obtain ⟨BK197,GW197,GE197,HB⟩ := HB;have NB196_197 := Aside0.mk ((nl_ BK196 hg));have NB197_196 := Aside0.mk ((ng_ BK196 hg));replace BK196 := Aside0.mk (blk_below (kb_ BK196) hb);clear hb hbox hg;have hnb9 := NB196_197.out;have hnc9 := NB197_196.out;obtain ⟨⟨hcz10_0,hcz10_1,hcz10_2,hcz10_3,hcz10_4⟩,hfz10_0,hfz10_1,hfz10_2,hfz10_3,hfz10_4⟩ := cl5_ BK196.out;obtain ⟨⟨hcz11_0,hcz11_1,hcz11_2,hcz11_3,hcz11_4⟩,hfz11_0,hfz11_1,hfz11_2,hfz11_3,hfz11_4⟩ := cl5_ BK197.out))
     go_ret
     exact ⟨rf_,b_⟩
    ·rw [if_neg c6] at H
     have c6b0 : (a0_3 != a1_3) = false := by simpa using c6
     (try (have c6b1 : decide (a0_3 = a1_3) = true := by simpa using c6))
     (try (have c6b2 : (a0_3 == a1_3) = true := by simpa using c6))
     clear c6
     by_cases c12 : a0_4 = a1_4
     ·rw [if_pos c12] at H
      have c12b0 : (a0_4 == a1_4) = true := beq_iff_eq.mpr c12
      have c12b1 : (a0_4 != a1_4) = false := bne_eq_false_iff_eq.mpr c12
      clear c12
      obtain rfl := Option.some.inj H
      go_enter Try.func114,Try.ntmps114
      go_wp2_with (first|((with_reducible refine gate_dst (N := 2) rfl ?_);refine bx_ 2 #[.int .i64 a0_0,.int .i64 a0_1,.int .i64 a0_2,.bool a0_3,.int .i64 a0_4] 127 ?_;intro gb196 hg w13 hbox hb;replace HB := nb_ hg hbox hb;obtain ⟨BK196,GW196,GE196,HB⟩ := HB;clear hb hbox hg)|((with_reducible refine gate_dst (N := 3) rfl ?_);refine bx_ 3 #[.int .i64 a1_0,.int .i64 a1_1,.int .i64 a1_2,.bool a1_3,.int .i64 a1_4] 127 ?_;intro gb197 hg w14 hbox hb;replace HB := nb_ hg hbox hb;obtain ⟨BK197,GW197,GE197,HB⟩ := HB;have NB196_197 := Aside0.mk ((nl_ BK196 hg));have NB197_196 := Aside0.mk ((ng_ BK196 hg));replace BK196 := Aside0.mk (blk_below (kb_ BK196) hb);clear hb hbox hg;have hnb15 := NB196_197.out;have hnc15 := NB197_196.out;obtain ⟨⟨hcz16_0,hcz16_1,hcz16_2,hcz16_3,hcz16_4⟩,hfz16_0,hfz16_1,hfz16_2,hfz16_3,hfz16_4⟩ := cl5_ BK196.out;obtain ⟨⟨hcz17_0,hcz17_1,hcz17_2,hcz17_3,hcz17_4⟩,hfz17_0,hfz17_1,hfz17_2,hfz17_3,hfz17_4⟩ := cl5_ BK197.out))
      go_ret
      exact ⟨rf_,b_⟩
     ·rw [if_neg c12] at H
      have c12b0 : (a0_4 == a1_4) = false := beq_eq_false_iff_ne.mpr c12
      have c12b1 : (a0_4 != a1_4) = true := bne_iff_ne.mpr c12
      obtain rfl := Option.some.inj H
      go_enter Try.func114,Try.ntmps114
      go_wp2_with (first|((with_reducible refine gate_dst (N := 2) rfl ?_);refine bx_ 2 #[.int .i64 a0_0,.int .i64 a0_1,.int .i64 a0_2,.bool a0_3,.int .i64 a0_4] 127 ?_;intro gb196 hg w18 hbox hb;replace HB := nb_ hg hbox hb;obtain ⟨BK196,GW196,GE196,HB⟩ := HB;clear hb hbox hg)|((with_reducible refine gate_dst (N := 3) rfl ?_);refine bx_ 3 #[.int .i64 a1_0,.int .i64 a1_1,.int .i64 a1_2,.bool a1_3,.int .i64 a1_4] 127 ?_;intro gb197 hg w19 hbox hb;replace HB := nb_ hg hbox hb;obtain ⟨BK197,GW197,GE197,HB⟩ := HB;have NB196_197 := Aside0.mk ((nl_ BK196 hg));have NB197_196 := Aside0.mk ((ng_ BK196 hg));replace BK196 := Aside0.mk (blk_below (kb_ BK196) hb);clear hb hbox hg;have hnb20 := NB196_197.out;have hnc20 := NB197_196.out;obtain ⟨⟨hcz21_0,hcz21_1,hcz21_2,hcz21_3,hcz21_4⟩,hfz21_0,hfz21_1,hfz21_2,hfz21_3,hfz21_4⟩ := cl5_ BK196.out;obtain ⟨⟨hcz22_0,hcz22_1,hcz22_2,hcz22_3,hcz22_4⟩,hfz22_0,hfz22_1,hfz22_2,hfz22_3,hfz22_4⟩ := cl5_ BK197.out))
      go_ret
      exact ⟨rf_,b_⟩
   ·rw [if_neg c5] at H
    have c5b0 : (a0_2 == a1_2) = false := beq_eq_false_iff_ne.mpr c5
    have c5b1 : (a0_2 != a1_2) = true := bne_iff_ne.mpr c5
    obtain rfl := Option.some.inj H
    go_enter Try.func114,Try.ntmps114
    go_wp2_with (first|((with_reducible refine gate_dst (N := 2) rfl ?_);refine bx_ 2 #[.int .i64 a0_0,.int .i64 a0_1,.int .i64 a0_2,.bool a0_3,.int .i64 a0_4] 127 ?_;intro gb196 hg w23 hbox hb;replace HB := nb_ hg hbox hb;obtain ⟨BK196,GW196,GE196,HB⟩ := HB;clear hb hbox hg)|((with_reducible refine gate_dst (N := 3) rfl ?_);refine bx_ 3 #[.int .i64 a1_0,.int .i64 a1_1,.int .i64 a1_2,.bool a1_3,.int .i64 a1_4] 127 ?_;intro gb197 hg w24 hbox hb;replace HB := nb_ hg hbox hb;obtain ⟨BK197,GW197,GE197,HB⟩ := HB;have NB196_197 := Aside0.mk ((nl_ BK196 hg));have NB197_196 := Aside0.mk ((ng_ BK196 hg));replace BK196 := Aside0.mk (blk_below (kb_ BK196) hb);clear hb hbox hg;have hnb25 := NB196_197.out;have hnc25 := NB197_196.out;obtain ⟨⟨hcz26_0,hcz26_1,hcz26_2,hcz26_3,hcz26_4⟩,hfz26_0,hfz26_1,hfz26_2,hfz26_3,hfz26_4⟩ := cl5_ BK196.out;obtain ⟨⟨hcz27_0,hcz27_1,hcz27_2,hcz27_3,hcz27_4⟩,hfz27_0,hfz27_1,hfz27_2,hfz27_3,hfz27_4⟩ := cl5_ BK197.out))
    go_ret
    exact ⟨rf_,b_⟩
  ·rw [if_neg c4] at H
   have c4b0 : (a0_1 == a1_1) = false := beq_eq_false_iff_ne.mpr c4
   have c4b1 : (a0_1 != a1_1) = true := bne_iff_ne.mpr c4
   obtain rfl := Option.some.inj H
   go_enter Try.func114,Try.ntmps114
   go_wp2_with (first|((with_reducible refine gate_dst (N := 2) rfl ?_);refine bx_ 2 #[.int .i64 a0_0,.int .i64 a0_1,.int .i64 a0_2,.bool a0_3,.int .i64 a0_4] 127 ?_;intro gb196 hg w28 hbox hb;replace HB := nb_ hg hbox hb;obtain ⟨BK196,GW196,GE196,HB⟩ := HB;clear hb hbox hg)|((with_reducible refine gate_dst (N := 3) rfl ?_);refine bx_ 3 #[.int .i64 a1_0,.int .i64 a1_1,.int .i64 a1_2,.bool a1_3,.int .i64 a1_4] 127 ?_;intro gb197 hg w29 hbox hb;replace HB := nb_ hg hbox hb;obtain ⟨BK197,GW197,GE197,HB⟩ := HB;have NB196_197 := Aside0.mk ((nl_ BK196 hg));have NB197_196 := Aside0.mk ((ng_ BK196 hg));replace BK196 := Aside0.mk (blk_below (kb_ BK196) hb);clear hb hbox hg;have hnb30 := NB196_197.out;have hnc30 := NB197_196.out;obtain ⟨⟨hcz31_0,hcz31_1,hcz31_2,hcz31_3,hcz31_4⟩,hfz31_0,hfz31_1,hfz31_2,hfz31_3,hfz31_4⟩ := cl5_ BK196.out;obtain ⟨⟨hcz32_0,hcz32_1,hcz32_2,hcz32_3,hcz32_4⟩,hfz32_0,hfz32_1,hfz32_2,hfz32_3,hfz32_4⟩ := cl5_ BK197.out))
   go_ret
   exact ⟨rf_,b_⟩
 ·rw [if_neg c3] at H
  have c3b0 : (a0_0 == a1_0) = false := beq_eq_false_iff_ne.mpr c3
  have c3b1 : (a0_0 != a1_0) = true := bne_iff_ne.mpr c3
  obtain rfl := Option.some.inj H
  go_enter Try.func114,Try.ntmps114
  go_wp2_with (first|((with_reducible refine gate_dst (N := 2) rfl ?_);refine bx_ 2 #[.int .i64 a0_0,.int .i64 a0_1,.int .i64 a0_2,.bool a0_3,.int .i64 a0_4] 127 ?_;intro gb196 hg w33 hbox hb;replace HB := nb_ hg hbox hb;obtain ⟨BK196,GW196,GE196,HB⟩ := HB;clear hb hbox hg)|((with_reducible refine gate_dst (N := 3) rfl ?_);refine bx_ 3 #[.int .i64 a1_0,.int .i64 a1_1,.int .i64 a1_2,.bool a1_3,.int .i64 a1_4] 127 ?_;intro gb197 hg w34 hbox hb;replace HB := nb_ hg hbox hb;obtain ⟨BK197,GW197,GE197,HB⟩ := HB;have NB196_197 := Aside0.mk ((nl_ BK196 hg));have NB197_196 := Aside0.mk ((ng_ BK196 hg));replace BK196 := Aside0.mk (blk_below (kb_ BK196) hb);clear hb hbox hg;have hnb35 := NB196_197.out;have hnc35 := NB197_196.out;obtain ⟨⟨hcz36_0,hcz36_1,hcz36_2,hcz36_3,hcz36_4⟩,hfz36_0,hfz36_1,hfz36_2,hfz36_3,hfz36_4⟩ := cl5_ BK196.out;obtain ⟨⟨hcz37_0,hcz37_1,hcz37_2,hcz37_3,hcz37_4⟩,hfz37_0,hfz37_1,hfz37_2,hfz37_3,hfz37_4⟩ := cl5_ BK197.out))
  go_ret
  exact ⟨rf_,b_⟩

/-! ### laws_eqSetS: function 69 -/
def laws_eqSetS.l0 : Nat → List (S127) → List (S127) → Int → Option (Bool)
  | 0, _, _, _ => none
  | k + 1, x0, x1, x5 => if x5 < (x0.length : Int) then (if 0 ≤ x5 then (if x5 < (x1.length : Int) then ((laws_eqSet.f ((rd_T127 x0 x5).f0) ((rd_T127 x0 x5).f1) ((rd_T127 x0 x5).f2) ((rd_T127 x0 x5).f3) ((rd_T127 x0 x5).f4) ((rd_T127 x1 x5).f0) ((rd_T127 x1 x5).f1) ((rd_T127 x1 x5).f2) ((rd_T127 x1 x5).f3) ((rd_T127 x1 x5).f4)).bind fun t200 => (if t200 = true then (laws_eqSetS.l0 k x0 x1 (wrap64 (x5 + 1))) else (some false))) else (none)) else (none)) else (some true)
def laws_eqSetS.f (k : Nat) (l0 : List (S127)) (l1 : List (S127)) : Option (Bool) := if (l0.length : Int) = (l1.length : Int) then (laws_eqSetS.l0 k l0 l1 0) else (some false)

def laws_eqSetS.T6 : Bool × List (List Nat × List Nat) := (true, [([], []), ([], []), ([0, 1], [0, 1]), ([2], [2]), ([], []), ([], []), ([4, 5], [4, 5]), ([6], [6]), ([3, 7], [3, 7]), ([8], [8])])
def laws_eqSetS.B6 : List Nat := [0, 0, 3, 7, 0, 0, 48, 112, 255, 511]
theorem laws_eqSetS.tab6 : rtab .any (opsOf Try.f69 6) = laws_eqSetS.T6 := by kernel_rfl
theorem laws_eqSetS.bits6 : waitsOk laws_eqSetS.T6.2 laws_eqSetS.B6 = true := by kernel_rfl
set_option maxHeartbeats 8000000 in
set_option maxRecDepth 100000 in
theorem laws_eqSetS.calls (k : Nat) (A0 : Option Addr) (c0 : Nat) (l0 : List (S127)) (A1 : Option Addr) (c1 : Nat) (l1 : List (S127)) (r : Bool) (w : World) (hr0 : Kd.C k127 w A0 l0.length l0) (hc0 : l0.length ≤ c0) (hr1 : Kd.C k127 w A1 l1.length l1) (hc1 : l1.length ≤ c1) (h : laws_eqSetS.f k l0 l1 = some r) :
    Calls Try.prog 69 #[.slice A0 l0.length c0, .slice A1 l1.length c1] w fun e w' => e = .returned (.bool r) ∧ Below w.heap.size w w' := by
 have hu127 := Try.underlying127
 have HR0 := Aside0.mk hr0
 have HC0 := Aside0.mk hc0
 clear hr0 hc0
 have HR1 := Aside0.mk hr1
 have HC1 := Aside0.mk hc1
 clear hr1 hc1
 have HB := Aside0.mk (Below.refl w.heap.size w)
 have H : (if (l0.length : Int) = (l1.length : Int) then (laws_eqSetS.l0 k l0 l1 0) else (some false)) = some r := h
 clear h
 by_cases c3 : (l0.length : Int) = (l1.length : Int)
 ·rw [if_pos c3] at H
  have c3b0 : ((l0.length : Int) == (l1.length : Int)) = true := beq_iff_eq.mpr c3
  have c3b1 : ((l0.length : Int) != (l1.length : Int)) = false := bne_eq_false_iff_eq.mpr c3
  have c3b2 : (l0.length == l1.length) = true := by first|simpa using c3|(simp at c3 ⊢;omega)
  clear c3
  have H' := Aside0.mk H
  clear H
  go_enter Try.func69,Try.ntmps69
  go_wp2
  go_loopg [5] k (fun kq v5 w' => ∃ (x5_1 : Int),v5 = .int .i64 x5_1 ∧ Aside0 (laws_eqSetS.l0 kq l0 l1 x5_1 = some r) ∧ Aside0 (kq ≤ k) ∧ Aside0 (Below w.heap.size w w'))
  case atStart => exact ⟨(0),rs_,H',⟨Nat.le_refl _⟩,⟨b_⟩⟩
  case round =>
   clear H'
   try clear c1
   try clear p2
   try clear c3
   try clear c3b0
   try clear c3b1
   try clear c3b2
   obtain ⟨x5_1,rfl,HA,HK1,HB⟩ := hrel
   cases gk with
   | zero => exact absurd HA.out (by simp [laws_eqSetS.l0])
   | succ k1 =>
    have H := HA.out
    clear HA
    simp only [laws_eqSetS.l0] at H
    by_cases c4 : x5_1 < (l0.length : Int)
    ·rw [if_pos c4] at H
     have c4b0 : decide (x5_1 < (l0.length : Int)) = true := decide_eq_true c4
     clear c4
     by_cases c5 : 0 ≤ x5_1
     ·rw [if_pos c5] at H
      have c5b0 : decide (0 ≤ x5_1) = true := decide_eq_true c5
      clear c5
      by_cases c6 : x5_1 < (l1.length : Int)
      ·rw [if_pos c6] at H
       have c6b0 : decide (x5_1 < (l1.length : Int)) = true := decide_eq_true c6
       clear c6
       replace H := bs_ H
       obtain ⟨t200,A7,H⟩ := H
       by_cases c8 : t200 = true
       ·subst c8
        replace H := it_ H
        have H' := Aside0.mk H
        clear H
        try go_wp2
        replace HB := Aside0.mk (below_drew1 HB.out)
        have p198 : 0 ≤ (x5_1 : Int) := od_
        have q198 : x5_1 < (l0.length : Int) := od_
        obtain ⟨ad198,e198,hx198_0,hx198_1,hx198_2,hx198_3,hx198_4⟩ := at_T127 HR0.out x5_1 p198 q198
        have hw198_4 := hx198_4
        have hw198_3 := hx198_3
        have hw198_2 := hx198_2
        have hw198_1 := hx198_1
        have hw198_0 := hx198_0
        cases e198
        replace hx198_0 := hx_ HB hx198_0
        replace hx198_1 := hx_ HB hx198_1
        replace hx198_2 := hx_ HB hx198_2
        replace hx198_3 := hx_ HB hx198_3
        replace hx198_4 := hx_ HB hx198_4
        replace p198 := eq_true p198
        replace q198 := eq_true q198
        have p199 : 0 ≤ (x5_1 : Int) := od_
        have q199 : x5_1 < (l1.length : Int) := od_
        obtain ⟨ad199,e199,hx199_0,hx199_1,hx199_2,hx199_3,hx199_4⟩ := at_T127 HR1.out x5_1 p199 q199
        have hw199_4 := hx199_4
        have hw199_3 := hx199_3
        have hw199_2 := hx199_2
        have hw199_1 := hx199_1
        have hw199_0 := hx199_0
        cases e199
        replace hx199_0 := hx_ HB hx199_0
        replace hx199_1 := hx_ HB hx199_1
        replace hx199_2 := hx_ HB hx199_2
        replace hx199_3 := hx_ HB hx199_3
        replace hx199_4 := hx_ HB hx199_4
        replace p199 := eq_true p199
        replace q199 := eq_true q199
        refine st_ 10 (S := fun w' => he5 w' (ad198.add ((x5_1).toNat * 5)) (.int .i64 ((rd_T127 l0 x5_1).f0)) (.int .i64 ((rd_T127 l0 x5_1).f1)) (.int .i64 ((rd_T127 l0 x5_1).f2)) (.bool ((rd_T127 l0 x5_1).f3)) (.int .i64 ((rd_T127 l0 x5_1).f4)) (hf5 w' (ad199.add ((x5_1).toNat * 5)) (.int .i64 ((rd_T127 l1 x5_1).f0)) (.int .i64 ((rd_T127 l1 x5_1).f1)) (.int .i64 ((rd_T127 l1 x5_1).f2)) (.bool ((rd_T127 l1 x5_1).f3)) (.int .i64 ((rd_T127 l1 x5_1).f4)))) hh_ (fun hHeld => ?_);refine with_tabW laws_eqSetS.tab6 laws_eqSetS.bits6 (fun HT_ HW_ => ?_)
        generalize wr.drew = w9 at HB hx198_0 hx198_1 hx198_2 hx198_3 hx198_4 hx199_0 hx199_1 hx199_2 hx199_3 hx199_4 hHeld ⊢
        refine pv_ 0 17 ?_
        refine pv_ 1 18 ?_
        refine pv_ 2 19 ?_
        refine pv_ 4 21 ?_
        refine pv_ 5 22 ?_
        refine pv_ 6 23 ?_
        refine tx_ 3 20 hHeld ?_
        refine tx_ 7 24 hHeld ?_
        refine oy_ 8 25 (fun K hK => ?_)
        refine gs_ Try.func114 #[.agg #[.int .i64 ((rd_T127 l0 x5_1).f0),.int .i64 ((rd_T127 l0 x5_1).f1),.int .i64 ((rd_T127 l0 x5_1).f2),.bool ((rd_T127 l0 x5_1).f3),.int .i64 ((rd_T127 l0 x5_1).f4)],.agg #[.int .i64 ((rd_T127 l1 x5_1).f0),.int .i64 ((rd_T127 l1 x5_1).f1),.int .i64 ((rd_T127 l1 x5_1).f2),.bool ((rd_T127 l1 x5_1).f3),.int .i64 ((rd_T127 l1 x5_1).f4)]] ?_
        with_reducible refine (laws_eqSet.calls ((rd_T127 l0 x5_1).f0) ((rd_T127 l0 x5_1).f1) ((rd_T127 l0 x5_1).f2) ((rd_T127 l0 x5_1).f3) ((rd_T127 l0 x5_1).f4) ((rd_T127 l1 x5_1).f0) ((rd_T127 l1 x5_1).f1) ((rd_T127 l1 x5_1).f2) ((rd_T127 l1 x5_1).f3) ((rd_T127 l1 x5_1).f4) true _ A7.out).mono ?_
        rintro e w10 ⟨rfl,hb⟩
        refine ⟨_,rfl,?_⟩
        replace HB := Aside0.mk (below_step b_ hb)
        (try clear hb)
        (try clear hb2)
        (try clear hk)
        (try clear hi)
        refine hK.out _ _ hh_ (fun hHeld => ?_)
        clear hK K
        refine nr_ (some 25) _ ?_
        refine pv_ 9 26 ?_
        refine done_ (done_of HT_.out (by kernel_rfl)) ?_
        try go_wp2
        go_roundg k1
        case measure => have := HK1.out;omega
        case rel => exact ⟨(wrap64 (x5_1 + 1)),rs_,H',⟨by have := HK1.out;omega⟩,⟨b_⟩⟩
       ·replace c8 := Bool.eq_false_iff.mpr c8
        subst c8
        replace H := ie_ H
        obtain rfl := Option.some.inj H
        try go_wp2
        replace HB := Aside0.mk (below_drew1 HB.out)
        have p198 : 0 ≤ (x5_1 : Int) := od_
        have q198 : x5_1 < (l0.length : Int) := od_
        obtain ⟨ad198,e198,hx198_0,hx198_1,hx198_2,hx198_3,hx198_4⟩ := at_T127 HR0.out x5_1 p198 q198
        have hw198_4 := hx198_4
        have hw198_3 := hx198_3
        have hw198_2 := hx198_2
        have hw198_1 := hx198_1
        have hw198_0 := hx198_0
        cases e198
        replace hx198_0 := hx_ HB hx198_0
        replace hx198_1 := hx_ HB hx198_1
        replace hx198_2 := hx_ HB hx198_2
        replace hx198_3 := hx_ HB hx198_3
        replace hx198_4 := hx_ HB hx198_4
        replace p198 := eq_true p198
        replace q198 := eq_true q198
        have p199 : 0 ≤ (x5_1 : Int) := od_
        have q199 : x5_1 < (l1.length : Int) := od_
        obtain ⟨ad199,e199,hx199_0,hx199_1,hx199_2,hx199_3,hx199_4⟩ := at_T127 HR1.out x5_1 p199 q199
        have hw199_4 := hx199_4
        have hw199_3 := hx199_3
        have hw199_2 := hx199_2
        have hw199_1 := hx199_1
        have hw199_0 := hx199_0
        cases e199
        replace hx199_0 := hx_ HB hx199_0
        replace hx199_1 := hx_ HB hx199_1
        replace hx199_2 := hx_ HB hx199_2
        replace hx199_3 := hx_ HB hx199_3
        replace hx199_4 := hx_ HB hx199_4
        replace p199 := eq_true p199
        replace q199 := eq_true q199
        refine st_ 10 (S := fun w' => he5 w' (ad198.add ((x5_1).toNat * 5)) (.int .i64 ((rd_T127 l0 x5_1).f0)) (.int .i64 ((rd_T127 l0 x5_1).f1)) (.int .i64 ((rd_T127 l0 x5_1).f2)) (.bool ((rd_T127 l0 x5_1).f3)) (.int .i64 ((rd_T127 l0 x5_1).f4)) (hf5 w' (ad199.add ((x5_1).toNat * 5)) (.int .i64 ((rd_T127 l1 x5_1).f0)) (.int .i64 ((rd_T127 l1 x5_1).f1)) (.int .i64 ((rd_T127 l1 x5_1).f2)) (.bool ((rd_T127 l1 x5_1).f3)) (.int .i64 ((rd_T127 l1 x5_1).f4)))) hh_ (fun hHeld => ?_);refine with_tabW laws_eqSetS.tab6 laws_eqSetS.bits6 (fun HT_ HW_ => ?_)
        generalize wr.drew = w11 at HB hx198_0 hx198_1 hx198_2 hx198_3 hx198_4 hx199_0 hx199_1 hx199_2 hx199_3 hx199_4 hHeld ⊢
        refine pv_ 0 17 ?_
        refine pv_ 1 18 ?_
        refine pv_ 2 19 ?_
        refine pv_ 4 21 ?_
        refine pv_ 5 22 ?_
        refine pv_ 6 23 ?_
        refine tx_ 3 20 hHeld ?_
        refine tx_ 7 24 hHeld ?_
        refine oy_ 8 25 (fun K hK => ?_)
        refine gs_ Try.func114 #[.agg #[.int .i64 ((rd_T127 l0 x5_1).f0),.int .i64 ((rd_T127 l0 x5_1).f1),.int .i64 ((rd_T127 l0 x5_1).f2),.bool ((rd_T127 l0 x5_1).f3),.int .i64 ((rd_T127 l0 x5_1).f4)],.agg #[.int .i64 ((rd_T127 l1 x5_1).f0),.int .i64 ((rd_T127 l1 x5_1).f1),.int .i64 ((rd_T127 l1 x5_1).f2),.bool ((rd_T127 l1 x5_1).f3),.int .i64 ((rd_T127 l1 x5_1).f4)]] ?_
        with_reducible refine (laws_eqSet.calls ((rd_T127 l0 x5_1).f0) ((rd_T127 l0 x5_1).f1) ((rd_T127 l0 x5_1).f2) ((rd_T127 l0 x5_1).f3) ((rd_T127 l0 x5_1).f4) ((rd_T127 l1 x5_1).f0) ((rd_T127 l1 x5_1).f1) ((rd_T127 l1 x5_1).f2) ((rd_T127 l1 x5_1).f3) ((rd_T127 l1 x5_1).f4) false _ A7.out).mono ?_
        rintro e w12 ⟨rfl,hb⟩
        refine ⟨_,rfl,?_⟩
        replace HB := Aside0.mk (below_step b_ hb)
        (try clear hb)
        (try clear hb2)
        (try clear hk)
        (try clear hi)
        refine hK.out _ _ hh_ (fun hHeld => ?_)
        clear hK K
        refine nr_ (some 25) _ ?_
        refine pv_ 9 26 ?_
        refine done_ (done_of HT_.out (by kernel_rfl)) ?_
        try go_wp2
        go_ret
        exact ⟨rf_,b_⟩
      ·rw [if_neg c6] at H
       exact absurd H (by simp)
     ·rw [if_neg c5] at H
      exact absurd H (by simp)
    ·rw [if_neg c4] at H
     have c4b0 : decide (x5_1 < (l0.length : Int)) = false := decide_eq_false c4
     clear c4
     obtain rfl := Option.some.inj H
     go_wp2
     go_ret
     exact ⟨rf_,b_⟩
 ·rw [if_neg c3] at H
  have c3b0 : ((l0.length : Int) == (l1.length : Int)) = false := beq_eq_false_iff_ne.mpr c3
  have c3b1 : ((l0.length : Int) != (l1.length : Int)) = true := bne_iff_ne.mpr c3
  have c3b2 : (l0.length == l1.length) = false := by first|simpa using c3|(simp at c3 ⊢;omega)
  obtain rfl := Option.some.inj H
  go_enter Try.func69,Try.ntmps69
  go_wp2
  go_ret
  exact ⟨rf_,b_⟩

end Go.Proofs.Ythplaakckfhaaaa.XRp
