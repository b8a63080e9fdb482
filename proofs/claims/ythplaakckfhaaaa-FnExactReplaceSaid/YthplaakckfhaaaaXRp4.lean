/- Proved: of each Go function here that a call comes to what the Lean function of its name tells. Written by a program of this session over the translation. No conditions beyond each theorem's own. -/
import Derived.Test.YthplaakckfhaaaaXRp0
import Derived.Test.YthplaakckfhaaaaXRp3
namespace Go.Proofs.Ythplaakckfhaaaa.XRp
open Go.RowKit Go.Proofs.Ythplaakckfhaaaa.Aid Go.Proofs.YthplaakckfhaaaaW.PrintWords Go.Proofs.YthplaakckfhaaaaW.PrintLast Go.Proofs.YthplaakckfhaaaaW.PrintMore
set_option linter.unusedVariables false
set_option linter.unusedSimpArgs false

/-! ### laws_eqRecord: function 23 -/
def laws_eqRecord.f (k : Nat) (a0_0 : Int) (a0_1 : Int) (a0_2 : Int) (l0_3 : List (S127)) (a1_0 : Int) (a1_1 : Int) (a1_2 : Int) (l1_3 : List (S127)) : Option (Bool) := if a0_0 = a1_0 then (if a0_1 = a1_1 then (if a0_2 = a1_2 then ((laws_eqSetS.f k l0_3 l1_3).bind fun t203 => (if t203 = true then (some true) else (some false))) else (some false)) else (some false)) else (some false)

set_option maxHeartbeats 8000000 in
set_option maxRecDepth 100000 in
theorem laws_eqRecord.calls (k : Nat) (a0_0 : Int) (a0_1 : Int) (a0_2 : Int) (A0_3 : Option Addr) (c0_3 : Nat) (l0_3 : List (S127)) (a1_0 : Int) (a1_1 : Int) (a1_2 : Int) (A1_3 : Option Addr) (c1_3 : Nat) (l1_3 : List (S127)) (r : Bool) (w : World) (hr0_3 : Kd.C k127 w A0_3 l0_3.length l0_3) (hc0_3 : l0_3.length ≤ c0_3) (hr1_3 : Kd.C k127 w A1_3 l1_3.length l1_3) (hc1_3 : l1_3.length ≤ c1_3) (h : laws_eqRecord.f k a0_0 a0_1 a0_2 l0_3 a1_0 a1_1 a1_2 l1_3 = some r) :
    Calls Try.prog 23 #[.agg #[.int .i64 a0_0, .int .i64 a0_1, .int .i64 a0_2, .slice A0_3 l0_3.length c0_3], .agg #[.int .i64 a1_0, .int .i64 a1_1, .int .i64 a1_2, .slice A1_3 l1_3.length c1_3]] w fun e w' => e = .returned (.bool r) ∧ Below w.heap.size w w' := by
 have hu45 := Try.underlying45
 have HR0_3 := Aside0.mk hr0_3
 have HC0_3 := Aside0.mk hc0_3
 clear hr0_3 hc0_3
 have HR1_3 := Aside0.mk hr1_3
 have HC1_3 := Aside0.mk hc1_3
 clear hr1_3 hc1_3
 have HB := Aside0.mk (Below.refl w.heap.size w)
 have H : (if a0_0 = a1_0 then (if a0_1 = a1_1 then (if a0_2 = a1_2 then ((laws_eqSetS.f k l0_3 l1_3).bind fun t203 => (if t203 = true then (some true) else (some false))) else (some false)) else (some false)) else (some false)) = some r := h
 clear h
 by_cases c3 : a0_0 = a1_0
 ·rw [if_pos c3] at H
  have c3b0 : (a0_0 == a1_0) = true := beq_iff_eq.mpr c3
  have c3b1 : (a0_0 != a1_0) = false := bne_eq_false_iff_eq.mpr c3
  clear c3
  by_cases c4 : a0_1 = a1_1
  ·rw [if_pos c4] at H
   have c4b0 : (a0_1 == a1_1) = true := beq_iff_eq.mpr c4
   have c4b1 : (a0_1 != a1_1) = false := bne_eq_false_iff_eq.mpr c4
   clear c4
   by_cases c5 : a0_2 = a1_2
   ·rw [if_pos c5] at H
    have c5b0 : (a0_2 == a1_2) = true := beq_iff_eq.mpr c5
    have c5b1 : (a0_2 != a1_2) = false := bne_eq_false_iff_eq.mpr c5
    clear c5
    replace H := bs_ H
    obtain ⟨t203,A6,H⟩ := H
    by_cases c7 : t203 = true
    ·subst c7
     replace H := it_ H
     obtain rfl := Option.some.inj H
     go_enter Try.func23,Try.ntmps23
     go_wp2_with (first|((with_reducible refine gate_dst (N := 2) rfl ?_);refine bx_ 2 #[.int .i64 a0_0,.int .i64 a0_1,.int .i64 a0_2,.slice A0_3 l0_3.length c0_3] 45 ?_;intro gb201 hg w8 hbox hb;replace HB := nb_ hg hbox hb;obtain ⟨BK201,GW201,GE201,HB⟩ := HB;clear hb hbox hg)|((with_reducible refine gate_dst (N := 3) rfl ?_);refine bx_ 3 #[.int .i64 a1_0,.int .i64 a1_1,.int .i64 a1_2,.slice A1_3 l1_3.length c1_3] 45 ?_;intro gb202 hg w9 hbox hb;replace HB := nb_ hg hbox hb;obtain ⟨BK202,GW202,GE202,HB⟩ := HB;have NB201_202 := Aside0.mk ((nl_ BK201 hg));have NB202_201 := Aside0.mk ((ng_ BK201 hg));replace BK201 := Aside0.mk (blk_below (kb_ BK201) hb);clear hb hbox hg;have hnb10 := NB201_202.out;have hnc10 := NB202_201.out;obtain ⟨⟨hcz11_0,hcz11_1,hcz11_2,hcz11_3⟩,hfz11_0,hfz11_1,hfz11_2,hfz11_3⟩ := cl4_ BK201.out;obtain ⟨⟨hcz12_0,hcz12_1,hcz12_2,hcz12_3⟩,hfz12_0,hfz12_1,hfz12_2,hfz12_3⟩ := cl4_ BK202.out)|((with_reducible refine gcal_ (f := 69) rfl ?_);refine gl_ (some 24) Try.func69 #[.slice A0_3 l0_3.length c0_3,.slice A1_3 l1_3.length c1_3] ?_;(with_reducible refine (laws_eqSetS.calls k _ _ l0_3 _ _ l1_3 true _ ?side1 ?side2 ?side3 ?side4 A6.out).mono ?_);(case side1 => exact cb_ HR0_3);(case side2 => exact HC0_3.out);(case side3 => exact cb_ HR1_3);(case side4 => exact HC1_3.out);rintro e w13 ⟨rfl,hb⟩;refine ⟨_,rfl,?_⟩;replace BK201 := Aside0.mk (blk_below (kb_ BK201) hb);replace BK202 := Aside0.mk (blk_below (kb_ BK202) hb);replace HB := Aside0.mk (below_step b_ hb);(try clear hb);(try clear hb2);(try clear hk);(try clear hi)))
     go_ret
     exact ⟨rf_,b_⟩
    ·replace c7 := Bool.eq_false_iff.mpr c7
     subst c7
     replace H := ie_ H
     obtain rfl := Option.some.inj H
     go_enter Try.func23,Try.ntmps23
     go_wp2_with (first|((with_reducible refine gate_dst (N := 2) rfl ?_);refine bx_ 2 #[.int .i64 a0_0,.int .i64 a0_1,.int .i64 a0_2,.slice A0_3 l0_3.length c0_3] 45 ?_;intro gb201 hg w14 hbox hb;replace HB := nb_ hg hbox hb;obtain ⟨BK201,GW201,GE201,HB⟩ := HB;clear hb hbox hg)|((with_reducible refine gate_dst (N := 3) rfl ?_);refine bx_ 3 #[.int .i64 a1_0,.int .i64 a1_1,.int .i64 a1_2,.slice A1_3 l1_3.length c1_3] 45 ?_;intro gb202 hg w15 hbox hb;replace HB := nb_ hg hbox hb;obtain ⟨BK202,GW202,GE202,HB⟩ := HB;have NB201_202 := Aside0.mk ((nl_ BK201 hg));have NB202_201 := Aside0.mk ((ng_ BK201 hg));replace BK201 := Aside0.mk (blk_below (kb_ BK201) hb);clear hb hbox hg;have hnb16 := NB201_202.out;have hnc16 := NB202_201.out;obtain ⟨⟨hcz17_0,hcz17_1,hcz17_2,hcz17_3⟩,hfz17_0,hfz17_1,hfz17_2,hfz17_3⟩ := cl4_ BK201.out;obtain ⟨⟨hcz18_0,hcz18_1,hcz18_2,hcz18_3⟩,hfz18_0,hfz18_1,hfz18_2,hfz18_3⟩ := cl4_ BK202.out)|((with_reducible refine gcal_ (f := 69) rfl ?_);refine gl_ (some 24) Try.func69 #[.slice A0_3 l0_3.length c0_3,.slice A1_3 l1_3.length c1_3] ?_;(with_reducible refine (laws_eqSetS.calls k _ _ l0_3 _ _ l1_3 false _ ?side1 ?side2 ?side3 ?side4 A6.out).mono ?_);(case side1 => exact cb_ HR0_3);(case side2 => exact HC0_3.out);(case side3 => exact cb_ HR1_3);(case side4 => exact HC1_3.out);rintro e w19 ⟨rfl,hb⟩;refine ⟨_,rfl,?_⟩;replace BK201 := Aside0.mk (blk_below (kb_ BK201) hb);replace BK202 := Aside0.mk (blk_below (kb_ BK202) hb);replace HB := Aside0.mk (below_step b_ hb);(try clear hb);(try clear hb2);(try clear hk);(try clear hi)))
     go_ret
     exact ⟨rf_,b_⟩
   ·rw [if_neg c5] at H
    have c5b0 : (a0_2 == a1_2) = false := beq_eq_false_iff_ne.mpr c5
    have c5b1 : (a0_2 != a1_2) = true := bne_iff_ne.mpr c5
    obtain rfl := Option.some.inj H
    go_enter Try.func23,Try.ntmps23
    go_wp2_with (first|((with_reducible refine gate_dst (N := 2) rfl ?_);refine bx_ 2 #[.int .i64 a0_0,.int .i64 a0_1,.int .i64 a0_2,.slice A0_3 l0_3.length c0_3] 45 ?_;intro gb201 hg w20 hbox hb;replace HB := nb_ hg hbox hb;obtain ⟨BK201,GW201,GE201,HB⟩ := HB;clear hb hbox hg)|((with_reducible refine gate_dst (N := 3) rfl ?_);refine bx_ 3 #[.int .i64 a1_0,.int .i64 a1_1,.int .i64 a1_2,.slice A1_3 l1_3.length c1_3] 45 ?_;intro gb202 hg w21 hbox hb;replace HB := nb_ hg hbox hb;obtain ⟨BK202,GW202,GE202,HB⟩ := HB;have NB201_202 := Aside0.mk ((nl_ BK201 hg));have NB202_201 := Aside0.mk ((ng_ BK201 hg));replace BK201 := Aside0.mk (blk_below (kb_ BK201) hb);clear hb hbox hg;have hnb22 := NB201_202.out;have hnc22 := NB202_201.out;obtain ⟨⟨hcz23_0,hcz23_1,hcz23_2,hcz23_3⟩,hfz23_0,hfz23_1,hfz23_2,hfz23_3⟩ := cl4_ BK201.out;obtain ⟨⟨hcz24_0,hcz24_1,hcz24_2,hcz24_3⟩,hfz24_0,hfz24_1,hfz24_2,hfz24_3⟩ := cl4_ BK202.out))
    go_ret
    exact ⟨rf_,b_⟩
  ·rw [if_neg c4] at H
   have c4b0 : (a0_1 == a1_1) = false := beq_eq_false_iff_ne.mpr c4
   have c4b1 : (a0_1 != a1_1) = true := bne_iff_ne.mpr c4
   obtain rfl := Option.some.inj H
   go_enter Try.func23,Try.ntmps23
   go_wp2_with (first|((with_reducible refine gate_dst (N := 2) rfl ?_);refine bx_ 2 #[.int .i64 a0_0,.int .i64 a0_1,.int .i64 a0_2,.slice A0_3 l0_3.length c0_3] 45 ?_;intro gb201 hg w25 hbox hb;replace HB := nb_ hg hbox hb;obtain ⟨BK201,GW201,GE201,HB⟩ := HB;clear hb hbox hg)|((with_reducible refine gate_dst (N := 3) rfl ?_);refine bx_ 3 #[.int .i64 a1_0,.int .i64 a1_1,.int .i64 a1_2,.slice A1_3 l1_3.length c1_3] 45 ?_;intro gb202 hg w26 hbox hb;replace HB := nb_ hg hbox hb;obtain ⟨BK202,GW202,GE202,HB⟩ := HB;have NB201_202 := Aside0.mk ((nl_ BK201 hg));have NB202_201 := Aside0.mk ((ng_ BK201 hg));replace BK201 := Aside0.mk (blk_below (kb_ BK201) hb);clear hb hbox hg;have hnb27 := NB201_202.out;have hnc27 := NB202_201.out;obtain ⟨⟨hcz28_0,hcz28_1,hcz28_2,hcz28_3⟩,hfz28_0,hfz28_1,hfz28_2,hfz28_3⟩ := cl4_ BK201.out;obtain ⟨⟨hcz29_0,hcz29_1,hcz29_2,hcz29_3⟩,hfz29_0,hfz29_1,hfz29_2,hfz29_3⟩ := cl4_ BK202.out))
   go_ret
   exact ⟨rf_,b_⟩
 ·rw [if_neg c3] at H
  have c3b0 : (a0_0 == a1_0) = false := beq_eq_false_iff_ne.mpr c3
  have c3b1 : (a0_0 != a1_0) = true := bne_iff_ne.mpr c3
  obtain rfl := Option.some.inj H
  go_enter Try.func23,Try.ntmps23
  go_wp2_with (first|((with_reducible refine gate_dst (N := 2) rfl ?_);refine bx_ 2 #[.int .i64 a0_0,.int .i64 a0_1,.int .i64 a0_2,.slice A0_3 l0_3.length c0_3] 45 ?_;intro gb201 hg w30 hbox hb;replace HB := nb_ hg hbox hb;obtain ⟨BK201,GW201,GE201,HB⟩ := HB;clear hb hbox hg)|((with_reducible refine gate_dst (N := 3) rfl ?_);refine bx_ 3 #[.int .i64 a1_0,.int .i64 a1_1,.int .i64 a1_2,.slice A1_3 l1_3.length c1_3] 45 ?_;intro gb202 hg w31 hbox hb;replace HB := nb_ hg hbox hb;obtain ⟨BK202,GW202,GE202,HB⟩ := HB;have NB201_202 := Aside0.mk ((nl_ BK201 hg));have NB202_201 := Aside0.mk ((ng_ BK201 hg));replace BK201 := Aside0.mk (blk_below (kb_ BK201) hb);clear hb hbox hg;have hnb32 := NB201_202.out;have hnc32 := NB202_201.out;obtain ⟨⟨hcz33_0,hcz33_1,hcz33_2,hcz33_3⟩,hfz33_0,hfz33_1,hfz33_2,hfz33_3⟩ := cl4_ BK201.out;obtain ⟨⟨hcz34_0,hcz34_1,hcz34_2,hcz34_3⟩,hfz34_0,hfz34_1,hfz34_2,hfz34_3⟩ := cl4_ BK202.out))
  go_ret
  exact ⟨rf_,b_⟩

/-! ### laws_eqRecordS: function 55 -/
def laws_eqRecordS.l0 : Nat → List (S45) → List (S45) → Int → Option (Bool)
  | 0, _, _, _ => none
  | k + 1, x0, x1, x5 => if x5 < (x0.length : Int) then (if 0 ≤ x5 then (if x5 < (x1.length : Int) then ((laws_eqRecord.f k ((rd_T45 x0 x5).f0) ((rd_T45 x0 x5).f1) ((rd_T45 x0 x5).f2) ((rd_T45 x0 x5).f3) ((rd_T45 x1 x5).f0) ((rd_T45 x1 x5).f1) ((rd_T45 x1 x5).f2) ((rd_T45 x1 x5).f3)).bind fun t206 => (if t206 = true then (laws_eqRecordS.l0 k x0 x1 (wrap64 (x5 + 1))) else (some false))) else (none)) else (none)) else (some true)
def laws_eqRecordS.f (k : Nat) (l0 : List (S45)) (l1 : List (S45)) : Option (Bool) := if (l0.length : Int) = (l1.length : Int) then (laws_eqRecordS.l0 k l0 l1 0) else (some false)

def laws_eqRecordS.T6 : Bool × List (List Nat × List Nat) := (true, [([], []), ([], []), ([0, 1], [0, 1]), ([2], [2]), ([], []), ([], []), ([4, 5], [4, 5]), ([6], [6]), ([3, 7], [3, 7]), ([8], [8])])
def laws_eqRecordS.B6 : List Nat := [0, 0, 3, 7, 0, 0, 48, 112, 255, 511]
theorem laws_eqRecordS.tab6 : rtab .any (opsOf Try.f55 6) = laws_eqRecordS.T6 := by kernel_rfl
theorem laws_eqRecordS.bits6 : waitsOk laws_eqRecordS.T6.2 laws_eqRecordS.B6 = true := by kernel_rfl
set_option maxHeartbeats 8000000 in
set_option maxRecDepth 100000 in
theorem laws_eqRecordS.calls (k : Nat) (A0 : Option Addr) (c0 : Nat) (l0 : List (S45)) (A1 : Option Addr) (c1 : Nat) (l1 : List (S45)) (r : Bool) (w : World) (hr0 : Kd.C k45 w A0 l0.length l0) (hc0 : l0.length ≤ c0) (hr1 : Kd.C k45 w A1 l1.length l1) (hc1 : l1.length ≤ c1) (h : laws_eqRecordS.f k l0 l1 = some r) :
    Calls Try.prog 55 #[.slice A0 l0.length c0, .slice A1 l1.length c1] w fun e w' => e = .returned (.bool r) ∧ Below w.heap.size w w' := by
 have hu45 := Try.underlying45
 have HR0 := Aside0.mk hr0
 have HC0 := Aside0.mk hc0
 clear hr0 hc0
 have HR1 := Aside0.mk hr1
 have HC1 := Aside0.mk hc1
 clear hr1 hc1
 have HB := Aside0.mk (Below.refl w.heap.size w)
 have H : (if (l0.length : Int) = (l1.length : Int) then (laws_eqRecordS.l0 k l0 l1 0) else (some false)) = some r := h
 clear h
 by_cases c3 : (l0.length : Int) = (l1.length : Int)
 ·rw [if_pos c3] at H
  have c3b0 : ((l0.length : Int) == (l1.length : Int)) = true := beq_iff_eq.mpr c3
  have c3b1 : ((l0.length : Int) != (l1.length : Int)) = false := bne_eq_false_iff_eq.mpr c3
  have c3b2 : (l0.length == l1.length) = true := by first|simpa using c3|(simp at c3 ⊢;omega)
  clear c3
  have H' := Aside0.mk H
  clear H
  go_enter Try.func55,Try.ntmps55
  go_wp2
  go_loopg [5] k (fun kq v5 w' => ∃ (x5_1 : Int),v5 = .int .i64 x5_1 ∧ Aside0 (laws_eqRecordS.l0 kq l0 l1 x5_1 = some r) ∧ Aside0 (kq ≤ k) ∧ Aside0 (Below w.heap.size w w'))
  case atStart => exact ⟨(0),rs_,H',⟨Nat.le_refl _⟩,⟨b_⟩⟩
  case round =>
   clear H'
   try clear c1
   try clear p2
   try clear c3
   try clear c3b0
   try clear c3b1
   try clear c3b2
   obtain ⟨x5_1,rfl,HA,HK1,HB⟩ := hrel
   cases gk with
   | zero => exact absurd HA.out (by simp [laws_eqRecordS.l0])
   | succ k1 =>
    have H := HA.out
    clear HA
    simp only [laws_eqRecordS.l0] at H
    by_cases c4 : x5_1 < (l0.length : Int)
    ·rw [if_pos c4] at H
     have c4b0 : decide (x5_1 < (l0.length : Int)) = true := decide_eq_true c4
     clear c4
     by_cases c5 : 0 ≤ x5_1
     ·rw [if_pos c5] at H
      have c5b0 : decide (0 ≤ x5_1) = true := decide_eq_true c5
      clear c5
      by_cases c6 : x5_1 < (l1.length : Int)
      ·rw [if_pos c6] at H
       have c6b0 : decide (x5_1 < (l1.length : Int)) = true := decide_eq_true c6
       clear c6
       replace H := bs_ H
       obtain ⟨t206,A7,H⟩ := H
       by_cases c8 : t206 = true
       ·subst c8
        replace H := it_ H
        have H' := Aside0.mk H
        clear H
        try go_wp2
        replace HB := Aside0.mk (below_drew1 HB.out)
        have p204 : 0 ≤ (x5_1 : Int) := od_
        have q204 : x5_1 < (l0.length : Int) := od_
        obtain ⟨ad204,A204_3,c204_3,e204,hx204_0,hx204_1,hx204_2,hx204_3,hl204_3,hi204_3⟩ := at_T45 HR0.out x5_1 p204 q204
        have hw204_3 := hx204_3
        have hw204_2 := hx204_2
        have hw204_1 := hx204_1
        have hw204_0 := hx204_0
        cases e204
        replace hx204_0 := hx_ HB hx204_0
        replace hx204_1 := hx_ HB hx204_1
        replace hx204_2 := hx_ HB hx204_2
        replace hx204_3 := hx_ HB hx204_3
        have HR204_3 := Aside0.mk hi204_3
        have HC204_3 := Aside0.mk hl204_3
        clear hi204_3 hl204_3
        replace p204 := eq_true p204
        replace q204 := eq_true q204
        have p205 : 0 ≤ (x5_1 : Int) := od_
        have q205 : x5_1 < (l1.length : Int) := od_
        obtain ⟨ad205,A205_3,c205_3,e205,hx205_0,hx205_1,hx205_2,hx205_3,hl205_3,hi205_3⟩ := at_T45 HR1.out x5_1 p205 q205
        have hw205_3 := hx205_3
        have hw205_2 := hx205_2
        have hw205_1 := hx205_1
        have hw205_0 := hx205_0
        cases e205
        replace hx205_0 := hx_ HB hx205_0
        replace hx205_1 := hx_ HB hx205_1
        replace hx205_2 := hx_ HB hx205_2
        replace hx205_3 := hx_ HB hx205_3
        have HR205_3 := Aside0.mk hi205_3
        have HC205_3 := Aside0.mk hl205_3
        clear hi205_3 hl205_3
        replace p205 := eq_true p205
        replace q205 := eq_true q205
        refine st_ 10 (S := fun w' => he4 w' (ad204.add ((x5_1).toNat * 4)) (.int .i64 ((rd_T45 l0 x5_1).f0)) (.int .i64 ((rd_T45 l0 x5_1).f1)) (.int .i64 ((rd_T45 l0 x5_1).f2)) (.slice A204_3 ((rd_T45 l0 x5_1).f3).length c204_3) (hf4 w' (ad205.add ((x5_1).toNat * 4)) (.int .i64 ((rd_T45 l1 x5_1).f0)) (.int .i64 ((rd_T45 l1 x5_1).f1)) (.int .i64 ((rd_T45 l1 x5_1).f2)) (.slice A205_3 ((rd_T45 l1 x5_1).f3).length c205_3))) hh_ (fun hHeld => ?_);refine with_tabW laws_eqRecordS.tab6 laws_eqRecordS.bits6 (fun HT_ HW_ => ?_)
        generalize wr.drew = w9 at HB HR204_3 HR205_3 hx204_0 hx204_1 hx204_2 hx204_3 hx205_0 hx205_1 hx205_2 hx205_3 hHeld ⊢
        refine pv_ 0 17 ?_
        refine pv_ 1 18 ?_
        refine pv_ 2 19 ?_
        refine pv_ 4 21 ?_
        refine pv_ 5 22 ?_
        refine pv_ 6 23 ?_
        refine tx_ 3 20 hHeld ?_
        refine tx_ 7 24 hHeld ?_
        refine oy_ 8 25 (fun K hK => ?_)
        refine gs_ Try.func23 #[.agg #[.int .i64 ((rd_T45 l0 x5_1).f0),.int .i64 ((rd_T45 l0 x5_1).f1),.int .i64 ((rd_T45 l0 x5_1).f2),.slice A204_3 ((rd_T45 l0 x5_1).f3).length c204_3],.agg #[.int .i64 ((rd_T45 l1 x5_1).f0),.int .i64 ((rd_T45 l1 x5_1).f1),.int .i64 ((rd_T45 l1 x5_1).f2),.slice A205_3 ((rd_T45 l1 x5_1).f3).length c205_3]] ?_
        with_reducible refine (laws_eqRecord.calls k1 ((rd_T45 l0 x5_1).f0) ((rd_T45 l0 x5_1).f1) ((rd_T45 l0 x5_1).f2) _ _ ((rd_T45 l0 x5_1).f3) ((rd_T45 l1 x5_1).f0) ((rd_T45 l1 x5_1).f1) ((rd_T45 l1 x5_1).f2) _ _ ((rd_T45 l1 x5_1).f3) true _ ?side1 ?side2 ?side3 ?side4 A7.out).mono ?_
        (case side1 => exact cb_ HR204_3)
        (case side2 => exact HC204_3.out)
        (case side3 => exact cb_ HR205_3)
        (case side4 => exact HC205_3.out)
        rintro e w10 ⟨rfl,hb⟩
        refine ⟨_,rfl,?_⟩
        replace HB := Aside0.mk (below_step b_ hb)
        (try clear hb)
        (try clear hb2)
        (try clear hk)
        (try clear hi)
        refine hK.out _ _ hh_ (fun hHeld => ?_)
        clear hK K
        refine nr_ (some 25) _ ?_
        refine pv_ 9 26 ?_
        refine done_ (done_of HT_.out (by kernel_rfl)) ?_
        try go_wp2
        go_roundg k1
        case measure => have := HK1.out;omega
        case rel => exact ⟨(wrap64 (x5_1 + 1)),rs_,H',⟨by have := HK1.out;omega⟩,⟨b_⟩⟩
       ·replace c8 := Bool.eq_false_iff.mpr c8
        subst c8
        replace H := ie_ H
        obtain rfl := Option.some.inj H
        try go_wp2
        replace HB := Aside0.mk (below_drew1 HB.out)
        have p204 : 0 ≤ (x5_1 : Int) := od_
        have q204 : x5_1 < (l0.length : Int) := od_
        obtain ⟨ad204,A204_3,c204_3,e204,hx204_0,hx204_1,hx204_2,hx204_3,hl204_3,hi204_3⟩ := at_T45 HR0.out x5_1 p204 q204
        have hw204_3 := hx204_3
        have hw204_2 := hx204_2
        have hw204_1 := hx204_1
        have hw204_0 := hx204_0
        cases e204
        replace hx204_0 := hx_ HB hx204_0
        replace hx204_1 := hx_ HB hx204_1
        replace hx204_2 := hx_ HB hx204_2
        replace hx204_3 := hx_ HB hx204_3
        have HR204_3 := Aside0.mk hi204_3
        have HC204_3 := Aside0.mk hl204_3
        clear hi204_3 hl204_3
        replace p204 := eq_true p204
        replace q204 := eq_true q204
        have p205 : 0 ≤ (x5_1 : Int) := od_
        have q205 : x5_1 < (l1.length : Int) := od_
        obtain ⟨ad205,A205_3,c205_3,e205,hx205_0,hx205_1,hx205_2,hx205_3,hl205_3,hi205_3⟩ := at_T45 HR1.out x5_1 p205 q205
        have hw205_3 := hx205_3
        have hw205_2 := hx205_2
        have hw205_1 := hx205_1
        have hw205_0 := hx205_0
        cases e205
        replace hx205_0 := hx_ HB hx205_0
        replace hx205_1 := hx_ HB hx205_1
        replace hx205_2 := hx_ HB hx205_2
        replace hx205_3 := hx_ HB hx205_3
        have HR205_3 := Aside0.mk hi205_3
        have HC205_3 := Aside0.mk hl205_3
        clear hi205_3 hl205_3
        replace p205 := eq_true p205
        replace q205 := eq_true q205
        refine st_ 10 (S := fun w' => he4 w' (ad204.add ((x5_1).toNat * 4)) (.int .i64 ((rd_T45 l0 x5_1).f0)) (.int .i64 ((rd_T45 l0 x5_1).f1)) (.int .i64 ((rd_T45 l0 x5_1).f2)) (.slice A204_3 ((rd_T45 l0 x5_1).f3).length c204_3) (hf4 w' (ad205.add ((x5_1).toNat * 4)) (.int .i64 ((rd_T45 l1 x5_1).f0)) (.int .i64 ((rd_T45 l1 x5_1).f1)) (.int .i64 ((rd_T45 l1 x5_1).f2)) (.slice A205_3 ((rd_T45 l1 x5_1).f3).length c205_3))) hh_ (fun hHeld => ?_);refine with_tabW laws_eqRecordS.tab6 laws_eqRecordS.bits6 (fun HT_ HW_ => ?_)
        generalize wr.drew = w11 at HB HR204_3 HR205_3 hx204_0 hx204_1 hx204_2 hx204_3 hx205_0 hx205_1 hx205_2 hx205_3 hHeld ⊢
        refine pv_ 0 17 ?_
        refine pv_ 1 18 ?_
        refine pv_ 2 19 ?_
        refine pv_ 4 21 ?_
        refine pv_ 5 22 ?_
        refine pv_ 6 23 ?_
        refine tx_ 3 20 hHeld ?_
        refine tx_ 7 24 hHeld ?_
        refine oy_ 8 25 (fun K hK => ?_)
        refine gs_ Try.func23 #[.agg #[.int .i64 ((rd_T45 l0 x5_1).f0),.int .i64 ((rd_T45 l0 x5_1).f1),.int .i64 ((rd_T45 l0 x5_1).f2),.slice A204_3 ((rd_T45 l0 x5_1).f3).length c204_3],.agg #[.int .i64 ((rd_T45 l1 x5_1).f0),.int .i64 ((rd_T45 l1 x5_1).f1),.int .i64 ((rd_T45 l1 x5_1).f2),.slice A205_3 ((rd_T45 l1 x5_1).f3).length c205_3]] ?_
        with_reducible refine (laws_eqRecord.calls k1 ((rd_T45 l0 x5_1).f0) ((rd_T45 l0 x5_1).f1) ((rd_T45 l0 x5_1).f2) _ _ ((rd_T45 l0 x5_1).f3) ((rd_T45 l1 x5_1).f0) ((rd_T45 l1 x5_1).f1) ((rd_T45 l1 x5_1).f2) _ _ ((rd_T45 l1 x5_1).f3) false _ ?side1 ?side2 ?side3 ?side4 A7.out).mono ?_
        (case side1 => exact cb_ HR204_3)
        (case side2 => exact HC204_3.out)
        (case side3 => exact cb_ HR205_3)
        (case side4 => exact HC205_3.out)
        rintro e w12 ⟨rfl,hb⟩
        refine ⟨_,rfl,?_⟩
        replace HB := Aside0.mk (below_step b_ hb)
        (try clear hb)
        (try clear hb2)
        (try clear hk)
        (try clear hi)
        refine hK.out _ _ hh_ (fun hHeld => ?_)
        clear hK K
        refine nr_ (some 25) _ ?_
        refine pv_ 9 26 ?_
        refine done_ (done_of HT_.out (by kernel_rfl)) ?_
        try go_wp2
        go_ret
        exact ⟨rf_,b_⟩
      ·rw [if_neg c6] at H
       exact absurd H (by simp)
     ·rw [if_neg c5] at H
      exact absurd H (by simp)
    ·rw [if_neg c4] at H
     have c4b0 : decide (x5_1 < (l0.length : Int)) = false := decide_eq_false c4
     clear c4
     obtain rfl := Option.some.inj H
     go_wp2
     go_ret
     exact ⟨rf_,b_⟩
 ·rw [if_neg c3] at H
  have c3b0 : ((l0.length : Int) == (l1.length : Int)) = false := beq_eq_false_iff_ne.mpr c3
  have c3b1 : ((l0.length : Int) != (l1.length : Int)) = true := bne_iff_ne.mpr c3
  have c3b2 : (l0.length == l1.length) = false := by first|simpa using c3|(simp at c3 ⊢;omega)
  obtain rfl := Option.some.inj H
  go_enter Try.func55,Try.ntmps55
  go_wp2
  go_ret
  exact ⟨rf_,b_⟩

/-! ### laws_eqInt64S: function 56 -/
def laws_eqInt64S.l0 : Nat → List Int → List Int → Int → Option (Bool)
  | 0, _, _, _ => none
  | k + 1, x0, x1, x5 => if x5 < (x0.length : Int) then (if 0 ≤ x5 then (if x5 < (x1.length : Int) then (if (rd x0 x5) = (rd x1 x5) then (laws_eqInt64S.l0 k x0 x1 (wrap64 (x5 + 1))) else (some false)) else (none)) else (none)) else (some true)
def laws_eqInt64S.f (k : Nat) (l0 : List Int) (l1 : List Int) : Option (Bool) := if (l0.length : Int) = (l1.length : Int) then (laws_eqInt64S.l0 k l0 l1 0) else (some false)

set_option maxHeartbeats 8000000 in
set_option maxRecDepth 100000 in
theorem laws_eqInt64S.calls (k : Nat) (A0 : Option Addr) (c0 : Nat) (l0 : List Int) (A1 : Option Addr) (c1 : Nat) (l1 : List Int) (r : Bool) (w : World) (hr0 : Kd.C (Kd.int .i64) w A0 l0.length l0) (hc0 : l0.length ≤ c0) (hr1 : Kd.C (Kd.int .i64) w A1 l1.length l1) (hc1 : l1.length ≤ c1) (h : laws_eqInt64S.f k l0 l1 = some r) :
    Calls Try.prog 56 #[.slice A0 l0.length c0, .slice A1 l1.length c1] w fun e w' => e = .returned (.bool r) ∧ Drawn0 w w' := by
 have HR0 := Aside0.mk hr0
 have HC0 := Aside0.mk hc0
 clear hr0 hc0
 have HR1 := Aside0.mk hr1
 have HC1 := Aside0.mk hc1
 clear hr1 hc1
 have H : (if (l0.length : Int) = (l1.length : Int) then (laws_eqInt64S.l0 k l0 l1 0) else (some false)) = some r := h
 clear h
 by_cases c3 : (l0.length : Int) = (l1.length : Int)
 ·rw [if_pos c3] at H
  have c3b0 : ((l0.length : Int) == (l1.length : Int)) = true := beq_iff_eq.mpr c3
  have c3b1 : ((l0.length : Int) != (l1.length : Int)) = false := bne_eq_false_iff_eq.mpr c3
  have c3b2 : (l0.length == l1.length) = true := by first|simpa using c3|(simp at c3 ⊢;omega)
  clear c3
  have H' := Aside0.mk H
  clear H
  go_enter Try.func56,Try.ntmps56
  go_wp2
  repeat (go_quiet (fail);try go_wp2)
  go_loopg [5] k (fun kq v5 w' => ∃ (x5_1 : Int),v5 = .int .i64 x5_1 ∧ Aside0 (laws_eqInt64S.l0 kq l0 l1 x5_1 = some r) ∧ Aside0 (kq ≤ k) ∧ Drawn0 w w')
  case atStart => exact ⟨(0),rs_,H',⟨Nat.le_refl _⟩,by repeat (first|exact Drawn0.refl _|apply Drawn0.step)⟩
  case round =>
   clear H'
   try clear c1
   try clear p2
   try clear c3
   try clear c3b0
   try clear c3b1
   try clear c3b2
   obtain ⟨x5_1,rfl,HA,HK1,⟨m1,rfl⟩⟩ := hrel
   cases gk with
   | zero => exact absurd HA.out (by simp [laws_eqInt64S.l0])
   | succ k1 =>
    have H := HA.out
    clear HA
    simp only [laws_eqInt64S.l0] at H
    by_cases c4 : x5_1 < (l0.length : Int)
    ·rw [if_pos c4] at H
     have c4b0 : decide (x5_1 < (l0.length : Int)) = true := decide_eq_true c4
     clear c4
     by_cases c5 : 0 ≤ x5_1
     ·rw [if_pos c5] at H
      have c5b0 : decide (0 ≤ x5_1) = true := decide_eq_true c5
      clear c5
      by_cases c6 : x5_1 < (l1.length : Int)
      ·rw [if_pos c6] at H
       have c6b0 : decide (x5_1 < (l1.length : Int)) = true := decide_eq_true c6
       clear c6
       by_cases c7 : (rd l0 x5_1) = (rd l1 x5_1)
       ·rw [if_pos c7] at H
        have c7b0 : ((rd l0 x5_1) == (rd l1 x5_1)) = true := beq_iff_eq.mpr c7
        have c7b1 : ((rd l0 x5_1) != (rd l1 x5_1)) = false := bne_eq_false_iff_eq.mpr c7
        clear c7
        have H' := Aside0.mk H
        clear H
        have p207 : 0 ≤ (x5_1 : Int) := od_
        have q207 : x5_1 < (l0.length : Int) := od_
        obtain ⟨ad207,e207,hx207_0⟩ := Kd.at_int HR0.out x5_1 p207 q207
        cases e207
        replace p207 := eq_true p207
        replace q207 := eq_true q207
        have p208 : 0 ≤ (x5_1 : Int) := od_
        have q208 : x5_1 < (l1.length : Int) := od_
        obtain ⟨ad208,e208,hx208_0⟩ := Kd.at_int HR1.out x5_1 p208 q208
        cases e208
        replace p208 := eq_true p208
        replace q208 := eq_true q208
        go_wp2
        repeat (go_quiet (fail);try go_wp2)
        go_roundg k1
        case measure => have := HK1.out;omega
        case rel => exact ⟨(wrap64 (x5_1 + 1)),rs_,H',⟨by have := HK1.out;omega⟩,by repeat (first|exact Drawn0.refl _|apply Drawn0.step)⟩
       ·rw [if_neg c7] at H
        have c7b0 : ((rd l0 x5_1) == (rd l1 x5_1)) = false := beq_eq_false_iff_ne.mpr c7
        have c7b1 : ((rd l0 x5_1) != (rd l1 x5_1)) = true := bne_iff_ne.mpr c7
        obtain rfl := Option.some.inj H
        have p207 : 0 ≤ (x5_1 : Int) := od_
        have q207 : x5_1 < (l0.length : Int) := od_
        obtain ⟨ad207,e207,hx207_0⟩ := Kd.at_int HR0.out x5_1 p207 q207
        cases e207
        replace p207 := eq_true p207
        replace q207 := eq_true q207
        have p208 : 0 ≤ (x5_1 : Int) := od_
        have q208 : x5_1 < (l1.length : Int) := od_
        obtain ⟨ad208,e208,hx208_0⟩ := Kd.at_int HR1.out x5_1 p208 q208
        cases e208
        replace p208 := eq_true p208
        replace q208 := eq_true q208
        go_wp2
        repeat (go_quiet (fail);try go_wp2)
        go_ret
        exact ⟨rs_,by repeat (first|exact Drawn0.refl _|apply Drawn0.step)⟩
      ·rw [if_neg c6] at H
       exact absurd H (by simp)
     ·rw [if_neg c5] at H
      exact absurd H (by simp)
    ·rw [if_neg c4] at H
     have c4b0 : decide (x5_1 < (l0.length : Int)) = false := decide_eq_false c4
     clear c4
     obtain rfl := Option.some.inj H
     go_wp2
     repeat (go_quiet (fail);try go_wp2)
     go_ret
     exact ⟨rs_,by repeat (first|exact Drawn0.refl _|apply Drawn0.step)⟩
 ·rw [if_neg c3] at H
  have c3b0 : ((l0.length : Int) == (l1.length : Int)) = false := beq_eq_false_iff_ne.mpr c3
  have c3b1 : ((l0.length : Int) != (l1.length : Int)) = true := bne_iff_ne.mpr c3
  have c3b2 : (l0.length == l1.length) = false := by first|simpa using c3|(simp at c3 ⊢;omega)
  obtain rfl := Option.some.inj H
  go_enter Try.func56,Try.ntmps56
  go_wp2
  repeat (go_quiet (fail);try go_wp2)
  go_ret
  exact ⟨rs_,by repeat (first|exact Drawn0.refl _|apply Drawn0.step)⟩

/-! ### laws_eqMachine: function 14 -/
def laws_eqMachine.f (k : Nat) (a0_0 : Bool) (l0_1 : List (S79)) (l0_2 : List (S45)) (l0_3 : List Int) (a1_0 : Bool) (l1_1 : List (S79)) (l1_2 : List (S45)) (l1_3 : List Int) : Option (Bool) := if (a0_0 != a1_0) = true then (some false) else ((laws_eqCopyS.f k l0_1 l1_1).bind fun t211 => (if t211 = true then ((laws_eqRecordS.f k l0_2 l1_2).bind fun t212 => (if t212 = true then ((laws_eqInt64S.f k l0_3 l1_3).bind fun t213 => (if t213 = true then (some true) else (some false))) else (some false))) else (some false)))

set_option maxHeartbeats 8000000 in
set_option maxRecDepth 100000 in
theorem laws_eqMachine.calls (k : Nat) (a0_0 : Bool) (A0_1 : Option Addr) (c0_1 : Nat) (l0_1 : List (S79)) (A0_2 : Option Addr) (c0_2 : Nat) (l0_2 : List (S45)) (A0_3 : Option Addr) (c0_3 : Nat) (l0_3 : List Int) (a1_0 : Bool) (A1_1 : Option Addr) (c1_1 : Nat) (l1_1 : List (S79)) (A1_2 : Option Addr) (c1_2 : Nat) (l1_2 : List (S45)) (A1_3 : Option Addr) (c1_3 : Nat) (l1_3 : List Int) (r : Bool) (w : World) (hr0_1 : Kd.C k79 w A0_1 l0_1.length l0_1) (hc0_1 : l0_1.length ≤ c0_1) (hr0_2 : Kd.C k45 w A0_2 l0_2.length l0_2) (hc0_2 : l0_2.length ≤ c0_2) (hr0_3 : Kd.C (Kd.int .i64) w A0_3 l0_3.length l0_3) (hc0_3 : l0_3.length ≤ c0_3) (hr1_1 : Kd.C k79 w A1_1 l1_1.length l1_1) (hc1_1 : l1_1.length ≤ c1_1) (hr1_2 : Kd.C k45 w A1_2 l1_2.length l1_2) (hc1_2 : l1_2.length ≤ c1_2) (hr1_3 : Kd.C (Kd.int .i64) w A1_3 l1_3.length l1_3) (hc1_3 : l1_3.length ≤ c1_3) (h : laws_eqMachine.f k a0_0 l0_1 l0_2 l0_3 a1_0 l1_1 l1_2 l1_3 = some r) :
    Calls Try.prog 14 #[.agg #[.bool a0_0, .slice A0_1 l0_1.length c0_1, .slice A0_2 l0_2.length c0_2, .slice A0_3 l0_3.length c0_3], .agg #[.bool a1_0, .slice A1_1 l1_1.length c1_1, .slice A1_2 l1_2.length c1_2, .slice A1_3 l1_3.length c1_3]] w fun e w' => e = .returned (.bool r) ∧ Below w.heap.size w w' := by
 have hu32 := Try.underlying32
 have HR0_1 := Aside0.mk hr0_1
 have HC0_1 := Aside0.mk hc0_1
 clear hr0_1 hc0_1
 have HR0_2 := Aside0.mk hr0_2
 have HC0_2 := Aside0.mk hc0_2
 clear hr0_2 hc0_2
 have HR0_3 := Aside0.mk hr0_3
 have HC0_3 := Aside0.mk hc0_3
 clear hr0_3 hc0_3
 have HR1_1 := Aside0.mk hr1_1
 have HC1_1 := Aside0.mk hc1_1
 clear hr1_1 hc1_1
 have HR1_2 := Aside0.mk hr1_2
 have HC1_2 := Aside0.mk hc1_2
 clear hr1_2 hc1_2
 have HR1_3 := Aside0.mk hr1_3
 have HC1_3 := Aside0.mk hc1_3
 clear hr1_3 hc1_3
 have HB := Aside0.mk (Below.refl w.heap.size w)
 have H : (if (a0_0 != a1_0) = true then (some false) else ((laws_eqCopyS.f k l0_1 l1_1).bind fun t211 => (if t211 = true then ((laws_eqRecordS.f k l0_2 l1_2).bind fun t212 => (if t212 = true then ((laws_eqInt64S.f k l0_3 l1_3).bind fun t213 => (if t213 = true then (some true) else (some false))) else (some false))) else (some false)))) = some r := h
 clear h
 by_cases c3 : (a0_0 != a1_0) = true
 ·rw [if_pos c3] at H
  have c3b0 : (a0_0 != a1_0) = true := c3
  (try (have c3b1 : decide (a0_0 = a1_0) = false := by simpa using c3))
  (try (have c3b2 : (a0_0 == a1_0) = false := by simpa using c3))
  (try (have c3b3 : ¬ (a0_0 = a1_0) := by simpa using c3))
  clear c3
  obtain rfl := Option.some.inj H
  go_enter Try.func14,Try.ntmps14
  go_wp2_with (first|((with_reducible refine gate_dst (N := 2) rfl ?_);refine bx_ 2 #[.bool a0_0,.slice A0_1 l0_1.length c0_1,.slice A0_2 l0_2.length c0_2,.slice A0_3 l0_3.length c0_3] 32 ?_;intro gb209 hg w4 hbox hb;replace HB := nb_ hg hbox hb;obtain ⟨BK209,GW209,GE209,HB⟩ := HB;clear hb hbox hg)|((with_reducible refine gate_dst (N := 3) rfl ?_);refine bx_ 3 #[.bool a1_0,.slice A1_1 l1_1.length c1_1,.slice A1_2 l1_2.length c1_2,.slice A1_3 l1_3.length c1_3] 32 ?_;intro gb210 hg w5 hbox hb;replace HB := nb_ hg hbox hb;obtain ⟨BK210,GW210,GE210,HB⟩ := HB;have NB209_210 := Aside0.mk ((nl_ BK209 hg));have NB210_209 := Aside0.mk ((ng_ BK209 hg));replace BK209 := Aside0.mk (blk_below (kb_ BK209) hb);clear hb hbox hg;have hnb6 := NB209_210.out;have hnc6 := NB210_209.out;obtain ⟨⟨hcz7_0,hcz7_1,hcz7_2,hcz7_3⟩,hfz7_0,hfz7_1,hfz7_2,hfz7_3⟩ := cl4_ BK209.out;obtain ⟨⟨hcz8_0,hcz8_1,hcz8_2,hcz8_3⟩,hfz8_0,hfz8_1,hfz8_2,hfz8_3⟩ := cl4_ BK210.out))
  go_ret
  exact ⟨rf_,b_⟩
 ·rw [if_neg c3] at H
  have c3b0 : (a0_0 != a1_0) = false := by simpa using c3
  (try (have c3b1 : decide (a0_0 = a1_0) = true := by simpa using c3))
  (try (have c3b2 : (a0_0 == a1_0) = true := by simpa using c3))
  clear c3
  replace H := bs_ H
  obtain ⟨t211,A9,H⟩ := H
  by_cases c10 : t211 = true
  ·subst c10
   replace H := it_ H
   replace H := bs_ H
   obtain ⟨t212,A11,H⟩ := H
   by_cases c12 : t212 = true
   ·subst c12
    replace H := it_ H
    replace H := bs_ H
    obtain ⟨t213,A13,H⟩ := H
    by_cases c14 : t213 = true
    ·subst c14
     replace H := it_ H
     obtain rfl := Option.some.inj H
     go_enter Try.func14,Try.ntmps14
     go_wp2_with (first|((with_reducible refine gate_dst (N := 2) rfl ?_);refine bx_ 2 #[.bool a0_0,.slice A0_1 l0_1.length c0_1,.slice A0_2 l0_2.length c0_2,.slice A0_3 l0_3.length c0_3] 32 ?_;intro gb209 hg w15 hbox hb;replace HB := nb_ hg hbox hb;obtain ⟨BK209,GW209,GE209,HB⟩ := HB;clear hb hbox hg)|((with_reducible refine gate_dst (N := 3) rfl ?_);refine bx_ 3 #[.bool a1_0,.slice A1_1 l1_1.length c1_1,.slice A1_2 l1_2.length c1_2,.slice A1_3 l1_3.length c1_3] 32 ?_;intro gb210 hg w16 hbox hb;replace HB := nb_ hg hbox hb;obtain ⟨BK210,GW210,GE210,HB⟩ := HB;have NB209_210 := Aside0.mk ((nl_ BK209 hg));have NB210_209 := Aside0.mk ((ng_ BK209 hg));replace BK209 := Aside0.mk (blk_below (kb_ BK209) hb);clear hb hbox hg;have hnb17 := NB209_210.out;have hnc17 := NB210_209.out;obtain ⟨⟨hcz18_0,hcz18_1,hcz18_2,hcz18_3⟩,hfz18_0,hfz18_1,hfz18_2,hfz18_3⟩ := cl4_ BK209.out;obtain ⟨⟨hcz19_0,hcz19_1,hcz19_2,hcz19_3⟩,hfz19_0,hfz19_1,hfz19_2,hfz19_3⟩ := cl4_ BK210.out)|((with_reducible refine gcal_ (f := 54) rfl ?_);refine gl_ (some 14) Try.func54 #[.slice A0_1 l0_1.length c0_1,.slice A1_1 l1_1.length c1_1] ?_;(with_reducible refine (laws_eqCopyS.calls k _ _ l0_1 _ _ l1_1 true _ ?side1 ?side2 ?side3 ?side4 A9.out).mono ?_);(case side1 => exact cb_ HR0_1);(case side2 => exact HC0_1.out);(case side3 => exact cb_ HR1_1);(case side4 => exact HC1_1.out);rintro e w20 ⟨rfl,hb⟩;refine ⟨_,rfl,?_⟩;replace BK209 := Aside0.mk (blk_below (kb_ BK209) hb);replace BK210 := Aside0.mk (blk_below (kb_ BK210) hb);replace HB := Aside0.mk (below_step b_ hb);(try clear hb);(try clear hb2);(try clear hk);(try clear hi);obtain ⟨⟨hcz21_0,hcz21_1,hcz21_2,hcz21_3⟩,hfz21_0,hfz21_1,hfz21_2,hfz21_3⟩ := cl4_ BK209.out;obtain ⟨⟨hcz22_0,hcz22_1,hcz22_2,hcz22_3⟩,hfz22_0,hfz22_1,hfz22_2,hfz22_3⟩ := cl4_ BK210.out)|((with_reducible refine gcal_ (f := 55) rfl ?_);refine gl_ (some 20) Try.func55 #[.slice A0_2 l0_2.length c0_2,.slice A1_2 l1_2.length c1_2] ?_;(with_reducible refine (laws_eqRecordS.calls k _ _ l0_2 _ _ l1_2 true _ ?side1 ?side2 ?side3 ?side4 A11.out).mono ?_);(case side1 => exact cb_ HR0_2);(case side2 => exact HC0_2.out);(case side3 => exact cb_ HR1_2);(case side4 => exact HC1_2.out);rintro e w23 ⟨rfl,hb⟩;refine ⟨_,rfl,?_⟩;replace BK209 := Aside0.mk (blk_below (kb_ BK209) hb);replace BK210 := Aside0.mk (blk_below (kb_ BK210) hb);replace HB := Aside0.mk (below_step b_ hb);(try clear hb);(try clear hb2);(try clear hk);(try clear hi);obtain ⟨⟨hcz24_0,hcz24_1,hcz24_2,hcz24_3⟩,hfz24_0,hfz24_1,hfz24_2,hfz24_3⟩ := cl4_ BK209.out;obtain ⟨⟨hcz25_0,hcz25_1,hcz25_2,hcz25_3⟩,hfz25_0,hfz25_1,hfz25_2,hfz25_3⟩ := cl4_ BK210.out)|((with_reducible refine gcal_ (f := 56) rfl ?_);refine gl_ (some 26) Try.func56 #[.slice A0_3 l0_3.length c0_3,.slice A1_3 l1_3.length c1_3] ?_;(with_reducible refine (laws_eqInt64S.calls k _ _ l0_3 _ _ l1_3 true _ ?side1 ?side2 ?side3 ?side4 A13.out).mono ?_);(case side1 => exact cb_ HR0_3);(case side2 => exact HC0_3.out);(case side3 => exact cb_ HR1_3);(case side4 => exact HC1_3.out);rintro e w' ⟨rfl,⟨nd,rfl⟩⟩;refine ⟨_,rfl,?_⟩))
     go_ret
     exact ⟨rf_,b_⟩
    ·replace c14 := Bool.eq_false_iff.mpr c14
     subst c14
     replace H := ie_ H
     obtain rfl := Option.some.inj H
     go_enter Try.func14,Try.ntmps14
     go_wp2_with (first|((with_reducible refine gate_dst (N := 2) rfl ?_);refine bx_ 2 #[.bool a0_0,.slice A0_1 l0_1.length c0_1,.slice A0_2 l0_2.length c0_2,.slice A0_3 l0_3.length c0_3] 32 ?_;intro gb209 hg w26 hbox hb;replace HB := nb_ hg hbox hb;obtain ⟨BK209,GW209,GE209,HB⟩ := HB;clear hb hbox hg)|((with_reducible refine gate_dst (N := 3) rfl ?_);refine bx_ 3 #[.bool a1_0,.slice A1_1 l1_1.length c1_1,.slice A1_2 l1_2.length c1_2,.slice A1_3 l1_3.length c1_3] 32 ?_;intro gb210 hg w27 hbox hb;replace HB := nb_ hg hbox hb;obtain ⟨BK210,GW210,GE210,HB⟩ := HB;have NB209_210 := Aside0.mk ((nl_ BK209 hg));have NB210_209 := Aside0.mk ((ng_ BK209 hg));replace BK209 := Aside0.mk (blk_below (kb_ BK209) hb);clear hb hbox hg;have hnb28 := NB209_210.out;have hnc28 := NB210_209.out;obtain ⟨⟨hcz29_0,hcz29_1,hcz29_2,hcz29_3⟩,hfz29_0,hfz29_1,hfz29_2,hfz29_3⟩ := cl4_ BK209.out;obtain ⟨⟨hcz30_0,hcz30_1,hcz30_2,hcz30_3⟩,hfz30_0,hfz30_1,hfz30_2,hfz30_3⟩ := cl4_ BK210.out)|((with_reducible refine gcal_ (f := 54) rfl ?_);refine gl_ (some 14) Try.func54 #[.slice A0_1 l0_1.length c0_1,.slice A1_1 l1_1.length c1_1] ?_;(with_reducible refine (laws_eqCopyS.calls k _ _ l0_1 _ _ l1_1 true _ ?side1 ?side2 ?side3 ?side4 A9.out).mono ?_);(case side1 => exact cb_ HR0_1);(case side2 => exact HC0_1.out);(case side3 => exact cb_ HR1_1);(case side4 => exact HC1_1.out);rintro e w31 ⟨rfl,hb⟩;refine ⟨_,rfl,?_⟩;replace BK209 := Aside0.mk (blk_below (kb_ BK209) hb);replace BK210 := Aside0.mk (blk_below (kb_ BK210) hb);replace HB := Aside0.mk (below_step b_ hb);(try clear hb);(try clear hb2);(try clear hk);(try clear hi);obtain ⟨⟨hcz32_0,hcz32_1,hcz32_2,hcz32_3⟩,hfz32_0,hfz32_1,hfz32_2,hfz32_3⟩ := cl4_ BK209.out;obtain ⟨⟨hcz33_0,hcz33_1,hcz33_2,hcz33_3⟩,hfz33_0,hfz33_1,hfz33_2,hfz33_3⟩ := cl4_ BK210.out)|((with_reducible refine gcal_ (f := 55) rfl ?_);refine gl_ (some 20) Try.func55 #[.slice A0_2 l0_2.length c0_2,.slice A1_2 l1_2.length c1_2] ?_;(with_reducible refine (laws_eqRecordS.calls k _ _ l0_2 _ _ l1_2 true _ ?side1 ?side2 ?side3 ?side4 A11.out).mono ?_);(case side1 => exact cb_ HR0_2);(case side2 => exact HC0_2.out);(case side3 => exact cb_ HR1_2);(case side4 => exact HC1_2.out);rintro e w34 ⟨rfl,hb⟩;refine ⟨_,rfl,?_⟩;replace BK209 := Aside0.mk (blk_below (kb_ BK209) hb);replace BK210 := Aside0.mk (blk_below (kb_ BK210) hb);replace HB := Aside0.mk (below_step b_ hb);(try clear hb);(try clear hb2);(try clear hk);(try clear hi);obtain ⟨⟨hcz35_0,hcz35_1,hcz35_2,hcz35_3⟩,hfz35_0,hfz35_1,hfz35_2,hfz35_3⟩ := cl4_ BK209.out;obtain ⟨⟨hcz36_0,hcz36_1,hcz36_2,hcz36_3⟩,hfz36_0,hfz36_1,hfz36_2,hfz36_3⟩ := cl4_ BK210.out)|((with_reducible refine gcal_ (f := 56) rfl ?_);refine gl_ (some 26) Try.func56 #[.slice A0_3 l0_3.length c0_3,.slice A1_3 l1_3.length c1_3] ?_;(with_reducible refine (laws_eqInt64S.calls k _ _ l0_3 _ _ l1_3 false _ ?side1 ?side2 ?side3 ?side4 A13.out).mono ?_);(case side1 => exact cb_ HR0_3);(case side2 => exact HC0_3.out);(case side3 => exact cb_ HR1_3);(case side4 => exact HC1_3.out);rintro e w' ⟨rfl,⟨nd,rfl⟩⟩;refine ⟨_,rfl,?_⟩))
     go_ret
     exact ⟨rf_,b_⟩
   ·replace c12 := Bool.eq_false_iff.mpr c12
    subst c12
    replace H := ie_ H
    obtain rfl := Option.some.inj H
    go_enter Try.func14,Try.ntmps14
    go_wp2_with (first|((with_reducible refine gate_dst (N := 2) rfl ?_);refine bx_ 2 #[.bool a0_0,.slice A0_1 l0_1.length c0_1,.slice A0_2 l0_2.length c0_2,.slice A0_3 l0_3.length c0_3] 32 ?_;intro gb209 hg w37 hbox hb;replace HB := nb_ hg hbox hb;obtain ⟨BK209,GW209,GE209,HB⟩ := HB;clear hb hbox hg)|((with_reducible refine gate_dst (N := 3) rfl ?_);refine bx_ 3 #[.bool a1_0,.slice A1_1 l1_1.length c1_1,.slice A1_2 l1_2.length c1_2,.slice A1_3 l1_3.length c1_3] 32 ?_;intro gb210 hg w38 hbox hb;replace HB := nb_ hg hbox hb;obtain ⟨BK210,GW210,GE210,HB⟩ := HB;have NB209_210 := Aside0.mk ((nl_ BK209 hg));have NB210_209 := Aside0.mk ((ng_ BK209 hg));replace BK209 := Aside0.mk (blk_below (kb_ BK209) hb);clear hb hbox hg;have hnb39 := NB209_210.out;have hnc39 := NB210_209.out;obtain ⟨⟨hcz40_0,hcz40_1,hcz40_2,hcz40_3⟩,hfz40_0,hfz40_1,hfz40_2,hfz40_3⟩ := cl4_ BK209.out;obtain ⟨⟨hcz41_0,hcz41_1,hcz41_2,hcz41_3⟩,hfz41_0,hfz41_1,hfz41_2,hfz41_3⟩ := cl4_ BK210.out)|((with_reducible refine gcal_ (f := 54) rfl ?_);refine gl_ (some 14) Try.func54 #[.slice A0_1 l0_1.length c0_1,.slice A1_1 l1_1.length c1_1] ?_;(with_reducible refine (laws_eqCopyS.calls k _ _ l0_1 _ _ l1_1 true _ ?side1 ?side2 ?side3 ?side4 A9.out).mono ?_);(case side1 => exact cb_ HR0_1);(case side2 => exact HC0_1.out);(case side3 => exact cb_ HR1_1);(case side4 => exact HC1_1.out);rintro e w42 ⟨rfl,hb⟩;refine ⟨_,rfl,?_⟩;replace BK209 := Aside0.mk (blk_below (kb_ BK209) hb);replace BK210 := Aside0.mk (blk_below (kb_ BK210) hb);replace HB := Aside0.mk (below_step b_ hb);(try clear hb);(try clear hb2);(try clear hk);(try clear hi);obtain ⟨⟨hcz43_0,hcz43_1,hcz43_2,hcz43_3⟩,hfz43_0,hfz43_1,hfz43_2,hfz43_3⟩ := cl4_ BK209.out;obtain ⟨⟨hcz44_0,hcz44_1,hcz44_2,hcz44_3⟩,hfz44_0,hfz44_1,hfz44_2,hfz44_3⟩ := cl4_ BK210.out)|((with_reducible refine gcal_ (f := 55) rfl ?_);refine gl_ (some 20) Try.func55 #[.slice A0_2 l0_2.length c0_2,.slice A1_2 l1_2.length c1_2] ?_;(with_reducible refine (laws_eqRecordS.calls k _ _ l0_2 _ _ l1_2 false _ ?side1 ?side2 ?side3 ?side4 A11.out).mono ?_);(case side1 => exact cb_ HR0_2);(case side2 => exact HC0_2.out);(case side3 => exact cb_ HR1_2);(case side4 => exact HC1_2.out);rintro e w45 ⟨rfl,hb⟩;refine ⟨_,rfl,?_⟩;replace BK209 := Aside0.mk (blk_below (kb_ BK209) hb);replace BK210 := Aside0.mk (blk_below (kb_ BK210) hb);replace HB := Aside0.mk (below_step b_ hb);(try clear hb);(try clear hb2);(try clear hk);(try clear hi)))
    go_ret
    exact ⟨rf_,b_⟩
  ·replace c10 := Bool.eq_false_iff.mpr c10
   subst c10
   replace H := ie_ H
   obtain rfl := Option.some.inj H
   go_enter Try.func14,Try.ntmps14
   go_wp2_with (first|((with_reducible refine gate_dst (N := 2) rfl ?_);refine bx_ 2 #[.bool a0_0,.slice A0_1 l0_1.length c0_1,.slice A0_2 l0_2.length c0_2,.slice A0_3 l0_3.length c0_3] 32 ?_;intro gb209 hg w46 hbox hb;replace HB := nb_ hg hbox hb;obtain ⟨BK209,GW209,GE209,HB⟩ := HB;clear hb hbox hg)|((with_reducible refine gate_dst (N := 3) rfl ?_);refine bx_ 3 #[.bool a1_0,.slice A1_1 l1_1.length c1_1,.slice A1_2 l1_2.length c1_2,.slice A1_3 l1_3.length c1_3] 32 ?_;intro gb210 hg w47 hbox hb;replace HB := nb_ hg hbox hb;obtain ⟨BK210,GW210,GE210,HB⟩ := HB;have NB209_210 := Aside0.mk ((nl_ BK209 hg));have NB210_209 := Aside0.mk ((ng_ BK209 hg));replace BK209 := Aside0.mk (blk_below (kb_ BK209) hb);clear hb hbox hg;have hnb48 := NB209_210.out;have hnc48 := NB210_209.out;obtain ⟨⟨hcz49_0,hcz49_1,hcz49_2,hcz49_3⟩,hfz49_0,hfz49_1,hfz49_2,hfz49_3⟩ := cl4_ BK209.out;obtain ⟨⟨hcz50_0,hcz50_1,hcz50_2,hcz50_3⟩,hfz50_0,hfz50_1,hfz50_2,hfz50_3⟩ := cl4_ BK210.out)|((with_reducible refine gcal_ (f := 54) rfl ?_);refine gl_ (some 14) Try.func54 #[.slice A0_1 l0_1.length c0_1,.slice A1_1 l1_1.length c1_1] ?_;(with_reducible refine (laws_eqCopyS.calls k _ _ l0_1 _ _ l1_1 false _ ?side1 ?side2 ?side3 ?side4 A9.out).mono ?_);(case side1 => exact cb_ HR0_1);(case side2 => exact HC0_1.out);(case side3 => exact cb_ HR1_1);(case side4 => exact HC1_1.out);rintro e w51 ⟨rfl,hb⟩;refine ⟨_,rfl,?_⟩;replace BK209 := Aside0.mk (blk_below (kb_ BK209) hb);replace BK210 := Aside0.mk (blk_below (kb_ BK210) hb);replace HB := Aside0.mk (below_step b_ hb);(try clear hb);(try clear hb2);(try clear hk);(try clear hi)))
   go_ret
   exact ⟨rf_,b_⟩

/-! ### laws_markCellS: function 19 -/
def laws_markCellS.l0 : Nat → List (S92) → Int → Int → Option (Int × (List (S92)))
  | 0, _, _, _ => none
  | k + 1, x0, x1, x5 => if x5 < (x0.length : Int) then (if 0 ≤ x5 then ((some (x0.set (x5 : Int).toNat (⟨x1, (rd_T92 x0 x5).f1⟩ : S92) : List (S92))).bind fun y214 => (laws_markCellS.l0 k (y214.set (x5 : Int).toNat (⟨(rd_T92 y214 x5).f0, wrap64 (x1 + 1)⟩ : S92)) (wrap64 ((wrap64 (x1 + 1)) + 1)) (wrap64 (x5 + 1)))) else (none)) else (some (x1, x0))
def laws_markCellS.f (k : Nat) (l0 : List (S92)) (a1 : Int) : Option (Int × (List (S92))) := laws_markCellS.l0 k l0 a1 0

set_option maxHeartbeats 8000000 in
set_option maxRecDepth 100000 in
theorem laws_markCellS.calls (k : Nat) (P0_ : Nat → Prop) (u9000_ : Value) (l0 : List (S92)) (a1 : Int) (r1 : Int) (r2 : List (S92)) (w0 w : World) (hB : Below w0.heap.size w0 w) (ho0 : Kd.R k92 92 w w0.heap.size P0_ u9000_ l0) (h : laws_markCellS.f k l0 a1 = some (r1, r2)) :
    Calls Try.prog 19 #[u9000_, .int .i64 a1] w fun e w' => e = .returned (.int .i64 r1) ∧ Kd.R k92 92 w' w0.heap.size (fun k_ => (P0_ k_ ∨ w.heap.size ≤ k_)) u9000_ r2 ∧ Below w0.heap.size w0 w' ∧ Kept w w' (fun k_ => P0_ k_) := by
 have HO0 := Aside0.mk (show Kd.R k92 92 w w0.heap.size (fun k_ => (P0_ k_ ∨ w.heap.size ≤ k_)) u9000_ l0 from Kd.R_mono ho0 (fun k_ hk => (.inl hk)))
 have HK := Aside0.mk (Kept.refl w (fun k_ => P0_ k_))
 have HW0 := Aside0.mk hB.size
 have HB := Aside0.mk hB
 clear hB
 have H : (laws_markCellS.l0 k l0 a1 0) = some (r1,r2) := h
 clear h
 have H' := Aside0.mk H
 clear H
 go_enter Try.func19,Try.ntmps19
 go_wp2
 go_loopg [1,5] k (fun kq v1 v5 w' => ∃ (x0_1 : List (S92)) (x1_1 : Int) (x5_1 : Int),v1 = .int .i64 x1_1 ∧ v5 = .int .i64 x5_1 ∧ Aside0 (laws_markCellS.l0 kq x0_1 x1_1 x5_1 = some (r1,r2)) ∧ Aside0 (kq ≤ k) ∧ Aside0 (Kd.R k92 92 w' w0.heap.size (fun k_ => (P0_ k_ ∨ w.heap.size ≤ k_)) u9000_ x0_1) ∧ Aside0 (Kept w w' (fun k_ => P0_ k_)) ∧ Aside0 (Below w0.heap.size w0 w'))
 case atStart => exact ⟨(l0),(a1),(0),rs_,rs_,H',⟨Nat.le_refl _⟩,⟨by (with_reducible repeat (first|apply Kd.R_alloc|apply Kd.R_drewN|apply Kd.R_drew));exact HO0.out⟩,⟨by repeat (first|(with_reducible first|exact HK.out|apply Kept.alloc|apply Kept.drewN|apply Kept.drew)|exact HK.out)⟩,⟨b_⟩⟩
 case round =>
  clear H'
  try clear c1
  try clear p2
  obtain ⟨x0_1,x1_1,x5_1,rfl,rfl,HA,HK1,HO_0,HK,HB⟩ := hrel
  cases gk with
    | zero => exact absurd HA.out (by simp [laws_markCellS.l0])
    | succ k1 =>
   have H := HA.out
   clear HA
   simp only [laws_markCellS.l0] at H
   by_cases c3 : x5_1 < (x0_1.length : Int)
   ·rw [if_pos c3] at H
    have c3b0 : decide (x5_1 < (x0_1.length : Int)) = true := decide_eq_true c3
    clear c3
    by_cases c4 : 0 ≤ x5_1
    ·rw [if_pos c4] at H
     have c4b0 : decide (0 ≤ x5_1) = true := decide_eq_true c4
     clear c4
     obtain ⟨y214,hy214⟩ : ∃ y_ : List (S92),y_ = (x0_1.set (x5_1 : Int).toNat (⟨x1_1,(rd_T92 x0_1 x5_1).f1⟩ : S92)) := ⟨_,rfl⟩
     replace H : (laws_markCellS.l0 k1 (y214.set (x5_1 : Int).toNat (⟨(rd_T92 y214 x5_1).f0,wrap64 (x1_1 + 1)⟩ : S92)) (wrap64 ((wrap64 (x1_1 + 1)) + 1)) (wrap64 (x5_1 + 1))) = some (r1,r2) := by first|(rw [hy214];with_reducible exact H)|(have H2_ := (Option.bind_some _ _).symm.trans H;rw [hy214];with_reducible exact H2_)|(have H2_ := (Option.bind_some _ _).symm.trans H;with_reducible exact H2_)|with_reducible exact H|(rw [hy214];exact H)|exact H
     have Ny214 := Aside0.mk hy214
     clear hy214
     obtain ⟨y215,hy215⟩ : ∃ y_ : List (S92),y_ = (y214.set (x5_1 : Int).toNat (⟨(rd_T92 y214 x5_1).f0,wrap64 (x1_1 + 1)⟩ : S92)) := ⟨_,rfl⟩
     replace H : (laws_markCellS.l0 k1 y215 (wrap64 ((wrap64 (x1_1 + 1)) + 1)) (wrap64 (x5_1 + 1))) = some (r1,r2) := by first|(rw [hy215];with_reducible exact H)|(have H2_ := (Option.bind_some _ _).symm.trans H;rw [hy215];with_reducible exact H2_)|(have H2_ := (Option.bind_some _ _).symm.trans H;with_reducible exact H2_)|with_reducible exact H|(rw [hy215];exact H)|exact H
     have Ny215 := Aside0.mk hy215
     clear hy215
     have H' := Aside0.mk H
     clear H
     obtain ⟨Ao7,co7,eo7⟩ := Kd.R_slice HO_0.out
     subst eo7
     have p5 : 0 ≤ (x5_1 : Int) := od_
     have q5 : (x5_1 : Int) < ((x0_1.length : Int) : Int) := od_
     obtain ⟨go5,co5,eo5,gb5,gl5,cl5,HG5⟩ := Kd.R_form HO_0.out (by omega)
     (first|cases eo5|(injection eo5 with ea_ en_ ec_;(first|subst ea_|(injection ea_ with ea_;subst ea_));subst ec_;clear en_))
     have GB5 := Aside0.mk gb5
     have GG5 := Aside0.mk HG5
     clear gb5 gl5 HG5
     have HMgo5 := Aside0.mk (show (P0_ go5 ∨ w.heap.size ≤ go5) from (HO_0.out.1 _ rfl))
     obtain ⟨ce5,hcl5,hM5,hcc5,hfr5⟩ := Kd.R_elem HO_0.out z92 (x5_1 : Int) p5 q5
     obtain rfl := k92_openM hM5
     have hx5_0 : wr.cell? ⟨go5,(x5_1 : Int).toNat * 2,none⟩ = some (.int .i64 ((rd_T92 x0_1 x5_1).f0)) := hcc5 0 _ rfl
     have hx5_1 : wr.cell? ⟨go5,(x5_1 : Int).toNat * 2 + 1,none⟩ = some (.int .i64 ((rd_T92 x0_1 x5_1).f1)) := hcc5 1 _ rfl
     have hf5_0 : wr.frozen? ⟨go5,(x5_1 : Int).toNat * 2,none⟩ = false := hfr5 0
     have hf5_1 : wr.frozen? ⟨go5,(x5_1 : Int).toNat * 2 + 1,none⟩ = false := hfr5 1
     clear hcl5 hcc5 hfr5 hM5
     replace p5 := eq_true p5
     replace q5 := eq_true q5
     have HX8 := Aside0.mk (show Kd.R k92 92 wr w0.heap.size (fun k_ => (P0_ k_ ∨ w.heap.size ≤ k_)) (.slice (some ⟨go5,0,none⟩) x0_1.length co7) x0_1 from (by (with_reducible repeat (first|apply Kd.R_alloc|apply Kd.R_drewN|apply Kd.R_drew));exact HO_0.out))
     obtain ⟨ce8,hcl8,hM8,hcc8,hfr8⟩ := Kd.R_elem HX8.out z92 (x5_1 : Int) (od_) (by have h_ : (x5_1 : Int) < ((x0_1.length : Int) : Int) := od_;first|exact h_|(have e_ := (Kd.R_reads' HO_0.out).1;omega)|simpa using h_)
     obtain rfl := k92_openM hM8
     have HP8 := Kd.R_seg HX8.out (x5_1 : Int) (od_) (by have h_ : (x5_1 : Int) < ((x0_1.length : Int) : Int) := od_;first|exact h_|(have e_ := (Kd.R_reads' HO_0.out).1;omega)|simpa using h_) (seg := [.int .i64 x1_1]) (j := 0) hcl8 hcc8 (show 1 ≤ 2 from by decide) (x' := (⟨x1_1,(rd_T92 x0_1 x5_1).f1⟩ : S92)) (k92_mkM _ _ _ (⟨x1_1,(rd_T92 x0_1 x5_1).f1⟩ : S92) ) (fun _ hk => hk)
     have hx8_0 := hcc8 0 _ rfl
     (try simp only [show (k92).sz = 2 from rfl,Nat.mul_one,Nat.add_zero] at hx8_0)
     have hf8_0 := hfr8 0
     (try simp only [show (k92).sz = 2 from rfl,Nat.mul_one,Nat.add_zero] at hf8_0)
     clear hcl8 hcc8 hfr8 hM8
     go_wp2_with (first|((with_reducible refine gate_store (t := 2) (p := 16) rfl ?_);refine store_event (t := 2) (p := 16) (v := ?vo_w9) (w1 := (wr.setCell ⟨go5,(x5_1 : Int).toNat * 2,none⟩ (.int .i64 x1_1))) ?hg ?ho ?hn ?hr ?_;(case ho => rfl);(case hg => rfl);(case hn => rfl);(case hr => first|(go_simp;done)|(go_simp;rfl)|(obtain ⟨_,_,e_⟩ := Kd.R_slice HO_0.out;subst e_;first|(go_simp;done)|(go_simp;rfl)));intro w9 hw;have hg : wr.grownBy w9 (some go5) := (by rw [hw];exact HP8.2);have hp_ : Kd.R k92 92 w9 w0.heap.size (fun k_ => (P0_ k_ ∨ w.heap.size ≤ k_)) (.slice (some ⟨go5,0,none⟩) x0_1.length co7) y214 := (by rw [hw,Ny214.out];exact HP8.1);clear HP8;replace HB := Aside0.mk ((by rw [hw];exact below_set (HB.out) GB5.out : Below w0.heap.size w0 w9));replace HK := Aside0.mk (Kept.of_grown (S := (fun k_ => P0_ k_)) hg (by repeat (first|(with_reducible first|exact HK.out|apply Kept.alloc|apply Kept.drewN|apply Kept.drew)|exact HK.out)) (fun k_ e_ => (HO_0.out.1 k_ e_)));replace HO_0 := Aside0.mk (hp_);clear hg hw hp_;have p6 : 0 ≤ (x5_1 : Int) := od_;have q6 : (x5_1 : Int) < ((x0_1.length : Int) : Int) := od_;obtain ⟨ce6,hcl6,hM6,hcc6,hfr6⟩ := Kd.R_elem HO_0.out z92 (x5_1 : Int) p6 q6;obtain rfl := k92_openM hM6;have hx6_0 : w9.cell? ⟨go5,(x5_1 : Int).toNat * 2,none⟩ = some (.int .i64 ((rd_T92 y214 x5_1).f0)) := hcc6 0 _ rfl;have hx6_1 : w9.cell? ⟨go5,(x5_1 : Int).toNat * 2 + 1,none⟩ = some (.int .i64 ((rd_T92 y214 x5_1).f1)) := hcc6 1 _ rfl;have hf6_0 : w9.frozen? ⟨go5,(x5_1 : Int).toNat * 2,none⟩ = false := hfr6 0;have hf6_1 : w9.frozen? ⟨go5,(x5_1 : Int).toNat * 2 + 1,none⟩ = false := hfr6 1;clear hcl6 hcc6 hfr6 hM6;replace p6 := eq_true p6;replace q6 := eq_true q6;have HX10 := Aside0.mk (show Kd.R k92 92 w9 w0.heap.size (fun k_ => (P0_ k_ ∨ w.heap.size ≤ k_)) (.slice (some ⟨go5,0,none⟩) x0_1.length co7) y214 from (by (with_reducible repeat (first|apply Kd.R_alloc|apply Kd.R_drewN|apply Kd.R_drew));exact HO_0.out));obtain ⟨ce10,hcl10,hM10,hcc10,hfr10⟩ := Kd.R_elem HX10.out z92 (x5_1 : Int) (od_) (by have h_ : (x5_1 : Int) < ((x0_1.length : Int) : Int) := od_;first|exact h_|(have e_ := (Kd.R_reads' HO_0.out).1;omega)|simpa using h_);obtain rfl := k92_openM hM10;have HP10 := Kd.R_seg HX10.out (x5_1 : Int) (od_) (by have h_ : (x5_1 : Int) < ((x0_1.length : Int) : Int) := od_;first|exact h_|(have e_ := (Kd.R_reads' HO_0.out).1;omega)|simpa using h_) (seg := [.int .i64 (wrap64 (x1_1 + 1))]) (j := 1) hcl10 hcc10 (show 2 ≤ 2 from by decide) (x' := (⟨(rd_T92 y214 x5_1).f0,wrap64 (x1_1 + 1)⟩ : S92)) (k92_mkM _ _ _ (⟨(rd_T92 y214 x5_1).f0,wrap64 (x1_1 + 1)⟩ : S92) ) (fun _ hk => hk);have hx10_1 := hcc10 1 _ rfl;(try simp only [show (k92).sz = 2 from rfl,Nat.mul_one,Nat.add_zero] at hx10_1);have hf10_1 := hfr10 1;(try simp only [show (k92).sz = 2 from rfl,Nat.mul_one,Nat.add_zero] at hf10_1);clear hcl10 hcc10 hfr10 hM10)|((with_reducible refine gate_store (t := 2) (p := 23) rfl ?_);refine store_event (t := 2) (p := 23) (v := ?vo_w11) (w1 := (w9.setCell ⟨go5,(x5_1 : Int).toNat * 2 + 1,none⟩ (.int .i64 (wrap64 (x1_1 + 1))))) ?hg ?ho ?hn ?hr ?_;(case ho => rfl);(case hg => rfl);(case hn => rfl);(case hr => first|(go_simp;done)|(go_simp;rfl)|(obtain ⟨_,_,e_⟩ := Kd.R_slice HO_0.out;subst e_;first|(go_simp;done)|(go_simp;rfl)));intro w11 hw;have hg : w9.grownBy w11 (some go5) := (by rw [hw];exact HP10.2);have hp_ : Kd.R k92 92 w11 w0.heap.size (fun k_ => (P0_ k_ ∨ w.heap.size ≤ k_)) (.slice (some ⟨go5,0,none⟩) x0_1.length co7) y215 := (by rw [hw,Ny215.out];exact HP10.1);clear HP10;replace HB := Aside0.mk ((by rw [hw];exact below_set (HB.out) GB5.out : Below w0.heap.size w0 w11));replace HK := Aside0.mk (Kept.of_grown (S := (fun k_ => P0_ k_)) hg (by repeat (first|(with_reducible first|exact HK.out|apply Kept.alloc|apply Kept.drewN|apply Kept.drew)|exact HK.out)) (fun k_ e_ => (HO_0.out.1 k_ e_)));replace HO_0 := Aside0.mk (hp_);clear hg hw hp_))
     go_roundg k1
     case measure => have := HK1.out;omega
     case rel => exact ⟨(y215),(wrap64 ((wrap64 (x1_1 + 1)) + 1)),(wrap64 (x5_1 + 1)),rs_,rs_,H',⟨by have := HK1.out;omega⟩,⟨by (with_reducible repeat (first|apply Kd.R_alloc|apply Kd.R_drewN|apply Kd.R_drew));exact HO_0.out⟩,⟨by repeat (first|(with_reducible first|exact HK.out|apply Kept.alloc|apply Kept.drewN|apply Kept.drew)|exact HK.out)⟩,⟨b_⟩⟩
    ·rw [if_neg c4] at H
     exact absurd H (by simp)
   ·rw [if_neg c3] at H
    have c3b0 : decide (x5_1 < (x0_1.length : Int)) = false := decide_eq_false c3
    clear c3
    simp only [Option.some.injEq,Prod.mk.injEq] at H
    obtain ⟨rfl,rfl⟩ := H
    obtain ⟨Ao12,co12,eo12⟩ := Kd.R_slice HO_0.out
    subst eo12
    go_wp2
    go_ret
    exact ⟨rf_,by (with_reducible repeat (first|apply Kd.R_alloc|apply Kd.R_drewN|apply Kd.R_drew));exact HO_0.out,b_,by repeat (first|(with_reducible first|exact HK.out|apply Kept.alloc|apply Kept.drewN|apply Kept.drew)|exact HK.out)⟩

/-! ### laws_markCopyS: function 62 -/
def laws_markCopyS.l0 : Nat → List (S79) → Int → Int → Option (Int × (List (S79)))
  | 0, _, _, _ => none
  | k + 1, x0, x1, x5 => if x5 < (x0.length : Int) then (if 0 ≤ x5 then ((laws_markCellS.f k ((rd_T79 x0 x5).f1) (wrap64 (x1 + 1))).bind fun bt => (laws_markCopyS.l0 k (x0.set (x5 : Int).toNat (⟨x1, bt.2⟩ : S79)) bt.1 (wrap64 (x5 + 1)))) else (none)) else (some (x1, x0))
def laws_markCopyS.f (k : Nat) (l0 : List (S79)) (a1 : Int) : Option (Int × (List (S79))) := laws_markCopyS.l0 k l0 a1 0

set_option maxHeartbeats 8000000 in
set_option maxRecDepth 100000 in
theorem laws_markCopyS.calls (k : Nat) (P0_ : Nat → Prop) (u9000_ : Value) (l0 : List (S79)) (a1 : Int) (r1 : Int) (r2 : List (S79)) (w0 w : World) (hB : Below w0.heap.size w0 w) (ho0 : Kd.S k79 79 w w0.heap.size P0_ u9000_ l0) (h : laws_markCopyS.f k l0 a1 = some (r1, r2)) :
    Calls Try.prog 62 #[u9000_, .int .i64 a1] w fun e w' => e = .returned (.int .i64 r1) ∧ Kd.S k79 79 w' w0.heap.size (fun k_ => (P0_ k_ ∨ w.heap.size ≤ k_)) u9000_ r2 ∧ Below w0.heap.size w0 w' ∧ Kept w w' (fun k_ => P0_ k_) := by
 have HO0 := Aside0.mk (show Kd.S k79 79 w w0.heap.size (fun k_ => (P0_ k_ ∨ w.heap.size ≤ k_)) u9000_ l0 from Kd.S_mono ho0 (fun k_ hk => (.inl hk)))
 have HK := Aside0.mk (Kept.refl w (fun k_ => P0_ k_))
 have HB := Aside0.mk hB
 clear hB ho0
 have H : (laws_markCopyS.l0 k l0 a1 0) = some (r1,r2) := h
 clear h
 have H' := Aside0.mk H
 clear H
 go_enter Try.func62,Try.ntmps62
 go_wp2
 go_loopg [1,5] k (fun kq v1 v5 w' => ∃ (x0_1 : List (S79)) (x1_1 : Int) (x5_1 : Int),v1 = .int .i64 x1_1 ∧ v5 = .int .i64 x5_1 ∧ Aside0 (laws_markCopyS.l0 kq x0_1 x1_1 x5_1 = some (r1,r2)) ∧ Aside0 (kq ≤ k) ∧ Aside0 (Kd.S k79 79 w' w0.heap.size (fun k_ => (P0_ k_ ∨ w.heap.size ≤ k_)) u9000_ x0_1) ∧ Aside0 (Kept w w' (fun k_ => P0_ k_)) ∧ Aside0 (Below w0.heap.size w0 w'))
 case atStart => exact ⟨l0,a1,0,(by first|rfl|(simp;done)),(by first|rfl|(simp;done)),H',⟨Nat.le_refl _⟩,⟨HO0.out⟩,⟨HK.out⟩,⟨HB.out⟩⟩
 case round =>
  clear H' HO0 HK HB
  obtain ⟨x0_1,x1_1,x5_1,rfl,rfl,HA,HK1,HO_0,HK,HB⟩ := hrel
  cases gk with
    | zero => exact absurd HA.out (by simp [laws_markCopyS.l0])
    | succ k1 =>
   have H := HA.out
   clear HA
   simp only [laws_markCopyS.l0] at H
   by_cases c3 : x5_1 < (x0_1.length : Int)
   ·rw [if_pos c3] at H
    have c3b0 : decide (x5_1 < (x0_1.length : Int)) = true := decide_eq_true c3
    by_cases c4 : 0 ≤ x5_1
    ·rw [if_pos c4] at H
     have c4b0 : decide (0 ≤ x5_1) = true := decide_eq_true c4
     replace H := Option.bind_eq_some_iff.mp H
     obtain ⟨⟨t1,t2⟩,A30,H⟩ := H
     replace H : laws_markCopyS.l0 k1 (x0_1.set (x5_1 : Int).toNat (⟨x1_1,t2⟩ : S79)) t1 (wrap64 (x5_1 + 1)) = some (r1,r2) := H
     have H' := Aside0.mk H
     have A3 := Aside0.mk A30
     clear H A30
     obtain ⟨Ao7,co7,eo7⟩ := Kd.S_slice HO_0.out
     subst eo7
     obtain ⟨go5,co5,eo5,gb5,gl5,cl5,HG5⟩ := Kd.S_form HO_0.out (by omega)
     obtain rfl : Ao7 = some ⟨go5,0,none⟩ := (by injection eo5)
     obtain rfl : co7 = co5 := (by injection eo5)
     have GB := Aside0.mk gb5
     have HM : Aside0 (P0_ go5 ∨ w.heap.size ≤ go5) := ⟨(Kd.S_R HO_0.out).1 _ rfl⟩
     clear gb5 gl5 HG5 eo5
     have HX := Kd.S_mono (ok' := fun k_ => (P0_ k_ ∨ w.heap.size ≤ k_) ∧ ¬ wr.heap.size ≤ k_) (Kd.S_bound HO_0.out) (fun k_ hk => ⟨hk.1,Nat.not_le.2 hk.2.2.1⟩)
     obtain ⟨oki,ce,hcl,hM,hcc,hfr,hoki,hH⟩ := Kd.S_elem HX z79 (x5_1 : Int) c4 c3
     obtain ⟨v0,rfl,hv⟩ := k79_openM hM
     obtain ⟨A1,c1,e1⟩ := Kd.R_slice hv
     subst e1
     have hx19_0 : wr.cell? ⟨go5,(x5_1 : Int).toNat * 2,none⟩ = some (.int .i64 (rd_T79 x0_1 x5_1).f0) := by (have h_ := hcc 0 _ rfl;exact h_)
     have hx19_1 : wr.cell? ⟨go5,(x5_1 : Int).toNat * 2 + 1,none⟩ = some (.slice A1 ((rd_T79 x0_1 x5_1).f1).length c1) := by (have h_ := hcc 1 _ rfl;exact h_)
     have hf19_0 : wr.frozen? ⟨go5,(x5_1 : Int).toNat * 2,none⟩ = false := by (have h_ := hfr 0;exact h_)
     have hf19_1 : wr.frozen? ⟨go5,(x5_1 : Int).toNat * 2 + 1,none⟩ = false := by (have h_ := hfr 1;exact h_)
     have P5 := Aside0.mk c4
     have Q5 : Aside0 ((x5_1 : Int) < (x0_1.length : Int)) := ⟨c3⟩
     have HV : Aside0 (Kd.R k92 92 wr w0.heap.size oki (.slice A1 ((rd_T79 x0_1 x5_1).f1).length c1) ((rd_T79 x0_1 x5_1).f1)) := ⟨hv⟩
     have HH : Aside0 (Kd.H k79 79 wr w0.heap.size (fun k_ => ((P0_ k_ ∨ w.heap.size ≤ k_) ∧ ¬ wr.heap.size ≤ k_)) (.slice (some ⟨go5,0,none⟩) x0_1.length co7) x0_1 (x5_1 : Int) oki [.int .i64 (rd_T79 x0_1 x5_1).f0,.slice A1 ((rd_T79 x0_1 x5_1).f1).length c1]) := ⟨hH⟩
     have HI := Aside0.mk hoki
     have HZ := Aside0.mk (Nat.le_refl wr.heap.size)
     have HKR := Aside0.mk HK.out.1
     clear hcl hcc hfr hoki hH hv HX hM
     clear HO_0
     have p5 : (0 ≤ (x5_1 : Int)) = True := eq_true c4
     have q5 : ((x5_1 : Int) < (x0_1.length : Int)) = True := eq_true c3
     clear c3 c4
     go_wp2_with (first|((with_reducible refine gcal_ (f := 19) rfl ?_);refine goesL_ (some 25) rfl rfl Try.func19 (by kernel_rfl) rfl #[.slice A1 ((rd_T79 x0_1 x5_1).f1).length c1,.int .i64 (wrap64 (x1_1 + 1))] rfl (by (try simp only [List.map_toArray,List.map_cons,List.map_nil]);first|done|rfl) ?_;have h0_ := Kd.H_seg (j := 0) (seg := [.int .i64 (x1_1)]) HH.out P5.out Q5.out (show 0 + 1 ≤ 2 from by decide) (by intro q_ hq_;rw [List.mem_singleton.1 hq_];rfl);have hg : wr.grownBy (wr.setCell ⟨go5,(x5_1 : Int).toNat * 2,none⟩ (.int .i64 (x1_1))) (some go5) := h0_.2;have n0_ : Aside0 (Kd.H k79 79 (wr.setCell ⟨go5,(x5_1 : Int).toNat * 2,none⟩ (.int .i64 (x1_1))) w0.heap.size (fun k_ => ((P0_ k_ ∨ w.heap.size ≤ k_) ∧ ¬ wr.heap.size ≤ k_)) (.slice (some ⟨go5,0,none⟩) x0_1.length co7) x0_1 (x5_1 : Int) oki [.int .i64 (x1_1),.slice A1 ((rd_T79 x0_1 x5_1).f1).length c1]) := ⟨h0_.1⟩;clear h0_;have n1_ := Aside0.mk (Kd.R_grown HV.out hg (fun k_ hk_ he_ => (HI.out k_ hk_).2 (by injection he_)));have n2_ : Aside0 (Below w0.heap.size w0 (wr.setCell ⟨go5,(x5_1 : Int).toNat * 2,none⟩ (.int .i64 (x1_1)))) := ⟨below_set HB.out GB.out⟩;have n3_ : Aside0 (Kept w (wr.setCell ⟨go5,(x5_1 : Int).toNat * 2,none⟩ (.int .i64 (x1_1))) (fun k_ => P0_ k_)) := ⟨Kept.of_grown (S := (fun k_ => P0_ k_)) hg HK.out (fun k_ e_ => (by injection e_ with e2_;subst e2_;exact HM.out))⟩;have n4_ : Aside0 (wr.heap.size ≤ (wr.setCell ⟨go5,(x5_1 : Int).toNat * 2,none⟩ (.int .i64 (x1_1))).heap.size) := ⟨Nat.le_trans HZ.out hg.size⟩;clear hg;clear HH HV HB HK HZ;have HH := n0_;have HV := n1_;have HB := n2_;have HK := n3_;have HZ := n4_;clear n0_ n1_ n2_ n3_ n4_;refine (laws_markCellS.calls k1 oki (.slice A1 ((rd_T79 x0_1 x5_1).f1).length c1) ((rd_T79 x0_1 x5_1).f1) (wrap64 (x1_1 + 1)) t1 t2 w0 _ HB.out HV.out A3.out).mono ?_;rintro e w12 ⟨rfl,ho,hb,hk⟩;refine ⟨_,rfl,?_⟩;have hH1 := Kd.H_step (w1 := w12) HH.out (fun k_ _ hn hlt => hk.2 k_ hlt hn);have hH2 := Kd.H_more (okg := fun k_ => wr.heap.size ≤ k_) hH1 (fun k_ hk_ => .inr (Nat.le_trans HKR.out hk_));have n0_ := Aside0.mk (Kd.H_back hH2 (k79_mkM _ _ _ (⟨x1_1,t2⟩ : S79) (Kd.R_mono (ok' := fun k_ => oki k_ ∨ wr.heap.size ≤ k_) ho (fun k_ h_ => h_.elim Or.inl (fun h2_ => .inr (Nat.le_trans HZ.out h2_))))) (fun _ h_ => h_));have n1_ := Aside0.mk hb;have n2_ : Aside0 (Kept w w12 (fun k_ => P0_ k_)) := ⟨⟨Nat.le_trans HK.out.1 hk.1,fun k_ h1_ h2_ => (hk.2 k_ (Nat.lt_of_lt_of_le h1_ HK.out.1) (fun h3_ => ((HI.out k_ h3_).1.1.elim h2_ (fun h4_ => absurd h1_ (Nat.not_lt.2 h4_))))).trans (HK.out.2 k_ h1_ h2_)⟩⟩;clear HB HK HH HV HI hH1 hH2 ho hb hk;have HO_0 := n0_;have HB := n1_;have HK := n2_;clear n0_ n1_ n2_))
     go_roundg k1
     case measure => have := HK1.out;omega
     case rel => exact ⟨_,t1,(wrap64 (x5_1 + 1)),(by first|rfl|(simp;done)),(by first|rfl|(simp;done)),H',⟨by have := HK1.out;omega⟩,⟨HO_0.out⟩,⟨HK.out⟩,⟨HB.out⟩⟩
    ·rw [if_neg c4] at H
     exact absurd H (by simp)
   ·rw [if_neg c3] at H
    have c3b0 : decide (x5_1 < (x0_1.length : Int)) = false := decide_eq_false c3
    clear c3
    simp only [Option.some.injEq,Prod.mk.injEq] at H
    obtain ⟨rfl,rfl⟩ := H
    obtain ⟨Ao12,co12,eo12⟩ := Kd.S_slice HO_0.out
    subst eo12
    go_wp2
    go_ret
    exact ⟨rfl,HO_0.out,HB.out,HK.out⟩

end Go.Proofs.Ythplaakckfhaaaa.XRp
