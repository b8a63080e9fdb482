/- Proved: of each Go function here that a call comes to what the Lean function of its name tells. Written by a program of this session over the translation. No conditions beyond each theorem's own. -/
import Derived.Test.YtnilfnkdgdfnnaaDoorXRd0
namespace Go.Proofs.YtnilfnkdgdfnnaaDoor.XRd
open Go.RowKit Go.Proofs.YtnilfnkdgdfnnaaDoor.Aid Go.Proofs.YtnilfnkdgdfnnaaDoorW.PrintWords Go.Proofs.YtnilfnkdgdfnnaaDoorW.PrintLast Go.Proofs.YtnilfnkdgdfnnaaDoorW.PrintMore
set_option linter.unusedVariables false
set_option linter.unusedSimpArgs false

/-! ### laws_eqSet: function 42 -/
def laws_eqSet.f (a0_0 : Int) (a0_1 : Int) (a0_2 : Int) (a0_3 : Bool) (a0_4 : Int) (a1_0 : Int) (a1_1 : Int) (a1_2 : Int) (a1_3 : Bool) (a1_4 : Int) : Option (Bool) := if a0_0 = a1_0 then (if a0_1 = a1_1 then (if a0_2 = a1_2 then (if (a0_3 != a1_3) = true then (some false) else (if a0_4 = a1_4 then (some true) else (some false))) else (some false)) else (some false)) else (some false)
set_option maxHeartbeats 8000000 in
set_option maxRecDepth 100000 in
theorem laws_eqSet.calls (a0_0 : Int) (a0_1 : Int) (a0_2 : Int) (a0_3 : Bool) (a0_4 : Int) (a1_0 : Int) (a1_1 : Int) (a1_2 : Int) (a1_3 : Bool) (a1_4 : Int) (r : Bool) (w : World) (h : laws_eqSet.f a0_0 a0_1 a0_2 a0_3 a0_4 a1_0 a1_1 a1_2 a1_3 a1_4 = some r) :
    Calls Tryd.prog 42 #[.agg #[.int .i64 a0_0, .int .i64 a0_1, .int .i64 a0_2, .bool a0_3, .int .i64 a0_4], .agg #[.int .i64 a1_0, .int .i64 a1_1, .int .i64 a1_2, .bool a1_3, .int .i64 a1_4]] w fun e w' => e = .returned (.bool r) ∧ Below w.heap.size w w' := by
 have hu47 := Tryd.underlying47
 have HB := Aside0.mk (Below.refl w.heap.size w)
 have H : (if a0_0 = a1_0 then (if a0_1 = a1_1 then (if a0_2 = a1_2 then (if (a0_3 != a1_3) = true then (some false) else (if a0_4 = a1_4 then (some true) else (some false))) else (some false)) else (some false)) else (some false)) = some r := h
 clear h
 by_cases c3 : a0_0 = a1_0
 ·rw [if_pos c3] at H
  have c3b0 : (a0_0 == a1_0) = true := beq_iff_eq.mpr c3
  have c3b1 : (a0_0 != a1_0) = false := bne_eq_false_iff_eq.mpr c3
  clear c3
  by_cases c4 : a0_1 = a1_1
  ·rw [if_pos c4] at H
   have c4b0 : (a0_1 == a1_1) = true := beq_iff_eq.mpr c4
   have c4b1 : (a0_1 != a1_1) = false := bne_eq_false_iff_eq.mpr c4
   clear c4
   by_cases c5 : a0_2 = a1_2
   ·rw [if_pos c5] at H
    have c5b0 : (a0_2 == a1_2) = true := beq_iff_eq.mpr c5
    have c5b1 : (a0_2 != a1_2) = false := bne_eq_false_iff_eq.mpr c5
    clear c5
    by_cases c6 : (a0_3 != a1_3) = true
    ·rw [if_pos c6] at H
     have c6b0 : (a0_3 != a1_3) = true := c6
     (try (have c6b1 : decide (a0_3 = a1_3) = false := by simpa using c6))
     (try (have c6b2 : (a0_3 == a1_3) = false := by simpa using c6))
     (try (have c6b3 : ¬ (a0_3 = a1_3) := by simpa using c6))
     clear c6
     obtain rfl := Option.some.inj H
     go_enter Tryd.func42,Tryd.ntmps42
     go_wp2_with (first|((with_reducible refine gate_dst (N := 2) rfl ?_);refine bx_ 2 #[.int .i64 a0_0,.int .i64 a0_1,.int .i64 a0_2,.bool a0_3,.int .i64 a0_4] 47 ?_;intro gb101 hg w7 hbox hb;replace HB := nb_ hg hbox hb;obtain ⟨BK101,GW101,GE101,HB⟩ := HB;clear hb hbox hg)|((with_reducible refine gate_dst (N := 3) rfl ?_);refine bx_ 3 #[.int .i64 a1_0,.int .i64 a1_1,.int .i64 a1_2,.bool a1_3,.int .i64 a1_4] 47 ?_;intro gb102 hg w8 hbox hb;replace HB := nb_ hg hbox hb;obtain ⟨BK102,GW102,GE102,HB⟩ := HB;have NB101_102 := Aside0.mk ((nl_ BK101 hg));have NB102_101 := Aside0.mk ((ng_ BK101 hg));replace BK101 := Aside0.mk (blk_below (kb_ BK101) hb);clear hb hbox hg;have hnb9 := NB101_102.out;have hnc9 := NB102_101.out;obtain ⟨⟨hcz10_0,hcz10_1,hcz10_2,hcz10_3,hcz10_4⟩,hfz10_0,hfz10_1,hfz10_2,hfz10_3,hfz10_4⟩ := cl5_ BK101.out;obtain ⟨⟨hcz11_0,hcz11_1,hcz11_2,hcz11_3,hcz11_4⟩,hfz11_0,hfz11_1,hfz11_2,hfz11_3,hfz11_4⟩ := cl5_ BK102.out))
     go_ret
     exact ⟨rf_,b_⟩
    ·rw [if_neg c6] at H
     have c6b0 : (a0_3 != a1_3) = false := by simpa using c6
     (try (have c6b1 : decide (a0_3 = a1_3) = true := by simpa using c6))
     (try (have c6b2 : (a0_3 == a1_3) = true := by simpa using c6))
     clear c6
     by_cases c12 : a0_4 = a1_4
     ·rw [if_pos c12] at H
      have c12b0 : (a0_4 == a1_4) = true := beq_iff_eq.mpr c12
      have c12b1 : (a0_4 != a1_4) = false := bne_eq_false_iff_eq.mpr c12
      clear c12
      obtain rfl := Option.some.inj H
      go_enter Tryd.func42,Tryd.ntmps42
      go_wp2_with (first|((with_reducible refine gate_dst (N := 2) rfl ?_);refine bx_ 2 #[.int .i64 a0_0,.int .i64 a0_1,.int .i64 a0_2,.bool a0_3,.int .i64 a0_4] 47 ?_;intro gb101 hg w13 hbox hb;replace HB := nb_ hg hbox hb;obtain ⟨BK101,GW101,GE101,HB⟩ := HB;clear hb hbox hg)|((with_reducible refine gate_dst (N := 3) rfl ?_);refine bx_ 3 #[.int .i64 a1_0,.int .i64 a1_1,.int .i64 a1_2,.bool a1_3,.int .i64 a1_4] 47 ?_;intro gb102 hg w14 hbox hb;replace HB := nb_ hg hbox hb;obtain ⟨BK102,GW102,GE102,HB⟩ := HB;have NB101_102 := Aside0.mk ((nl_ BK101 hg));have NB102_101 := Aside0.mk ((ng_ BK101 hg));replace BK101 := Aside0.mk (blk_below (kb_ BK101) hb);clear hb hbox hg;have hnb15 := NB101_102.out;have hnc15 := NB102_101.out;obtain ⟨⟨hcz16_0,hcz16_1,hcz16_2,hcz16_3,hcz16_4⟩,hfz16_0,hfz16_1,hfz16_2,hfz16_3,hfz16_4⟩ := cl5_ BK101.out;obtain ⟨⟨hcz17_0,hcz17_1,hcz17_2,hcz17_3,hcz17_4⟩,hfz17_0,hfz17_1,hfz17_2,hfz17_3,hfz17_4⟩ := cl5_ BK102.out))
      go_ret
      exact ⟨rf_,b_⟩
     ·rw [if_neg c12] at H
      have c12b0 : (a0_4 == a1_4) = false := beq_eq_false_iff_ne.mpr c12
      have c12b1 : (a0_4 != a1_4) = true := bne_iff_ne.mpr c12
      obtain rfl := Option.some.inj H
      go_enter Tryd.func42,Tryd.ntmps42
      go_wp2_with (first|((with_reducible refine gate_dst (N := 2) rfl ?_);refine bx_ 2 #[.int .i64 a0_0,.int .i64 a0_1,.int .i64 a0_2,.bool a0_3,.int .i64 a0_4] 47 ?_;intro gb101 hg w18 hbox hb;replace HB := nb_ hg hbox hb;obtain ⟨BK101,GW101,GE101,HB⟩ := HB;clear hb hbox hg)|((with_reducible refine gate_dst (N := 3) rfl ?_);refine bx_ 3 #[.int .i64 a1_0,.int .i64 a1_1,.int .i64 a1_2,.bool a1_3,.int .i64 a1_4] 47 ?_;intro gb102 hg w19 hbox hb;replace HB := nb_ hg hbox hb;obtain ⟨BK102,GW102,GE102,HB⟩ := HB;have NB101_102 := Aside0.mk ((nl_ BK101 hg));have NB102_101 := Aside0.mk ((ng_ BK101 hg));replace BK101 := Aside0.mk (blk_below (kb_ BK101) hb);clear hb hbox hg;have hnb20 := NB101_102.out;have hnc20 := NB102_101.out;obtain ⟨⟨hcz21_0,hcz21_1,hcz21_2,hcz21_3,hcz21_4⟩,hfz21_0,hfz21_1,hfz21_2,hfz21_3,hfz21_4⟩ := cl5_ BK101.out;obtain ⟨⟨hcz22_0,hcz22_1,hcz22_2,hcz22_3,hcz22_4⟩,hfz22_0,hfz22_1,hfz22_2,hfz22_3,hfz22_4⟩ := cl5_ BK102.out))
      go_ret
      exact ⟨rf_,b_⟩
   ·rw [if_neg c5] at H
    have c5b0 : (a0_2 == a1_2) = false := beq_eq_false_iff_ne.mpr c5
    have c5b1 : (a0_2 != a1_2) = true := bne_iff_ne.mpr c5
    obtain rfl := Option.some.inj H
    go_enter Tryd.func42,Tryd.ntmps42
    go_wp2_with (first|((with_reducible refine gate_dst (N := 2) rfl ?_);refine bx_ 2 #[.int .i64 a0_0,.int .i64 a0_1,.int .i64 a0_2,.bool a0_3,.int .i64 a0_4] 47 ?_;intro gb101 hg w23 hbox hb;replace HB := nb_ hg hbox hb;obtain ⟨BK101,GW101,GE101,HB⟩ := HB;clear hb hbox hg)|((with_reducible refine gate_dst (N := 3) rfl ?_);refine bx_ 3 #[.int .i64 a1_0,.int .i64 a1_1,.int .i64 a1_2,.bool a1_3,.int .i64 a1_4] 47 ?_;intro gb102 hg w24 hbox hb;replace HB := nb_ hg hbox hb;obtain ⟨BK102,GW102,GE102,HB⟩ := HB;have NB101_102 := Aside0.mk ((nl_ BK101 hg));have NB102_101 := Aside0.mk ((ng_ BK101 hg));replace BK101 := Aside0.mk (blk_below (kb_ BK101) hb);clear hb hbox hg;have hnb25 := NB101_102.out;have hnc25 := NB102_101.out;obtain ⟨⟨hcz26_0,hcz26_1,hcz26_2,hcz26_3,hcz26_4⟩,hfz26_0,hfz26_1,hfz26_2,hfz26_3,hfz26_4⟩ := cl5_ BK101.out;obtain ⟨⟨hcz27_0,hcz27_1,hcz27_2,hcz27_3,hcz27_4⟩,hfz27_0,hfz27_1,hfz27_2,hfz27_3,hfz27_4⟩ := cl5_ BK102.out))
    go_ret
    exact ⟨rf_,b_⟩
  ·rw [if_neg c4] at H
   have c4b0 : (a0_1 == a1_1) = false := beq_eq_false_iff_ne.mpr c4
   have c4b1 : (a0_1 != a1_1) = true := bne_iff_ne.mpr c4
   obtain rfl := Option.some.inj H
   go_enter Tryd.func42,Tryd.ntmps42
   go_wp2_with (first|((with_reducible refine gate_dst (N := 2) rfl ?_);refine bx_ 2 #[.int .i64 a0_0,.int .i64 a0_1,.int .i64 a0_2,.bool a0_3,.int .i64 a0_4] 47 ?_;intro gb101 hg w28 hbox hb;replace HB := nb_ hg hbox hb;obtain ⟨BK101,GW101,GE101,HB⟩ := HB;clear hb hbox hg)|((with_reducible refine gate_dst (N := 3) rfl ?_);refine bx_ 3 #[.int .i64 a1_0,.int .i64 a1_1,.int .i64 a1_2,.bool a1_3,.int .i64 a1_4] 47 ?_;intro gb102 hg w29 hbox hb;replace HB := nb_ hg hbox hb;obtain ⟨BK102,GW102,GE102,HB⟩ := HB;have NB101_102 := Aside0.mk ((nl_ BK101 hg));have NB102_101 := Aside0.mk ((ng_ BK101 hg));replace BK101 := Aside0.mk (blk_below (kb_ BK101) hb);clear hb hbox hg;have hnb30 := NB101_102.out;have hnc30 := NB102_101.out;obtain ⟨⟨hcz31_0,hcz31_1,hcz31_2,hcz31_3,hcz31_4⟩,hfz31_0,hfz31_1,hfz31_2,hfz31_3,hfz31_4⟩ := cl5_ BK101.out;obtain ⟨⟨hcz32_0,hcz32_1,hcz32_2,hcz32_3,hcz32_4⟩,hfz32_0,hfz32_1,hfz32_2,hfz32_3,hfz32_4⟩ := cl5_ BK102.out))
   go_ret
   exact ⟨rf_,b_⟩
 ·rw [if_neg c3] at H
  have c3b0 : (a0_0 == a1_0) = false := beq_eq_false_iff_ne.mpr c3
  have c3b1 : (a0_0 != a1_0) = true := bne_iff_ne.mpr c3
  obtain rfl := Option.some.inj H
  go_enter Tryd.func42,Tryd.ntmps42
  go_wp2_with (first|((with_reducible refine gate_dst (N := 2) rfl ?_);refine bx_ 2 #[.int .i64 a0_0,.int .i64 a0_1,.int .i64 a0_2,.bool a0_3,.int .i64 a0_4] 47 ?_;intro gb101 hg w33 hbox hb;replace HB := nb_ hg hbox hb;obtain ⟨BK101,GW101,GE101,HB⟩ := HB;clear hb hbox hg)|((with_reducible refine gate_dst (N := 3) rfl ?_);refine bx_ 3 #[.int .i64 a1_0,.int .i64 a1_1,.int .i64 a1_2,.bool a1_3,.int .i64 a1_4] 47 ?_;intro gb102 hg w34 hbox hb;replace HB := nb_ hg hbox hb;obtain ⟨BK102,GW102,GE102,HB⟩ := HB;have NB101_102 := Aside0.mk ((nl_ BK101 hg));have NB102_101 := Aside0.mk ((ng_ BK101 hg));replace BK101 := Aside0.mk (blk_below (kb_ BK101) hb);clear hb hbox hg;have hnb35 := NB101_102.out;have hnc35 := NB102_101.out;obtain ⟨⟨hcz36_0,hcz36_1,hcz36_2,hcz36_3,hcz36_4⟩,hfz36_0,hfz36_1,hfz36_2,hfz36_3,hfz36_4⟩ := cl5_ BK101.out;obtain ⟨⟨hcz37_0,hcz37_1,hcz37_2,hcz37_3,hcz37_4⟩,hfz37_0,hfz37_1,hfz37_2,hfz37_3,hfz37_4⟩ := cl5_ BK102.out))
  go_ret
  exact ⟨rf_,b_⟩

/-! ### laws_eqSetS: function 20 -/
def laws_eqSetS.l0 : Nat → List (S47) → List (S47) → Int → Option (Bool)
  | 0, _, _, _ => none
  | k + 1, x0, x1, x5 => if x5 < (x0.length : Int) then (if 0 ≤ x5 then (if x5 < (x1.length : Int) then ((laws_eqSet.f ((rd_T47 x0 x5).f0) ((rd_T47 x0 x5).f1) ((rd_T47 x0 x5).f2) ((rd_T47 x0 x5).f3) ((rd_T47 x0 x5).f4) ((rd_T47 x1 x5).f0) ((rd_T47 x1 x5).f1) ((rd_T47 x1 x5).f2) ((rd_T47 x1 x5).f3) ((rd_T47 x1 x5).f4)).bind fun t105 => (if t105 = true then (laws_eqSetS.l0 k x0 x1 (wrap64 (x5 + 1))) else (some false))) else (none)) else (none)) else (some true)
def laws_eqSetS.f (k : Nat) (l0 : List (S47)) (l1 : List (S47)) : Option (Bool) := if (l0.length : Int) = (l1.length : Int) then (laws_eqSetS.l0 k l0 l1 0) else (some false)

def laws_eqSetS.T6 : Bool × List (List Nat × List Nat) := (true, [([], []), ([], []), ([0, 1], [0, 1]), ([2], [2]), ([], []), ([], []), ([4, 5], [4, 5]), ([6], [6]), ([3, 7], [3, 7]), ([8], [8])])
def laws_eqSetS.B6 : List Nat := [0, 0, 3, 7, 0, 0, 48, 112, 255, 511]
theorem laws_eqSetS.tab6 : rtab .any (opsOf Tryd.f20 6) = laws_eqSetS.T6 := by kernel_rfl
theorem laws_eqSetS.bits6 : waitsOk laws_eqSetS.T6.2 laws_eqSetS.B6 = true := by kernel_rfl
set_option maxHeartbeats 8000000 in
set_option maxRecDepth 100000 in
theorem laws_eqSetS.calls (k : Nat) (A0 : Option Addr) (c0 : Nat) (l0 : List (S47)) (A1 : Option Addr) (c1 : Nat) (l1 : List (S47)) (r : Bool) (w : World) (hr0 : Kd.C k47 w A0 l0.length l0) (hc0 : l0.length ≤ c0) (hr1 : Kd.C k47 w A1 l1.length l1) (hc1 : l1.length ≤ c1) (h : laws_eqSetS.f k l0 l1 = some r) :
    Calls Tryd.prog 20 #[.slice A0 l0.length c0, .slice A1 l1.length c1] w fun e w' => e = .returned (.bool r) ∧ Below w.heap.size w w' := by
 have hu47 := Tryd.underlying47
 have HR0 := Aside0.mk hr0
 have HC0 := Aside0.mk hc0
 clear hr0 hc0
 have HR1 := Aside0.mk hr1
 have HC1 := Aside0.mk hc1
 clear hr1 hc1
 have HB := Aside0.mk (Below.refl w.heap.size w)
 have H : (if (l0.length : Int) = (l1.length : Int) then (laws_eqSetS.l0 k l0 l1 0) else (some false)) = some r := h
 clear h
 by_cases c3 : (l0.length : Int) = (l1.length : Int)
 ·rw [if_pos c3] at H
  have c3b0 : ((l0.length : Int) == (l1.length : Int)) = true := beq_iff_eq.mpr c3
  have c3b1 : ((l0.length : Int) != (l1.length : Int)) = false := bne_eq_false_iff_eq.mpr c3
  have c3b2 : (l0.length == l1.length) = true := by first|simpa using c3|(simp at c3 ⊢;omega)
  clear c3
  have H' := Aside0.mk H
  clear H
  go_enter Tryd.func20,Tryd.ntmps20
  go_wp2
  go_loopg [5] k (fun kq v5 w' => ∃ (x5_1 : Int),v5 = .int .i64 x5_1 ∧ Aside0 (laws_eqSetS.l0 kq l0 l1 x5_1 = some r) ∧ Aside0 (kq ≤ k) ∧ Aside0 (Below w.heap.size w w'))
  case atStart => exact ⟨(0),rs_,H',⟨Nat.le_refl _⟩,⟨b_⟩⟩
  case round =>
   clear H'
   try clear c1
   try clear c2
   try clear p2
   try clear c3
   try clear c3b0
   try clear c3b1
   try clear c3b2
   obtain ⟨x5_1,rfl,HA,HK1,HB⟩ := hrel
   cases gk with
   | zero => exact absurd HA.out (by simp [laws_eqSetS.l0])
   | succ k1 =>
    have H := HA.out
    clear HA
    simp only [laws_eqSetS.l0] at H
    by_cases c4 : x5_1 < (l0.length : Int)
    ·rw [if_pos c4] at H
     have c4b0 : decide (x5_1 < (l0.length : Int)) = true := decide_eq_true c4
     clear c4
     by_cases c5 : 0 ≤ x5_1
     ·rw [if_pos c5] at H
      have c5b0 : decide (0 ≤ x5_1) = true := decide_eq_true c5
      clear c5
      by_cases c6 : x5_1 < (l1.length : Int)
      ·rw [if_pos c6] at H
       have c6b0 : decide (x5_1 < (l1.length : Int)) = true := decide_eq_true c6
       clear c6
       replace H := bs_ H
       obtain ⟨t105,A7,H⟩ := H
       by_cases c8 : t105 = true
       ·subst c8
        replace H := it_ H
        have H' := Aside0.mk H
        clear H
        try go_wp2
        replace HB := Aside0.mk (below_drew1 HB.out)
        have p103 : 0 ≤ (x5_1 : Int) := od_
        have q103 : x5_1 < (l0.length : Int) := od_
        obtain ⟨ad103,e103,hx103_0,hx103_1,hx103_2,hx103_3,hx103_4⟩ := at_T47 HR0.out x5_1 p103 q103
        have hw103_4 := hx103_4
        have hw103_3 := hx103_3
        have hw103_2 := hx103_2
        have hw103_1 := hx103_1
        have hw103_0 := hx103_0
        cases e103
        replace hx103_0 := hx_ HB hx103_0
        replace hx103_1 := hx_ HB hx103_1
        replace hx103_2 := hx_ HB hx103_2
        replace hx103_3 := hx_ HB hx103_3
        replace hx103_4 := hx_ HB hx103_4
        replace p103 := eq_true p103
        replace q103 := eq_true q103
        have p104 : 0 ≤ (x5_1 : Int) := od_
        have q104 : x5_1 < (l1.length : Int) := od_
        obtain ⟨ad104,e104,hx104_0,hx104_1,hx104_2,hx104_3,hx104_4⟩ := at_T47 HR1.out x5_1 p104 q104
        have hw104_4 := hx104_4
        have hw104_3 := hx104_3
        have hw104_2 := hx104_2
        have hw104_1 := hx104_1
        have hw104_0 := hx104_0
        cases e104
        replace hx104_0 := hx_ HB hx104_0
        replace hx104_1 := hx_ HB hx104_1
        replace hx104_2 := hx_ HB hx104_2
        replace hx104_3 := hx_ HB hx104_3
        replace hx104_4 := hx_ HB hx104_4
        replace p104 := eq_true p104
        replace q104 := eq_true q104
        refine st_ 10 (S := fun w' => he5 w' (ad103.add ((x5_1).toNat * 5)) (.int .i64 ((rd_T47 l0 x5_1).f0)) (.int .i64 ((rd_T47 l0 x5_1).f1)) (.int .i64 ((rd_T47 l0 x5_1).f2)) (.bool ((rd_T47 l0 x5_1).f3)) (.int .i64 ((rd_T47 l0 x5_1).f4)) (hf5 w' (ad104.add ((x5_1).toNat * 5)) (.int .i64 ((rd_T47 l1 x5_1).f0)) (.int .i64 ((rd_T47 l1 x5_1).f1)) (.int .i64 ((rd_T47 l1 x5_1).f2)) (.bool ((rd_T47 l1 x5_1).f3)) (.int .i64 ((rd_T47 l1 x5_1).f4)))) hh_ (fun hHeld => ?_);refine with_tabW laws_eqSetS.tab6 laws_eqSetS.bits6 (fun HT_ HW_ => ?_)
        generalize wr.drew = w9 at HB hx103_0 hx103_1 hx103_2 hx103_3 hx103_4 hx104_0 hx104_1 hx104_2 hx104_3 hx104_4 hHeld ⊢
        refine pv_ 0 17 ?_
        refine pv_ 1 18 ?_
        refine pv_ 2 19 ?_
        refine pv_ 4 21 ?_
        refine pv_ 5 22 ?_
        refine pv_ 6 23 ?_
        refine tx_ 3 20 hHeld ?_
        refine tx_ 7 24 hHeld ?_
        refine oy_ 8 25 (fun K hK => ?_)
        refine gs_ Tryd.func42 #[.agg #[.int .i64 ((rd_T47 l0 x5_1).f0),.int .i64 ((rd_T47 l0 x5_1).f1),.int .i64 ((rd_T47 l0 x5_1).f2),.bool ((rd_T47 l0 x5_1).f3),.int .i64 ((rd_T47 l0 x5_1).f4)],.agg #[.int .i64 ((rd_T47 l1 x5_1).f0),.int .i64 ((rd_T47 l1 x5_1).f1),.int .i64 ((rd_T47 l1 x5_1).f2),.bool ((rd_T47 l1 x5_1).f3),.int .i64 ((rd_T47 l1 x5_1).f4)]] ?_
        with_reducible refine (laws_eqSet.calls ((rd_T47 l0 x5_1).f0) ((rd_T47 l0 x5_1).f1) ((rd_T47 l0 x5_1).f2) ((rd_T47 l0 x5_1).f3) ((rd_T47 l0 x5_1).f4) ((rd_T47 l1 x5_1).f0) ((rd_T47 l1 x5_1).f1) ((rd_T47 l1 x5_1).f2) ((rd_T47 l1 x5_1).f3) ((rd_T47 l1 x5_1).f4) true _ A7.out).mono ?_
        rintro e w10 ⟨rfl,hb⟩
        refine ⟨_,rfl,?_⟩
        replace HB := Aside0.mk (below_step b_ hb)
        (try clear hb)
        (try clear hb2)
        (try clear hk)
        (try clear hi)
        refine hK.out _ _ hh_ (fun hHeld => ?_)
        clear hK K
        refine nr_ (some 25) _ ?_
        refine pv_ 9 26 ?_
        refine done_ (done_of HT_.out (by kernel_rfl)) ?_
        try go_wp2
        go_roundg k1
        case measure => have := HK1.out;omega
        case rel => exact ⟨(wrap64 (x5_1 + 1)),rs_,H',⟨by have := HK1.out;omega⟩,⟨b_⟩⟩
       ·replace c8 := Bool.eq_false_iff.mpr c8
        subst c8
        replace H := ie_ H
        obtain rfl := Option.some.inj H
        try go_wp2
        replace HB := Aside0.mk (below_drew1 HB.out)
        have p103 : 0 ≤ (x5_1 : Int) := od_
        have q103 : x5_1 < (l0.length : Int) := od_
        obtain ⟨ad103,e103,hx103_0,hx103_1,hx103_2,hx103_3,hx103_4⟩ := at_T47 HR0.out x5_1 p103 q103
        have hw103_4 := hx103_4
        have hw103_3 := hx103_3
        have hw103_2 := hx103_2
        have hw103_1 := hx103_1
        have hw103_0 := hx103_0
        cases e103
        replace hx103_0 := hx_ HB hx103_0
        replace hx103_1 := hx_ HB hx103_1
        replace hx103_2 := hx_ HB hx103_2
        replace hx103_3 := hx_ HB hx103_3
        replace hx103_4 := hx_ HB hx103_4
        replace p103 := eq_true p103
        replace q103 := eq_true q103
        have p104 : 0 ≤ (x5_1 : Int) := od_
        have q104 : x5_1 < (l1.length : Int) := od_
        obtain ⟨ad104,e104,hx104_0,hx104_1,hx104_2,hx104_3,hx104_4⟩ := at_T47 HR1.out x5_1 p104 q104
        have hw104_4 := hx104_4
        have hw104_3 := hx104_3
        have hw104_2 := hx104_2
        have hw104_1 := hx104_1
        have hw104_0 := hx104_0
        cases e104
        replace hx104_0 := hx_ HB hx104_0
        replace hx104_1 := hx_ HB hx104_1
        replace hx104_2 := hx_ HB hx104_2
        replace hx104_3 := hx_ HB hx104_3
        replace hx104_4 := hx_ HB hx104_4
        replace p104 := eq_true p104
        replace q104 := eq_true q104
        refine st_ 10 (S := fun w' => he5 w' (ad103.add ((x5_1).toNat * 5)) (.int .i64 ((rd_T47 l0 x5_1).f0)) (.int .i64 ((rd_T47 l0 x5_1).f1)) (.int .i64 ((rd_T47 l0 x5_1).f2)) (.bool ((rd_T47 l0 x5_1).f3)) (.int .i64 ((rd_T47 l0 x5_1).f4)) (hf5 w' (ad104.add ((x5_1).toNat * 5)) (.int .i64 ((rd_T47 l1 x5_1).f0)) (.int .i64 ((rd_T47 l1 x5_1).f1)) (.int .i64 ((rd_T47 l1 x5_1).f2)) (.bool ((rd_T47 l1 x5_1).f3)) (.int .i64 ((rd_T47 l1 x5_1).f4)))) hh_ (fun hHeld => ?_);refine with_tabW laws_eqSetS.tab6 laws_eqSetS.bits6 (fun HT_ HW_ => ?_)
        generalize wr.drew = w11 at HB hx103_0 hx103_1 hx103_2 hx103_3 hx103_4 hx104_0 hx104_1 hx104_2 hx104_3 hx104_4 hHeld ⊢
        refine pv_ 0 17 ?_
        refine pv_ 1 18 ?_
        refine pv_ 2 19 ?_
        refine pv_ 4 21 ?_
        refine pv_ 5 22 ?_
        refine pv_ 6 23 ?_
        refine tx_ 3 20 hHeld ?_
        refine tx_ 7 24 hHeld ?_
        refine oy_ 8 25 (fun K hK => ?_)
        refine gs_ Tryd.func42 #[.agg #[.int .i64 ((rd_T47 l0 x5_1).f0),.int .i64 ((rd_T47 l0 x5_1).f1),.int .i64 ((rd_T47 l0 x5_1).f2),.bool ((rd_T47 l0 x5_1).f3),.int .i64 ((rd_T47 l0 x5_1).f4)],.agg #[.int .i64 ((rd_T47 l1 x5_1).f0),.int .i64 ((rd_T47 l1 x5_1).f1),.int .i64 ((rd_T47 l1 x5_1).f2),.bool ((rd_T47 l1 x5_1).f3),.int .i64 ((rd_T47 l1 x5_1).f4)]] ?_
        with_reducible refine (laws_eqSet.calls ((rd_T47 l0 x5_1).f0) ((rd_T47 l0 x5_1).f1) ((rd_T47 l0 x5_1).f2) ((rd_T47 l0 x5_1).f3) ((rd_T47 l0 x5_1).f4) ((rd_T47 l1 x5_1).f0) ((rd_T47 l1 x5_1).f1) ((rd_T47 l1 x5_1).f2) ((rd_T47 l1 x5_1).f3) ((rd_T47 l1 x5_1).f4) false _ A7.out).mono ?_
        rintro e w12 ⟨rfl,hb⟩
        refine ⟨_,rfl,?_⟩
        replace HB := Aside0.mk (below_step b_ hb)
        (try clear hb)
        (try clear hb2)
        (try clear hk)
        (try clear hi)
        refine hK.out _ _ hh_ (fun hHeld => ?_)
        clear hK K
        refine nr_ (some 25) _ ?_
        refine pv_ 9 26 ?_
        refine done_ (done_of HT_.out (by kernel_rfl)) ?_
        try go_wp2
        go_ret
        exact ⟨rf_,b_⟩
      ·rw [if_neg c6] at H
       exact absurd H (by simp)
     ·rw [if_neg c5] at H
      exact absurd H (by simp)
    ·rw [if_neg c4] at H
     have c4b0 : decide (x5_1 < (l0.length : Int)) = false := decide_eq_false c4
     clear c4
     obtain rfl := Option.some.inj H
     go_wp2
     go_ret
     exact ⟨rf_,b_⟩
 ·rw [if_neg c3] at H
  have c3b0 : ((l0.length : Int) == (l1.length : Int)) = false := beq_eq_false_iff_ne.mpr c3
  have c3b1 : ((l0.length : Int) != (l1.length : Int)) = true := bne_iff_ne.mpr c3
  have c3b2 : (l0.length == l1.length) = false := by first|simpa using c3|(simp at c3 ⊢;omega)
  obtain rfl := Option.some.inj H
  go_enter Tryd.func20,Tryd.ntmps20
  go_wp2
  go_ret
  exact ⟨rf_,b_⟩

/-! ### laws_eqRecord: function 9 -/
def laws_eqRecord.f (k : Nat) (a0_0 : Int) (a0_1 : Int) (a0_2 : Int) (l0_3 : List (S47)) (a1_0 : Int) (a1_1 : Int) (a1_2 : Int) (l1_3 : List (S47)) : Option (Bool) := if a0_0 = a1_0 then (if a0_1 = a1_1 then (if a0_2 = a1_2 then ((laws_eqSetS.f k l0_3 l1_3).bind fun t108 => (if t108 = true then (some true) else (some false))) else (some false)) else (some false)) else (some false)

set_option maxHeartbeats 8000000 in
set_option maxRecDepth 100000 in
theorem laws_eqRecord.calls (k : Nat) (a0_0 : Int) (a0_1 : Int) (a0_2 : Int) (A0_3 : Option Addr) (c0_3 : Nat) (l0_3 : List (S47)) (a1_0 : Int) (a1_1 : Int) (a1_2 : Int) (A1_3 : Option Addr) (c1_3 : Nat) (l1_3 : List (S47)) (r : Bool) (w : World) (hr0_3 : Kd.C k47 w A0_3 l0_3.length l0_3) (hc0_3 : l0_3.length ≤ c0_3) (hr1_3 : Kd.C k47 w A1_3 l1_3.length l1_3) (hc1_3 : l1_3.length ≤ c1_3) (h : laws_eqRecord.f k a0_0 a0_1 a0_2 l0_3 a1_0 a1_1 a1_2 l1_3 = some r) :
    Calls Tryd.prog 9 #[.agg #[.int .i64 a0_0, .int .i64 a0_1, .int .i64 a0_2, .slice A0_3 l0_3.length c0_3], .agg #[.int .i64 a1_0, .int .i64 a1_1, .int .i64 a1_2, .slice A1_3 l1_3.length c1_3]] w fun e w' => e = .returned (.bool r) ∧ Below w.heap.size w w' := by
 have hu29 := Tryd.underlying29
 have HR0_3 := Aside0.mk hr0_3
 have HC0_3 := Aside0.mk hc0_3
 clear hr0_3 hc0_3
 have HR1_3 := Aside0.mk hr1_3
 have HC1_3 := Aside0.mk hc1_3
 clear hr1_3 hc1_3
 have HB := Aside0.mk (Below.refl w.heap.size w)
 have H : (if a0_0 = a1_0 then (if a0_1 = a1_1 then (if a0_2 = a1_2 then ((laws_eqSetS.f k l0_3 l1_3).bind fun t108 => (if t108 = true then (some true) else (some false))) else (some false)) else (some false)) else (some false)) = some r := h
 clear h
 by_cases c3 : a0_0 = a1_0
 ·rw [if_pos c3] at H
  have c3b0 : (a0_0 == a1_0) = true := beq_iff_eq.mpr c3
  have c3b1 : (a0_0 != a1_0) = false := bne_eq_false_iff_eq.mpr c3
  clear c3
  by_cases c4 : a0_1 = a1_1
  ·rw [if_pos c4] at H
   have c4b0 : (a0_1 == a1_1) = true := beq_iff_eq.mpr c4
   have c4b1 : (a0_1 != a1_1) = false := bne_eq_false_iff_eq.mpr c4
   clear c4
   by_cases c5 : a0_2 = a1_2
   ·rw [if_pos c5] at H
    have c5b0 : (a0_2 == a1_2) = true := beq_iff_eq.mpr c5
    have c5b1 : (a0_2 != a1_2) = false := bne_eq_false_iff_eq.mpr c5
    clear c5
    replace H := bs_ H
    obtain ⟨t108,A6,H⟩ := H
    by_cases c7 : t108 = true
    ·subst c7
     replace H := it_ H
     obtain rfl := Option.some.inj H
     go_enter Tryd.func9,Tryd.ntmps9
     go_wp2_with (first|((with_reducible refine gate_dst (N := 2) rfl ?_);refine bx_ 2 #[.int .i64 a0_0,.int .i64 a0_1,.int .i64 a0_2,.slice A0_3 l0_3.length c0_3] 29 ?_;intro gb106 hg w8 hbox hb;replace HB := nb_ hg hbox hb;obtain ⟨BK106,GW106,GE106,HB⟩ := HB;clear hb hbox hg)|((with_reducible refine gate_dst (N := 3) rfl ?_);refine bx_ 3 #[.int .i64 a1_0,.int .i64 a1_1,.int .i64 a1_2,.slice A1_3 l1_3.length c1_3] 29 ?_;intro gb107 hg w9 hbox hb;replace HB := nb_ hg hbox hb;obtain ⟨BK107,GW107,GE107,HB⟩ := HB;have NB106_107 := Aside0.mk ((nl_ BK106 hg));have NB107_106 := Aside0.mk ((ng_ BK106 hg));replace BK106 := Aside0.mk (blk_below (kb_ BK106) hb);clear hb hbox hg;have hnb10 := NB106_107.out;have hnc10 := NB107_106.out;obtain ⟨⟨hcz11_0,hcz11_1,hcz11_2,hcz11_3⟩,hfz11_0,hfz11_1,hfz11_2,hfz11_3⟩ := cl4_ BK106.out;obtain ⟨⟨hcz12_0,hcz12_1,hcz12_2,hcz12_3⟩,hfz12_0,hfz12_1,hfz12_2,hfz12_3⟩ := cl4_ BK107.out)|((with_reducible refine gcal_ (f := 20) rfl ?_);refine gl_ (some 24) Tryd.func20 #[.slice A0_3 l0_3.length c0_3,.slice A1_3 l1_3.length c1_3] ?_;(with_reducible refine (laws_eqSetS.calls k _ _ l0_3 _ _ l1_3 true _ ?side1 ?side2 ?side3 ?side4 A6.out).mono ?_);(case side1 => exact cb_ HR0_3);(case side2 => exact HC0_3.out);(case side3 => exact cb_ HR1_3);(case side4 => exact HC1_3.out);rintro e w13 ⟨rfl,hb⟩;refine ⟨_,rfl,?_⟩;replace BK106 := Aside0.mk (blk_below (kb_ BK106) hb);replace BK107 := Aside0.mk (blk_below (kb_ BK107) hb);replace HB := Aside0.mk (below_step b_ hb);(try clear hb);(try clear hb2);(try clear hk);(try clear hi)))
     go_ret
     exact ⟨rf_,b_⟩
    ·replace c7 := Bool.eq_false_iff.mpr c7
     subst c7
     replace H := ie_ H
     obtain rfl := Option.some.inj H
     go_enter Tryd.func9,Tryd.ntmps9
     go_wp2_with (first|((with_reducible refine gate_dst (N := 2) rfl ?_);refine bx_ 2 #[.int .i64 a0_0,.int .i64 a0_1,.int .i64 a0_2,.slice A0_3 l0_3.length c0_3] 29 ?_;intro gb106 hg w14 hbox hb;replace HB := nb_ hg hbox hb;obtain ⟨BK106,GW106,GE106,HB⟩ := HB;clear hb hbox hg)|((with_reducible refine gate_dst (N := 3) rfl ?_);refine bx_ 3 #[.int .i64 a1_0,.int .i64 a1_1,.int .i64 a1_2,.slice A1_3 l1_3.length c1_3] 29 ?_;intro gb107 hg w15 hbox hb;replace HB := nb_ hg hbox hb;obtain ⟨BK107,GW107,GE107,HB⟩ := HB;have NB106_107 := Aside0.mk ((nl_ BK106 hg));have NB107_106 := Aside0.mk ((ng_ BK106 hg));replace BK106 := Aside0.mk (blk_below (kb_ BK106) hb);clear hb hbox hg;have hnb16 := NB106_107.out;have hnc16 := NB107_106.out;obtain ⟨⟨hcz17_0,hcz17_1,hcz17_2,hcz17_3⟩,hfz17_0,hfz17_1,hfz17_2,hfz17_3⟩ := cl4_ BK106.out;obtain ⟨⟨hcz18_0,hcz18_1,hcz18_2,hcz18_3⟩,hfz18_0,hfz18_1,hfz18_2,hfz18_3⟩ := cl4_ BK107.out)|((with_reducible refine gcal_ (f := 20) rfl ?_);refine gl_ (some 24) Tryd.func20 #[.slice A0_3 l0_3.length c0_3,.slice A1_3 l1_3.length c1_3] ?_;(with_reducible refine (laws_eqSetS.calls k _ _ l0_3 _ _ l1_3 false _ ?side1 ?side2 ?side3 ?side4 A6.out).mono ?_);(case side1 => exact cb_ HR0_3);(case side2 => exact HC0_3.out);(case side3 => exact cb_ HR1_3);(case side4 => exact HC1_3.out);rintro e w19 ⟨rfl,hb⟩;refine ⟨_,rfl,?_⟩;replace BK106 := Aside0.mk (blk_below (kb_ BK106) hb);replace BK107 := Aside0.mk (blk_below (kb_ BK107) hb);replace HB := Aside0.mk (below_step b_ hb);(try clear hb);(try clear hb2);(try clear hk);(try clear hi)))
     go_ret
     exact ⟨rf_,b_⟩
   ·rw [if_neg c5] at H
    have c5b0 : (a0_2 == a1_2) = false := beq_eq_false_iff_ne.mpr c5
    have c5b1 : (a0_2 != a1_2) = true := bne_iff_ne.mpr c5
    obtain rfl := Option.some.inj H
    go_enter Tryd.func9,Tryd.ntmps9
    go_wp2_with (first|((with_reducible refine gate_dst (N := 2) rfl ?_);refine bx_ 2 #[.int .i64 a0_0,.int .i64 a0_1,.int .i64 a0_2,.slice A0_3 l0_3.length c0_3] 29 ?_;intro gb106 hg w20 hbox hb;replace HB := nb_ hg hbox hb;obtain ⟨BK106,GW106,GE106,HB⟩ := HB;clear hb hbox hg)|((with_reducible refine gate_dst (N := 3) rfl ?_);refine bx_ 3 #[.int .i64 a1_0,.int .i64 a1_1,.int .i64 a1_2,.slice A1_3 l1_3.length c1_3] 29 ?_;intro gb107 hg w21 hbox hb;replace HB := nb_ hg hbox hb;obtain ⟨BK107,GW107,GE107,HB⟩ := HB;have NB106_107 := Aside0.mk ((nl_ BK106 hg));have NB107_106 := Aside0.mk ((ng_ BK106 hg));replace BK106 := Aside0.mk (blk_below (kb_ BK106) hb);clear hb hbox hg;have hnb22 := NB106_107.out;have hnc22 := NB107_106.out;obtain ⟨⟨hcz23_0,hcz23_1,hcz23_2,hcz23_3⟩,hfz23_0,hfz23_1,hfz23_2,hfz23_3⟩ := cl4_ BK106.out;obtain ⟨⟨hcz24_0,hcz24_1,hcz24_2,hcz24_3⟩,hfz24_0,hfz24_1,hfz24_2,hfz24_3⟩ := cl4_ BK107.out))
    go_ret
    exact ⟨rf_,b_⟩
  ·rw [if_neg c4] at H
   have c4b0 : (a0_1 == a1_1) = false := beq_eq_false_iff_ne.mpr c4
   have c4b1 : (a0_1 != a1_1) = true := bne_iff_ne.mpr c4
   obtain rfl := Option.some.inj H
   go_enter Tryd.func9,Tryd.ntmps9
   go_wp2_with (first|((with_reducible refine gate_dst (N := 2) rfl ?_);refine bx_ 2 #[.int .i64 a0_0,.int .i64 a0_1,.int .i64 a0_2,.slice A0_3 l0_3.length c0_3] 29 ?_;intro gb106 hg w25 hbox hb;replace HB := nb_ hg hbox hb;obtain ⟨BK106,GW106,GE106,HB⟩ := HB;clear hb hbox hg)|((with_reducible refine gate_dst (N := 3) rfl ?_);refine bx_ 3 #[.int .i64 a1_0,.int .i64 a1_1,.int .i64 a1_2,.slice A1_3 l1_3.length c1_3] 29 ?_;intro gb107 hg w26 hbox hb;replace HB := nb_ hg hbox hb;obtain ⟨BK107,GW107,GE107,HB⟩ := HB;have NB106_107 := Aside0.mk ((nl_ BK106 hg));have NB107_106 := Aside0.mk ((ng_ BK106 hg));replace BK106 := Aside0.mk (blk_below (kb_ BK106) hb);clear hb hbox hg;have hnb27 := NB106_107.out;have hnc27 := NB107_106.out;obtain ⟨⟨hcz28_0,hcz28_1,hcz28_2,hcz28_3⟩,hfz28_0,hfz28_1,hfz28_2,hfz28_3⟩ := cl4_ BK106.out;obtain ⟨⟨hcz29_0,hcz29_1,hcz29_2,hcz29_3⟩,hfz29_0,hfz29_1,hfz29_2,hfz29_3⟩ := cl4_ BK107.out))
   go_ret
   exact ⟨rf_,b_⟩
 ·rw [if_neg c3] at H
  have c3b0 : (a0_0 == a1_0) = false := beq_eq_false_iff_ne.mpr c3
  have c3b1 : (a0_0 != a1_0) = true := bne_iff_ne.mpr c3
  obtain rfl := Option.some.inj H
  go_enter Tryd.func9,Tryd.ntmps9
  go_wp2_with (first|((with_reducible refine gate_dst (N := 2) rfl ?_);refine bx_ 2 #[.int .i64 a0_0,.int .i64 a0_1,.int .i64 a0_2,.slice A0_3 l0_3.length c0_3] 29 ?_;intro gb106 hg w30 hbox hb;replace HB := nb_ hg hbox hb;obtain ⟨BK106,GW106,GE106,HB⟩ := HB;clear hb hbox hg)|((with_reducible refine gate_dst (N := 3) rfl ?_);refine bx_ 3 #[.int .i64 a1_0,.int .i64 a1_1,.int .i64 a1_2,.slice A1_3 l1_3.length c1_3] 29 ?_;intro gb107 hg w31 hbox hb;replace HB := nb_ hg hbox hb;obtain ⟨BK107,GW107,GE107,HB⟩ := HB;have NB106_107 := Aside0.mk ((nl_ BK106 hg));have NB107_106 := Aside0.mk ((ng_ BK106 hg));replace BK106 := Aside0.mk (blk_below (kb_ BK106) hb);clear hb hbox hg;have hnb32 := NB106_107.out;have hnc32 := NB107_106.out;obtain ⟨⟨hcz33_0,hcz33_1,hcz33_2,hcz33_3⟩,hfz33_0,hfz33_1,hfz33_2,hfz33_3⟩ := cl4_ BK106.out;obtain ⟨⟨hcz34_0,hcz34_1,hcz34_2,hcz34_3⟩,hfz34_0,hfz34_1,hfz34_2,hfz34_3⟩ := cl4_ BK107.out))
  go_ret
  exact ⟨rf_,b_⟩

/-! ### spec_l1In: function 27 -/
def spec_l1In.f (a0 : Int) (a1 : Int) (a2 : Int) : Option (Bool) := if a0 ≥ a1 then (some (decide (a0 ≤ a2))) else (some false)
set_option maxHeartbeats 8000000 in
set_option maxRecDepth 100000 in
theorem spec_l1In.calls (a0 : Int) (a1 : Int) (a2 : Int) (r : Bool) (w : World) (h : spec_l1In.f a0 a1 a2 = some r) :
    Calls Tryd.prog 27 #[.int .i64 a0, .int .i64 a1, .int .i64 a2] w fun e w' => e = .returned (.bool r) ∧ Drawn0 w w' := by
 have H : (if a0 ≥ a1 then (some (decide (a0 ≤ a2))) else (some false)) = some r := h
 clear h
 by_cases c4 : a0 ≥ a1
 ·rw [if_pos c4] at H
  have c4b0 : decide (a1 ≤ a0) = true := decide_eq_true c4
  clear c4
  obtain rfl := Option.some.inj H
  go_enter Tryd.func27,Tryd.ntmps27
  go_wp2
  go_ret
  exact ⟨rs_,by repeat (first|exact Drawn0.refl _|apply Drawn0.step)⟩
 ·rw [if_neg c4] at H
  have c4b0 : decide (a1 ≤ a0) = false := decide_eq_false c4
  clear c4
  obtain rfl := Option.some.inj H
  go_enter Tryd.func27,Tryd.ntmps27
  go_wp2
  go_ret
  exact ⟨rs_,by repeat (first|exact Drawn0.refl _|apply Drawn0.step)⟩

/-! ### spec_l1Id: function 28 -/
def spec_l1Id.f (a0 : Int) : Option (Bool) := (spec_l1In.f a0 1 1000000).bind fun t109 => (some t109)
set_option maxHeartbeats 8000000 in
set_option maxRecDepth 100000 in
theorem spec_l1Id.calls (a0 : Int) (r : Bool) (w : World) (h : spec_l1Id.f a0 = some r) :
    Calls Tryd.prog 28 #[.int .i64 a0] w fun e w' => e = .returned (.bool r) ∧ Drawn0 w w' := by
 have H : ((spec_l1In.f a0 1 1000000).bind fun t109 => (some t109)) = some r := h
 clear h
 replace H := bs_ H
 obtain ⟨t109,A2,H⟩ := H
 obtain rfl := Option.some.inj H
 go_enter Tryd.func28,Tryd.ntmps28
 go_wp2_with (first|((with_reducible refine gcal_ (f := 27) rfl ?_);refine gl_ (some 4) Tryd.func27 #[.int .i64 a0,.int .i64 1,.int .i64 1000000] ?_;(with_reducible refine (spec_l1In.calls a0 1 1000000 t109 _ A2.out).mono ?_);rintro e w' ⟨rfl,⟨nd,rfl⟩⟩;refine ⟨_,rfl,?_⟩))
 go_ret
 exact ⟨rs_,by repeat (first|exact Drawn0.refl _|apply Drawn0.step)⟩

/-! ### spec_l1Region: function 29 -/
def spec_l1Region.f (a0 : Int) : Option (Bool) := (spec_l1In.f a0 0 5).bind fun t110 => (some t110)
set_option maxHeartbeats 8000000 in
set_option maxRecDepth 100000 in
theorem spec_l1Region.calls (a0 : Int) (r : Bool) (w : World) (h : spec_l1Region.f a0 = some r) :
    Calls Tryd.prog 29 #[.int .i64 a0] w fun e w' => e = .returned (.bool r) ∧ Drawn0 w w' := by
 have H : ((spec_l1In.f a0 0 5).bind fun t110 => (some t110)) = some r := h
 clear h
 replace H := bs_ H
 obtain ⟨t110,A2,H⟩ := H
 obtain rfl := Option.some.inj H
 go_enter Tryd.func29,Tryd.ntmps29
 go_wp2_with (first|((with_reducible refine gcal_ (f := 27) rfl ?_);refine gl_ (some 4) Tryd.func27 #[.int .i64 a0,.int .i64 0,.int .i64 5] ?_;(with_reducible refine (spec_l1In.calls a0 0 5 t110 _ A2.out).mono ?_);rintro e w' ⟨rfl,⟨nd,rfl⟩⟩;refine ⟨_,rfl,?_⟩))
 go_ret
 exact ⟨rs_,by repeat (first|exact Drawn0.refl _|apply Drawn0.step)⟩

/-! ### spec_l1Slot: function 57 -/
def spec_l1Slot.f (a0 : Int) : Option (Bool) := (spec_l1In.f a0 0 5).bind fun t111 => (some t111)
set_option maxHeartbeats 8000000 in
set_option maxRecDepth 100000 in
theorem spec_l1Slot.calls (a0 : Int) (r : Bool) (w : World) (h : spec_l1Slot.f a0 = some r) :
    Calls Tryd.prog 57 #[.int .i64 a0] w fun e w' => e = .returned (.bool r) ∧ Drawn0 w w' := by
 have H : ((spec_l1In.f a0 0 5).bind fun t111 => (some t111)) = some r := h
 clear h
 replace H := bs_ H
 obtain ⟨t111,A2,H⟩ := H
 obtain rfl := Option.some.inj H
 go_enter Tryd.func57,Tryd.ntmps57
 go_wp2_with (first|((with_reducible refine gcal_ (f := 27) rfl ?_);refine gl_ (some 4) Tryd.func27 #[.int .i64 a0,.int .i64 0,.int .i64 5] ?_;(with_reducible refine (spec_l1In.calls a0 0 5 t111 _ A2.out).mono ?_);rintro e w' ⟨rfl,⟨nd,rfl⟩⟩;refine ⟨_,rfl,?_⟩))
 go_ret
 exact ⟨rs_,by repeat (first|exact Drawn0.refl _|apply Drawn0.step)⟩

/-! ### spec_l1Value: function 58 -/
def spec_l1Value.f (a0 : Int) : Option (Bool) := (spec_l1In.f a0 (-1000000000) 1000000000).bind fun t112 => (some t112)
set_option maxHeartbeats 8000000 in
set_option maxRecDepth 100000 in
theorem spec_l1Value.calls (a0 : Int) (r : Bool) (w : World) (h : spec_l1Value.f a0 = some r) :
    Calls Tryd.prog 58 #[.int .i64 a0] w fun e w' => e = .returned (.bool r) ∧ Drawn0 w w' := by
 have H : ((spec_l1In.f a0 (-1000000000) 1000000000).bind fun t112 => (some t112)) = some r := h
 clear h
 replace H := bs_ H
 obtain ⟨t112,A2,H⟩ := H
 obtain rfl := Option.some.inj H
 go_enter Tryd.func58,Tryd.ntmps58
 go_wp2_with (first|((with_reducible refine gcal_ (f := 27) rfl ?_);refine gl_ (some 4) Tryd.func27 #[.int .i64 a0,.int .i64 (-1000000000),.int .i64 1000000000] ?_;(with_reducible refine (spec_l1In.calls a0 (-1000000000) 1000000000 t112 _ A2.out).mono ?_);rintro e w' ⟨rfl,⟨nd,rfl⟩⟩;refine ⟨_,rfl,?_⟩))
 go_ret
 exact ⟨rs_,by repeat (first|exact Drawn0.refl _|apply Drawn0.step)⟩

/-! ### spec_SetOk: function 45 -/
def spec_SetOk.f (a0_0 : Int) (a0_1 : Int) (a0_2 : Int) (a0_3 : Bool) (a0_4 : Int) : Option (Bool) := (spec_l1Region.f a0_0).bind fun t114 => (if t114 = true then ((spec_l1Slot.f a0_1).bind fun t115 => (if t115 = true then ((spec_l1Value.f a0_2).bind fun t116 => (if t116 = true then ((spec_l1In.f a0_4 0 999999).bind fun t117 => (some t117)) else (some false))) else (some false))) else (some false))
set_option maxHeartbeats 8000000 in
set_option maxRecDepth 100000 in
theorem spec_SetOk.calls (a0_0 : Int) (a0_1 : Int) (a0_2 : Int) (a0_3 : Bool) (a0_4 : Int) (r : Bool) (w : World) (h : spec_SetOk.f a0_0 a0_1 a0_2 a0_3 a0_4 = some r) :
    Calls Tryd.prog 45 #[.agg #[.int .i64 a0_0, .int .i64 a0_1, .int .i64 a0_2, .bool a0_3, .int .i64 a0_4]] w fun e w' => e = .returned (.bool r) ∧ Below w.heap.size w w' := by
 have hu47 := Tryd.underlying47
 have HB := Aside0.mk (Below.refl w.heap.size w)
 have H : ((spec_l1Region.f a0_0).bind fun t114 => (if t114 = true then ((spec_l1Slot.f a0_1).bind fun t115 => (if t115 = true then ((spec_l1Value.f a0_2).bind fun t116 => (if t116 = true then ((spec_l1In.f a0_4 0 999999).bind fun t117 => (some t117)) else (some false))) else (some false))) else (some false))) = some r := h
 clear h
 replace H := bs_ H
 obtain ⟨t114,A2,H⟩ := H
 by_cases c3 : t114 = true
 ·subst c3
  replace H := it_ H
  replace H := bs_ H
  obtain ⟨t115,A4,H⟩ := H
  by_cases c5 : t115 = true
  ·subst c5
   replace H := it_ H
   replace H := bs_ H
   obtain ⟨t116,A6,H⟩ := H
   by_cases c7 : t116 = true
   ·subst c7
    replace H := it_ H
    replace H := bs_ H
    obtain ⟨t117,A8,H⟩ := H
    obtain rfl := Option.some.inj H
    go_enter Tryd.func45,Tryd.ntmps45
    go_wp2_with (first|((with_reducible refine gate_dst (N := 1) rfl ?_);refine bx_ 1 #[.int .i64 a0_0,.int .i64 a0_1,.int .i64 a0_2,.bool a0_3,.int .i64 a0_4] 47 ?_;intro gb113 hg w9 hbox hb;replace HB := nb_ hg hbox hb;obtain ⟨BK113,GW113,GE113,HB⟩ := HB;clear hb hbox hg;obtain ⟨⟨hcz10_0,hcz10_1,hcz10_2,hcz10_3,hcz10_4⟩,hfz10_0,hfz10_1,hfz10_2,hfz10_3,hfz10_4⟩ := cl5_ BK113.out)|((with_reducible refine gcal_ (f := 29) rfl ?_);refine gl_ (some 5) Tryd.func29 #[.int .i64 a0_0] ?_;(with_reducible refine (spec_l1Region.calls a0_0 true _ A2.out).mono ?_);rintro e w' ⟨rfl,⟨nd,rfl⟩⟩;refine ⟨_,rfl,?_⟩)|(go_at_call 57;(with_reducible refine (spec_l1Slot.calls a0_1 true _ A4.out).mono ?_);rintro e w' ⟨rfl,⟨nd,rfl⟩⟩)|(go_at_call 58;(with_reducible refine (spec_l1Value.calls a0_2 true _ A6.out).mono ?_);rintro e w' ⟨rfl,⟨nd,rfl⟩⟩)|(go_at_call 27;(with_reducible refine (spec_l1In.calls a0_4 0 999999 t117 _ A8.out).mono ?_);rintro e w' ⟨rfl,⟨nd,rfl⟩⟩))
    go_ret
    exact ⟨rf_,b_⟩
   ·replace c7 := Bool.eq_false_iff.mpr c7
    subst c7
    replace H := ie_ H
    obtain rfl := Option.some.inj H
    go_enter Tryd.func45,Tryd.ntmps45
    go_wp2_with (first|((with_reducible refine gate_dst (N := 1) rfl ?_);refine bx_ 1 #[.int .i64 a0_0,.int .i64 a0_1,.int .i64 a0_2,.bool a0_3,.int .i64 a0_4] 47 ?_;intro gb113 hg w11 hbox hb;replace HB := nb_ hg hbox hb;obtain ⟨BK113,GW113,GE113,HB⟩ := HB;clear hb hbox hg;obtain ⟨⟨hcz12_0,hcz12_1,hcz12_2,hcz12_3,hcz12_4⟩,hfz12_0,hfz12_1,hfz12_2,hfz12_3,hfz12_4⟩ := cl5_ BK113.out)|((with_reducible refine gcal_ (f := 29) rfl ?_);refine gl_ (some 5) Tryd.func29 #[.int .i64 a0_0] ?_;(with_reducible refine (spec_l1Region.calls a0_0 true _ A2.out).mono ?_);rintro e w' ⟨rfl,⟨nd,rfl⟩⟩;refine ⟨_,rfl,?_⟩)|(go_at_call 57;(with_reducible refine (spec_l1Slot.calls a0_1 true _ A4.out).mono ?_);rintro e w' ⟨rfl,⟨nd,rfl⟩⟩)|(go_at_call 58;(with_reducible refine (spec_l1Value.calls a0_2 false _ A6.out).mono ?_);rintro e w' ⟨rfl,⟨nd,rfl⟩⟩))
    go_ret
    exact ⟨rf_,b_⟩
  ·replace c5 := Bool.eq_false_iff.mpr c5
   subst c5
   replace H := ie_ H
   obtain rfl := Option.some.inj H
   go_enter Tryd.func45,Tryd.ntmps45
   go_wp2_with (first|((with_reducible refine gate_dst (N := 1) rfl ?_);refine bx_ 1 #[.int .i64 a0_0,.int .i64 a0_1,.int .i64 a0_2,.bool a0_3,.int .i64 a0_4] 47 ?_;intro gb113 hg w13 hbox hb;replace HB := nb_ hg hbox hb;obtain ⟨BK113,GW113,GE113,HB⟩ := HB;clear hb hbox hg;obtain ⟨⟨hcz14_0,hcz14_1,hcz14_2,hcz14_3,hcz14_4⟩,hfz14_0,hfz14_1,hfz14_2,hfz14_3,hfz14_4⟩ := cl5_ BK113.out)|((with_reducible refine gcal_ (f := 29) rfl ?_);refine gl_ (some 5) Tryd.func29 #[.int .i64 a0_0] ?_;(with_reducible refine (spec_l1Region.calls a0_0 true _ A2.out).mono ?_);rintro e w' ⟨rfl,⟨nd,rfl⟩⟩;refine ⟨_,rfl,?_⟩)|(go_at_call 57;(with_reducible refine (spec_l1Slot.calls a0_1 false _ A4.out).mono ?_);rintro e w' ⟨rfl,⟨nd,rfl⟩⟩))
   go_ret
   exact ⟨rf_,b_⟩
 ·replace c3 := Bool.eq_false_iff.mpr c3
  subst c3
  replace H := ie_ H
  obtain rfl := Option.some.inj H
  go_enter Tryd.func45,Tryd.ntmps45
  go_wp2_with (first|((with_reducible refine gate_dst (N := 1) rfl ?_);refine bx_ 1 #[.int .i64 a0_0,.int .i64 a0_1,.int .i64 a0_2,.bool a0_3,.int .i64 a0_4] 47 ?_;intro gb113 hg w15 hbox hb;replace HB := nb_ hg hbox hb;obtain ⟨BK113,GW113,GE113,HB⟩ := HB;clear hb hbox hg;obtain ⟨⟨hcz16_0,hcz16_1,hcz16_2,hcz16_3,hcz16_4⟩,hfz16_0,hfz16_1,hfz16_2,hfz16_3,hfz16_4⟩ := cl5_ BK113.out)|((with_reducible refine gcal_ (f := 29) rfl ?_);refine gl_ (some 5) Tryd.func29 #[.int .i64 a0_0] ?_;(with_reducible refine (spec_l1Region.calls a0_0 false _ A2.out).mono ?_);rintro e w' ⟨rfl,⟨nd,rfl⟩⟩;refine ⟨_,rfl,?_⟩))
  go_ret
  exact ⟨rf_,b_⟩

end Go.Proofs.YtnilfnkdgdfnnaaDoor.XRd
