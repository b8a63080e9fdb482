/- Proved: of each Go function here that a call comes to what the Lean function of its name tells. Written by a program of this session over the translation. No conditions beyond each theorem's own. -/
import Derived.Test.YthplaakckfhaaaaXRp0
import Derived.Test.YthplaakckfhaaaaXRp18
import Derived.Test.YthplaakckfhaaaaXRp20
namespace Go.Proofs.Ythplaakckfhaaaa.XRp
open Go.RowKit Go.Proofs.Ythplaakckfhaaaa.Aid Go.Proofs.YthplaakckfhaaaaW.PrintWords Go.Proofs.YthplaakckfhaaaaW.PrintLast Go.Proofs.YthplaakckfhaaaaW.PrintMore
set_option linter.unusedVariables false
set_option linter.unusedSimpArgs false

/-! ### impl_isMachineOk: function 53 -/
mutual
def impl_isMachineOk.j0 : Nat → Bool → Bool → List (S79) → List (S45) → List Int → Option (Bool)
  | 0, _, _, _, _, _ => none
  | k + 1, x27, x373000, x373001, x373002, x373003 => if x27 = true then (some false) else (impl_isMachineOk.l0 k x373001 (x373001.length : Int) 0 x373000 x373001 x373002 x373003)
def impl_isMachineOk.l0 : Nat → List (S79) → Int → Int → Bool → List (S79) → List (S45) → List Int → Option (Bool)
  | 0, _, _, _, _, _, _, _ => none
  | k + 1, x29, x30, x31, x373000, x373001, x373002, x373003 => if x31 < x30 then (if 0 ≤ x31 then (if x31 < (x29.length : Int) then ((impl_isRegion.f ((rd_T79 x29 x31).f0)).bind fun t376 => (if t376 = true then ((impl_areCells.f ((rd_T79 x29 x31).f1)).bind fun t377 => (if t377 = true then (if x31 > 0 then (if 0 ≤ (wrap64 (x31 - 1)) then (if (wrap64 (x31 - 1)) < (x373001.length : Int) then (if ((rd_T79 x373001 (wrap64 (x31 - 1))).f0) ≥ ((rd_T79 x29 x31).f0) then (some false) else (impl_isMachineOk.l0 k x29 x30 (wrap64 (x31 + 1)) x373000 x373001 x373002 x373003)) else (none)) else (none)) else (impl_isMachineOk.l0 k x29 x30 (wrap64 (x31 + 1)) x373000 x373001 x373002 x373003)) else (some false))) else (some false))) else (none)) else (none)) else (impl_isMachineOk.l1 k x373003 (x373003.length : Int) 0 x373000 x373001 x373002 x373003)
def impl_isMachineOk.l1 : Nat → List Int → Int → Int → Bool → List (S79) → List (S45) → List Int → Option (Bool)
  | 0, _, _, _, _, _, _, _ => none
  | k + 1, x64, x65, x66, x373000, x373001, x373002, x373003 => if x66 < x65 then (if 0 ≤ x66 then (if x66 < (x64.length : Int) then ((impl_isId.f (rd x64 x66)).bind fun t380 => (if t380 = true then (if x66 > 0 then (if 0 ≤ (wrap64 (x66 - 1)) then (if (wrap64 (x66 - 1)) < (x373003.length : Int) then (if (rd x373003 (wrap64 (x66 - 1))) ≥ (rd x64 x66) then (some false) else (impl_isMachineOk.l1 k x64 x65 (wrap64 (x66 + 1)) x373000 x373001 x373002 x373003)) else (none)) else (none)) else (impl_isMachineOk.l1 k x64 x65 (wrap64 (x66 + 1)) x373000 x373001 x373002 x373003)) else (some false))) else (none)) else (none)) else (some true)
end
def impl_isMachineOk.f (k : Nat) (a0_0 : Bool) (l0_1 : List (S79)) (l0_2 : List (S45)) (l0_3 : List Int) : Option (Bool) := if (l0_1.length : Int) > 6 then (impl_isMachineOk.j0 k true a0_0 l0_1 l0_2 l0_3) else (if (l0_2.length : Int) > 200 then (impl_isMachineOk.j0 k true a0_0 l0_1 l0_2 l0_3) else (if (l0_3.length : Int) > 60 then (impl_isMachineOk.j0 k true a0_0 l0_1 l0_2 l0_3) else ((impl_Record_108.f k l0_2).bind fun t373 => (impl_isMachineOk.j0 k t373 a0_0 l0_1 l0_2 l0_3))))

def impl_isMachineOk.T6 : Bool × List (List Nat × List Nat) := (true, [([], []), ([0], [0]), ([1], [1]), ([2], [2]), ([3, 2], [3]), ([4], [4]), ([5, 4], [4, 5]), ([6, 4, 4], [4, 6]), ([7, 4], [4, 7]), ([4, 8], [4, 8]), ([9, 7], [9]), ([10], [10]), ([11, 10], [10, 11]), ([12, 10, 10], [10, 12]), ([13], [13]), ([14, 13], [13, 14]), ([13], [13]), ([16, 13], [13, 16]), ([15, 17, 13], [13, 15, 17]), ([18, 13], [13, 18]), ([19, 13], [13, 19]), ([13], [13]), ([21, 13], [13, 21]), ([20, 22, 13], [13, 20, 22]), ([13, 23, 10], [10, 13, 23]), ([10, 24], [10, 24])])
def impl_isMachineOk.B6 : List Nat := [0, 1, 3, 7, 15, 31, 63, 127, 255, 511, 1023, 2047, 4095, 8191, 16383, 32767, 16383, 81919, 262143, 524287, 1048575, 16383, 2113535, 8388607, 16777215, 33554431]
theorem impl_isMachineOk.tab6 : rtab .any (opsOf Try.f53 6) = impl_isMachineOk.T6 := by kernel_rfl
theorem impl_isMachineOk.bits6 : waitsOk impl_isMachineOk.T6.2 impl_isMachineOk.B6 = true := by kernel_rfl
set_option maxHeartbeats 8000000 in
set_option maxRecDepth 100000 in
theorem impl_isMachineOk.calls (k : Nat) (a0_0 : Bool) (A0_1 : Option Addr) (c0_1 : Nat) (l0_1 : List (S79)) (A0_2 : Option Addr) (c0_2 : Nat) (l0_2 : List (S45)) (A0_3 : Option Addr) (c0_3 : Nat) (l0_3 : List Int) (r : Bool) (w : World) (hr0_1 : Kd.C k79 w A0_1 l0_1.length l0_1) (hc0_1 : l0_1.length ≤ c0_1) (hr0_2 : Kd.C k45 w A0_2 l0_2.length l0_2) (hc0_2 : l0_2.length ≤ c0_2) (hr0_3 : Kd.C (Kd.int .i64) w A0_3 l0_3.length l0_3) (hc0_3 : l0_3.length ≤ c0_3) (h : impl_isMachineOk.f k a0_0 l0_1 l0_2 l0_3 = some r) :
    Calls Try.prog 53 #[.agg #[.bool a0_0, .slice A0_1 l0_1.length c0_1, .slice A0_2 l0_2.length c0_2, .slice A0_3 l0_3.length c0_3]] w fun e w' => e = .returned (.bool r) ∧ Below w.heap.size w w' := by
 have hu32 := Try.underlying32
 have hu79 := Try.underlying79
 have HR0_1 := Aside0.mk hr0_1
 have HC0_1 := Aside0.mk hc0_1
 clear hr0_1 hc0_1
 have HR0_2 := Aside0.mk hr0_2
 have HC0_2 := Aside0.mk hc0_2
 clear hr0_2 hc0_2
 have HR0_3 := Aside0.mk hr0_3
 have HC0_3 := Aside0.mk hc0_3
 clear hr0_3 hc0_3
 have HB := Aside0.mk (Below.refl w.heap.size w)
 have H : (if (l0_1.length : Int) > 6 then (impl_isMachineOk.j0 k true a0_0 l0_1 l0_2 l0_3) else (if (l0_2.length : Int) > 200 then (impl_isMachineOk.j0 k true a0_0 l0_1 l0_2 l0_3) else (if (l0_3.length : Int) > 60 then (impl_isMachineOk.j0 k true a0_0 l0_1 l0_2 l0_3) else ((impl_Record_108.f k l0_2).bind fun t373 => (impl_isMachineOk.j0 k t373 a0_0 l0_1 l0_2 l0_3))))) = some r := h
 clear h
 have HC2 := Aside0.mk H
 clear H
 go_enter Try.func53,Try.ntmps53
 go_upto_region 1 with (first|((with_reducible refine gate_dst (N := 1) rfl ?_);(try (refine gate_guard (by rfl) ?_;dsimp only));refine bx_ 1 #[.bool a0_0,.slice A0_1 l0_1.length c0_1,.slice A0_2 l0_2.length c0_2,.slice A0_3 l0_3.length c0_3] 32 ?_;intro gb372 hg w3 hbox hb;have n0_ := Aside0.mk (below_step b_ hb);have n1_ := Aside0.mk (hbox);have n2_ := Aside0.mk ((gw_ (w := w) hg));have n3_ := Aside0.mk ((gw_ (w := w) hg));clear HB;have HB := n0_;have BK372 := n1_;have GW372 := n2_;have GE372 := n3_;clear n0_ n1_ n2_ n3_;clear hb hbox hg))
 (try simp only [Act.put,List.setIfInBounds_toArray,List.set_cons_zero,List.set_cons_succ])
 go_cut [27] (fun v27 wc => ∃ (kq : Nat) (x27_1 : Bool),v27 = .bool x27_1 ∧ Aside0 (impl_isMachineOk.j0 kq x27_1 a0_0 l0_1 l0_2 l0_3 = some r) ∧ Aside0 (kq ≤ k) ∧ Aside0 (wc.heap[gb372]? = some (.cells #[.bool a0_0,(.slice A0_1 l0_1.length c0_1),(.slice A0_2 l0_2.length c0_2),(.slice A0_3 l0_3.length c0_3)] 32 (0,0))) ∧ Aside0 (Below w.heap.size w wc))
 case first =>
  have H := HC2.out
  clear HC2
  by_cases c4 : (l0_1.length : Int) > 6
  ·rw [if_pos c4] at H
   have c4b0 : decide (6 < (l0_1.length : Int)) = true := decide_eq_true c4
   have c4b1 : decide (6 < l0_1.length) = true := decide_eq_true (by omega)
   clear c4
   (first|rw [c4b0]|(simp only [i64_w,i32_w];rw [c4b0])|skip)
   have H' := Aside0.mk H
   clear H
   obtain ⟨⟨hcz5_0,hcz5_1,hcz5_2,hcz5_3⟩,hfz5_0,hfz5_1,hfz5_2,hfz5_3⟩ := cl4_ BK372.out
   go_wp2
   go_meet
   case rel => exact ⟨_,(true),rs_,H',⟨by first|omega|exact Nat.le_refl _⟩,⟨kb_ BK372⟩,⟨b_⟩⟩
  ·rw [if_neg c4] at H
   have c4b0 : decide (6 < (l0_1.length : Int)) = false := decide_eq_false c4
   have c4b1 : decide (6 < l0_1.length) = false := decide_eq_false (by omega)
   clear c4
   (first|rw [c4b0]|(simp only [i64_w,i32_w];rw [c4b0])|skip)
   by_cases c6 : (l0_2.length : Int) > 200
   ·rw [if_pos c6] at H
    have c6b0 : decide (200 < (l0_2.length : Int)) = true := decide_eq_true c6
    have c6b1 : decide (200 < l0_2.length) = true := decide_eq_true (by omega)
    clear c6
    have H' := Aside0.mk H
    clear H
    obtain ⟨⟨hcz7_0,hcz7_1,hcz7_2,hcz7_3⟩,hfz7_0,hfz7_1,hfz7_2,hfz7_3⟩ := cl4_ BK372.out
    go_wp2
    go_meet
    case rel => exact ⟨_,(true),rs_,H',⟨by first|omega|exact Nat.le_refl _⟩,⟨kb_ BK372⟩,⟨b_⟩⟩
   ·rw [if_neg c6] at H
    have c6b0 : decide (200 < (l0_2.length : Int)) = false := decide_eq_false c6
    have c6b1 : decide (200 < l0_2.length) = false := decide_eq_false (by omega)
    clear c6
    by_cases c8 : (l0_3.length : Int) > 60
    ·rw [if_pos c8] at H
     have c8b0 : decide (60 < (l0_3.length : Int)) = true := decide_eq_true c8
     have c8b1 : decide (60 < l0_3.length) = true := decide_eq_true (by omega)
     clear c8
     have H' := Aside0.mk H
     clear H
     obtain ⟨⟨hcz9_0,hcz9_1,hcz9_2,hcz9_3⟩,hfz9_0,hfz9_1,hfz9_2,hfz9_3⟩ := cl4_ BK372.out
     go_wp2
     go_meet
     case rel => exact ⟨_,(true),rs_,H',⟨by first|omega|exact Nat.le_refl _⟩,⟨kb_ BK372⟩,⟨b_⟩⟩
    ·rw [if_neg c8] at H
     have c8b0 : decide (60 < (l0_3.length : Int)) = false := decide_eq_false c8
     have c8b1 : decide (60 < l0_3.length) = false := decide_eq_false (by omega)
     clear c8
     replace H := bs_ H
     obtain ⟨t373,A10,H⟩ := H
     have H' := Aside0.mk H
     clear H
     obtain ⟨⟨hcz11_0,hcz11_1,hcz11_2,hcz11_3⟩,hfz11_0,hfz11_1,hfz11_2,hfz11_3⟩ := cl4_ BK372.out
     go_wp2_with (first|(go_at_call 108;(with_reducible refine (impl_Record_108.calls k _ _ l0_2  t373 _ ?side1 ?side2 A10.out).mono ?_);(case side1 => exact cb_ HR0_2);(case side2 => exact HC0_2.out);rintro e w12 ⟨rfl,hb⟩;replace BK372 := Aside0.mk (blk_below (kb_ BK372) hb);replace HB := Aside0.mk (below_step b_ hb);(try clear hb);(try clear hb2);(try clear hk);(try clear hi)))
     go_meet
     case rel => exact ⟨_,(t373),rs_,H',⟨by first|omega|exact Nat.le_refl _⟩,⟨kb_ BK372⟩,⟨b_⟩⟩
 case rest =>
  clear HC2
  try clear p2
  try clear c4
  try clear c4b0
  try clear c4b1
  try clear c5
  try clear c6
  try clear c6b0
  try clear c6b1
  try clear c8
  try clear c8b0
  try clear c8b1
  try clear hcz11_0
  try clear hcz11_1
  try clear hcz11_2
  try clear hcz11_3
  try clear hcz5_0
  try clear hcz5_1
  try clear hcz5_2
  try clear hcz5_3
  try clear hcz7_0
  try clear hcz7_1
  try clear hcz7_2
  try clear hcz7_3
  try clear hcz9_0
  try clear hcz9_1
  try clear hcz9_2
  try clear hcz9_3
  try clear hfz11_0
  try clear hfz11_1
  try clear hfz11_2
  try clear hfz11_3
  try clear hfz5_0
  try clear hfz5_1
  try clear hfz5_2
  try clear hfz5_3
  try clear hfz7_0
  try clear hfz7_1
  try clear hfz7_2
  try clear hfz7_3
  try clear hfz9_0
  try clear hfz9_1
  try clear hfz9_2
  try clear hfz9_3
  obtain ⟨kq,x27_1,rfl,HA,HJ1,BK372,HB⟩ := hcut
  cases kq with
    | zero => exact absurd HA.out (by simp [impl_isMachineOk.j0])
    | succ kj1 =>
   have H := HA.out
   clear HA
   simp only [impl_isMachineOk.j0] at H
   by_cases c13 : x27_1 = true
   ·subst c13
    replace H := it_ H
    obtain rfl := Option.some.inj H
    go_wp2
    go_ret
    exact ⟨rf_,b_⟩
   ·replace c13 := Bool.eq_false_iff.mpr c13
    subst c13
    replace H := ie_ H
    have H' := Aside0.mk H
    clear H
    obtain ⟨⟨hcz14_0,hcz14_1,hcz14_2,hcz14_3⟩,hfz14_0,hfz14_1,hfz14_2,hfz14_3⟩ := cl4_ BK372.out
    go_wp2
    go_loopg [31] kj1 (fun kq v31 w' => ∃ (x31_2 : Int),v31 = .int .i64 x31_2 ∧ Aside0 (impl_isMachineOk.l0 kq l0_1 (l0_1.length : Int) x31_2 a0_0 l0_1 l0_2 l0_3 = some r) ∧ Aside0 (kq ≤ kj1) ∧ Aside0 (w'.heap[gb372]? = some (.cells #[.bool a0_0,(.slice A0_1 l0_1.length c0_1),(.slice A0_2 l0_2.length c0_2),(.slice A0_3 l0_3.length c0_3)] 32 (0,0))) ∧ Aside0 (Below w.heap.size w w'))
    case atStart => exact ⟨(0),rs_,H',⟨Nat.le_refl _⟩,⟨kb_ BK372⟩,⟨b_⟩⟩
    case round =>
     clear H'
     try clear c1
     try clear p2
     try clear c4
     try clear c4b0
     try clear c4b1
     try clear c5
     try clear c6
     try clear c6b0
     try clear c6b1
     try clear c8
     try clear c8b0
     try clear c8b1
     try clear c13
     try clear hcz11_0
     try clear hcz11_1
     try clear hcz11_2
     try clear hcz11_3
     try clear hcz14_0
     try clear hcz14_1
     try clear hcz14_2
     try clear hcz14_3
     try clear hcz5_0
     try clear hcz5_1
     try clear hcz5_2
     try clear hcz5_3
     try clear hcz7_0
     try clear hcz7_1
     try clear hcz7_2
     try clear hcz7_3
     try clear hcz9_0
     try clear hcz9_1
     try clear hcz9_2
     try clear hcz9_3
     try clear hfz11_0
     try clear hfz11_1
     try clear hfz11_2
     try clear hfz11_3
     try clear hfz14_0
     try clear hfz14_1
     try clear hfz14_2
     try clear hfz14_3
     try clear hfz5_0
     try clear hfz5_1
     try clear hfz5_2
     try clear hfz5_3
     try clear hfz7_0
     try clear hfz7_1
     try clear hfz7_2
     try clear hfz7_3
     try clear hfz9_0
     try clear hfz9_1
     try clear hfz9_2
     try clear hfz9_3
     try clear p2
     obtain ⟨x31_2,rfl,HA,HK2,BK372,HB⟩ := hrel
     cases gk with
     | zero => exact absurd HA.out (by simp [impl_isMachineOk.l0])
     | succ k2 =>
      have H := HA.out
      clear HA
      simp only [impl_isMachineOk.l0] at H
      by_cases c15 : x31_2 < (l0_1.length : Int)
      ·rw [if_pos c15] at H
       have c15b0 : decide (x31_2 < (l0_1.length : Int)) = true := decide_eq_true c15
       clear c15
       by_cases c16 : 0 ≤ x31_2
       ·rw [if_pos c16] at H
        have c16b0 : decide (0 ≤ x31_2) = true := decide_eq_true c16
        clear c16
        by_cases c17 : x31_2 < (l0_1.length : Int)
        ·rw [if_pos c17] at H
         have c17b0 : decide (x31_2 < (l0_1.length : Int)) = true := decide_eq_true c17
         clear c17
         replace H := bs_ H
         obtain ⟨t376,A18,H⟩ := H
         by_cases c19 : t376 = true
         ·subst c19
          replace H := it_ H
          replace H := bs_ H
          obtain ⟨t377,A20,H⟩ := H
          by_cases c21 : t377 = true
          ·subst c21
           replace H := it_ H
           by_cases c22 : x31_2 > 0
           ·rw [if_pos c22] at H
            have c22b0 : decide (0 < x31_2) = true := decide_eq_true c22
            clear c22
            obtain ⟨ji23,hji23⟩ : ∃ j_ : Int,(wrap64 (x31_2 - 1)) = j_ := ⟨_,rfl⟩
            replace H : (if 0 ≤ (ji23) then (if (ji23) < (l0_1.length : Int) then (if ((rd_T79 l0_1 (ji23)).f0) ≥ ((rd_T79 l0_1 x31_2).f0) then (some false) else (impl_isMachineOk.l0 k2 l0_1 (l0_1.length : Int) (wrap64 (x31_2 + 1)) a0_0 l0_1 l0_2 l0_3)) else (none)) else (none)) = some r := by first|(rw [hji23] at H;exact H)|(simp only [hji23] at H ⊢;exact H)
            (try rw [hji23] at A18)
            (try rw [hji23] at A20)
            have hji23w : (IntKind.i64.wrap (x31_2 - 1)) = ji23 := (i64_w _).trans hji23
            by_cases c24 : 0 ≤ (ji23)
            ·rw [if_pos c24] at H
             have c24b0 : decide (0 ≤ (ji23)) = true := decide_eq_true c24
             clear c24
             by_cases c25 : (ji23) < (l0_1.length : Int)
             ·rw [if_pos c25] at H
              have c25b0 : decide ((ji23) < (l0_1.length : Int)) = true := decide_eq_true c25
              clear c25
              by_cases c26 : ((rd_T79 l0_1 (ji23)).f0) ≥ ((rd_T79 l0_1 x31_2).f0)
              ·rw [if_pos c26] at H
               have c26b0 : decide (((rd_T79 l0_1 x31_2).f0) ≤ ((rd_T79 l0_1 (ji23)).f0)) = true := decide_eq_true c26
               clear c26
               obtain rfl := Option.some.inj H
               have p374 : 0 ≤ (x31_2 : Int) := od_
               have q374 : x31_2 < (l0_1.length : Int) := od_
               obtain ⟨ad374,A374_1,c374_1,e374,hx374_0,hx374_1,hl374_1,hi374_1⟩ := at_T79 HR0_1.out x31_2 p374 q374
               cases e374
               replace hx374_0 := hx_ HB hx374_0
               replace hx374_1 := hx_ HB hx374_1
               have HR374_1 := Aside0.mk hi374_1
               have HC374_1 := Aside0.mk hl374_1
               clear hi374_1 hl374_1
               replace p374 := eq_true p374
               replace q374 := eq_true q374
               try go_wp2_with (first|((with_reducible refine gate_dst (N := 4) rfl ?_);(try (refine gate_guard (by rfl) ?_;dsimp only));refine bx_ 4 #[.int .i64 0,.slice none 0 0] 79 ?_;intro gb375 hg w27 hbox hb;replace HB := nb_ hg hbox hb;obtain ⟨BK375,GW375,GE375,HB⟩ := HB;have NB372_375 := Aside0.mk ((nl_ BK372 hg));have NB375_372 := Aside0.mk ((ng_ BK372 hg));replace BK372 := Aside0.mk (blk_below (kb_ BK372) hb);clear hb hbox hg;have hnb28 := NB375_372.out;have hnc28 := NB372_375.out;obtain ⟨⟨hcz29_0,hcz29_1⟩,hfz29_0,hfz29_1⟩ := cl2_ BK375.out))
               have n0_ : Aside0 (((w27.setCell ⟨gb375,0,none⟩ (.int .i64 ((rd_T79 l0_1 x31_2).f0))).setCell ⟨gb375,1,none⟩ (.slice A374_1 ((rd_T79 l0_1 x31_2).f1).length c374_1)).heap[gb372]? = some (.cells #[.bool a0_0,.slice (some ad374) l0_1.length c0_1,.slice A0_2 l0_2.length c0_2,.slice A0_3 l0_3.length c0_3] 32 (0,0))) := ⟨kf_ BK372⟩
               have n1_ : Aside0 (((w27.setCell ⟨gb375,0,none⟩ (.int .i64 ((rd_T79 l0_1 x31_2).f0))).setCell ⟨gb375,1,none⟩ (.slice A374_1 ((rd_T79 l0_1 x31_2).f1).length c374_1)).heap[gb375]? = some (.cells #[.int .i64 ((rd_T79 l0_1 x31_2).f0),.slice A374_1 ((rd_T79 l0_1 x31_2).f1).length c374_1] 79 (0,0))) := ⟨by (with_reducible repeat (first|refine blk_drewN ?_ _|refine blk_drew ?_|refine blk_alloc ?_ _));refine blk_put (cs := #[.int .i64 ((rd_T79 l0_1 x31_2).f0),.slice none 0 0]) ?_ 1 _ rfl;(with_reducible repeat (first|refine blk_drewN ?_ _|refine blk_drew ?_|refine blk_alloc ?_ _));refine blk_put (cs := #[.int .i64 0,.slice none 0 0]) ?_ 0 _ rfl;(with_reducible repeat (first|refine blk_drewN ?_ _|refine blk_drew ?_|refine blk_alloc ?_ _));exact BK375.out⟩
               have n2_ : Aside0 (Below w.heap.size w ((w27.setCell ⟨gb375,0,none⟩ (.int .i64 ((rd_T79 l0_1 x31_2).f0))).setCell ⟨gb375,1,none⟩ (.slice A374_1 ((rd_T79 l0_1 x31_2).f1).length c374_1))) := ⟨b_⟩
               (try clear BK372)
               (try clear BK375)
               (try clear HB)
               generalize ((w27.setCell ⟨gb375,0,none⟩ (.int .i64 ((rd_T79 l0_1 x31_2).f0))).setCell ⟨gb375,1,none⟩ (.slice A374_1 ((rd_T79 l0_1 x31_2).f1).length c374_1)) = w30 at n0_ n1_ n2_ ⊢
               have BK372 := n0_
               have BK375 := n1_
               have HB := n2_
               clear n0_ n1_ n2_
               replace BK372 := Aside0.mk (blk_drew BK372.out)
               replace BK375 := Aside0.mk (blk_drew BK375.out)
               replace HB := Aside0.mk (below_drew1 HB.out)
               have p378 : 0 ≤ ((ji23) : Int) := od_
               have q378 : (ji23) < (l0_1.length : Int) := od_
               obtain ⟨ad378,A378_1,c378_1,e378,hx378_0,hx378_1,hl378_1,hi378_1⟩ := at_T79 HR0_1.out (ji23) p378 q378
               have hw378_1 := hx378_1
               have hw378_0 := hx378_0
               obtain rfl : ad374 = ad378 := (by injection e378)
               replace hx378_0 := hx_ HB hx378_0
               replace hx378_1 := hx_ HB hx378_1
               have HR378_1 := Aside0.mk hi378_1
               have HC378_1 := Aside0.mk hl378_1
               clear hi378_1 hl378_1
               replace p378 := eq_true p378
               replace q378 := eq_true q378
               refine st_ 26 (S := fun w' => hc2 w' gb375 (.int .i64 ((rd_T79 l0_1 x31_2).f0)) (.slice A374_1 ((rd_T79 l0_1 x31_2).f1).length c374_1) (hc4 w' gb372 (.bool a0_0) (.slice (some ad374) l0_1.length c0_1) (.slice A0_2 l0_2.length c0_2) (.slice A0_3 l0_3.length c0_3) (hf2 w' (ad374.add (((ji23)).toNat * 2)) (.int .i64 ((rd_T79 l0_1 (ji23)).f0)) (.slice A378_1 ((rd_T79 l0_1 (ji23)).f1).length c378_1)))) hh_ (fun hHeld => ?_);refine with_tabW impl_isMachineOk.tab6 impl_isMachineOk.bits6 (fun HT_ HW_ => ?_)
               generalize w30.drew = w31 at BK372 BK375 HB HR378_1 hx378_0 hx378_1 hHeld ⊢
               refine pv_ 0 36 ?_
               refine tx_ 1 37 hHeld ?_
               refine oy_ 2 38 (fun K hK => ?_)
               refine gs_ Try.func85 #[.int .i64 ((rd_T79 l0_1 x31_2).f0)] ?_
               with_reducible refine (impl_isRegion.calls ((rd_T79 l0_1 x31_2).f0) true _ A18.out).mono ?_
               rintro e w' ⟨rfl,⟨nd,rfl⟩⟩
               refine ⟨_,rfl,?_⟩
               refine hK.out _ _ hh_ (fun hHeld => ?_)
               clear hK K
               refine nr_ (some 38) _ ?_
               refine pv_ 3 39 ?_
               refine pv_ 4 40 ?_
               refine pv_ 5 41 ?_
               refine tx_ 6 42 hHeld ?_
               refine oy_ 7 43 (fun K hK => ?_)
               refine gs_ Try.func86 #[.slice A374_1 ((rd_T79 l0_1 x31_2).f1).length c374_1] ?_
               with_reducible refine (impl_areCells.calls _ _ ((rd_T79 l0_1 x31_2).f1) true _ ?side1 ?side2 A20.out).mono ?_
               (case side1 => exact cb_ HR374_1)
               (case side2 => exact HC374_1.out)
               rintro e w32 ⟨rfl,hb⟩
               refine ⟨_,rfl,?_⟩
               replace BK372 := Aside0.mk (blk_below (kb_ BK372) hb)
               replace BK375 := Aside0.mk (blk_below (kb_ BK375) hb)
               replace HB := Aside0.mk (below_step b_ hb)
               (try clear hb)
               (try clear hb2)
               (try clear hk)
               (try clear hi)
               refine hK.out _ _ hh_ (fun hHeld => ?_)
               clear hK K
               refine nr_ (some 43) _ ?_
               refine pv_ 8 44 ?_
               refine pv_ 9 45 ?_
               refine pv_ 10 46 ?_
               refine pv_ 11 47 ?_
               refine pv_ 12 48 ?_
               refine pv_ 13 49 ?_
               refine pv_ 14 50 ?_
               refine pv_ 16 52 ?_
               refine pv_ 17 53 ?_
               refine pv_ 21 57 ?_
               refine tx_ 15 51 hHeld ?_
               refine pv_ 18 54 ?_
               refine pv_ 19 55 ?_
               refine tx_ 20 56 hHeld ?_
               refine tx_ 22 58 hHeld ?_
               refine pv_ 23 59 ?_
               refine pv_ 24 60 ?_
               refine pv_ 25 61 ?_
               refine done_ (done_of HT_.out (by kernel_rfl)) ?_
               try go_wp2
               go_ret
               exact ⟨by first|rfl|(simp [errW_none,errW_some] <;> rfl)|(simp only [← hji23];first|rfl|(simp [errW_none,errW_some] <;> rfl))|(simp [*,errW_none,errW_some] <;> rfl),b_⟩
              ·rw [if_neg c26] at H
               have c26b0 : decide (((rd_T79 l0_1 x31_2).f0) ≤ ((rd_T79 l0_1 (ji23)).f0)) = false := decide_eq_false c26
               clear c26
               have H' := Aside0.mk H
               clear H
               have p374 : 0 ≤ (x31_2 : Int) := od_
               have q374 : x31_2 < (l0_1.length : Int) := od_
               obtain ⟨ad374,A374_1,c374_1,e374,hx374_0,hx374_1,hl374_1,hi374_1⟩ := at_T79 HR0_1.out x31_2 p374 q374
               cases e374
               replace hx374_0 := hx_ HB hx374_0
               replace hx374_1 := hx_ HB hx374_1
               have HR374_1 := Aside0.mk hi374_1
               have HC374_1 := Aside0.mk hl374_1
               clear hi374_1 hl374_1
               replace p374 := eq_true p374
               replace q374 := eq_true q374
               try go_wp2_with (first|((with_reducible refine gate_dst (N := 4) rfl ?_);(try (refine gate_guard (by rfl) ?_;dsimp only));refine bx_ 4 #[.int .i64 0,.slice none 0 0] 79 ?_;intro gb375 hg w33 hbox hb;replace HB := nb_ hg hbox hb;obtain ⟨BK375,GW375,GE375,HB⟩ := HB;have NB372_375 := Aside0.mk ((nl_ BK372 hg));have NB375_372 := Aside0.mk ((ng_ BK372 hg));replace BK372 := Aside0.mk (blk_below (kb_ BK372) hb);clear hb hbox hg;have hnb34 := NB375_372.out;have hnc34 := NB372_375.out;obtain ⟨⟨hcz35_0,hcz35_1⟩,hfz35_0,hfz35_1⟩ := cl2_ BK375.out))
               have n0_ : Aside0 (((w33.setCell ⟨gb375,0,none⟩ (.int .i64 ((rd_T79 l0_1 x31_2).f0))).setCell ⟨gb375,1,none⟩ (.slice A374_1 ((rd_T79 l0_1 x31_2).f1).length c374_1)).heap[gb372]? = some (.cells #[.bool a0_0,.slice (some ad374) l0_1.length c0_1,.slice A0_2 l0_2.length c0_2,.slice A0_3 l0_3.length c0_3] 32 (0,0))) := ⟨kf_ BK372⟩
               have n1_ : Aside0 (((w33.setCell ⟨gb375,0,none⟩ (.int .i64 ((rd_T79 l0_1 x31_2).f0))).setCell ⟨gb375,1,none⟩ (.slice A374_1 ((rd_T79 l0_1 x31_2).f1).length c374_1)).heap[gb375]? = some (.cells #[.int .i64 ((rd_T79 l0_1 x31_2).f0),.slice A374_1 ((rd_T79 l0_1 x31_2).f1).length c374_1] 79 (0,0))) := ⟨by (with_reducible repeat (first|refine blk_drewN ?_ _|refine blk_drew ?_|refine blk_alloc ?_ _));refine blk_put (cs := #[.int .i64 ((rd_T79 l0_1 x31_2).f0),.slice none 0 0]) ?_ 1 _ rfl;(with_reducible repeat (first|refine blk_drewN ?_ _|refine blk_drew ?_|refine blk_alloc ?_ _));refine blk_put (cs := #[.int .i64 0,.slice none 0 0]) ?_ 0 _ rfl;(with_reducible repeat (first|refine blk_drewN ?_ _|refine blk_drew ?_|refine blk_alloc ?_ _));exact BK375.out⟩
               have n2_ : Aside0 (Below w.heap.size w ((w33.setCell ⟨gb375,0,none⟩ (.int .i64 ((rd_T79 l0_1 x31_2).f0))).setCell ⟨gb375,1,none⟩ (.slice A374_1 ((rd_T79 l0_1 x31_2).f1).length c374_1))) := ⟨b_⟩
               (try clear BK372)
               (try clear BK375)
               (try clear HB)
               generalize ((w33.setCell ⟨gb375,0,none⟩ (.int .i64 ((rd_T79 l0_1 x31_2).f0))).setCell ⟨gb375,1,none⟩ (.slice A374_1 ((rd_T79 l0_1 x31_2).f1).length c374_1)) = w36 at n0_ n1_ n2_ ⊢
               have BK372 := n0_
               have BK375 := n1_
               have HB := n2_
               clear n0_ n1_ n2_
               replace BK372 := Aside0.mk (blk_drew BK372.out)
               replace BK375 := Aside0.mk (blk_drew BK375.out)
               replace HB := Aside0.mk (below_drew1 HB.out)
               have p378 : 0 ≤ ((ji23) : Int) := od_
               have q378 : (ji23) < (l0_1.length : Int) := od_
               obtain ⟨ad378,A378_1,c378_1,e378,hx378_0,hx378_1,hl378_1,hi378_1⟩ := at_T79 HR0_1.out (ji23) p378 q378
               have hw378_1 := hx378_1
               have hw378_0 := hx378_0
               obtain rfl : ad374 = ad378 := (by injection e378)
               replace hx378_0 := hx_ HB hx378_0
               replace hx378_1 := hx_ HB hx378_1
               have HR378_1 := Aside0.mk hi378_1
               have HC378_1 := Aside0.mk hl378_1
               clear hi378_1 hl378_1
               replace p378 := eq_true p378
               replace q378 := eq_true q378
               refine st_ 26 (S := fun w' => hc2 w' gb375 (.int .i64 ((rd_T79 l0_1 x31_2).f0)) (.slice A374_1 ((rd_T79 l0_1 x31_2).f1).length c374_1) (hc4 w' gb372 (.bool a0_0) (.slice (some ad374) l0_1.length c0_1) (.slice A0_2 l0_2.length c0_2) (.slice A0_3 l0_3.length c0_3) (hf2 w' (ad374.add (((ji23)).toNat * 2)) (.int .i64 ((rd_T79 l0_1 (ji23)).f0)) (.slice A378_1 ((rd_T79 l0_1 (ji23)).f1).length c378_1)))) hh_ (fun hHeld => ?_);refine with_tabW impl_isMachineOk.tab6 impl_isMachineOk.bits6 (fun HT_ HW_ => ?_)
               generalize w36.drew = w37 at BK372 BK375 HB HR378_1 hx378_0 hx378_1 hHeld ⊢
               refine pv_ 0 36 ?_
               refine tx_ 1 37 hHeld ?_
               refine oy_ 2 38 (fun K hK => ?_)
               refine gs_ Try.func85 #[.int .i64 ((rd_T79 l0_1 x31_2).f0)] ?_
               with_reducible refine (impl_isRegion.calls ((rd_T79 l0_1 x31_2).f0) true _ A18.out).mono ?_
               rintro e w' ⟨rfl,⟨nd,rfl⟩⟩
               refine ⟨_,rfl,?_⟩
               refine hK.out _ _ hh_ (fun hHeld => ?_)
               clear hK K
               refine nr_ (some 38) _ ?_
               refine pv_ 3 39 ?_
               refine pv_ 4 40 ?_
               refine pv_ 5 41 ?_
               refine tx_ 6 42 hHeld ?_
               refine oy_ 7 43 (fun K hK => ?_)
               refine gs_ Try.func86 #[.slice A374_1 ((rd_T79 l0_1 x31_2).f1).length c374_1] ?_
               with_reducible refine (impl_areCells.calls _ _ ((rd_T79 l0_1 x31_2).f1) true _ ?side1 ?side2 A20.out).mono ?_
               (case side1 => exact cb_ HR374_1)
               (case side2 => exact HC374_1.out)
               rintro e w38 ⟨rfl,hb⟩
               refine ⟨_,rfl,?_⟩
               replace BK372 := Aside0.mk (blk_below (kb_ BK372) hb)
               replace BK375 := Aside0.mk (blk_below (kb_ BK375) hb)
               replace HB := Aside0.mk (below_step b_ hb)
               (try clear hb)
               (try clear hb2)
               (try clear hk)
               (try clear hi)
               refine hK.out _ _ hh_ (fun hHeld => ?_)
               clear hK K
               refine nr_ (some 43) _ ?_
               refine pv_ 8 44 ?_
               refine pv_ 9 45 ?_
               refine pv_ 10 46 ?_
               refine pv_ 11 47 ?_
               refine pv_ 12 48 ?_
               refine pv_ 13 49 ?_
               refine pv_ 14 50 ?_
               refine pv_ 16 52 ?_
               refine pv_ 17 53 ?_
               refine pv_ 21 57 ?_
               refine tx_ 15 51 hHeld ?_
               refine pv_ 18 54 ?_
               refine pv_ 19 55 ?_
               refine tx_ 20 56 hHeld ?_
               refine tx_ 22 58 hHeld ?_
               refine pv_ 23 59 ?_
               refine pv_ 24 60 ?_
               refine pv_ 25 61 ?_
               refine done_ (done_of HT_.out (by kernel_rfl)) ?_
               try go_wp2
               go_roundg k2
               case measure => have := HJ1.out;have := HK2.out;omega
               case rel => exact ⟨(wrap64 (x31_2 + 1)),rs_,H',⟨by have := HJ1.out;have := HK2.out;omega⟩,⟨kb_ BK372⟩,⟨b_⟩⟩
             ·rw [if_neg c25] at H
              exact absurd H (by simp)
            ·rw [if_neg c24] at H
             exact absurd H (by simp)
           ·rw [if_neg c22] at H
            have c22b0 : decide (0 < x31_2) = false := decide_eq_false c22
            clear c22
            have H' := Aside0.mk H
            clear H
            have p374 : 0 ≤ (x31_2 : Int) := od_
            have q374 : x31_2 < (l0_1.length : Int) := od_
            obtain ⟨ad374,A374_1,c374_1,e374,hx374_0,hx374_1,hl374_1,hi374_1⟩ := at_T79 HR0_1.out x31_2 p374 q374
            cases e374
            replace hx374_0 := hx_ HB hx374_0
            replace hx374_1 := hx_ HB hx374_1
            have HR374_1 := Aside0.mk hi374_1
            have HC374_1 := Aside0.mk hl374_1
            clear hi374_1 hl374_1
            replace p374 := eq_true p374
            replace q374 := eq_true q374
            try go_wp2_with (first|((with_reducible refine gate_dst (N := 4) rfl ?_);(try (refine gate_guard (by rfl) ?_;dsimp only));refine bx_ 4 #[.int .i64 0,.slice none 0 0] 79 ?_;intro gb375 hg w39 hbox hb;replace HB := nb_ hg hbox hb;obtain ⟨BK375,GW375,GE375,HB⟩ := HB;have NB372_375 := Aside0.mk ((nl_ BK372 hg));have NB375_372 := Aside0.mk ((ng_ BK372 hg));replace BK372 := Aside0.mk (blk_below (kb_ BK372) hb);clear hb hbox hg;have hnb40 := NB375_372.out;have hnc40 := NB372_375.out;obtain ⟨⟨hcz41_0,hcz41_1⟩,hfz41_0,hfz41_1⟩ := cl2_ BK375.out))
            have n0_ : Aside0 (((w39.setCell ⟨gb375,0,none⟩ (.int .i64 ((rd_T79 l0_1 x31_2).f0))).setCell ⟨gb375,1,none⟩ (.slice A374_1 ((rd_T79 l0_1 x31_2).f1).length c374_1)).heap[gb372]? = some (.cells #[.bool a0_0,.slice (some ad374) l0_1.length c0_1,.slice A0_2 l0_2.length c0_2,.slice A0_3 l0_3.length c0_3] 32 (0,0))) := ⟨kf_ BK372⟩
            have n1_ : Aside0 (((w39.setCell ⟨gb375,0,none⟩ (.int .i64 ((rd_T79 l0_1 x31_2).f0))).setCell ⟨gb375,1,none⟩ (.slice A374_1 ((rd_T79 l0_1 x31_2).f1).length c374_1)).heap[gb375]? = some (.cells #[.int .i64 ((rd_T79 l0_1 x31_2).f0),.slice A374_1 ((rd_T79 l0_1 x31_2).f1).length c374_1] 79 (0,0))) := ⟨by (with_reducible repeat (first|refine blk_drewN ?_ _|refine blk_drew ?_|refine blk_alloc ?_ _));refine blk_put (cs := #[.int .i64 ((rd_T79 l0_1 x31_2).f0),.slice none 0 0]) ?_ 1 _ rfl;(with_reducible repeat (first|refine blk_drewN ?_ _|refine blk_drew ?_|refine blk_alloc ?_ _));refine blk_put (cs := #[.int .i64 0,.slice none 0 0]) ?_ 0 _ rfl;(with_reducible repeat (first|refine blk_drewN ?_ _|refine blk_drew ?_|refine blk_alloc ?_ _));exact BK375.out⟩
            have n2_ : Aside0 (Below w.heap.size w ((w39.setCell ⟨gb375,0,none⟩ (.int .i64 ((rd_T79 l0_1 x31_2).f0))).setCell ⟨gb375,1,none⟩ (.slice A374_1 ((rd_T79 l0_1 x31_2).f1).length c374_1))) := ⟨b_⟩
            (try clear BK372)
            (try clear BK375)
            (try clear HB)
            generalize ((w39.setCell ⟨gb375,0,none⟩ (.int .i64 ((rd_T79 l0_1 x31_2).f0))).setCell ⟨gb375,1,none⟩ (.slice A374_1 ((rd_T79 l0_1 x31_2).f1).length c374_1)) = w42 at n0_ n1_ n2_ ⊢
            have BK372 := n0_
            have BK375 := n1_
            have HB := n2_
            clear n0_ n1_ n2_
            replace BK372 := Aside0.mk (blk_drew BK372.out)
            replace BK375 := Aside0.mk (blk_drew BK375.out)
            replace HB := Aside0.mk (below_drew1 HB.out)
            refine st_ 26 (S := fun w' => hd2 w' gb375 (.int .i64 ((rd_T79 l0_1 x31_2).f0)) (.slice A374_1 ((rd_T79 l0_1 x31_2).f1).length c374_1)) hh_ (fun hHeld => ?_);refine with_tabW impl_isMachineOk.tab6 impl_isMachineOk.bits6 (fun HT_ HW_ => ?_)
            generalize w42.drew = w43 at BK372 BK375 HB hHeld ⊢
            refine pv_ 0 36 ?_
            refine tx_ 1 37 hHeld ?_
            refine oy_ 2 38 (fun K hK => ?_)
            refine gs_ Try.func85 #[.int .i64 ((rd_T79 l0_1 x31_2).f0)] ?_
            with_reducible refine (impl_isRegion.calls ((rd_T79 l0_1 x31_2).f0) true _ A18.out).mono ?_
            rintro e w' ⟨rfl,⟨nd,rfl⟩⟩
            refine ⟨_,rfl,?_⟩
            refine hK.out _ _ hh_ (fun hHeld => ?_)
            clear hK K
            refine nr_ (some 38) _ ?_
            refine pv_ 3 39 ?_
            refine pv_ 4 40 ?_
            refine pv_ 5 41 ?_
            refine tx_ 6 42 hHeld ?_
            refine oy_ 7 43 (fun K hK => ?_)
            refine gs_ Try.func86 #[.slice A374_1 ((rd_T79 l0_1 x31_2).f1).length c374_1] ?_
            with_reducible refine (impl_areCells.calls _ _ ((rd_T79 l0_1 x31_2).f1) true _ ?side1 ?side2 A20.out).mono ?_
            (case side1 => exact cb_ HR374_1)
            (case side2 => exact HC374_1.out)
            rintro e w44 ⟨rfl,hb⟩
            refine ⟨_,rfl,?_⟩
            replace BK372 := Aside0.mk (blk_below (kb_ BK372) hb)
            replace BK375 := Aside0.mk (blk_below (kb_ BK375) hb)
            replace HB := Aside0.mk (below_step b_ hb)
            (try clear hb)
            (try clear hb2)
            (try clear hk)
            (try clear hi)
            refine hK.out _ _ hh_ (fun hHeld => ?_)
            clear hK K
            refine nr_ (some 43) _ ?_
            refine pv_ 8 44 ?_
            refine pv_ 9 45 ?_
            refine pv_ 10 46 ?_
            refine pv_ 11 47 ?_
            refine pv_ 12 48 ?_
            refine pv_ 13 49 ?_
            refine pn_ 14 50 ?_
            refine pn_ 15 51 ?_
            refine pn_ 16 52 ?_
            refine pn_ 17 53 ?_
            refine pn_ 18 54 ?_
            refine pn_ 19 55 ?_
            refine pn_ 20 56 ?_
            refine pn_ 21 57 ?_
            refine pn_ 22 58 ?_
            refine pn_ 23 59 ?_
            refine pv_ 24 60 ?_
            refine pv_ 25 61 ?_
            refine done_ (done_of HT_.out (by kernel_rfl)) ?_
            try go_wp2
            go_roundg k2
            case measure => have := HJ1.out;have := HK2.out;omega
            case rel => exact ⟨(wrap64 (x31_2 + 1)),rs_,H',⟨by have := HJ1.out;have := HK2.out;omega⟩,⟨kb_ BK372⟩,⟨b_⟩⟩
          ·replace c21 := Bool.eq_false_iff.mpr c21
           subst c21
           replace H := ie_ H
           obtain rfl := Option.some.inj H
           have p374 : 0 ≤ (x31_2 : Int) := od_
           have q374 : x31_2 < (l0_1.length : Int) := od_
           obtain ⟨ad374,A374_1,c374_1,e374,hx374_0,hx374_1,hl374_1,hi374_1⟩ := at_T79 HR0_1.out x31_2 p374 q374
           cases e374
           replace hx374_0 := hx_ HB hx374_0
           replace hx374_1 := hx_ HB hx374_1
           have HR374_1 := Aside0.mk hi374_1
           have HC374_1 := Aside0.mk hl374_1
           clear hi374_1 hl374_1
           replace p374 := eq_true p374
           replace q374 := eq_true q374
           try go_wp2_with (first|((with_reducible refine gate_dst (N := 4) rfl ?_);(try (refine gate_guard (by rfl) ?_;dsimp only));refine bx_ 4 #[.int .i64 0,.slice none 0 0] 79 ?_;intro gb375 hg w45 hbox hb;replace HB := nb_ hg hbox hb;obtain ⟨BK375,GW375,GE375,HB⟩ := HB;have NB372_375 := Aside0.mk ((nl_ BK372 hg));have NB375_372 := Aside0.mk ((ng_ BK372 hg));replace BK372 := Aside0.mk (blk_below (kb_ BK372) hb);clear hb hbox hg;have hnb46 := NB375_372.out;have hnc46 := NB372_375.out;obtain ⟨⟨hcz47_0,hcz47_1⟩,hfz47_0,hfz47_1⟩ := cl2_ BK375.out))
           have n0_ : Aside0 (((w45.setCell ⟨gb375,0,none⟩ (.int .i64 ((rd_T79 l0_1 x31_2).f0))).setCell ⟨gb375,1,none⟩ (.slice A374_1 ((rd_T79 l0_1 x31_2).f1).length c374_1)).heap[gb372]? = some (.cells #[.bool a0_0,.slice (some ad374) l0_1.length c0_1,.slice A0_2 l0_2.length c0_2,.slice A0_3 l0_3.length c0_3] 32 (0,0))) := ⟨kf_ BK372⟩
           have n1_ : Aside0 (((w45.setCell ⟨gb375,0,none⟩ (.int .i64 ((rd_T79 l0_1 x31_2).f0))).setCell ⟨gb375,1,none⟩ (.slice A374_1 ((rd_T79 l0_1 x31_2).f1).length c374_1)).heap[gb375]? = some (.cells #[.int .i64 ((rd_T79 l0_1 x31_2).f0),.slice A374_1 ((rd_T79 l0_1 x31_2).f1).length c374_1] 79 (0,0))) := ⟨by (with_reducible repeat (first|refine blk_drewN ?_ _|refine blk_drew ?_|refine blk_alloc ?_ _));refine blk_put (cs := #[.int .i64 ((rd_T79 l0_1 x31_2).f0),.slice none 0 0]) ?_ 1 _ rfl;(with_reducible repeat (first|refine blk_drewN ?_ _|refine blk_drew ?_|refine blk_alloc ?_ _));refine blk_put (cs := #[.int .i64 0,.slice none 0 0]) ?_ 0 _ rfl;(with_reducible repeat (first|refine blk_drewN ?_ _|refine blk_drew ?_|refine blk_alloc ?_ _));exact BK375.out⟩
           have n2_ : Aside0 (Below w.heap.size w ((w45.setCell ⟨gb375,0,none⟩ (.int .i64 ((rd_T79 l0_1 x31_2).f0))).setCell ⟨gb375,1,none⟩ (.slice A374_1 ((rd_T79 l0_1 x31_2).f1).length c374_1))) := ⟨b_⟩
           (try clear BK372)
           (try clear BK375)
           (try clear HB)
           generalize ((w45.setCell ⟨gb375,0,none⟩ (.int .i64 ((rd_T79 l0_1 x31_2).f0))).setCell ⟨gb375,1,none⟩ (.slice A374_1 ((rd_T79 l0_1 x31_2).f1).length c374_1)) = w48 at n0_ n1_ n2_ ⊢
           have BK372 := n0_
           have BK375 := n1_
           have HB := n2_
           clear n0_ n1_ n2_
           replace BK372 := Aside0.mk (blk_drew BK372.out)
           replace BK375 := Aside0.mk (blk_drew BK375.out)
           replace HB := Aside0.mk (below_drew1 HB.out)
           refine st_ 26 (S := fun w' => hd2 w' gb375 (.int .i64 ((rd_T79 l0_1 x31_2).f0)) (.slice A374_1 ((rd_T79 l0_1 x31_2).f1).length c374_1)) hh_ (fun hHeld => ?_);refine with_tabW impl_isMachineOk.tab6 impl_isMachineOk.bits6 (fun HT_ HW_ => ?_)
           generalize w48.drew = w49 at BK372 BK375 HB hHeld ⊢
           refine pv_ 0 36 ?_
           refine tx_ 1 37 hHeld ?_
           refine oy_ 2 38 (fun K hK => ?_)
           refine gs_ Try.func85 #[.int .i64 ((rd_T79 l0_1 x31_2).f0)] ?_
           with_reducible refine (impl_isRegion.calls ((rd_T79 l0_1 x31_2).f0) true _ A18.out).mono ?_
           rintro e w' ⟨rfl,⟨nd,rfl⟩⟩
           refine ⟨_,rfl,?_⟩
           refine hK.out _ _ hh_ (fun hHeld => ?_)
           clear hK K
           refine nr_ (some 38) _ ?_
           refine pv_ 3 39 ?_
           refine pv_ 4 40 ?_
           refine pv_ 5 41 ?_
           refine tx_ 6 42 hHeld ?_
           refine oy_ 7 43 (fun K hK => ?_)
           refine gs_ Try.func86 #[.slice A374_1 ((rd_T79 l0_1 x31_2).f1).length c374_1] ?_
           with_reducible refine (impl_areCells.calls _ _ ((rd_T79 l0_1 x31_2).f1) false _ ?side1 ?side2 A20.out).mono ?_
           (case side1 => exact cb_ HR374_1)
           (case side2 => exact HC374_1.out)
           rintro e w50 ⟨rfl,hb⟩
           refine ⟨_,rfl,?_⟩
           replace BK372 := Aside0.mk (blk_below (kb_ BK372) hb)
           replace BK375 := Aside0.mk (blk_below (kb_ BK375) hb)
           replace HB := Aside0.mk (below_step b_ hb)
           (try clear hb)
           (try clear hb2)
           (try clear hk)
           (try clear hi)
           refine hK.out _ _ hh_ (fun hHeld => ?_)
           clear hK K
           refine nr_ (some 43) _ ?_
           refine pv_ 8 44 ?_
           refine pv_ 9 45 ?_
           refine pv_ 10 46 ?_
           refine pn_ 11 47 ?_
           refine pn_ 12 48 ?_
           refine pn_ 13 49 ?_
           refine pn_ 14 50 ?_
           refine pn_ 15 51 ?_
           refine pn_ 16 52 ?_
           refine pn_ 17 53 ?_
           refine pn_ 18 54 ?_
           refine pn_ 19 55 ?_
           refine pn_ 20 56 ?_
           refine pn_ 21 57 ?_
           refine pn_ 22 58 ?_
           refine pn_ 23 59 ?_
           refine pn_ 24 60 ?_
           refine pv_ 25 61 ?_
           refine done_ (done_of HT_.out (by kernel_rfl)) ?_
           try go_wp2
           go_ret
           exact ⟨rf_,b_⟩
         ·replace c19 := Bool.eq_false_iff.mpr c19
          subst c19
          replace H := ie_ H
          obtain rfl := Option.some.inj H
          have p374 : 0 ≤ (x31_2 : Int) := od_
          have q374 : x31_2 < (l0_1.length : Int) := od_
          obtain ⟨ad374,A374_1,c374_1,e374,hx374_0,hx374_1,hl374_1,hi374_1⟩ := at_T79 HR0_1.out x31_2 p374 q374
          cases e374
          replace hx374_0 := hx_ HB hx374_0
          replace hx374_1 := hx_ HB hx374_1
          have HR374_1 := Aside0.mk hi374_1
          have HC374_1 := Aside0.mk hl374_1
          clear hi374_1 hl374_1
          replace p374 := eq_true p374
          replace q374 := eq_true q374
          try go_wp2_with (first|((with_reducible refine gate_dst (N := 4) rfl ?_);(try (refine gate_guard (by rfl) ?_;dsimp only));refine bx_ 4 #[.int .i64 0,.slice none 0 0] 79 ?_;intro gb375 hg w51 hbox hb;replace HB := nb_ hg hbox hb;obtain ⟨BK375,GW375,GE375,HB⟩ := HB;have NB372_375 := Aside0.mk ((nl_ BK372 hg));have NB375_372 := Aside0.mk ((ng_ BK372 hg));replace BK372 := Aside0.mk (blk_below (kb_ BK372) hb);clear hb hbox hg;have hnb52 := NB375_372.out;have hnc52 := NB372_375.out;obtain ⟨⟨hcz53_0,hcz53_1⟩,hfz53_0,hfz53_1⟩ := cl2_ BK375.out))
          have n0_ : Aside0 (((w51.setCell ⟨gb375,0,none⟩ (.int .i64 ((rd_T79 l0_1 x31_2).f0))).setCell ⟨gb375,1,none⟩ (.slice A374_1 ((rd_T79 l0_1 x31_2).f1).length c374_1)).heap[gb372]? = some (.cells #[.bool a0_0,.slice (some ad374) l0_1.length c0_1,.slice A0_2 l0_2.length c0_2,.slice A0_3 l0_3.length c0_3] 32 (0,0))) := ⟨kf_ BK372⟩
          have n1_ : Aside0 (((w51.setCell ⟨gb375,0,none⟩ (.int .i64 ((rd_T79 l0_1 x31_2).f0))).setCell ⟨gb375,1,none⟩ (.slice A374_1 ((rd_T79 l0_1 x31_2).f1).length c374_1)).heap[gb375]? = some (.cells #[.int .i64 ((rd_T79 l0_1 x31_2).f0),.slice A374_1 ((rd_T79 l0_1 x31_2).f1).length c374_1] 79 (0,0))) := ⟨by (with_reducible repeat (first|refine blk_drewN ?_ _|refine blk_drew ?_|refine blk_alloc ?_ _));refine blk_put (cs := #[.int .i64 ((rd_T79 l0_1 x31_2).f0),.slice none 0 0]) ?_ 1 _ rfl;(with_reducible repeat (first|refine blk_drewN ?_ _|refine blk_drew ?_|refine blk_alloc ?_ _));refine blk_put (cs := #[.int .i64 0,.slice none 0 0]) ?_ 0 _ rfl;(with_reducible repeat (first|refine blk_drewN ?_ _|refine blk_drew ?_|refine blk_alloc ?_ _));exact BK375.out⟩
          have n2_ : Aside0 (Below w.heap.size w ((w51.setCell ⟨gb375,0,none⟩ (.int .i64 ((rd_T79 l0_1 x31_2).f0))).setCell ⟨gb375,1,none⟩ (.slice A374_1 ((rd_T79 l0_1 x31_2).f1).length c374_1))) := ⟨b_⟩
          (try clear BK372)
          (try clear BK375)
          (try clear HB)
          generalize ((w51.setCell ⟨gb375,0,none⟩ (.int .i64 ((rd_T79 l0_1 x31_2).f0))).setCell ⟨gb375,1,none⟩ (.slice A374_1 ((rd_T79 l0_1 x31_2).f1).length c374_1)) = w54 at n0_ n1_ n2_ ⊢
          have BK372 := n0_
          have BK375 := n1_
          have HB := n2_
          clear n0_ n1_ n2_
          replace BK372 := Aside0.mk (blk_drew BK372.out)
          replace BK375 := Aside0.mk (blk_drew BK375.out)
          replace HB := Aside0.mk (below_drew1 HB.out)
          refine st_ 26 (S := fun w' => hd2 w' gb375 (.int .i64 ((rd_T79 l0_1 x31_2).f0)) (.slice A374_1 ((rd_T79 l0_1 x31_2).f1).length c374_1)) hh_ (fun hHeld => ?_);refine with_tabW impl_isMachineOk.tab6 impl_isMachineOk.bits6 (fun HT_ HW_ => ?_)
          generalize w54.drew = w55 at BK372 BK375 HB hHeld ⊢
          refine pv_ 0 36 ?_
          refine tx_ 1 37 hHeld ?_
          refine oy_ 2 38 (fun K hK => ?_)
          refine gs_ Try.func85 #[.int .i64 ((rd_T79 l0_1 x31_2).f0)] ?_
          with_reducible refine (impl_isRegion.calls ((rd_T79 l0_1 x31_2).f0) false _ A18.out).mono ?_
          rintro e w' ⟨rfl,⟨nd,rfl⟩⟩
          refine ⟨_,rfl,?_⟩
          refine hK.out _ _ hh_ (fun hHeld => ?_)
          clear hK K
          refine nr_ (some 38) _ ?_
          refine pv_ 3 39 ?_
          refine pv_ 4 40 ?_
          refine pn_ 5 41 ?_
          refine pn_ 6 42 ?_
          refine pn_ 7 43 ?_
          refine pn_ 8 44 ?_
          refine pv_ 9 45 ?_
          refine pv_ 10 46 ?_
          refine pn_ 11 47 ?_
          refine pn_ 12 48 ?_
          refine pn_ 13 49 ?_
          refine pn_ 14 50 ?_
          refine pn_ 15 51 ?_
          refine pn_ 16 52 ?_
          refine pn_ 17 53 ?_
          refine pn_ 18 54 ?_
          refine pn_ 19 55 ?_
          refine pn_ 20 56 ?_
          refine pn_ 21 57 ?_
          refine pn_ 22 58 ?_
          refine pn_ 23 59 ?_
          refine pn_ 24 60 ?_
          refine pv_ 25 61 ?_
          refine done_ (done_of HT_.out (by kernel_rfl)) ?_
          try go_wp2
          go_ret
          exact ⟨rf_,b_⟩
        ·rw [if_neg c17] at H
         exact absurd H (by simp)
       ·rw [if_neg c16] at H
        exact absurd H (by simp)
      ·rw [if_neg c15] at H
       have c15b0 : decide (x31_2 < (l0_1.length : Int)) = false := decide_eq_false c15
       clear c15
       have H' := Aside0.mk H
       clear H
       obtain ⟨⟨hcz56_0,hcz56_1,hcz56_2,hcz56_3⟩,hfz56_0,hfz56_1,hfz56_2,hfz56_3⟩ := cl4_ BK372.out
       go_wp2
       go_loopg [66] k2 (fun kq v66 w' => ∃ (x66_3 : Int),v66 = .int .i64 x66_3 ∧ Aside0 (impl_isMachineOk.l1 kq l0_3 (l0_3.length : Int) x66_3 a0_0 l0_1 l0_2 l0_3 = some r) ∧ Aside0 (kq ≤ k2) ∧ Aside0 (w'.heap[gb372]? = some (.cells #[.bool a0_0,(.slice A0_1 l0_1.length c0_1),(.slice A0_2 l0_2.length c0_2),(.slice A0_3 l0_3.length c0_3)] 32 (0,0))) ∧ Aside0 (Below w.heap.size w w'))
       case atStart => exact ⟨(0),rs_,H',⟨Nat.le_refl _⟩,⟨kb_ BK372⟩,⟨b_⟩⟩
       case round =>
        clear H'
        try clear c1
        try clear c2
        try clear p2
        try clear c3
        try clear p3
        try clear q3
        try clear hx3
        try clear c4
        try clear c5
        try clear p6
        try clear c8
        try clear c15
        try clear c15b0
        try clear c16
        try clear c17
        try clear c19
        try clear c21
        try clear c37
        try clear p37
        try clear q37
        try clear hx37
        try clear c46
        try clear c52
        try clear hcz47_0
        try clear hcz47_1
        try clear hcz53_0
        try clear hcz53_1
        try clear hcz56_0
        try clear hcz56_1
        try clear hcz56_2
        try clear hcz56_3
        try clear hfz47_0
        try clear hfz47_1
        try clear hfz53_0
        try clear hfz53_1
        try clear hfz56_0
        try clear hfz56_1
        try clear hfz56_2
        try clear hfz56_3
        try clear hx374_0
        try clear hx374_1
        try clear p374
        try clear q374
        obtain ⟨x66_3,rfl,HA,HK3,BK372,HB⟩ := hrel
        cases gk with
        | zero => exact absurd HA.out (by simp [impl_isMachineOk.l1])
        | succ k3 =>
         have H := HA.out
         clear HA
         simp only [impl_isMachineOk.l1] at H
         by_cases c57 : x66_3 < (l0_3.length : Int)
         ·rw [if_pos c57] at H
          have c57b0 : decide (x66_3 < (l0_3.length : Int)) = true := decide_eq_true c57
          clear c57
          by_cases c58 : 0 ≤ x66_3
          ·rw [if_pos c58] at H
           have c58b0 : decide (0 ≤ x66_3) = true := decide_eq_true c58
           clear c58
           by_cases c59 : x66_3 < (l0_3.length : Int)
           ·rw [if_pos c59] at H
            have c59b0 : decide (x66_3 < (l0_3.length : Int)) = true := decide_eq_true c59
            clear c59
            replace H := bs_ H
            obtain ⟨t380,A60,H⟩ := H
            by_cases c61 : t380 = true
            ·subst c61
             replace H := it_ H
             by_cases c62 : x66_3 > 0
             ·rw [if_pos c62] at H
              have c62b0 : decide (0 < x66_3) = true := decide_eq_true c62
              clear c62
              obtain ⟨ji63,hji63⟩ : ∃ j_ : Int,(wrap64 (x66_3 - 1)) = j_ := ⟨_,rfl⟩
              replace H : (if 0 ≤ (ji63) then (if (ji63) < (l0_3.length : Int) then (if (rd l0_3 (ji63)) ≥ (rd l0_3 x66_3) then (some false) else (impl_isMachineOk.l1 k3 l0_3 (l0_3.length : Int) (wrap64 (x66_3 + 1)) a0_0 l0_1 l0_2 l0_3)) else (none)) else (none)) = some r := by first|(rw [hji63] at H;exact H)|(simp only [hji63] at H ⊢;exact H)
              (try rw [hji63] at A60)
              have hji63w : (IntKind.i64.wrap (x66_3 - 1)) = ji63 := (i64_w _).trans hji63
              by_cases c64 : 0 ≤ (ji63)
              ·rw [if_pos c64] at H
               have c64b0 : decide (0 ≤ (ji63)) = true := decide_eq_true c64
               clear c64
               by_cases c65 : (ji63) < (l0_3.length : Int)
               ·rw [if_pos c65] at H
                have c65b0 : decide ((ji63) < (l0_3.length : Int)) = true := decide_eq_true c65
                clear c65
                by_cases c66 : (rd l0_3 (ji63)) ≥ (rd l0_3 x66_3)
                ·rw [if_pos c66] at H
                 have c66b0 : decide ((rd l0_3 x66_3) ≤ (rd l0_3 (ji63))) = true := decide_eq_true c66
                 clear c66
                 obtain rfl := Option.some.inj H
                 have p379 : 0 ≤ (x66_3 : Int) := od_
                 have q379 : x66_3 < (l0_3.length : Int) := od_
                 obtain ⟨ad379,e379,hx379_0⟩ := Kd.at_int HR0_3.out x66_3 p379 q379
                 cases e379
                 replace hx379_0 := hx_ HB hx379_0
                 replace p379 := eq_true p379
                 replace q379 := eq_true q379
                 go_wp2_with (first|((with_reducible refine gcal_ (f := 92) rfl ?_);refine gl_ (some 72) Try.func92 #[.int .i64 (rd l0_3 x66_3)] ?_;(with_reducible refine (impl_isId.calls (rd l0_3 x66_3) true _ A60.out).mono ?_);rintro e w' ⟨rfl,⟨nd,rfl⟩⟩;refine ⟨_,rfl,?_⟩;obtain ⟨⟨hcz67_0,hcz67_1,hcz67_2,hcz67_3⟩,hfz67_0,hfz67_1,hfz67_2,hfz67_3⟩ := cl4_ BK372.out;have p381 : 0 ≤ ((ji63) : Int) := od_;have q381 : (ji63) < (l0_3.length : Int) := od_;obtain ⟨ad381,e381,hx381_0⟩ := Kd.at_int HR0_3.out (ji63) p381 q381;obtain rfl : ad379 = ad381 := (by injection e381);replace hx381_0 := hx_ HB hx381_0;replace p381 := eq_true p381;replace q381 := eq_true q381))
                 go_ret
                 exact ⟨by first|rfl|(simp [errW_none,errW_some] <;> rfl)|(simp only [← hji63];first|rfl|(simp [errW_none,errW_some] <;> rfl))|(simp [*,errW_none,errW_some] <;> rfl),b_⟩
                ·rw [if_neg c66] at H
                 have c66b0 : decide ((rd l0_3 x66_3) ≤ (rd l0_3 (ji63))) = false := decide_eq_false c66
                 clear c66
                 have H' := Aside0.mk H
                 clear H
                 have p379 : 0 ≤ (x66_3 : Int) := od_
                 have q379 : x66_3 < (l0_3.length : Int) := od_
                 obtain ⟨ad379,e379,hx379_0⟩ := Kd.at_int HR0_3.out x66_3 p379 q379
                 cases e379
                 replace hx379_0 := hx_ HB hx379_0
                 replace p379 := eq_true p379
                 replace q379 := eq_true q379
                 go_wp2_with (first|((with_reducible refine gcal_ (f := 92) rfl ?_);refine gl_ (some 72) Try.func92 #[.int .i64 (rd l0_3 x66_3)] ?_;(with_reducible refine (impl_isId.calls (rd l0_3 x66_3) true _ A60.out).mono ?_);rintro e w' ⟨rfl,⟨nd,rfl⟩⟩;refine ⟨_,rfl,?_⟩;obtain ⟨⟨hcz68_0,hcz68_1,hcz68_2,hcz68_3⟩,hfz68_0,hfz68_1,hfz68_2,hfz68_3⟩ := cl4_ BK372.out;have p381 : 0 ≤ ((ji63) : Int) := od_;have q381 : (ji63) < (l0_3.length : Int) := od_;obtain ⟨ad381,e381,hx381_0⟩ := Kd.at_int HR0_3.out (ji63) p381 q381;obtain rfl : ad379 = ad381 := (by injection e381);replace hx381_0 := hx_ HB hx381_0;replace p381 := eq_true p381;replace q381 := eq_true q381))
                 go_roundg k3
                 case measure => have := HJ1.out;have := HK2.out;have := HK3.out;omega
                 case rel => exact ⟨(wrap64 (x66_3 + 1)),rs_,H',⟨by have := HJ1.out;have := HK2.out;have := HK3.out;omega⟩,⟨kb_ BK372⟩,⟨b_⟩⟩
               ·rw [if_neg c65] at H
                exact absurd H (by simp)
              ·rw [if_neg c64] at H
               exact absurd H (by simp)
             ·rw [if_neg c62] at H
              have c62b0 : decide (0 < x66_3) = false := decide_eq_false c62
              clear c62
              have H' := Aside0.mk H
              clear H
              have p379 : 0 ≤ (x66_3 : Int) := od_
              have q379 : x66_3 < (l0_3.length : Int) := od_
              obtain ⟨ad379,e379,hx379_0⟩ := Kd.at_int HR0_3.out x66_3 p379 q379
              cases e379
              replace hx379_0 := hx_ HB hx379_0
              replace p379 := eq_true p379
              replace q379 := eq_true q379
              go_wp2_with (first|((with_reducible refine gcal_ (f := 92) rfl ?_);refine gl_ (some 72) Try.func92 #[.int .i64 (rd l0_3 x66_3)] ?_;(with_reducible refine (impl_isId.calls (rd l0_3 x66_3) true _ A60.out).mono ?_);rintro e w' ⟨rfl,⟨nd,rfl⟩⟩;refine ⟨_,rfl,?_⟩))
              go_roundg k3
              case measure => have := HJ1.out;have := HK2.out;have := HK3.out;omega
              case rel => exact ⟨(wrap64 (x66_3 + 1)),rs_,H',⟨by have := HJ1.out;have := HK2.out;have := HK3.out;omega⟩,⟨kb_ BK372⟩,⟨b_⟩⟩
            ·replace c61 := Bool.eq_false_iff.mpr c61
             subst c61
             replace H := ie_ H
             obtain rfl := Option.some.inj H
             have p379 : 0 ≤ (x66_3 : Int) := od_
             have q379 : x66_3 < (l0_3.length : Int) := od_
             obtain ⟨ad379,e379,hx379_0⟩ := Kd.at_int HR0_3.out x66_3 p379 q379
             cases e379
             replace hx379_0 := hx_ HB hx379_0
             replace p379 := eq_true p379
             replace q379 := eq_true q379
             go_wp2_with (first|((with_reducible refine gcal_ (f := 92) rfl ?_);refine gl_ (some 72) Try.func92 #[.int .i64 (rd l0_3 x66_3)] ?_;(with_reducible refine (impl_isId.calls (rd l0_3 x66_3) false _ A60.out).mono ?_);rintro e w' ⟨rfl,⟨nd,rfl⟩⟩;refine ⟨_,rfl,?_⟩))
             go_ret
             exact ⟨rf_,b_⟩
           ·rw [if_neg c59] at H
            exact absurd H (by simp)
          ·rw [if_neg c58] at H
           exact absurd H (by simp)
         ·rw [if_neg c57] at H
          have c57b0 : decide (x66_3 < (l0_3.length : Int)) = false := decide_eq_false c57
          clear c57
          obtain rfl := Option.some.inj H
          go_wp2
          go_ret
          exact ⟨rf_,b_⟩

end Go.Proofs.Ythplaakckfhaaaa.XRp
