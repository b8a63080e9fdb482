/- Proved: a call of each Go function here comes to what its Lean function tells. -/
import Derived.Test.YthplaakckfhaaaaGreatXMs0
import Derived.Test.YthplaakckfhaaaaGreatXMs3
import Derived.Test.YthplaakckfhaaaaGreatXMs5
namespace Go.Proofs.YthplaakckfhaaaaGreat.XMs
open Go.RowKit Go.Proofs.YthplaakckfhaaaaGreat.Aid Go.Proofs.YthplaakckfhaaaaGreatW.PrintWords Go.Proofs.YthplaakckfhaaaaGreatW.PrintLast Go.Proofs.YthplaakckfhaaaaGreatW.PrintMore
set_option linter.unusedVariables false
set_option linter.unusedSimpArgs false

/-! ### impl_isMachineOk: function 36 -/
mutual
def impl_isMachineOk.j0 : Nat → Bool → Bool → List (S83) → List (S50) → List Int → Option (Bool)
  | 0, _, _, _, _, _ => none
  | k + 1, x27, x131000, x131001, x131002, x131003 => if x27 = true then (some false) else (impl_isMachineOk.l0 k x131001 (x131001.length : Int) 0 x131000 x131001 x131002 x131003)
def impl_isMachineOk.l0 : Nat → List (S83) → Int → Int → Bool → List (S83) → List (S50) → List Int → Option (Bool)
  | 0, _, _, _, _, _, _, _ => none
  | k + 1, x29, x30, x31, x131000, x131001, x131002, x131003 => if x31 < x30 then (if 0 ≤ x31 then (if x31 < (x29.length : Int) then ((impl_isRegion.f ((rd_T83 x29 x31).f0)).bind fun t134 => (if t134 = true then ((impl_areCells.f ((rd_T83 x29 x31).f1)).bind fun t135 => (if t135 = true then (if x31 > 0 then (if 0 ≤ (wrap64 (x31 - 1)) then (if (wrap64 (x31 - 1)) < (x131001.length : Int) then (if ((rd_T83 x131001 (wrap64 (x31 - 1))).f0) ≥ ((rd_T83 x29 x31).f0) then (some false) else (impl_isMachineOk.l0 k x29 x30 (wrap64 (x31 + 1)) x131000 x131001 x131002 x131003)) else (none)) else (none)) else (impl_isMachineOk.l0 k x29 x30 (wrap64 (x31 + 1)) x131000 x131001 x131002 x131003)) else (some false))) else (some false))) else (none)) else (none)) else (impl_isMachineOk.l1 k x131003 (x131003.length : Int) 0 x131000 x131001 x131002 x131003)
def impl_isMachineOk.l1 : Nat → List Int → Int → Int → Bool → List (S83) → List (S50) → List Int → Option (Bool)
  | 0, _, _, _, _, _, _, _ => none
  | k + 1, x64, x65, x66, x131000, x131001, x131002, x131003 => if x66 < x65 then (if 0 ≤ x66 then (if x66 < (x64.length : Int) then ((impl_isId.f (rd x64 x66)).bind fun t138 => (if t138 = true then (if x66 > 0 then (if 0 ≤ (wrap64 (x66 - 1)) then (if (wrap64 (x66 - 1)) < (x131003.length : Int) then (if (rd x131003 (wrap64 (x66 - 1))) ≥ (rd x64 x66) then (some false) else (impl_isMachineOk.l1 k x64 x65 (wrap64 (x66 + 1)) x131000 x131001 x131002 x131003)) else (none)) else (none)) else (impl_isMachineOk.l1 k x64 x65 (wrap64 (x66 + 1)) x131000 x131001 x131002 x131003)) else (some false))) else (none)) else (none)) else (some true)
end
def impl_isMachineOk.f (k : Nat) (a0_0 : Bool) (l0_1 : List (S83)) (l0_2 : List (S50)) (l0_3 : List Int) : Option (Bool) := if (l0_1.length : Int) > 6 then (impl_isMachineOk.j0 k true a0_0 l0_1 l0_2 l0_3) else (if (l0_2.length : Int) > 200 then (impl_isMachineOk.j0 k true a0_0 l0_1 l0_2 l0_3) else (if (l0_3.length : Int) > 60 then (impl_isMachineOk.j0 k true a0_0 l0_1 l0_2 l0_3) else ((impl_Record_78.f k l0_2).bind fun t131 => (impl_isMachineOk.j0 k t131 a0_0 l0_1 l0_2 l0_3))))

def impl_isMachineOk.T6 : Bool × List (List Nat × List Nat) := (true, [([], []), ([0], [0]), ([1], [1]), ([2], [2]), ([3, 2], [3]), ([4], [4]), ([5, 4], [4, 5]), ([6, 4, 4], [4, 6]), ([7, 4], [4, 7]), ([4, 8], [4, 8]), ([9, 7], [9]), ([10], [10]), ([11, 10], [10, 11]), ([12, 10, 10], [10, 12]), ([13], [13]), ([14, 13], [13, 14]), ([13], [13]), ([16, 13], [13, 16]), ([15, 17, 13], [13, 15, 17]), ([18, 13], [13, 18]), ([19, 13], [13, 19]), ([13], [13]), ([21, 13], [13, 21]), ([20, 22, 13], [13, 20, 22]), ([13, 23, 10], [10, 13, 23]), ([10, 24], [10, 24])])
def impl_isMachineOk.B6 : List Nat := [0, 1, 3, 7, 15, 31, 63, 127, 255, 511, 1023, 2047, 4095, 8191, 16383, 32767, 16383, 81919, 262143, 524287, 1048575, 16383, 2113535, 8388607, 16777215, 33554431]
theorem impl_isMachineOk.tab6 : rtab .any (opsOf Tryz.f36 6) = impl_isMachineOk.T6 := by kernel_rfl
theorem impl_isMachineOk.bits6 : waitsOk impl_isMachineOk.T6.2 impl_isMachineOk.B6 = true := by kernel_rfl
set_option maxHeartbeats 8000000 in
set_option maxRecDepth 100000 in
theorem impl_isMachineOk.calls (k : Nat) (a0_0 : Bool) (A0_1 : Option Addr) (c0_1 : Nat) (l0_1 : List (S83)) (A0_2 : Option Addr) (c0_2 : Nat) (l0_2 : List (S50)) (A0_3 : Option Addr) (c0_3 : Nat) (l0_3 : List Int) (r : Bool) (w : World) (hr0_1 : Kd.C k83 w A0_1 l0_1.length l0_1) (hc0_1 : l0_1.length ≤ c0_1) (hr0_2 : Kd.C k50 w A0_2 l0_2.length l0_2) (hc0_2 : l0_2.length ≤ c0_2) (hr0_3 : Kd.C (Kd.int .i64) w A0_3 l0_3.length l0_3) (hc0_3 : l0_3.length ≤ c0_3) (h : impl_isMachineOk.f k a0_0 l0_1 l0_2 l0_3 = some r) :
    Calls Tryz.prog 36 #[.agg #[.bool a0_0, .slice A0_1 l0_1.length c0_1, .slice A0_2 l0_2.length c0_2, .slice A0_3 l0_3.length c0_3]] w fun e w' => e = .returned (.bool r) ∧ Below w.heap.size w w' := by
 have hu31 := Tryz.underlying31
 have hu83 := Tryz.underlying83
 have HR0_1 := ak hr0_1
 have HC0_1 := ak hc0_1
 clear hr0_1 hc0_1
 have HR0_2 := ak hr0_2
 have HC0_2 := ak hc0_2
 clear hr0_2 hc0_2
 have HR0_3 := ak hr0_3
 have HC0_3 := ak hc0_3
 clear hr0_3 hc0_3
 have HB := ak (Below.refl w.heap.size w)
 have H : (if (l0_1.length : Int) > 6 then (impl_isMachineOk.j0 k true a0_0 l0_1 l0_2 l0_3) else (if (l0_2.length : Int) > 200 then (impl_isMachineOk.j0 k true a0_0 l0_1 l0_2 l0_3) else (if (l0_3.length : Int) > 60 then (impl_isMachineOk.j0 k true a0_0 l0_1 l0_2 l0_3) else ((impl_Record_78.f k l0_2).bind fun t131 => (impl_isMachineOk.j0 k t131 a0_0 l0_1 l0_2 l0_3))))) = some r := h
 clear h
 have HC2 := ak H
 clear H
 go_enter Tryz.func36,Tryz.ntmps36
 go_upto_region 1 with (first|((with_reducible refine gate_dst (N := 1) rfl ?_);(try (refine gate_guard (by rfl) ?_;dsimp only));refine bx_ 1 #[.bool a0_0,.slice A0_1 l0_1.length c0_1,.slice A0_2 l0_2.length c0_2,.slice A0_3 l0_3.length c0_3] 31 ?_;intro gb130 hg w3 hbox hb;have n0_ := ak (below_step b_ hb);have n1_ := ak (hbox);have n2_ := ak ((gw_ (w := w) hg));have n3_ := ak ((gw_ (w := w) hg));clear HB;have HB := n0_;have BK130 := n1_;have GW130 := n2_;have GE130 := n3_;clear n0_ n1_ n2_ n3_;clear hb hbox hg))
 (try simp only [Act.put,List.setIfInBounds_toArray,List.set_cons_zero,List.set_cons_succ])
 go_cut [27] (fun v27 wc => ∃ (kq : Nat) (x27_1 : Bool),v27 = .bool x27_1 ∧ Aside0 (impl_isMachineOk.j0 kq x27_1 a0_0 l0_1 l0_2 l0_3 = some r) ∧ Aside0 (kq ≤ k) ∧ Aside0 (wc.heap[gb130]? = some (.cells #[.bool a0_0,(.slice A0_1 l0_1.length c0_1),(.slice A0_2 l0_2.length c0_2),(.slice A0_3 l0_3.length c0_3)] 31 (0,0))) ∧ Aside0 (Below w.heap.size w wc))
 case first =>
  have H := HC2.out
  clear HC2
  by_cases c4 : (l0_1.length : Int) > 6
  ·rw [if_pos c4] at H
   have c4b0 : decide (6 < (l0_1.length : Int)) = true := decide_eq_true c4
   have c4b1 : decide (6 < l0_1.length) = true := decide_eq_true (by omega)
   clear c4
   (first|rw [c4b0]|(simp only [i64_w,i32_w];rw [c4b0])|skip)
   have H' := ak H
   clear H
   obtain ⟨⟨hcz5_0,hcz5_1,hcz5_2,hcz5_3⟩,hfz5_0,hfz5_1,hfz5_2,hfz5_3⟩ := cl4_ BK130.out
   go_wp2
   go_meet
   case rel => exact ⟨_,(true),rs_,H',⟨by first|omega|exact Nat.le_refl _⟩,⟨kb_ BK130⟩,⟨b_⟩⟩
  ·rw [if_neg c4] at H
   have c4b0 : decide (6 < (l0_1.length : Int)) = false := decide_eq_false c4
   have c4b1 : decide (6 < l0_1.length) = false := decide_eq_false (by omega)
   clear c4
   (first|rw [c4b0]|(simp only [i64_w,i32_w];rw [c4b0])|skip)
   by_cases c6 : (l0_2.length : Int) > 200
   ·rw [if_pos c6] at H
    have c6b0 : decide (200 < (l0_2.length : Int)) = true := decide_eq_true c6
    have c6b1 : decide (200 < l0_2.length) = true := decide_eq_true (by omega)
    clear c6
    have H' := ak H
    clear H
    obtain ⟨⟨hcz7_0,hcz7_1,hcz7_2,hcz7_3⟩,hfz7_0,hfz7_1,hfz7_2,hfz7_3⟩ := cl4_ BK130.out
    go_wp2
    go_meet
    case rel => exact ⟨_,(true),rs_,H',⟨by first|omega|exact Nat.le_refl _⟩,⟨kb_ BK130⟩,⟨b_⟩⟩
   ·rw [if_neg c6] at H
    have c6b0 : decide (200 < (l0_2.length : Int)) = false := decide_eq_false c6
    have c6b1 : decide (200 < l0_2.length) = false := decide_eq_false (by omega)
    clear c6
    by_cases c8 : (l0_3.length : Int) > 60
    ·rw [if_pos c8] at H
     have c8b0 : decide (60 < (l0_3.length : Int)) = true := decide_eq_true c8
     have c8b1 : decide (60 < l0_3.length) = true := decide_eq_true (by omega)
     clear c8
     have H' := ak H
     clear H
     obtain ⟨⟨hcz9_0,hcz9_1,hcz9_2,hcz9_3⟩,hfz9_0,hfz9_1,hfz9_2,hfz9_3⟩ := cl4_ BK130.out
     go_wp2
     go_meet
     case rel => exact ⟨_,(true),rs_,H',⟨by first|omega|exact Nat.le_refl _⟩,⟨kb_ BK130⟩,⟨b_⟩⟩
    ·rw [if_neg c8] at H
     have c8b0 : decide (60 < (l0_3.length : Int)) = false := decide_eq_false c8
     have c8b1 : decide (60 < l0_3.length) = false := decide_eq_false (by omega)
     clear c8
     replace H := bs_ H
     obtain ⟨t131,A10,H⟩ := H
     have H' := ak H
     clear H
     obtain ⟨⟨hcz11_0,hcz11_1,hcz11_2,hcz11_3⟩,hfz11_0,hfz11_1,hfz11_2,hfz11_3⟩ := cl4_ BK130.out
     go_wp2_with (first|(go_at_call 78;(with_reducible refine (impl_Record_78.calls k _ _ l0_2  t131 _ ?side1 ?side2 A10.out).mono ?_);(case side1 => exact cb_ HR0_2);(case side2 => exact HC0_2.out);rintro e w12 ⟨rfl,hb⟩;replace BK130 := ak (blk_below (kb_ BK130) hb);replace HB := ak (below_step b_ hb);(try clear hb);(try clear hb2);(try clear hk);(try clear hi)))
     go_meet
     case rel => exact ⟨_,(t131),rs_,H',⟨by first|omega|exact Nat.le_refl _⟩,⟨kb_ BK130⟩,⟨b_⟩⟩
 case rest =>
  clear HC2
  try clear p2
  try clear c3
  try clear c4
  try clear c4b0
  try clear c4b1
  try clear c6
  try clear c6b0
  try clear c6b1
  try clear c8
  try clear c8b0
  try clear c8b1
  try clear hcz11_0 hcz11_1 hcz11_2 hcz11_3
  try clear hcz5_0 hcz5_1 hcz5_2 hcz5_3
  try clear hcz7_0 hcz7_1 hcz7_2 hcz7_3
  try clear hcz9_0 hcz9_1 hcz9_2 hcz9_3
  try clear hfz11_0 hfz11_1 hfz11_2 hfz11_3
  try clear hfz5_0 hfz5_1 hfz5_2 hfz5_3
  try clear hfz7_0 hfz7_1 hfz7_2 hfz7_3
  try clear hfz9_0 hfz9_1 hfz9_2 hfz9_3
  obtain ⟨kq,x27_1,rfl,HA,HJ1,BK130,HB⟩ := hcut
  cases kq with
    | zero => exact absurd HA.out (by simp [impl_isMachineOk.j0])
    | succ kj1 =>
   have H := HA.out
   clear HA
   simp only [impl_isMachineOk.j0] at H
   by_cases c13 : x27_1 = true
   ·subst c13
    replace H := it_ H
    obtain rfl := Option.some.inj H
    go_wp2
    go_ret
    exact ⟨rf_,b_⟩
   ·replace c13 := Bool.eq_false_iff.mpr c13
    subst c13
    replace H := ie_ H
    have H' := ak H
    clear H
    obtain ⟨⟨hcz14_0,hcz14_1,hcz14_2,hcz14_3⟩,hfz14_0,hfz14_1,hfz14_2,hfz14_3⟩ := cl4_ BK130.out
    go_wp2
    go_loopg [31] kj1 (fun kq v31 w' => ∃ (x31_2 : Int),v31 = .int .i64 x31_2 ∧ Aside0 (impl_isMachineOk.l0 kq l0_1 (l0_1.length : Int) x31_2 a0_0 l0_1 l0_2 l0_3 = some r) ∧ Aside0 (kq ≤ kj1) ∧ Aside0 (w'.heap[gb130]? = some (.cells #[.bool a0_0,(.slice A0_1 l0_1.length c0_1),(.slice A0_2 l0_2.length c0_2),(.slice A0_3 l0_3.length c0_3)] 31 (0,0))) ∧ Aside0 (Below w.heap.size w w'))
    case atStart => exact ⟨(0),rs_,H',⟨Nat.le_refl _⟩,⟨kb_ BK130⟩,⟨b_⟩⟩
    case round =>
     clear H'
     try clear c1
     try clear p2
     try clear c3
     try clear c4
     try clear c4b0
     try clear c4b1
     try clear c6
     try clear c6b0
     try clear c6b1
     try clear c8
     try clear c8b0
     try clear c8b1
     try clear c13
     try clear hcz11_0 hcz11_1 hcz11_2 hcz11_3
     try clear hcz14_0 hcz14_1 hcz14_2 hcz14_3
     try clear hcz5_0 hcz5_1 hcz5_2 hcz5_3
     try clear hcz7_0 hcz7_1 hcz7_2 hcz7_3
     try clear hcz9_0 hcz9_1 hcz9_2 hcz9_3
     try clear hfz11_0 hfz11_1 hfz11_2 hfz11_3
     try clear hfz14_0 hfz14_1 hfz14_2 hfz14_3
     try clear hfz5_0 hfz5_1 hfz5_2 hfz5_3
     try clear hfz7_0 hfz7_1 hfz7_2 hfz7_3
     try clear hfz9_0 hfz9_1 hfz9_2 hfz9_3
     try clear p2
     obtain ⟨x31_2,rfl,HA,HK2,BK130,HB⟩ := hrel
     cases gk with
     | zero => exact absurd HA.out (by simp [impl_isMachineOk.l0])
     | succ k2 =>
      have H := HA.out
      clear HA
      simp only [impl_isMachineOk.l0] at H
      by_cases c15 : x31_2 < (l0_1.length : Int)
      ·rw [if_pos c15] at H
       have c15b0 : decide (x31_2 < (l0_1.length : Int)) = true := decide_eq_true c15
       clear c15
       by_cases c16 : 0 ≤ x31_2
       ·rw [if_pos c16] at H
        have c16b0 : decide (0 ≤ x31_2) = true := decide_eq_true c16
        clear c16
        by_cases c17 : x31_2 < (l0_1.length : Int)
        ·rw [if_pos c17] at H
         have c17b0 : decide (x31_2 < (l0_1.length : Int)) = true := decide_eq_true c17
         clear c17
         replace H := bs_ H
         obtain ⟨t134,A18,H⟩ := H
         by_cases c19 : t134 = true
         ·subst c19
          replace H := it_ H
          replace H := bs_ H
          obtain ⟨t135,A20,H⟩ := H
          by_cases c21 : t135 = true
          ·subst c21
           replace H := it_ H
           by_cases c22 : x31_2 > 0
           ·rw [if_pos c22] at H
            have c22b0 : decide (0 < x31_2) = true := decide_eq_true c22
            clear c22
            obtain ⟨ji23,hji23⟩ : ∃ j_ : Int,(wrap64 (x31_2 - 1)) = j_ := ⟨_,rfl⟩
            replace H : (if 0 ≤ (ji23) then (if (ji23) < (l0_1.length : Int) then (if ((rd_T83 l0_1 (ji23)).f0) ≥ ((rd_T83 l0_1 x31_2).f0) then (some false) else (impl_isMachineOk.l0 k2 l0_1 (l0_1.length : Int) (wrap64 (x31_2 + 1)) a0_0 l0_1 l0_2 l0_3)) else (none)) else (none)) = some r := by first|(rw [hji23] at H;exact H)|(simp only [hji23] at H ⊢;exact H)
            (try rw [hji23] at A18)
            (try rw [hji23] at A20)
            have hji23w : (IntKind.i64.wrap (x31_2 - 1)) = ji23 := (i64_w _).trans hji23
            by_cases c24 : 0 ≤ (ji23)
            ·rw [if_pos c24] at H
             have c24b0 : decide (0 ≤ (ji23)) = true := decide_eq_true c24
             clear c24
             by_cases c25 : (ji23) < (l0_1.length : Int)
             ·rw [if_pos c25] at H
              have c25b0 : decide ((ji23) < (l0_1.length : Int)) = true := decide_eq_true c25
              clear c25
              by_cases c26 : ((rd_T83 l0_1 (ji23)).f0) ≥ ((rd_T83 l0_1 x31_2).f0)
              ·rw [if_pos c26] at H
               have c26b0 : decide (((rd_T83 l0_1 x31_2).f0) ≤ ((rd_T83 l0_1 (ji23)).f0)) = true := decide_eq_true c26
               clear c26
               obtain rfl := Option.some.inj H
               have p132 : 0 ≤ (x31_2 : Int) := od_
               have q132 : x31_2 < (l0_1.length : Int) := od_
               obtain ⟨ad132,A132_1,c132_1,e132,hx132_0,hx132_1,hl132_1,hi132_1⟩ := at_T83 HR0_1.out x31_2 p132 q132
               cases e132
               replace hx132_0 := hx_ HB hx132_0
               replace hx132_1 := hx_ HB hx132_1
               have HR132_1 := ak hi132_1
               have HC132_1 := ak hl132_1
               clear hi132_1 hl132_1
               replace p132 := eq_true p132
               replace q132 := eq_true q132
               try go_wp2_with (first|((with_reducible refine gate_dst (N := 4) rfl ?_);(try (refine gate_guard (by rfl) ?_;dsimp only));refine bx_ 4 #[.int .i64 0,.slice none 0 0] 83 ?_;intro gb133 hg w27 hbox hb;replace HB := nb_ hg hbox hb;obtain ⟨BK133,GW133,GE133,HB⟩ := HB;have NB130_133 := ak ((nl_ BK130 hg));have NB133_130 := ak ((ng_ BK130 hg));replace BK130 := ak (blk_below (kb_ BK130) hb);clear hb hbox hg;have hnb28 := NB133_130.out;have hnc28 := NB130_133.out;obtain ⟨⟨hcz29_0,hcz29_1⟩,hfz29_0,hfz29_1⟩ := cl2_ BK133.out))
               have n0_ : Aside0 (((w27.setCell ⟨gb133,0,none⟩ (.int .i64 ((rd_T83 l0_1 x31_2).f0))).setCell ⟨gb133,1,none⟩ (.slice A132_1 ((rd_T83 l0_1 x31_2).f1).length c132_1)).heap[gb130]? = some (.cells #[.bool a0_0,.slice (some ad132) l0_1.length c0_1,.slice A0_2 l0_2.length c0_2,.slice A0_3 l0_3.length c0_3] 31 (0,0))) := ⟨kf_ BK130⟩
               have n1_ : Aside0 (((w27.setCell ⟨gb133,0,none⟩ (.int .i64 ((rd_T83 l0_1 x31_2).f0))).setCell ⟨gb133,1,none⟩ (.slice A132_1 ((rd_T83 l0_1 x31_2).f1).length c132_1)).heap[gb133]? = some (.cells #[.int .i64 ((rd_T83 l0_1 x31_2).f0),.slice A132_1 ((rd_T83 l0_1 x31_2).f1).length c132_1] 83 (0,0))) := ⟨pt2_ (kb_ BK133) _ _⟩
               have n2_ : Aside0 (Below w.heap.size w ((w27.setCell ⟨gb133,0,none⟩ (.int .i64 ((rd_T83 l0_1 x31_2).f0))).setCell ⟨gb133,1,none⟩ (.slice A132_1 ((rd_T83 l0_1 x31_2).f1).length c132_1))) := ⟨b_⟩
               (try clear BK130)
               (try clear BK133)
               (try clear HB)
               generalize ((w27.setCell ⟨gb133,0,none⟩ (.int .i64 ((rd_T83 l0_1 x31_2).f0))).setCell ⟨gb133,1,none⟩ (.slice A132_1 ((rd_T83 l0_1 x31_2).f1).length c132_1)) = w30 at n0_ n1_ n2_ ⊢
               have BK130 := n0_
               have BK133 := n1_
               have HB := n2_
               clear n0_ n1_ n2_
               replace BK130 := ak (blk_drew BK130.out)
               replace BK133 := ak (blk_drew BK133.out)
               replace HB := ak (below_drew1 HB.out)
               have p136 : 0 ≤ ((ji23) : Int) := od_
               have q136 : (ji23) < (l0_1.length : Int) := od_
               obtain ⟨ad136,A136_1,c136_1,e136,hx136_0,hx136_1,hl136_1,hi136_1⟩ := at_T83 HR0_1.out (ji23) p136 q136
               have hw136_1 := hx136_1
               have hw136_0 := hx136_0
               obtain rfl : ad132 = ad136 := (by injection e136)
               replace hx136_0 := hx_ HB hx136_0
               replace hx136_1 := hx_ HB hx136_1
               have HR136_1 := ak hi136_1
               have HC136_1 := ak hl136_1
               clear hi136_1 hl136_1
               replace p136 := eq_true p136
               replace q136 := eq_true q136
               refine st_ 26 (S := fun w' => hc2 w' gb133 (.int .i64 ((rd_T83 l0_1 x31_2).f0)) (.slice A132_1 ((rd_T83 l0_1 x31_2).f1).length c132_1) (hc4 w' gb130 (.bool a0_0) (.slice (some ad132) l0_1.length c0_1) (.slice A0_2 l0_2.length c0_2) (.slice A0_3 l0_3.length c0_3) (hf2 w' (ad132.add (((ji23)).toNat * 2)) (.int .i64 ((rd_T83 l0_1 (ji23)).f0)) (.slice A136_1 ((rd_T83 l0_1 (ji23)).f1).length c136_1)))) hh_ (fun hHeld => ?_);refine with_tabW impl_isMachineOk.tab6 impl_isMachineOk.bits6 (fun HT_ HW_ => ?_)
               generalize w30.drew = w31 at BK130 BK133 HB HR136_1 hx136_0 hx136_1 hHeld ⊢
               refine pv_ 0 36 ?_
               refine tx_ 1 37 hHeld ?_
               refine oy_ 2 38 (fun K hK => ?_)
               refine gs_ Tryz.func54 #[.int .i64 ((rd_T83 l0_1 x31_2).f0)] ?_
               with_reducible refine (impl_isRegion.calls ((rd_T83 l0_1 x31_2).f0) true _ A18.out).mono ?_
               rintro e w' ⟨rfl,⟨nd,rfl⟩⟩
               refine ⟨_,rfl,?_⟩
               refine hK.out _ _ hh_ (fun hHeld => ?_)
               clear hK K
               refine nr_ (some 38) _ ?_
               refine pv_ 3 39 ?_
               refine pv_ 4 40 ?_
               refine pv_ 5 41 ?_
               refine tx_ 6 42 hHeld ?_
               refine oy_ 7 43 (fun K hK => ?_)
               refine gs_ Tryz.func55 #[.slice A132_1 ((rd_T83 l0_1 x31_2).f1).length c132_1] ?_
               with_reducible refine (impl_areCells.calls _ _ ((rd_T83 l0_1 x31_2).f1) true _ ?side1 ?side2 A20.out).mono ?_
               (case side1 => exact cb_ HR132_1)
               (case side2 => exact HC132_1.out)
               rintro e w32 ⟨rfl,hb⟩
               refine ⟨_,rfl,?_⟩
               replace BK130 := ak (blk_below (kb_ BK130) hb)
               replace BK133 := ak (blk_below (kb_ BK133) hb)
               replace HB := ak (below_step b_ hb)
               (try clear hb)
               (try clear hb2)
               (try clear hk)
               (try clear hi)
               refine hK.out _ _ hh_ (fun hHeld => ?_)
               clear hK K
               refine nr_ (some 43) _ ?_
               refine pv_ 8 44 ?_
               refine pv_ 9 45 ?_
               refine pv_ 10 46 ?_
               refine pv_ 11 47 ?_
               refine pv_ 12 48 ?_
               refine pv_ 13 49 ?_
               refine pv_ 14 50 ?_
               refine pv_ 16 52 ?_
               refine pv_ 17 53 ?_
               refine pv_ 21 57 ?_
               refine tx_ 15 51 hHeld ?_
               refine pv_ 18 54 ?_
               refine pv_ 19 55 ?_
               refine tx_ 20 56 hHeld ?_
               refine tx_ 22 58 hHeld ?_
               refine pv_ 23 59 ?_
               refine pv_ 24 60 ?_
               refine pv_ 25 61 ?_
               refine done_ (done_of HT_.out (by kernel_rfl)) ?_
               try go_wp2
               go_ret
               exact ⟨by first|rfl|(simp [errW_none,errW_some] <;> rfl)|(simp only [← hji23];first|rfl|(simp [errW_none,errW_some] <;> rfl))|(simp [*,errW_none,errW_some] <;> rfl),b_⟩
              ·rw [if_neg c26] at H
               have c26b0 : decide (((rd_T83 l0_1 x31_2).f0) ≤ ((rd_T83 l0_1 (ji23)).f0)) = false := decide_eq_false c26
               clear c26
               have H' := ak H
               clear H
               have p132 : 0 ≤ (x31_2 : Int) := od_
               have q132 : x31_2 < (l0_1.length : Int) := od_
               obtain ⟨ad132,A132_1,c132_1,e132,hx132_0,hx132_1,hl132_1,hi132_1⟩ := at_T83 HR0_1.out x31_2 p132 q132
               cases e132
               replace hx132_0 := hx_ HB hx132_0
               replace hx132_1 := hx_ HB hx132_1
               have HR132_1 := ak hi132_1
               have HC132_1 := ak hl132_1
               clear hi132_1 hl132_1
               replace p132 := eq_true p132
               replace q132 := eq_true q132
               try go_wp2_with (first|((with_reducible refine gate_dst (N := 4) rfl ?_);(try (refine gate_guard (by rfl) ?_;dsimp only));refine bx_ 4 #[.int .i64 0,.slice none 0 0] 83 ?_;intro gb133 hg w33 hbox hb;replace HB := nb_ hg hbox hb;obtain ⟨BK133,GW133,GE133,HB⟩ := HB;have NB130_133 := ak ((nl_ BK130 hg));have NB133_130 := ak ((ng_ BK130 hg));replace BK130 := ak (blk_below (kb_ BK130) hb);clear hb hbox hg;have hnb34 := NB133_130.out;have hnc34 := NB130_133.out;obtain ⟨⟨hcz35_0,hcz35_1⟩,hfz35_0,hfz35_1⟩ := cl2_ BK133.out))
               have n0_ : Aside0 (((w33.setCell ⟨gb133,0,none⟩ (.int .i64 ((rd_T83 l0_1 x31_2).f0))).setCell ⟨gb133,1,none⟩ (.slice A132_1 ((rd_T83 l0_1 x31_2).f1).length c132_1)).heap[gb130]? = some (.cells #[.bool a0_0,.slice (some ad132) l0_1.length c0_1,.slice A0_2 l0_2.length c0_2,.slice A0_3 l0_3.length c0_3] 31 (0,0))) := ⟨kf_ BK130⟩
               have n1_ : Aside0 (((w33.setCell ⟨gb133,0,none⟩ (.int .i64 ((rd_T83 l0_1 x31_2).f0))).setCell ⟨gb133,1,none⟩ (.slice A132_1 ((rd_T83 l0_1 x31_2).f1).length c132_1)).heap[gb133]? = some (.cells #[.int .i64 ((rd_T83 l0_1 x31_2).f0),.slice A132_1 ((rd_T83 l0_1 x31_2).f1).length c132_1] 83 (0,0))) := ⟨pt2_ (kb_ BK133) _ _⟩
               have n2_ : Aside0 (Below w.heap.size w ((w33.setCell ⟨gb133,0,none⟩ (.int .i64 ((rd_T83 l0_1 x31_2).f0))).setCell ⟨gb133,1,none⟩ (.slice A132_1 ((rd_T83 l0_1 x31_2).f1).length c132_1))) := ⟨b_⟩
               (try clear BK130)
               (try clear BK133)
               (try clear HB)
               generalize ((w33.setCell ⟨gb133,0,none⟩ (.int .i64 ((rd_T83 l0_1 x31_2).f0))).setCell ⟨gb133,1,none⟩ (.slice A132_1 ((rd_T83 l0_1 x31_2).f1).length c132_1)) = w36 at n0_ n1_ n2_ ⊢
               have BK130 := n0_
               have BK133 := n1_
               have HB := n2_
               clear n0_ n1_ n2_
               replace BK130 := ak (blk_drew BK130.out)
               replace BK133 := ak (blk_drew BK133.out)
               replace HB := ak (below_drew1 HB.out)
               have p136 : 0 ≤ ((ji23) : Int) := od_
               have q136 : (ji23) < (l0_1.length : Int) := od_
               obtain ⟨ad136,A136_1,c136_1,e136,hx136_0,hx136_1,hl136_1,hi136_1⟩ := at_T83 HR0_1.out (ji23) p136 q136
               have hw136_1 := hx136_1
               have hw136_0 := hx136_0
               obtain rfl : ad132 = ad136 := (by injection e136)
               replace hx136_0 := hx_ HB hx136_0
               replace hx136_1 := hx_ HB hx136_1
               have HR136_1 := ak hi136_1
               have HC136_1 := ak hl136_1
               clear hi136_1 hl136_1
               replace p136 := eq_true p136
               replace q136 := eq_true q136
               refine st_ 26 (S := fun w' => hc2 w' gb133 (.int .i64 ((rd_T83 l0_1 x31_2).f0)) (.slice A132_1 ((rd_T83 l0_1 x31_2).f1).length c132_1) (hc4 w' gb130 (.bool a0_0) (.slice (some ad132) l0_1.length c0_1) (.slice A0_2 l0_2.length c0_2) (.slice A0_3 l0_3.length c0_3) (hf2 w' (ad132.add (((ji23)).toNat * 2)) (.int .i64 ((rd_T83 l0_1 (ji23)).f0)) (.slice A136_1 ((rd_T83 l0_1 (ji23)).f1).length c136_1)))) hh_ (fun hHeld => ?_);refine with_tabW impl_isMachineOk.tab6 impl_isMachineOk.bits6 (fun HT_ HW_ => ?_)
               generalize w36.drew = w37 at BK130 BK133 HB HR136_1 hx136_0 hx136_1 hHeld ⊢
               refine pv_ 0 36 ?_
               refine tx_ 1 37 hHeld ?_
               refine oy_ 2 38 (fun K hK => ?_)
               refine gs_ Tryz.func54 #[.int .i64 ((rd_T83 l0_1 x31_2).f0)] ?_
               with_reducible refine (impl_isRegion.calls ((rd_T83 l0_1 x31_2).f0) true _ A18.out).mono ?_
               rintro e w' ⟨rfl,⟨nd,rfl⟩⟩
               refine ⟨_,rfl,?_⟩
               refine hK.out _ _ hh_ (fun hHeld => ?_)
               clear hK K
               refine nr_ (some 38) _ ?_
               refine pv_ 3 39 ?_
               refine pv_ 4 40 ?_
               refine pv_ 5 41 ?_
               refine tx_ 6 42 hHeld ?_
               refine oy_ 7 43 (fun K hK => ?_)
               refine gs_ Tryz.func55 #[.slice A132_1 ((rd_T83 l0_1 x31_2).f1).length c132_1] ?_
               with_reducible refine (impl_areCells.calls _ _ ((rd_T83 l0_1 x31_2).f1) true _ ?side1 ?side2 A20.out).mono ?_
               (case side1 => exact cb_ HR132_1)
               (case side2 => exact HC132_1.out)
               rintro e w38 ⟨rfl,hb⟩
               refine ⟨_,rfl,?_⟩
               replace BK130 := ak (blk_below (kb_ BK130) hb)
               replace BK133 := ak (blk_below (kb_ BK133) hb)
               replace HB := ak (below_step b_ hb)
               (try clear hb)
               (try clear hb2)
               (try clear hk)
               (try clear hi)
               refine hK.out _ _ hh_ (fun hHeld => ?_)
               clear hK K
               refine nr_ (some 43) _ ?_
               refine pv_ 8 44 ?_
               refine pv_ 9 45 ?_
               refine pv_ 10 46 ?_
               refine pv_ 11 47 ?_
               refine pv_ 12 48 ?_
               refine pv_ 13 49 ?_
               refine pv_ 14 50 ?_
               refine pv_ 16 52 ?_
               refine pv_ 17 53 ?_
               refine pv_ 21 57 ?_
               refine tx_ 15 51 hHeld ?_
               refine pv_ 18 54 ?_
               refine pv_ 19 55 ?_
               refine tx_ 20 56 hHeld ?_
               refine tx_ 22 58 hHeld ?_
               refine pv_ 23 59 ?_
               refine pv_ 24 60 ?_
               refine pv_ 25 61 ?_
               refine done_ (done_of HT_.out (by kernel_rfl)) ?_
               try go_wp2
               go_roundg k2
               case measure => have := HJ1.out;have := HK2.out;omega
               case rel => exact ⟨(wrap64 (x31_2 + 1)),rs_,H',⟨by have := HJ1.out;have := HK2.out;omega⟩,⟨kb_ BK130⟩,⟨b_⟩⟩
             ·rw [if_neg c25] at H
              exact absurd H (by simp)
            ·rw [if_neg c24] at H
             exact absurd H (by simp)
           ·rw [if_neg c22] at H
            have c22b0 : decide (0 < x31_2) = false := decide_eq_false c22
            clear c22
            have H' := ak H
            clear H
            have p132 : 0 ≤ (x31_2 : Int) := od_
            have q132 : x31_2 < (l0_1.length : Int) := od_
            obtain ⟨ad132,A132_1,c132_1,e132,hx132_0,hx132_1,hl132_1,hi132_1⟩ := at_T83 HR0_1.out x31_2 p132 q132
            cases e132
            replace hx132_0 := hx_ HB hx132_0
            replace hx132_1 := hx_ HB hx132_1
            have HR132_1 := ak hi132_1
            have HC132_1 := ak hl132_1
            clear hi132_1 hl132_1
            replace p132 := eq_true p132
            replace q132 := eq_true q132
            try go_wp2_with (first|((with_reducible refine gate_dst (N := 4) rfl ?_);(try (refine gate_guard (by rfl) ?_;dsimp only));refine bx_ 4 #[.int .i64 0,.slice none 0 0] 83 ?_;intro gb133 hg w39 hbox hb;replace HB := nb_ hg hbox hb;obtain ⟨BK133,GW133,GE133,HB⟩ := HB;have NB130_133 := ak ((nl_ BK130 hg));have NB133_130 := ak ((ng_ BK130 hg));replace BK130 := ak (blk_below (kb_ BK130) hb);clear hb hbox hg;have hnb40 := NB133_130.out;have hnc40 := NB130_133.out;obtain ⟨⟨hcz41_0,hcz41_1⟩,hfz41_0,hfz41_1⟩ := cl2_ BK133.out))
            have n0_ : Aside0 (((w39.setCell ⟨gb133,0,none⟩ (.int .i64 ((rd_T83 l0_1 x31_2).f0))).setCell ⟨gb133,1,none⟩ (.slice A132_1 ((rd_T83 l0_1 x31_2).f1).length c132_1)).heap[gb130]? = some (.cells #[.bool a0_0,.slice (some ad132) l0_1.length c0_1,.slice A0_2 l0_2.length c0_2,.slice A0_3 l0_3.length c0_3] 31 (0,0))) := ⟨kf_ BK130⟩
            have n1_ : Aside0 (((w39.setCell ⟨gb133,0,none⟩ (.int .i64 ((rd_T83 l0_1 x31_2).f0))).setCell ⟨gb133,1,none⟩ (.slice A132_1 ((rd_T83 l0_1 x31_2).f1).length c132_1)).heap[gb133]? = some (.cells #[.int .i64 ((rd_T83 l0_1 x31_2).f0),.slice A132_1 ((rd_T83 l0_1 x31_2).f1).length c132_1] 83 (0,0))) := ⟨pt2_ (kb_ BK133) _ _⟩
            have n2_ : Aside0 (Below w.heap.size w ((w39.setCell ⟨gb133,0,none⟩ (.int .i64 ((rd_T83 l0_1 x31_2).f0))).setCell ⟨gb133,1,none⟩ (.slice A132_1 ((rd_T83 l0_1 x31_2).f1).length c132_1))) := ⟨b_⟩
            (try clear BK130)
            (try clear BK133)
            (try clear HB)
            generalize ((w39.setCell ⟨gb133,0,none⟩ (.int .i64 ((rd_T83 l0_1 x31_2).f0))).setCell ⟨gb133,1,none⟩ (.slice A132_1 ((rd_T83 l0_1 x31_2).f1).length c132_1)) = w42 at n0_ n1_ n2_ ⊢
            have BK130 := n0_
            have BK133 := n1_
            have HB := n2_
            clear n0_ n1_ n2_
            replace BK130 := ak (blk_drew BK130.out)
            replace BK133 := ak (blk_drew BK133.out)
            replace HB := ak (below_drew1 HB.out)
            refine st_ 26 (S := fun w' => hd2 w' gb133 (.int .i64 ((rd_T83 l0_1 x31_2).f0)) (.slice A132_1 ((rd_T83 l0_1 x31_2).f1).length c132_1)) hh_ (fun hHeld => ?_);refine with_tabW impl_isMachineOk.tab6 impl_isMachineOk.bits6 (fun HT_ HW_ => ?_)
            generalize w42.drew = w43 at BK130 BK133 HB hHeld ⊢
            refine pv_ 0 36 ?_
            refine tx_ 1 37 hHeld ?_
            refine oy_ 2 38 (fun K hK => ?_)
            refine gs_ Tryz.func54 #[.int .i64 ((rd_T83 l0_1 x31_2).f0)] ?_
            with_reducible refine (impl_isRegion.calls ((rd_T83 l0_1 x31_2).f0) true _ A18.out).mono ?_
            rintro e w' ⟨rfl,⟨nd,rfl⟩⟩
            refine ⟨_,rfl,?_⟩
            refine hK.out _ _ hh_ (fun hHeld => ?_)
            clear hK K
            refine nr_ (some 38) _ ?_
            refine pv_ 3 39 ?_
            refine pv_ 4 40 ?_
            refine pv_ 5 41 ?_
            refine tx_ 6 42 hHeld ?_
            refine oy_ 7 43 (fun K hK => ?_)
            refine gs_ Tryz.func55 #[.slice A132_1 ((rd_T83 l0_1 x31_2).f1).length c132_1] ?_
            with_reducible refine (impl_areCells.calls _ _ ((rd_T83 l0_1 x31_2).f1) true _ ?side1 ?side2 A20.out).mono ?_
            (case side1 => exact cb_ HR132_1)
            (case side2 => exact HC132_1.out)
            rintro e w44 ⟨rfl,hb⟩
            refine ⟨_,rfl,?_⟩
            replace BK130 := ak (blk_below (kb_ BK130) hb)
            replace BK133 := ak (blk_below (kb_ BK133) hb)
            replace HB := ak (below_step b_ hb)
            (try clear hb)
            (try clear hb2)
            (try clear hk)
            (try clear hi)
            refine hK.out _ _ hh_ (fun hHeld => ?_)
            clear hK K
            refine nr_ (some 43) _ ?_
            refine pv_ 8 44 ?_
            refine pv_ 9 45 ?_
            refine pv_ 10 46 ?_
            refine pv_ 11 47 ?_
            refine pv_ 12 48 ?_
            refine pv_ 13 49 ?_
            refine pn_ 14 50 ?_
            refine pn_ 15 51 ?_
            refine pn_ 16 52 ?_
            refine pn_ 17 53 ?_
            refine pn_ 18 54 ?_
            refine pn_ 19 55 ?_
            refine pn_ 20 56 ?_
            refine pn_ 21 57 ?_
            refine pn_ 22 58 ?_
            refine pn_ 23 59 ?_
            refine pv_ 24 60 ?_
            refine pv_ 25 61 ?_
            refine done_ (done_of HT_.out (by kernel_rfl)) ?_
            try go_wp2
            go_roundg k2
            case measure => have := HJ1.out;have := HK2.out;omega
            case rel => exact ⟨(wrap64 (x31_2 + 1)),rs_,H',⟨by have := HJ1.out;have := HK2.out;omega⟩,⟨kb_ BK130⟩,⟨b_⟩⟩
          ·replace c21 := Bool.eq_false_iff.mpr c21
           subst c21
           replace H := ie_ H
           obtain rfl := Option.some.inj H
           have p132 : 0 ≤ (x31_2 : Int) := od_
           have q132 : x31_2 < (l0_1.length : Int) := od_
           obtain ⟨ad132,A132_1,c132_1,e132,hx132_0,hx132_1,hl132_1,hi132_1⟩ := at_T83 HR0_1.out x31_2 p132 q132
           cases e132
           replace hx132_0 := hx_ HB hx132_0
           replace hx132_1 := hx_ HB hx132_1
           have HR132_1 := ak hi132_1
           have HC132_1 := ak hl132_1
           clear hi132_1 hl132_1
           replace p132 := eq_true p132
           replace q132 := eq_true q132
           try go_wp2_with (first|((with_reducible refine gate_dst (N := 4) rfl ?_);(try (refine gate_guard (by rfl) ?_;dsimp only));refine bx_ 4 #[.int .i64 0,.slice none 0 0] 83 ?_;intro gb133 hg w45 hbox hb;replace HB := nb_ hg hbox hb;obtain ⟨BK133,GW133,GE133,HB⟩ := HB;have NB130_133 := ak ((nl_ BK130 hg));have NB133_130 := ak ((ng_ BK130 hg));replace BK130 := ak (blk_below (kb_ BK130) hb);clear hb hbox hg;have hnb46 := NB133_130.out;have hnc46 := NB130_133.out;obtain ⟨⟨hcz47_0,hcz47_1⟩,hfz47_0,hfz47_1⟩ := cl2_ BK133.out))
           have n0_ : Aside0 (((w45.setCell ⟨gb133,0,none⟩ (.int .i64 ((rd_T83 l0_1 x31_2).f0))).setCell ⟨gb133,1,none⟩ (.slice A132_1 ((rd_T83 l0_1 x31_2).f1).length c132_1)).heap[gb130]? = some (.cells #[.bool a0_0,.slice (some ad132) l0_1.length c0_1,.slice A0_2 l0_2.length c0_2,.slice A0_3 l0_3.length c0_3] 31 (0,0))) := ⟨kf_ BK130⟩
           have n1_ : Aside0 (((w45.setCell ⟨gb133,0,none⟩ (.int .i64 ((rd_T83 l0_1 x31_2).f0))).setCell ⟨gb133,1,none⟩ (.slice A132_1 ((rd_T83 l0_1 x31_2).f1).length c132_1)).heap[gb133]? = some (.cells #[.int .i64 ((rd_T83 l0_1 x31_2).f0),.slice A132_1 ((rd_T83 l0_1 x31_2).f1).length c132_1] 83 (0,0))) := ⟨pt2_ (kb_ BK133) _ _⟩
           have n2_ : Aside0 (Below w.heap.size w ((w45.setCell ⟨gb133,0,none⟩ (.int .i64 ((rd_T83 l0_1 x31_2).f0))).setCell ⟨gb133,1,none⟩ (.slice A132_1 ((rd_T83 l0_1 x31_2).f1).length c132_1))) := ⟨b_⟩
           (try clear BK130)
           (try clear BK133)
           (try clear HB)
           generalize ((w45.setCell ⟨gb133,0,none⟩ (.int .i64 ((rd_T83 l0_1 x31_2).f0))).setCell ⟨gb133,1,none⟩ (.slice A132_1 ((rd_T83 l0_1 x31_2).f1).length c132_1)) = w48 at n0_ n1_ n2_ ⊢
           have BK130 := n0_
           have BK133 := n1_
           have HB := n2_
           clear n0_ n1_ n2_
           replace BK130 := ak (blk_drew BK130.out)
           replace BK133 := ak (blk_drew BK133.out)
           replace HB := ak (below_drew1 HB.out)
           refine st_ 26 (S := fun w' => hd2 w' gb133 (.int .i64 ((rd_T83 l0_1 x31_2).f0)) (.slice A132_1 ((rd_T83 l0_1 x31_2).f1).length c132_1)) hh_ (fun hHeld => ?_);refine with_tabW impl_isMachineOk.tab6 impl_isMachineOk.bits6 (fun HT_ HW_ => ?_)
           generalize w48.drew = w49 at BK130 BK133 HB hHeld ⊢
           refine pv_ 0 36 ?_
           refine tx_ 1 37 hHeld ?_
           refine oy_ 2 38 (fun K hK => ?_)
           refine gs_ Tryz.func54 #[.int .i64 ((rd_T83 l0_1 x31_2).f0)] ?_
           with_reducible refine (impl_isRegion.calls ((rd_T83 l0_1 x31_2).f0) true _ A18.out).mono ?_
           rintro e w' ⟨rfl,⟨nd,rfl⟩⟩
           refine ⟨_,rfl,?_⟩
           refine hK.out _ _ hh_ (fun hHeld => ?_)
           clear hK K
           refine nr_ (some 38) _ ?_
           refine pv_ 3 39 ?_
           refine pv_ 4 40 ?_
           refine pv_ 5 41 ?_
           refine tx_ 6 42 hHeld ?_
           refine oy_ 7 43 (fun K hK => ?_)
           refine gs_ Tryz.func55 #[.slice A132_1 ((rd_T83 l0_1 x31_2).f1).length c132_1] ?_
           with_reducible refine (impl_areCells.calls _ _ ((rd_T83 l0_1 x31_2).f1) false _ ?side1 ?side2 A20.out).mono ?_
           (case side1 => exact cb_ HR132_1)
           (case side2 => exact HC132_1.out)
           rintro e w50 ⟨rfl,hb⟩
           refine ⟨_,rfl,?_⟩
           replace BK130 := ak (blk_below (kb_ BK130) hb)
           replace BK133 := ak (blk_below (kb_ BK133) hb)
           replace HB := ak (below_step b_ hb)
           (try clear hb)
           (try clear hb2)
           (try clear hk)
           (try clear hi)
           refine hK.out _ _ hh_ (fun hHeld => ?_)
           clear hK K
           refine nr_ (some 43) _ ?_
           refine pv_ 8 44 ?_
           refine pv_ 9 45 ?_
           refine pv_ 10 46 ?_
           refine pn_ 11 47 ?_
           refine pn_ 12 48 ?_
           refine pn_ 13 49 ?_
           refine pn_ 14 50 ?_
           refine pn_ 15 51 ?_
           refine pn_ 16 52 ?_
           refine pn_ 17 53 ?_
           refine pn_ 18 54 ?_
           refine pn_ 19 55 ?_
           refine pn_ 20 56 ?_
           refine pn_ 21 57 ?_
           refine pn_ 22 58 ?_
           refine pn_ 23 59 ?_
           refine pn_ 24 60 ?_
           refine pv_ 25 61 ?_
           refine done_ (done_of HT_.out (by kernel_rfl)) ?_
           try go_wp2
           go_ret
           exact ⟨rf_,b_⟩
         ·replace c19 := Bool.eq_false_iff.mpr c19
          subst c19
          replace H := ie_ H
          obtain rfl := Option.some.inj H
          have p132 : 0 ≤ (x31_2 : Int) := od_
          have q132 : x31_2 < (l0_1.length : Int) := od_
          obtain ⟨ad132,A132_1,c132_1,e132,hx132_0,hx132_1,hl132_1,hi132_1⟩ := at_T83 HR0_1.out x31_2 p132 q132
          cases e132
          replace hx132_0 := hx_ HB hx132_0
          replace hx132_1 := hx_ HB hx132_1
          have HR132_1 := ak hi132_1
          have HC132_1 := ak hl132_1
          clear hi132_1 hl132_1
          replace p132 := eq_true p132
          replace q132 := eq_true q132
          try go_wp2_with (first|((with_reducible refine gate_dst (N := 4) rfl ?_);(try (refine gate_guard (by rfl) ?_;dsimp only));refine bx_ 4 #[.int .i64 0,.slice none 0 0] 83 ?_;intro gb133 hg w51 hbox hb;replace HB := nb_ hg hbox hb;obtain ⟨BK133,GW133,GE133,HB⟩ := HB;have NB130_133 := ak ((nl_ BK130 hg));have NB133_130 := ak ((ng_ BK130 hg));replace BK130 := ak (blk_below (kb_ BK130) hb);clear hb hbox hg;have hnb52 := NB133_130.out;have hnc52 := NB130_133.out;obtain ⟨⟨hcz53_0,hcz53_1⟩,hfz53_0,hfz53_1⟩ := cl2_ BK133.out))
          have n0_ : Aside0 (((w51.setCell ⟨gb133,0,none⟩ (.int .i64 ((rd_T83 l0_1 x31_2).f0))).setCell ⟨gb133,1,none⟩ (.slice A132_1 ((rd_T83 l0_1 x31_2).f1).length c132_1)).heap[gb130]? = some (.cells #[.bool a0_0,.slice (some ad132) l0_1.length c0_1,.slice A0_2 l0_2.length c0_2,.slice A0_3 l0_3.length c0_3] 31 (0,0))) := ⟨kf_ BK130⟩
          have n1_ : Aside0 (((w51.setCell ⟨gb133,0,none⟩ (.int .i64 ((rd_T83 l0_1 x31_2).f0))).setCell ⟨gb133,1,none⟩ (.slice A132_1 ((rd_T83 l0_1 x31_2).f1).length c132_1)).heap[gb133]? = some (.cells #[.int .i64 ((rd_T83 l0_1 x31_2).f0),.slice A132_1 ((rd_T83 l0_1 x31_2).f1).length c132_1] 83 (0,0))) := ⟨pt2_ (kb_ BK133) _ _⟩
          have n2_ : Aside0 (Below w.heap.size w ((w51.setCell ⟨gb133,0,none⟩ (.int .i64 ((rd_T83 l0_1 x31_2).f0))).setCell ⟨gb133,1,none⟩ (.slice A132_1 ((rd_T83 l0_1 x31_2).f1).length c132_1))) := ⟨b_⟩
          (try clear BK130)
          (try clear BK133)
          (try clear HB)
          generalize ((w51.setCell ⟨gb133,0,none⟩ (.int .i64 ((rd_T83 l0_1 x31_2).f0))).setCell ⟨gb133,1,none⟩ (.slice A132_1 ((rd_T83 l0_1 x31_2).f1).length c132_1)) = w54 at n0_ n1_ n2_ ⊢
          have BK130 := n0_
          have BK133 := n1_
          have HB := n2_
          clear n0_ n1_ n2_
          replace BK130 := ak (blk_drew BK130.out)
          replace BK133 := ak (blk_drew BK133.out)
          replace HB := ak (below_drew1 HB.out)
          refine st_ 26 (S := fun w' => hd2 w' gb133 (.int .i64 ((rd_T83 l0_1 x31_2).f0)) (.slice A132_1 ((rd_T83 l0_1 x31_2).f1).length c132_1)) hh_ (fun hHeld => ?_);refine with_tabW impl_isMachineOk.tab6 impl_isMachineOk.bits6 (fun HT_ HW_ => ?_)
          generalize w54.drew = w55 at BK130 BK133 HB hHeld ⊢
          refine pv_ 0 36 ?_
          refine tx_ 1 37 hHeld ?_
          refine oy_ 2 38 (fun K hK => ?_)
          refine gs_ Tryz.func54 #[.int .i64 ((rd_T83 l0_1 x31_2).f0)] ?_
          with_reducible refine (impl_isRegion.calls ((rd_T83 l0_1 x31_2).f0) false _ A18.out).mono ?_
          rintro e w' ⟨rfl,⟨nd,rfl⟩⟩
          refine ⟨_,rfl,?_⟩
          refine hK.out _ _ hh_ (fun hHeld => ?_)
          clear hK K
          refine nr_ (some 38) _ ?_
          refine pv_ 3 39 ?_
          refine pv_ 4 40 ?_
          refine pn_ 5 41 ?_
          refine pn_ 6 42 ?_
          refine pn_ 7 43 ?_
          refine pn_ 8 44 ?_
          refine pv_ 9 45 ?_
          refine pv_ 10 46 ?_
          refine pn_ 11 47 ?_
          refine pn_ 12 48 ?_
          refine pn_ 13 49 ?_
          refine pn_ 14 50 ?_
          refine pn_ 15 51 ?_
          refine pn_ 16 52 ?_
          refine pn_ 17 53 ?_
          refine pn_ 18 54 ?_
          refine pn_ 19 55 ?_
          refine pn_ 20 56 ?_
          refine pn_ 21 57 ?_
          refine pn_ 22 58 ?_
          refine pn_ 23 59 ?_
          refine pn_ 24 60 ?_
          refine pv_ 25 61 ?_
          refine done_ (done_of HT_.out (by kernel_rfl)) ?_
          try go_wp2
          go_ret
          exact ⟨rf_,b_⟩
        ·rw [if_neg c17] at H
         exact absurd H (by simp)
       ·rw [if_neg c16] at H
        exact absurd H (by simp)
      ·rw [if_neg c15] at H
       have c15b0 : decide (x31_2 < (l0_1.length : Int)) = false := decide_eq_false c15
       clear c15
       have H' := ak H
       clear H
       obtain ⟨⟨hcz56_0,hcz56_1,hcz56_2,hcz56_3⟩,hfz56_0,hfz56_1,hfz56_2,hfz56_3⟩ := cl4_ BK130.out
       go_wp2
       go_loopg [66] k2 (fun kq v66 w' => ∃ (x66_3 : Int),v66 = .int .i64 x66_3 ∧ Aside0 (impl_isMachineOk.l1 kq l0_3 (l0_3.length : Int) x66_3 a0_0 l0_1 l0_2 l0_3 = some r) ∧ Aside0 (kq ≤ k2) ∧ Aside0 (w'.heap[gb130]? = some (.cells #[.bool a0_0,(.slice A0_1 l0_1.length c0_1),(.slice A0_2 l0_2.length c0_2),(.slice A0_3 l0_3.length c0_3)] 31 (0,0))) ∧ Aside0 (Below w.heap.size w w'))
       case atStart => exact ⟨(0),rs_,H',⟨Nat.le_refl _⟩,⟨kb_ BK130⟩,⟨b_⟩⟩
       case round =>
        clear H'
        try clear c1
        try clear p1
        try clear q1
        try clear hx1
        try clear c2
        try clear p2
        try clear c4
        try clear c5
        try clear p6
        try clear c13
        try clear p13
        try clear q13
        try clear hx13
        try clear c15
        try clear c15b0
        try clear c16
        try clear c17
        try clear c19
        try clear c21
        try clear c46
        try clear c52
        try clear c54
        try clear c55
        try clear hcz47_0 hcz47_1
        try clear hcz53_0 hcz53_1
        try clear hcz56_0 hcz56_1 hcz56_2 hcz56_3
        try clear hfz47_0 hfz47_1
        try clear hfz53_0 hfz53_1
        try clear hfz56_0 hfz56_1 hfz56_2 hfz56_3
        try clear hx132_0
        try clear hx132_1
        try clear p132
        try clear q132
        obtain ⟨x66_3,rfl,HA,HK3,BK130,HB⟩ := hrel
        cases gk with
        | zero => exact absurd HA.out (by simp [impl_isMachineOk.l1])
        | succ k3 =>
         have H := HA.out
         clear HA
         simp only [impl_isMachineOk.l1] at H
         by_cases c57 : x66_3 < (l0_3.length : Int)
         ·rw [if_pos c57] at H
          have c57b0 : decide (x66_3 < (l0_3.length : Int)) = true := decide_eq_true c57
          clear c57
          by_cases c58 : 0 ≤ x66_3
          ·rw [if_pos c58] at H
           have c58b0 : decide (0 ≤ x66_3) = true := decide_eq_true c58
           clear c58
           by_cases c59 : x66_3 < (l0_3.length : Int)
           ·rw [if_pos c59] at H
            have c59b0 : decide (x66_3 < (l0_3.length : Int)) = true := decide_eq_true c59
            clear c59
            replace H := bs_ H
            obtain ⟨t138,A60,H⟩ := H
            by_cases c61 : t138 = true
            ·subst c61
             replace H := it_ H
             by_cases c62 : x66_3 > 0
             ·rw [if_pos c62] at H
              have c62b0 : decide (0 < x66_3) = true := decide_eq_true c62
              clear c62
              obtain ⟨ji63,hji63⟩ : ∃ j_ : Int,(wrap64 (x66_3 - 1)) = j_ := ⟨_,rfl⟩
              replace H : (if 0 ≤ (ji63) then (if (ji63) < (l0_3.length : Int) then (if (rd l0_3 (ji63)) ≥ (rd l0_3 x66_3) then (some false) else (impl_isMachineOk.l1 k3 l0_3 (l0_3.length : Int) (wrap64 (x66_3 + 1)) a0_0 l0_1 l0_2 l0_3)) else (none)) else (none)) = some r := by first|(rw [hji63] at H;exact H)|(simp only [hji63] at H ⊢;exact H)
              (try rw [hji63] at A60)
              have hji63w : (IntKind.i64.wrap (x66_3 - 1)) = ji63 := (i64_w _).trans hji63
              by_cases c64 : 0 ≤ (ji63)
              ·rw [if_pos c64] at H
               have c64b0 : decide (0 ≤ (ji63)) = true := decide_eq_true c64
               clear c64
               by_cases c65 : (ji63) < (l0_3.length : Int)
               ·rw [if_pos c65] at H
                have c65b0 : decide ((ji63) < (l0_3.length : Int)) = true := decide_eq_true c65
                clear c65
                by_cases c66 : (rd l0_3 (ji63)) ≥ (rd l0_3 x66_3)
                ·rw [if_pos c66] at H
                 have c66b0 : decide ((rd l0_3 x66_3) ≤ (rd l0_3 (ji63))) = true := decide_eq_true c66
                 clear c66
                 obtain rfl := Option.some.inj H
                 have p137 : 0 ≤ (x66_3 : Int) := od_
                 have q137 : x66_3 < (l0_3.length : Int) := od_
                 obtain ⟨ad137,e137,hx137_0⟩ := Kd.at_int HR0_3.out x66_3 p137 q137
                 cases e137
                 replace hx137_0 := hx_ HB hx137_0
                 replace p137 := eq_true p137
                 replace q137 := eq_true q137
                 go_wp2_with (first|((with_reducible refine gcal_ (f := 37) rfl ?_);refine gl_ (some 72) Tryz.func37 #[.int .i64 (rd l0_3 x66_3)] ?_;(with_reducible refine (impl_isId.calls (rd l0_3 x66_3) true _ A60.out).mono ?_);rintro e w' ⟨rfl,⟨nd,rfl⟩⟩;refine ⟨_,rfl,?_⟩;obtain ⟨⟨hcz67_0,hcz67_1,hcz67_2,hcz67_3⟩,hfz67_0,hfz67_1,hfz67_2,hfz67_3⟩ := cl4_ BK130.out;have p139 : 0 ≤ ((ji63) : Int) := od_;have q139 : (ji63) < (l0_3.length : Int) := od_;obtain ⟨ad139,e139,hx139_0⟩ := Kd.at_int HR0_3.out (ji63) p139 q139;obtain rfl : ad137 = ad139 := (by injection e139);replace hx139_0 := hx_ HB hx139_0;replace p139 := eq_true p139;replace q139 := eq_true q139))
                 go_ret
                 exact ⟨by first|rfl|(simp [errW_none,errW_some] <;> rfl)|(simp only [← hji63];first|rfl|(simp [errW_none,errW_some] <;> rfl))|(simp [*,errW_none,errW_some] <;> rfl),b_⟩
                ·rw [if_neg c66] at H
                 have c66b0 : decide ((rd l0_3 x66_3) ≤ (rd l0_3 (ji63))) = false := decide_eq_false c66
                 clear c66
                 have H' := ak H
                 clear H
                 have p137 : 0 ≤ (x66_3 : Int) := od_
                 have q137 : x66_3 < (l0_3.length : Int) := od_
                 obtain ⟨ad137,e137,hx137_0⟩ := Kd.at_int HR0_3.out x66_3 p137 q137
                 cases e137
                 replace hx137_0 := hx_ HB hx137_0
                 replace p137 := eq_true p137
                 replace q137 := eq_true q137
                 go_wp2_with (first|((with_reducible refine gcal_ (f := 37) rfl ?_);refine gl_ (some 72) Tryz.func37 #[.int .i64 (rd l0_3 x66_3)] ?_;(with_reducible refine (impl_isId.calls (rd l0_3 x66_3) true _ A60.out).mono ?_);rintro e w' ⟨rfl,⟨nd,rfl⟩⟩;refine ⟨_,rfl,?_⟩;obtain ⟨⟨hcz68_0,hcz68_1,hcz68_2,hcz68_3⟩,hfz68_0,hfz68_1,hfz68_2,hfz68_3⟩ := cl4_ BK130.out;have p139 : 0 ≤ ((ji63) : Int) := od_;have q139 : (ji63) < (l0_3.length : Int) := od_;obtain ⟨ad139,e139,hx139_0⟩ := Kd.at_int HR0_3.out (ji63) p139 q139;obtain rfl : ad137 = ad139 := (by injection e139);replace hx139_0 := hx_ HB hx139_0;replace p139 := eq_true p139;replace q139 := eq_true q139))
                 go_roundg k3
                 case measure => have := HJ1.out;have := HK2.out;have := HK3.out;omega
                 case rel => exact ⟨(wrap64 (x66_3 + 1)),rs_,H',⟨by have := HJ1.out;have := HK2.out;have := HK3.out;omega⟩,⟨kb_ BK130⟩,⟨b_⟩⟩
               ·rw [if_neg c65] at H
                exact absurd H (by simp)
              ·rw [if_neg c64] at H
               exact absurd H (by simp)
             ·rw [if_neg c62] at H
              have c62b0 : decide (0 < x66_3) = false := decide_eq_false c62
              clear c62
              have H' := ak H
              clear H
              have p137 : 0 ≤ (x66_3 : Int) := od_
              have q137 : x66_3 < (l0_3.length : Int) := od_
              obtain ⟨ad137,e137,hx137_0⟩ := Kd.at_int HR0_3.out x66_3 p137 q137
              cases e137
              replace hx137_0 := hx_ HB hx137_0
              replace p137 := eq_true p137
              replace q137 := eq_true q137
              go_wp2_with (first|((with_reducible refine gcal_ (f := 37) rfl ?_);refine gl_ (some 72) Tryz.func37 #[.int .i64 (rd l0_3 x66_3)] ?_;(with_reducible refine (impl_isId.calls (rd l0_3 x66_3) true _ A60.out).mono ?_);rintro e w' ⟨rfl,⟨nd,rfl⟩⟩;refine ⟨_,rfl,?_⟩))
              go_roundg k3
              case measure => have := HJ1.out;have := HK2.out;have := HK3.out;omega
              case rel => exact ⟨(wrap64 (x66_3 + 1)),rs_,H',⟨by have := HJ1.out;have := HK2.out;have := HK3.out;omega⟩,⟨kb_ BK130⟩,⟨b_⟩⟩
            ·replace c61 := Bool.eq_false_iff.mpr c61
             subst c61
             replace H := ie_ H
             obtain rfl := Option.some.inj H
             have p137 : 0 ≤ (x66_3 : Int) := od_
             have q137 : x66_3 < (l0_3.length : Int) := od_
             obtain ⟨ad137,e137,hx137_0⟩ := Kd.at_int HR0_3.out x66_3 p137 q137
             cases e137
             replace hx137_0 := hx_ HB hx137_0
             replace p137 := eq_true p137
             replace q137 := eq_true q137
             go_wp2_with (first|((with_reducible refine gcal_ (f := 37) rfl ?_);refine gl_ (some 72) Tryz.func37 #[.int .i64 (rd l0_3 x66_3)] ?_;(with_reducible refine (impl_isId.calls (rd l0_3 x66_3) false _ A60.out).mono ?_);rintro e w' ⟨rfl,⟨nd,rfl⟩⟩;refine ⟨_,rfl,?_⟩))
             go_ret
             exact ⟨rf_,b_⟩
           ·rw [if_neg c59] at H
            exact absurd H (by simp)
          ·rw [if_neg c58] at H
           exact absurd H (by simp)
         ·rw [if_neg c57] at H
          have c57b0 : decide (x66_3 < (l0_3.length : Int)) = false := decide_eq_false c57
          clear c57
          obtain rfl := Option.some.inj H
          go_wp2
          go_ret
          exact ⟨rf_,b_⟩

end Go.Proofs.YthplaakckfhaaaaGreat.XMs
