/- Proved: of each Go function here that a call comes to what the Lean function of its name tells. Written by a program of this session over the translation. No conditions beyond each theorem's own. -/
import Derived.Test.YthplaakckfhaaaaGreatXCr0
import Derived.Test.YthplaakckfhaaaaGreatXCr1
import Derived.Test.YthplaakckfhaaaaGreatXCr3
import Derived.Test.YthplaakckfhaaaaGreatXCr4
namespace Go.Proofs.YthplaakckfhaaaaGreat.XCr
open Go.RowKit Go.Proofs.YthplaakckfhaaaaGreat.Aid Go.Proofs.YthplaakckfhaaaaGreatW.PrintWords Go.Proofs.YthplaakckfhaaaaGreatW.PrintLast Go.Proofs.YthplaakckfhaaaaGreatW.PrintMore
set_option linter.unusedVariables false
set_option linter.unusedSimpArgs false

/-! ### spec_MachineOk: function 28 -/
mutual
def spec_MachineOk.j0 : Nat → Bool → Bool → List (S83) → List (S50) → List Int → Option (Bool)
  | 0, _, _, _, _, _ => none
  | k + 1, x26, x146000, x146001, x146002, x146003 => if x26 = true then (some false) else (spec_MachineOk.l0 k 0 x146000 x146001 x146002 x146003)
def spec_MachineOk.l0 : Nat → Int → Bool → List (S83) → List (S50) → List Int → Option (Bool)
  | 0, _, _, _, _, _ => none
  | k + 1, x3, x146000, x146001, x146002, x146003 => if x3 < (x146001.length : Int) then (if 0 ≤ x3 then ((spec_l1Region.f ((rd_T83 x146001 x3).f0)).bind fun t148 => (if t148 = true then ((spec_CellsOk.f k ((rd_T83 x146001 x3).f1)).bind fun t150 => (if t150 = true then (if x3 > 0 then (if 0 ≤ (wrap64 (x3 - 1)) then (if (wrap64 (x3 - 1)) < (x146001.length : Int) then (if ((rd_T83 x146001 x3).f0) ≤ ((rd_T83 x146001 (wrap64 (x3 - 1))).f0) then (some false) else (spec_MachineOk.l0 k (wrap64 (x3 + 1)) x146000 x146001 x146002 x146003)) else (none)) else (none)) else (spec_MachineOk.l0 k (wrap64 (x3 + 1)) x146000 x146001 x146002 x146003)) else (some false))) else (some false))) else (none)) else (spec_MachineOk.l1 k 0 x146000 x146001 x146002 x146003)
def spec_MachineOk.l1 : Nat → Int → Bool → List (S83) → List (S50) → List Int → Option (Bool)
  | 0, _, _, _, _, _ => none
  | k + 1, x4, x146000, x146001, x146002, x146003 => if x4 < (x146002.length : Int) then (if 0 ≤ x4 then ((spec_RecordOk.f k ((rd_T50 x146002 x4).f0) ((rd_T50 x146002 x4).f1) ((rd_T50 x146002 x4).f2) ((rd_T50 x146002 x4).f3)).bind fun t154 => (if t154 = true then (spec_MachineOk.l1 k (wrap64 (x4 + 1)) x146000 x146001 x146002 x146003) else (some false))) else (none)) else (some true)
end
def spec_MachineOk.f (k : Nat) (a0_0 : Bool) (l0_1 : List (S83)) (l0_2 : List (S50)) (l0_3 : List Int) : Option (Bool) := if (l0_1.length : Int) > 6 then (spec_MachineOk.j0 k true a0_0 l0_1 l0_2 l0_3) else (if (l0_2.length : Int) > 200 then (spec_MachineOk.j0 k true a0_0 l0_1 l0_2 l0_3) else (if (l0_3.length : Int) > 60 then (spec_MachineOk.j0 k true a0_0 l0_1 l0_2 l0_3) else ((spec_l6Rises.f k l0_3).bind fun t146 => (spec_MachineOk.j0 k (!t146) a0_0 l0_1 l0_2 l0_3))))

def spec_MachineOk.T6 : Bool × List (List Nat × List Nat) := (true, [([], []), ([0], [0]), ([], []), ([1, 2], [1, 2]), ([3], [3]), ([4], [4]), ([5], [5]), ([6], [6]), ([7, 6], [7]), ([8], [8]), ([9, 8], [8, 9]), ([8], [8]), ([10, 11, 8], [8, 10, 11]), ([12, 8], [8, 12]), ([13, 8], [8, 13]), ([14, 8, 8], [8, 14]), ([15, 8], [8, 15]), ([8, 16], [8, 16]), ([17, 15], [17]), ([18], [18]), ([19, 18], [18, 19]), ([20, 18, 18], [18, 20]), ([21], [21]), ([22, 21], [21, 22]), ([21], [21]), ([23, 24, 21], [21, 23, 24]), ([25, 21], [21, 25]), ([26, 21], [21, 26]), ([21], [21]), ([28, 21], [21, 28]), ([21], [21]), ([30, 21], [21, 30]), ([29, 31, 21], [21, 29, 31]), ([32, 21], [21, 32]), ([33, 21], [21, 33]), ([27, 34, 21], [21, 27, 34]), ([21, 35, 18], [18, 21, 35]), ([18, 36], [18, 36])])
def spec_MachineOk.B6 : List Nat := [0, 1, 0, 7, 15, 31, 63, 127, 255, 511, 1023, 511, 4095, 8191, 16383, 32767, 65535, 131071, 262143, 524287, 1048575, 2097151, 4194303, 8388607, 4194303, 33554431, 67108863, 134217727, 4194303, 272629759, 4194303, 1077936127, 4030726143, 8325693439, 16915628031, 34359738367, 68719476735, 137438953471]
theorem spec_MachineOk.tab6 : rtab .any (opsOf Tryz.f28 6) = spec_MachineOk.T6 := by kernel_rfl
theorem spec_MachineOk.bits6 : waitsOk spec_MachineOk.T6.2 spec_MachineOk.B6 = true := by kernel_rfl
set_option maxHeartbeats 8000000 in
set_option maxRecDepth 100000 in
theorem spec_MachineOk.calls (k : Nat) (a0_0 : Bool) (A0_1 : Option Addr) (c0_1 : Nat) (l0_1 : List (S83)) (A0_2 : Option Addr) (c0_2 : Nat) (l0_2 : List (S50)) (A0_3 : Option Addr) (c0_3 : Nat) (l0_3 : List Int) (r : Bool) (w : World) (hr0_1 : Kd.C k83 w A0_1 l0_1.length l0_1) (hc0_1 : l0_1.length ≤ c0_1) (hr0_2 : Kd.C k50 w A0_2 l0_2.length l0_2) (hc0_2 : l0_2.length ≤ c0_2) (hr0_3 : Kd.C (Kd.int .i64) w A0_3 l0_3.length l0_3) (hc0_3 : l0_3.length ≤ c0_3) (h : spec_MachineOk.f k a0_0 l0_1 l0_2 l0_3 = some r) :
    Calls Tryz.prog 28 #[.agg #[.bool a0_0, .slice A0_1 l0_1.length c0_1, .slice A0_2 l0_2.length c0_2, .slice A0_3 l0_3.length c0_3]] w fun e w' => e = .returned (.bool r) ∧ Below w.heap.size w w' := by
 have hu31 := Tryz.underlying31
 have hu50 := Tryz.underlying50
 have HR0_1 := Aside0.mk hr0_1
 have HC0_1 := Aside0.mk hc0_1
 clear hr0_1 hc0_1
 have HR0_2 := Aside0.mk hr0_2
 have HC0_2 := Aside0.mk hc0_2
 clear hr0_2 hc0_2
 have HR0_3 := Aside0.mk hr0_3
 have HC0_3 := Aside0.mk hc0_3
 clear hr0_3 hc0_3
 have HB := Aside0.mk (Below.refl w.heap.size w)
 have H : (if (l0_1.length : Int) > 6 then (spec_MachineOk.j0 k true a0_0 l0_1 l0_2 l0_3) else (if (l0_2.length : Int) > 200 then (spec_MachineOk.j0 k true a0_0 l0_1 l0_2 l0_3) else (if (l0_3.length : Int) > 60 then (spec_MachineOk.j0 k true a0_0 l0_1 l0_2 l0_3) else ((spec_l6Rises.f k l0_3).bind fun t146 => (spec_MachineOk.j0 k (!t146) a0_0 l0_1 l0_2 l0_3))))) = some r := h
 clear h
 have HC2 := Aside0.mk H
 clear H
 go_enter Tryz.func28,Tryz.ntmps28
 go_upto_region 1 with (first|((with_reducible refine gate_dst (N := 1) rfl ?_);(try (refine gate_guard (by rfl) ?_;dsimp only));refine bx_ 1 #[.bool a0_0,.slice A0_1 l0_1.length c0_1,.slice A0_2 l0_2.length c0_2,.slice A0_3 l0_3.length c0_3] 31 ?_;intro gb145 hg w3 hbox hb;have n0_ := Aside0.mk (below_step b_ hb);have n1_ := Aside0.mk (hbox);have n2_ := Aside0.mk ((gw_ (w := w) hg));have n3_ := Aside0.mk ((gw_ (w := w) hg));clear HB;have HB := n0_;have BK145 := n1_;have GW145 := n2_;have GE145 := n3_;clear n0_ n1_ n2_ n3_;clear hb hbox hg))
 (try simp only [Act.put,List.setIfInBounds_toArray,List.set_cons_zero,List.set_cons_succ])
 go_cut [26] (fun v26 wc => ∃ (kq : Nat) (x26_1 : Bool),v26 = .bool x26_1 ∧ Aside0 (spec_MachineOk.j0 kq x26_1 a0_0 l0_1 l0_2 l0_3 = some r) ∧ Aside0 (kq ≤ k) ∧ Aside0 (wc.heap[gb145]? = some (.cells #[.bool a0_0,(.slice A0_1 l0_1.length c0_1),(.slice A0_2 l0_2.length c0_2),(.slice A0_3 l0_3.length c0_3)] 31 (0,0))) ∧ Aside0 (Below w.heap.size w wc))
 case first =>
  have H := HC2.out
  clear HC2
  by_cases c4 : (l0_1.length : Int) > 6
  ·rw [if_pos c4] at H
   have c4b0 : decide (6 < (l0_1.length : Int)) = true := decide_eq_true c4
   have c4b1 : decide (6 < l0_1.length) = true := decide_eq_true (by omega)
   clear c4
   (first|rw [c4b0]|(simp only [i64_w,i32_w];rw [c4b0])|skip)
   have H' := Aside0.mk H
   clear H
   obtain ⟨⟨hcz5_0,hcz5_1,hcz5_2,hcz5_3⟩,hfz5_0,hfz5_1,hfz5_2,hfz5_3⟩ := cl4_ BK145.out
   go_wp2
   go_meet
   case rel => exact ⟨_,(true),rs_,H',⟨by first|omega|exact Nat.le_refl _⟩,⟨kb_ BK145⟩,⟨b_⟩⟩
  ·rw [if_neg c4] at H
   have c4b0 : decide (6 < (l0_1.length : Int)) = false := decide_eq_false c4
   have c4b1 : decide (6 < l0_1.length) = false := decide_eq_false (by omega)
   clear c4
   (first|rw [c4b0]|(simp only [i64_w,i32_w];rw [c4b0])|skip)
   by_cases c6 : (l0_2.length : Int) > 200
   ·rw [if_pos c6] at H
    have c6b0 : decide (200 < (l0_2.length : Int)) = true := decide_eq_true c6
    have c6b1 : decide (200 < l0_2.length) = true := decide_eq_true (by omega)
    clear c6
    have H' := Aside0.mk H
    clear H
    obtain ⟨⟨hcz7_0,hcz7_1,hcz7_2,hcz7_3⟩,hfz7_0,hfz7_1,hfz7_2,hfz7_3⟩ := cl4_ BK145.out
    go_wp2
    go_meet
    case rel => exact ⟨_,(true),rs_,H',⟨by first|omega|exact Nat.le_refl _⟩,⟨kb_ BK145⟩,⟨b_⟩⟩
   ·rw [if_neg c6] at H
    have c6b0 : decide (200 < (l0_2.length : Int)) = false := decide_eq_false c6
    have c6b1 : decide (200 < l0_2.length) = false := decide_eq_false (by omega)
    clear c6
    by_cases c8 : (l0_3.length : Int) > 60
    ·rw [if_pos c8] at H
     have c8b0 : decide (60 < (l0_3.length : Int)) = true := decide_eq_true c8
     have c8b1 : decide (60 < l0_3.length) = true := decide_eq_true (by omega)
     clear c8
     have H' := Aside0.mk H
     clear H
     obtain ⟨⟨hcz9_0,hcz9_1,hcz9_2,hcz9_3⟩,hfz9_0,hfz9_1,hfz9_2,hfz9_3⟩ := cl4_ BK145.out
     go_wp2
     go_meet
     case rel => exact ⟨_,(true),rs_,H',⟨by first|omega|exact Nat.le_refl _⟩,⟨kb_ BK145⟩,⟨b_⟩⟩
    ·rw [if_neg c8] at H
     have c8b0 : decide (60 < (l0_3.length : Int)) = false := decide_eq_false c8
     have c8b1 : decide (60 < l0_3.length) = false := decide_eq_false (by omega)
     clear c8
     replace H := bs_ H
     obtain ⟨t146,A10,H⟩ := H
     have H' := Aside0.mk H
     clear H
     obtain ⟨⟨hcz11_0,hcz11_1,hcz11_2,hcz11_3⟩,hfz11_0,hfz11_1,hfz11_2,hfz11_3⟩ := cl4_ BK145.out
     go_wp2_with (first|(go_at_call 73;(with_reducible refine (spec_l6Rises.calls k _ _ l0_3 t146 _ ?side1 ?side2 A10.out).mono ?_);(case side1 => exact cb_ HR0_3);(case side2 => exact HC0_3.out);rintro e w12 ⟨rfl,hb⟩;replace BK145 := Aside0.mk (blk_below (kb_ BK145) hb);replace HB := Aside0.mk (below_step b_ hb);(try clear hb);(try clear hb2);(try clear hk);(try clear hi)))
     go_meet
     case rel => exact ⟨_,(!t146),rs_,H',⟨by first|omega|exact Nat.le_refl _⟩,⟨kb_ BK145⟩,⟨b_⟩⟩
 case rest =>
  clear HC2
  try clear c2
  try clear p2
  try clear c4
  try clear c4b0
  try clear c4b1
  try clear c6
  try clear c6b0
  try clear c6b1
  try clear c8
  try clear c8b0
  try clear c8b1
  try clear hcz11_0
  try clear hcz11_1
  try clear hcz11_2
  try clear hcz11_3
  try clear hcz5_0
  try clear hcz5_1
  try clear hcz5_2
  try clear hcz5_3
  try clear hcz7_0
  try clear hcz7_1
  try clear hcz7_2
  try clear hcz7_3
  try clear hcz9_0
  try clear hcz9_1
  try clear hcz9_2
  try clear hcz9_3
  try clear hfz11_0
  try clear hfz11_1
  try clear hfz11_2
  try clear hfz11_3
  try clear hfz5_0
  try clear hfz5_1
  try clear hfz5_2
  try clear hfz5_3
  try clear hfz7_0
  try clear hfz7_1
  try clear hfz7_2
  try clear hfz7_3
  try clear hfz9_0
  try clear hfz9_1
  try clear hfz9_2
  try clear hfz9_3
  obtain ⟨kq,x26_1,rfl,HA,HJ1,BK145,HB⟩ := hcut
  cases kq with
    | zero => exact absurd HA.out (by simp [spec_MachineOk.j0])
    | succ kj1 =>
   have H := HA.out
   clear HA
   simp only [spec_MachineOk.j0] at H
   by_cases c13 : x26_1 = true
   ·subst c13
    replace H := it_ H
    obtain rfl := Option.some.inj H
    go_wp2
    go_ret
    exact ⟨rf_,b_⟩
   ·replace c13 := Bool.eq_false_iff.mpr c13
    subst c13
    replace H := ie_ H
    have H' := Aside0.mk H
    clear H
    go_wp2
    go_loopg [3] kj1 (fun kq v3 w' => ∃ (x3_2 : Int),v3 = .int .i64 x3_2 ∧ Aside0 (spec_MachineOk.l0 kq x3_2 a0_0 l0_1 l0_2 l0_3 = some r) ∧ Aside0 (kq ≤ kj1) ∧ Aside0 (w'.heap[gb145]? = some (.cells #[.bool a0_0,(.slice A0_1 l0_1.length c0_1),(.slice A0_2 l0_2.length c0_2),(.slice A0_3 l0_3.length c0_3)] 31 (0,0))) ∧ Aside0 (Below w.heap.size w w'))
    case atStart => exact ⟨(0),rs_,H',⟨Nat.le_refl _⟩,⟨kb_ BK145⟩,⟨b_⟩⟩
    case round =>
     clear H'
     try clear c1
     try clear c2
     try clear p2
     try clear c4
     try clear c4b0
     try clear c4b1
     try clear c6
     try clear c6b0
     try clear c6b1
     try clear c8
     try clear c8b0
     try clear c8b1
     try clear c13
     try clear hcz11_0
     try clear hcz11_1
     try clear hcz11_2
     try clear hcz11_3
     try clear hcz5_0
     try clear hcz5_1
     try clear hcz5_2
     try clear hcz5_3
     try clear hcz7_0
     try clear hcz7_1
     try clear hcz7_2
     try clear hcz7_3
     try clear hcz9_0
     try clear hcz9_1
     try clear hcz9_2
     try clear hcz9_3
     try clear hfz11_0
     try clear hfz11_1
     try clear hfz11_2
     try clear hfz11_3
     try clear hfz5_0
     try clear hfz5_1
     try clear hfz5_2
     try clear hfz5_3
     try clear hfz7_0
     try clear hfz7_1
     try clear hfz7_2
     try clear hfz7_3
     try clear hfz9_0
     try clear hfz9_1
     try clear hfz9_2
     try clear hfz9_3
     try clear p2
     obtain ⟨x3_2,rfl,HA,HK2,BK145,HB⟩ := hrel
     cases gk with
     | zero => exact absurd HA.out (by simp [spec_MachineOk.l0])
     | succ k2 =>
      have H := HA.out
      clear HA
      simp only [spec_MachineOk.l0] at H
      by_cases c14 : x3_2 < (l0_1.length : Int)
      ·rw [if_pos c14] at H
       have c14b0 : decide (x3_2 < (l0_1.length : Int)) = true := decide_eq_true c14
       clear c14
       by_cases c15 : 0 ≤ x3_2
       ·rw [if_pos c15] at H
        have c15b0 : decide (0 ≤ x3_2) = true := decide_eq_true c15
        clear c15
        replace H := bs_ H
        obtain ⟨t148,A16,H⟩ := H
        by_cases c17 : t148 = true
        ·subst c17
         replace H := it_ H
         replace H := bs_ H
         obtain ⟨t150,A18,H⟩ := H
         by_cases c19 : t150 = true
         ·subst c19
          replace H := it_ H
          by_cases c20 : x3_2 > 0
          ·rw [if_pos c20] at H
           have c20b0 : decide (0 < x3_2) = true := decide_eq_true c20
           clear c20
           obtain ⟨ji21,hji21⟩ : ∃ j_ : Int,(wrap64 (x3_2 - 1)) = j_ := ⟨_,rfl⟩
           replace H : (if 0 ≤ (ji21) then (if (ji21) < (l0_1.length : Int) then (if ((rd_T83 l0_1 x3_2).f0) ≤ ((rd_T83 l0_1 (ji21)).f0) then (some false) else (spec_MachineOk.l0 k2 (wrap64 (x3_2 + 1)) a0_0 l0_1 l0_2 l0_3)) else (none)) else (none)) = some r := by first|(rw [hji21] at H;exact H)|(simp only [hji21] at H ⊢;exact H)
           (try rw [hji21] at A16)
           (try rw [hji21] at A18)
           have hji21w : (IntKind.i64.wrap (x3_2 - 1)) = ji21 := (i64_w _).trans hji21
           by_cases c22 : 0 ≤ (ji21)
           ·rw [if_pos c22] at H
            have c22b0 : decide (0 ≤ (ji21)) = true := decide_eq_true c22
            clear c22
            by_cases c23 : (ji21) < (l0_1.length : Int)
            ·rw [if_pos c23] at H
             have c23b0 : decide ((ji21) < (l0_1.length : Int)) = true := decide_eq_true c23
             clear c23
             by_cases c24 : ((rd_T83 l0_1 x3_2).f0) ≤ ((rd_T83 l0_1 (ji21)).f0)
             ·rw [if_pos c24] at H
              have c24b0 : decide (((rd_T83 l0_1 x3_2).f0) ≤ ((rd_T83 l0_1 (ji21)).f0)) = true := decide_eq_true c24
              clear c24
              obtain rfl := Option.some.inj H
              obtain ⟨⟨hcz25_0,hcz25_1,hcz25_2,hcz25_3⟩,hfz25_0,hfz25_1,hfz25_2,hfz25_3⟩ := cl4_ BK145.out
              try go_wp2
              replace BK145 := Aside0.mk (blk_drew BK145.out)
              replace HB := Aside0.mk (below_drew1 HB.out)
              have p147 : 0 ≤ (x3_2 : Int) := od_
              have q147 : x3_2 < (l0_1.length : Int) := od_
              obtain ⟨ad147,A147_1,c147_1,e147,hx147_0,hx147_1,hl147_1,hi147_1⟩ := at_T83 HR0_1.out x3_2 p147 q147
              have hw147_1 := hx147_1
              have hw147_0 := hx147_0
              cases e147
              replace hx147_0 := hx_ HB hx147_0
              replace hx147_1 := hx_ HB hx147_1
              have HR147_1 := Aside0.mk hi147_1
              have HC147_1 := Aside0.mk hl147_1
              clear hi147_1 hl147_1
              replace p147 := eq_true p147
              replace q147 := eq_true q147
              have p149 : 0 ≤ (x3_2 : Int) := od_
              have q149 : x3_2 < (l0_1.length : Int) := od_
              obtain ⟨ad149,A149_1,c149_1,e149,hx149_0,hx149_1,hl149_1,hi149_1⟩ := at_T83 HR0_1.out x3_2 p149 q149
              have hw149_1 := hx149_1
              have hw149_0 := hx149_0
              obtain rfl : ad147 = ad149 := (by injection e149)
              replace hx149_0 := hx_ HB hx149_0
              replace hx149_1 := hx_ HB hx149_1
              have HR149_1 := Aside0.mk hi149_1
              have HC149_1 := Aside0.mk hl149_1
              clear hi149_1 hl149_1
              replace p149 := eq_true p149
              replace q149 := eq_true q149
              have ea_ := Option.some.inj (hx147_1.symm.trans hx149_1)
              injection ea_ with ea_ en_ ec_
              subst ea_
              subst ec_
              clear en_
              have p151 : 0 ≤ (x3_2 : Int) := od_
              have q151 : x3_2 < (l0_1.length : Int) := od_
              obtain ⟨ad151,A151_1,c151_1,e151,hx151_0,hx151_1,hl151_1,hi151_1⟩ := at_T83 HR0_1.out x3_2 p151 q151
              have hw151_1 := hx151_1
              have hw151_0 := hx151_0
              obtain rfl : ad147 = ad151 := (by injection e151)
              replace hx151_0 := hx_ HB hx151_0
              replace hx151_1 := hx_ HB hx151_1
              have HR151_1 := Aside0.mk hi151_1
              have HC151_1 := Aside0.mk hl151_1
              clear hi151_1 hl151_1
              replace p151 := eq_true p151
              replace q151 := eq_true q151
              have p152 : 0 ≤ ((ji21) : Int) := od_
              have q152 : (ji21) < (l0_1.length : Int) := od_
              obtain ⟨ad152,A152_1,c152_1,e152,hx152_0,hx152_1,hl152_1,hi152_1⟩ := at_T83 HR0_1.out (ji21) p152 q152
              have hw152_1 := hx152_1
              have hw152_0 := hx152_0
              obtain rfl : ad147 = ad152 := (by injection e152)
              replace hx152_0 := hx_ HB hx152_0
              replace hx152_1 := hx_ HB hx152_1
              have HR152_1 := Aside0.mk hi152_1
              have HC152_1 := Aside0.mk hl152_1
              clear hi152_1 hl152_1
              replace p152 := eq_true p152
              replace q152 := eq_true q152
              refine st_ 38 (S := fun w' => hc4 w' gb145 (.bool a0_0) (.slice (some ad147) l0_1.length c0_1) (.slice A0_2 l0_2.length c0_2) (.slice A0_3 l0_3.length c0_3) (he2 w' (ad147.add ((x3_2).toNat * 2)) (.int .i64 ((rd_T83 l0_1 x3_2).f0)) (.slice A147_1 ((rd_T83 l0_1 x3_2).f1).length c147_1) (he2 w' (ad147.add ((x3_2).toNat * 2)) (.int .i64 ((rd_T83 l0_1 x3_2).f0)) (.slice A147_1 ((rd_T83 l0_1 x3_2).f1).length c147_1) (he2 w' (ad147.add ((x3_2).toNat * 2)) (.int .i64 ((rd_T83 l0_1 x3_2).f0)) (.slice A151_1 ((rd_T83 l0_1 x3_2).f1).length c151_1) (hf2 w' (ad147.add (((ji21)).toNat * 2)) (.int .i64 ((rd_T83 l0_1 (ji21)).f0)) (.slice A152_1 ((rd_T83 l0_1 (ji21)).f1).length c152_1)))))) hh_ (fun hHeld => ?_);refine with_tabW spec_MachineOk.tab6 spec_MachineOk.bits6 (fun HT_ HW_ => ?_)
              generalize wr.drew = w26 at BK145 HB HR147_1 HR149_1 HR151_1 HR152_1 hx147_0 hx147_1 hx149_0 hx149_1 hx151_0 hx151_1 hx152_0 hx152_1 hHeld ⊢
              refine pv_ 0 34 ?_
              refine pv_ 2 36 ?_
              refine tx_ 1 35 hHeld ?_
              refine pv_ 3 37 ?_
              refine pv_ 4 38 ?_
              refine tx_ 5 39 hHeld ?_
              refine oy_ 6 40 (fun K hK => ?_)
              refine gs_ Tryz.func57 #[.int .i64 ((rd_T83 l0_1 x3_2).f0)] ?_
              with_reducible refine (spec_l1Region.calls ((rd_T83 l0_1 x3_2).f0) true _ A16.out).mono ?_
              rintro e w' ⟨rfl,⟨nd,rfl⟩⟩
              refine ⟨_,rfl,?_⟩
              refine hK.out _ _ hh_ (fun hHeld => ?_)
              clear hK K
              refine nr_ (some 40) _ ?_
              refine pv_ 7 41 ?_
              refine pv_ 8 42 ?_
              refine pv_ 9 43 ?_
              refine pv_ 11 45 ?_
              refine tx_ 10 44 hHeld ?_
              refine pv_ 12 46 ?_
              refine pv_ 13 47 ?_
              refine tx_ 14 48 hHeld ?_
              refine oy_ 15 49 (fun K hK => ?_)
              refine gs_ Tryz.func58 #[.slice A147_1 ((rd_T83 l0_1 x3_2).f1).length c147_1] ?_
              with_reducible refine (spec_CellsOk.calls k2 _ _ ((rd_T83 l0_1 x3_2).f1) true _ ?side1 ?side2 A18.out).mono ?_
              (case side1 => exact cb_ HR149_1)
              (case side2 => exact HC149_1.out)
              rintro e w27 ⟨rfl,hb⟩
              refine ⟨_,rfl,?_⟩
              replace BK145 := Aside0.mk (blk_below (kb_ BK145) hb)
              replace HB := Aside0.mk (below_step b_ hb)
              (try clear hb)
              (try clear hb2)
              (try clear hk)
              (try clear hi)
              refine hK.out _ _ hh_ (fun hHeld => ?_)
              clear hK K
              refine nr_ (some 49) _ ?_
              refine pv_ 16 50 ?_
              refine pv_ 17 51 ?_
              refine pv_ 18 52 ?_
              refine pv_ 19 53 ?_
              refine pv_ 20 54 ?_
              refine pv_ 21 55 ?_
              refine pv_ 22 56 ?_
              refine pv_ 24 58 ?_
              refine pv_ 28 62 ?_
              refine pv_ 30 64 ?_
              refine pv_ 31 65 ?_
              refine tx_ 23 57 hHeld ?_
              refine pv_ 25 59 ?_
              refine pv_ 26 60 ?_
              refine tx_ 27 61 hHeld ?_
              refine tx_ 29 63 hHeld ?_
              refine pv_ 32 66 ?_
              refine pv_ 33 67 ?_
              refine tx_ 34 68 hHeld ?_
              refine pv_ 35 69 ?_
              refine pv_ 36 70 ?_
              refine pv_ 37 71 ?_
              refine done_ (done_of HT_.out (by kernel_rfl)) ?_
              try go_wp2
              go_ret
              exact ⟨by first|rfl|(simp [errW_none,errW_some] <;> rfl)|(simp only [← hji21];first|rfl|(simp [errW_none,errW_some] <;> rfl))|(simp [*,errW_none,errW_some] <;> rfl),b_⟩
             ·rw [if_neg c24] at H
              have c24b0 : decide (((rd_T83 l0_1 x3_2).f0) ≤ ((rd_T83 l0_1 (ji21)).f0)) = false := decide_eq_false c24
              clear c24
              have H' := Aside0.mk H
              clear H
              obtain ⟨⟨hcz28_0,hcz28_1,hcz28_2,hcz28_3⟩,hfz28_0,hfz28_1,hfz28_2,hfz28_3⟩ := cl4_ BK145.out
              try go_wp2
              replace BK145 := Aside0.mk (blk_drew BK145.out)
              replace HB := Aside0.mk (below_drew1 HB.out)
              have p147 : 0 ≤ (x3_2 : Int) := od_
              have q147 : x3_2 < (l0_1.length : Int) := od_
              obtain ⟨ad147,A147_1,c147_1,e147,hx147_0,hx147_1,hl147_1,hi147_1⟩ := at_T83 HR0_1.out x3_2 p147 q147
              have hw147_1 := hx147_1
              have hw147_0 := hx147_0
              cases e147
              replace hx147_0 := hx_ HB hx147_0
              replace hx147_1 := hx_ HB hx147_1
              have HR147_1 := Aside0.mk hi147_1
              have HC147_1 := Aside0.mk hl147_1
              clear hi147_1 hl147_1
              replace p147 := eq_true p147
              replace q147 := eq_true q147
              have p149 : 0 ≤ (x3_2 : Int) := od_
              have q149 : x3_2 < (l0_1.length : Int) := od_
              obtain ⟨ad149,A149_1,c149_1,e149,hx149_0,hx149_1,hl149_1,hi149_1⟩ := at_T83 HR0_1.out x3_2 p149 q149
              have hw149_1 := hx149_1
              have hw149_0 := hx149_0
              obtain rfl : ad147 = ad149 := (by injection e149)
              replace hx149_0 := hx_ HB hx149_0
              replace hx149_1 := hx_ HB hx149_1
              have HR149_1 := Aside0.mk hi149_1
              have HC149_1 := Aside0.mk hl149_1
              clear hi149_1 hl149_1
              replace p149 := eq_true p149
              replace q149 := eq_true q149
              have ea_ := Option.some.inj (hx147_1.symm.trans hx149_1)
              injection ea_ with ea_ en_ ec_
              subst ea_
              subst ec_
              clear en_
              have p151 : 0 ≤ (x3_2 : Int) := od_
              have q151 : x3_2 < (l0_1.length : Int) := od_
              obtain ⟨ad151,A151_1,c151_1,e151,hx151_0,hx151_1,hl151_1,hi151_1⟩ := at_T83 HR0_1.out x3_2 p151 q151
              have hw151_1 := hx151_1
              have hw151_0 := hx151_0
              obtain rfl : ad147 = ad151 := (by injection e151)
              replace hx151_0 := hx_ HB hx151_0
              replace hx151_1 := hx_ HB hx151_1
              have HR151_1 := Aside0.mk hi151_1
              have HC151_1 := Aside0.mk hl151_1
              clear hi151_1 hl151_1
              replace p151 := eq_true p151
              replace q151 := eq_true q151
              have p152 : 0 ≤ ((ji21) : Int) := od_
              have q152 : (ji21) < (l0_1.length : Int) := od_
              obtain ⟨ad152,A152_1,c152_1,e152,hx152_0,hx152_1,hl152_1,hi152_1⟩ := at_T83 HR0_1.out (ji21) p152 q152
              have hw152_1 := hx152_1
              have hw152_0 := hx152_0
              obtain rfl : ad147 = ad152 := (by injection e152)
              replace hx152_0 := hx_ HB hx152_0
              replace hx152_1 := hx_ HB hx152_1
              have HR152_1 := Aside0.mk hi152_1
              have HC152_1 := Aside0.mk hl152_1
              clear hi152_1 hl152_1
              replace p152 := eq_true p152
              replace q152 := eq_true q152
              refine st_ 38 (S := fun w' => hc4 w' gb145 (.bool a0_0) (.slice (some ad147) l0_1.length c0_1) (.slice A0_2 l0_2.length c0_2) (.slice A0_3 l0_3.length c0_3) (he2 w' (ad147.add ((x3_2).toNat * 2)) (.int .i64 ((rd_T83 l0_1 x3_2).f0)) (.slice A147_1 ((rd_T83 l0_1 x3_2).f1).length c147_1) (he2 w' (ad147.add ((x3_2).toNat * 2)) (.int .i64 ((rd_T83 l0_1 x3_2).f0)) (.slice A147_1 ((rd_T83 l0_1 x3_2).f1).length c147_1) (he2 w' (ad147.add ((x3_2).toNat * 2)) (.int .i64 ((rd_T83 l0_1 x3_2).f0)) (.slice A151_1 ((rd_T83 l0_1 x3_2).f1).length c151_1) (hf2 w' (ad147.add (((ji21)).toNat * 2)) (.int .i64 ((rd_T83 l0_1 (ji21)).f0)) (.slice A152_1 ((rd_T83 l0_1 (ji21)).f1).length c152_1)))))) hh_ (fun hHeld => ?_);refine with_tabW spec_MachineOk.tab6 spec_MachineOk.bits6 (fun HT_ HW_ => ?_)
              generalize wr.drew = w29 at BK145 HB HR147_1 HR149_1 HR151_1 HR152_1 hx147_0 hx147_1 hx149_0 hx149_1 hx151_0 hx151_1 hx152_0 hx152_1 hHeld ⊢
              refine pv_ 0 34 ?_
              refine pv_ 2 36 ?_
              refine tx_ 1 35 hHeld ?_
              refine pv_ 3 37 ?_
              refine pv_ 4 38 ?_
              refine tx_ 5 39 hHeld ?_
              refine oy_ 6 40 (fun K hK => ?_)
              refine gs_ Tryz.func57 #[.int .i64 ((rd_T83 l0_1 x3_2).f0)] ?_
              with_reducible refine (spec_l1Region.calls ((rd_T83 l0_1 x3_2).f0) true _ A16.out).mono ?_
              rintro e w' ⟨rfl,⟨nd,rfl⟩⟩
              refine ⟨_,rfl,?_⟩
              refine hK.out _ _ hh_ (fun hHeld => ?_)
              clear hK K
              refine nr_ (some 40) _ ?_
              refine pv_ 7 41 ?_
              refine pv_ 8 42 ?_
              refine pv_ 9 43 ?_
              refine pv_ 11 45 ?_
              refine tx_ 10 44 hHeld ?_
              refine pv_ 12 46 ?_
              refine pv_ 13 47 ?_
              refine tx_ 14 48 hHeld ?_
              refine oy_ 15 49 (fun K hK => ?_)
              refine gs_ Tryz.func58 #[.slice A147_1 ((rd_T83 l0_1 x3_2).f1).length c147_1] ?_
              with_reducible refine (spec_CellsOk.calls k2 _ _ ((rd_T83 l0_1 x3_2).f1) true _ ?side1 ?side2 A18.out).mono ?_
              (case side1 => exact cb_ HR149_1)
              (case side2 => exact HC149_1.out)
              rintro e w30 ⟨rfl,hb⟩
              refine ⟨_,rfl,?_⟩
              replace BK145 := Aside0.mk (blk_below (kb_ BK145) hb)
              replace HB := Aside0.mk (below_step b_ hb)
              (try clear hb)
              (try clear hb2)
              (try clear hk)
              (try clear hi)
              refine hK.out _ _ hh_ (fun hHeld => ?_)
              clear hK K
              refine nr_ (some 49) _ ?_
              refine pv_ 16 50 ?_
              refine pv_ 17 51 ?_
              refine pv_ 18 52 ?_
              refine pv_ 19 53 ?_
              refine pv_ 20 54 ?_
              refine pv_ 21 55 ?_
              refine pv_ 22 56 ?_
              refine pv_ 24 58 ?_
              refine pv_ 28 62 ?_
              refine pv_ 30 64 ?_
              refine pv_ 31 65 ?_
              refine tx_ 23 57 hHeld ?_
              refine pv_ 25 59 ?_
              refine pv_ 26 60 ?_
              refine tx_ 27 61 hHeld ?_
              refine tx_ 29 63 hHeld ?_
              refine pv_ 32 66 ?_
              refine pv_ 33 67 ?_
              refine tx_ 34 68 hHeld ?_
              refine pv_ 35 69 ?_
              refine pv_ 36 70 ?_
              refine pv_ 37 71 ?_
              refine done_ (done_of HT_.out (by kernel_rfl)) ?_
              try go_wp2
              go_roundg k2
              case measure => have := HJ1.out;have := HK2.out;omega
              case rel => exact ⟨(wrap64 (x3_2 + 1)),rs_,H',⟨by have := HJ1.out;have := HK2.out;omega⟩,⟨kb_ BK145⟩,⟨b_⟩⟩
            ·rw [if_neg c23] at H
             exact absurd H (by simp)
           ·rw [if_neg c22] at H
            exact absurd H (by simp)
          ·rw [if_neg c20] at H
           have c20b0 : decide (0 < x3_2) = false := decide_eq_false c20
           clear c20
           have H' := Aside0.mk H
           clear H
           obtain ⟨⟨hcz31_0,hcz31_1,hcz31_2,hcz31_3⟩,hfz31_0,hfz31_1,hfz31_2,hfz31_3⟩ := cl4_ BK145.out
           try go_wp2
           replace BK145 := Aside0.mk (blk_drew BK145.out)
           replace HB := Aside0.mk (below_drew1 HB.out)
           have p147 : 0 ≤ (x3_2 : Int) := od_
           have q147 : x3_2 < (l0_1.length : Int) := od_
           obtain ⟨ad147,A147_1,c147_1,e147,hx147_0,hx147_1,hl147_1,hi147_1⟩ := at_T83 HR0_1.out x3_2 p147 q147
           have hw147_1 := hx147_1
           have hw147_0 := hx147_0
           cases e147
           replace hx147_0 := hx_ HB hx147_0
           replace hx147_1 := hx_ HB hx147_1
           have HR147_1 := Aside0.mk hi147_1
           have HC147_1 := Aside0.mk hl147_1
           clear hi147_1 hl147_1
           replace p147 := eq_true p147
           replace q147 := eq_true q147
           have p149 : 0 ≤ (x3_2 : Int) := od_
           have q149 : x3_2 < (l0_1.length : Int) := od_
           obtain ⟨ad149,A149_1,c149_1,e149,hx149_0,hx149_1,hl149_1,hi149_1⟩ := at_T83 HR0_1.out x3_2 p149 q149
           have hw149_1 := hx149_1
           have hw149_0 := hx149_0
           obtain rfl : ad147 = ad149 := (by injection e149)
           replace hx149_0 := hx_ HB hx149_0
           replace hx149_1 := hx_ HB hx149_1
           have HR149_1 := Aside0.mk hi149_1
           have HC149_1 := Aside0.mk hl149_1
           clear hi149_1 hl149_1
           replace p149 := eq_true p149
           replace q149 := eq_true q149
           have ea_ := Option.some.inj (hx147_1.symm.trans hx149_1)
           injection ea_ with ea_ en_ ec_
           subst ea_
           subst ec_
           clear en_
           refine st_ 38 (S := fun w' => hc4 w' gb145 (.bool a0_0) (.slice (some ad147) l0_1.length c0_1) (.slice A0_2 l0_2.length c0_2) (.slice A0_3 l0_3.length c0_3) (he2 w' (ad147.add ((x3_2).toNat * 2)) (.int .i64 ((rd_T83 l0_1 x3_2).f0)) (.slice A147_1 ((rd_T83 l0_1 x3_2).f1).length c147_1) (hf2 w' (ad147.add ((x3_2).toNat * 2)) (.int .i64 ((rd_T83 l0_1 x3_2).f0)) (.slice A147_1 ((rd_T83 l0_1 x3_2).f1).length c147_1)))) hh_ (fun hHeld => ?_);refine with_tabW spec_MachineOk.tab6 spec_MachineOk.bits6 (fun HT_ HW_ => ?_)
           generalize wr.drew = w32 at BK145 HB HR147_1 HR149_1 hx147_0 hx147_1 hx149_0 hx149_1 hHeld ⊢
           refine pv_ 0 34 ?_
           refine pv_ 2 36 ?_
           refine tx_ 1 35 hHeld ?_
           refine pv_ 3 37 ?_
           refine pv_ 4 38 ?_
           refine tx_ 5 39 hHeld ?_
           refine oy_ 6 40 (fun K hK => ?_)
           refine gs_ Tryz.func57 #[.int .i64 ((rd_T83 l0_1 x3_2).f0)] ?_
           with_reducible refine (spec_l1Region.calls ((rd_T83 l0_1 x3_2).f0) true _ A16.out).mono ?_
           rintro e w' ⟨rfl,⟨nd,rfl⟩⟩
           refine ⟨_,rfl,?_⟩
           refine hK.out _ _ hh_ (fun hHeld => ?_)
           clear hK K
           refine nr_ (some 40) _ ?_
           refine pv_ 7 41 ?_
           refine pv_ 8 42 ?_
           refine pv_ 9 43 ?_
           refine pv_ 11 45 ?_
           refine tx_ 10 44 hHeld ?_
           refine pv_ 12 46 ?_
           refine pv_ 13 47 ?_
           refine tx_ 14 48 hHeld ?_
           refine oy_ 15 49 (fun K hK => ?_)
           refine gs_ Tryz.func58 #[.slice A147_1 ((rd_T83 l0_1 x3_2).f1).length c147_1] ?_
           with_reducible refine (spec_CellsOk.calls k2 _ _ ((rd_T83 l0_1 x3_2).f1) true _ ?side1 ?side2 A18.out).mono ?_
           (case side1 => exact cb_ HR149_1)
           (case side2 => exact HC149_1.out)
           rintro e w33 ⟨rfl,hb⟩
           refine ⟨_,rfl,?_⟩
           replace BK145 := Aside0.mk (blk_below (kb_ BK145) hb)
           replace HB := Aside0.mk (below_step b_ hb)
           (try clear hb)
           (try clear hb2)
           (try clear hk)
           (try clear hi)
           refine hK.out _ _ hh_ (fun hHeld => ?_)
           clear hK K
           refine nr_ (some 49) _ ?_
           refine pv_ 16 50 ?_
           refine pv_ 17 51 ?_
           refine pv_ 18 52 ?_
           refine pv_ 19 53 ?_
           refine pv_ 20 54 ?_
           refine pv_ 21 55 ?_
           refine pn_ 22 56 ?_
           refine pn_ 23 57 ?_
           refine pn_ 24 58 ?_
           refine pn_ 25 59 ?_
           refine pn_ 26 60 ?_
           refine pn_ 27 61 ?_
           refine pn_ 28 62 ?_
           refine pn_ 29 63 ?_
           refine pn_ 30 64 ?_
           refine pn_ 31 65 ?_
           refine pn_ 32 66 ?_
           refine pn_ 33 67 ?_
           refine pn_ 34 68 ?_
           refine pn_ 35 69 ?_
           refine pv_ 36 70 ?_
           refine pv_ 37 71 ?_
           refine done_ (done_of HT_.out (by kernel_rfl)) ?_
           try go_wp2
           go_roundg k2
           case measure => have := HJ1.out;have := HK2.out;omega
           case rel => exact ⟨(wrap64 (x3_2 + 1)),rs_,H',⟨by have := HJ1.out;have := HK2.out;omega⟩,⟨kb_ BK145⟩,⟨b_⟩⟩
         ·replace c19 := Bool.eq_false_iff.mpr c19
          subst c19
          replace H := ie_ H
          obtain rfl := Option.some.inj H
          obtain ⟨⟨hcz34_0,hcz34_1,hcz34_2,hcz34_3⟩,hfz34_0,hfz34_1,hfz34_2,hfz34_3⟩ := cl4_ BK145.out
          try go_wp2
          replace BK145 := Aside0.mk (blk_drew BK145.out)
          replace HB := Aside0.mk (below_drew1 HB.out)
          have p147 : 0 ≤ (x3_2 : Int) := od_
          have q147 : x3_2 < (l0_1.length : Int) := od_
          obtain ⟨ad147,A147_1,c147_1,e147,hx147_0,hx147_1,hl147_1,hi147_1⟩ := at_T83 HR0_1.out x3_2 p147 q147
          have hw147_1 := hx147_1
          have hw147_0 := hx147_0
          cases e147
          replace hx147_0 := hx_ HB hx147_0
          replace hx147_1 := hx_ HB hx147_1
          have HR147_1 := Aside0.mk hi147_1
          have HC147_1 := Aside0.mk hl147_1
          clear hi147_1 hl147_1
          replace p147 := eq_true p147
          replace q147 := eq_true q147
          have p149 : 0 ≤ (x3_2 : Int) := od_
          have q149 : x3_2 < (l0_1.length : Int) := od_
          obtain ⟨ad149,A149_1,c149_1,e149,hx149_0,hx149_1,hl149_1,hi149_1⟩ := at_T83 HR0_1.out x3_2 p149 q149
          have hw149_1 := hx149_1
          have hw149_0 := hx149_0
          obtain rfl : ad147 = ad149 := (by injection e149)
          replace hx149_0 := hx_ HB hx149_0
          replace hx149_1 := hx_ HB hx149_1
          have HR149_1 := Aside0.mk hi149_1
          have HC149_1 := Aside0.mk hl149_1
          clear hi149_1 hl149_1
          replace p149 := eq_true p149
          replace q149 := eq_true q149
          have ea_ := Option.some.inj (hx147_1.symm.trans hx149_1)
          injection ea_ with ea_ en_ ec_
          subst ea_
          subst ec_
          clear en_
          refine st_ 38 (S := fun w' => hc4 w' gb145 (.bool a0_0) (.slice (some ad147) l0_1.length c0_1) (.slice A0_2 l0_2.length c0_2) (.slice A0_3 l0_3.length c0_3) (he2 w' (ad147.add ((x3_2).toNat * 2)) (.int .i64 ((rd_T83 l0_1 x3_2).f0)) (.slice A147_1 ((rd_T83 l0_1 x3_2).f1).length c147_1) (hf2 w' (ad147.add ((x3_2).toNat * 2)) (.int .i64 ((rd_T83 l0_1 x3_2).f0)) (.slice A147_1 ((rd_T83 l0_1 x3_2).f1).length c147_1)))) hh_ (fun hHeld => ?_);refine with_tabW spec_MachineOk.tab6 spec_MachineOk.bits6 (fun HT_ HW_ => ?_)
          generalize wr.drew = w35 at BK145 HB HR147_1 HR149_1 hx147_0 hx147_1 hx149_0 hx149_1 hHeld ⊢
          refine pv_ 0 34 ?_
          refine pv_ 2 36 ?_
          refine tx_ 1 35 hHeld ?_
          refine pv_ 3 37 ?_
          refine pv_ 4 38 ?_
          refine tx_ 5 39 hHeld ?_
          refine oy_ 6 40 (fun K hK => ?_)
          refine gs_ Tryz.func57 #[.int .i64 ((rd_T83 l0_1 x3_2).f0)] ?_
          with_reducible refine (spec_l1Region.calls ((rd_T83 l0_1 x3_2).f0) true _ A16.out).mono ?_
          rintro e w' ⟨rfl,⟨nd,rfl⟩⟩
          refine ⟨_,rfl,?_⟩
          refine hK.out _ _ hh_ (fun hHeld => ?_)
          clear hK K
          refine nr_ (some 40) _ ?_
          refine pv_ 7 41 ?_
          refine pv_ 8 42 ?_
          refine pv_ 9 43 ?_
          refine pv_ 11 45 ?_
          refine tx_ 10 44 hHeld ?_
          refine pv_ 12 46 ?_
          refine pv_ 13 47 ?_
          refine tx_ 14 48 hHeld ?_
          refine oy_ 15 49 (fun K hK => ?_)
          refine gs_ Tryz.func58 #[.slice A147_1 ((rd_T83 l0_1 x3_2).f1).length c147_1] ?_
          with_reducible refine (spec_CellsOk.calls k2 _ _ ((rd_T83 l0_1 x3_2).f1) false _ ?side1 ?side2 A18.out).mono ?_
          (case side1 => exact cb_ HR149_1)
          (case side2 => exact HC149_1.out)
          rintro e w36 ⟨rfl,hb⟩
          refine ⟨_,rfl,?_⟩
          replace BK145 := Aside0.mk (blk_below (kb_ BK145) hb)
          replace HB := Aside0.mk (below_step b_ hb)
          (try clear hb)
          (try clear hb2)
          (try clear hk)
          (try clear hi)
          refine hK.out _ _ hh_ (fun hHeld => ?_)
          clear hK K
          refine nr_ (some 49) _ ?_
          refine pv_ 16 50 ?_
          refine pv_ 17 51 ?_
          refine pv_ 18 52 ?_
          refine pn_ 19 53 ?_
          refine pn_ 20 54 ?_
          refine pn_ 21 55 ?_
          refine pn_ 22 56 ?_
          refine pn_ 23 57 ?_
          refine pn_ 24 58 ?_
          refine pn_ 25 59 ?_
          refine pn_ 26 60 ?_
          refine pn_ 27 61 ?_
          refine pn_ 28 62 ?_
          refine pn_ 29 63 ?_
          refine pn_ 30 64 ?_
          refine pn_ 31 65 ?_
          refine pn_ 32 66 ?_
          refine pn_ 33 67 ?_
          refine pn_ 34 68 ?_
          refine pn_ 35 69 ?_
          refine pn_ 36 70 ?_
          refine pv_ 37 71 ?_
          refine done_ (done_of HT_.out (by kernel_rfl)) ?_
          try go_wp2
          go_ret
          exact ⟨rf_,b_⟩
        ·replace c17 := Bool.eq_false_iff.mpr c17
         subst c17
         replace H := ie_ H
         obtain rfl := Option.some.inj H
         obtain ⟨⟨hcz37_0,hcz37_1,hcz37_2,hcz37_3⟩,hfz37_0,hfz37_1,hfz37_2,hfz37_3⟩ := cl4_ BK145.out
         try go_wp2
         replace BK145 := Aside0.mk (blk_drew BK145.out)
         replace HB := Aside0.mk (below_drew1 HB.out)
         have p147 : 0 ≤ (x3_2 : Int) := od_
         have q147 : x3_2 < (l0_1.length : Int) := od_
         obtain ⟨ad147,A147_1,c147_1,e147,hx147_0,hx147_1,hl147_1,hi147_1⟩ := at_T83 HR0_1.out x3_2 p147 q147
         have hw147_1 := hx147_1
         have hw147_0 := hx147_0
         cases e147
         replace hx147_0 := hx_ HB hx147_0
         replace hx147_1 := hx_ HB hx147_1
         have HR147_1 := Aside0.mk hi147_1
         have HC147_1 := Aside0.mk hl147_1
         clear hi147_1 hl147_1
         replace p147 := eq_true p147
         replace q147 := eq_true q147
         refine st_ 38 (S := fun w' => hc4 w' gb145 (.bool a0_0) (.slice (some ad147) l0_1.length c0_1) (.slice A0_2 l0_2.length c0_2) (.slice A0_3 l0_3.length c0_3) (hf2 w' (ad147.add ((x3_2).toNat * 2)) (.int .i64 ((rd_T83 l0_1 x3_2).f0)) (.slice A147_1 ((rd_T83 l0_1 x3_2).f1).length c147_1))) hh_ (fun hHeld => ?_);refine with_tabW spec_MachineOk.tab6 spec_MachineOk.bits6 (fun HT_ HW_ => ?_)
         generalize wr.drew = w38 at BK145 HB HR147_1 hx147_0 hx147_1 hHeld ⊢
         refine pv_ 0 34 ?_
         refine pv_ 2 36 ?_
         refine tx_ 1 35 hHeld ?_
         refine pv_ 3 37 ?_
         refine pv_ 4 38 ?_
         refine tx_ 5 39 hHeld ?_
         refine oy_ 6 40 (fun K hK => ?_)
         refine gs_ Tryz.func57 #[.int .i64 ((rd_T83 l0_1 x3_2).f0)] ?_
         with_reducible refine (spec_l1Region.calls ((rd_T83 l0_1 x3_2).f0) false _ A16.out).mono ?_
         rintro e w' ⟨rfl,⟨nd,rfl⟩⟩
         refine ⟨_,rfl,?_⟩
         refine hK.out _ _ hh_ (fun hHeld => ?_)
         clear hK K
         refine nr_ (some 40) _ ?_
         refine pv_ 7 41 ?_
         refine pv_ 8 42 ?_
         refine pn_ 9 43 ?_
         refine pn_ 10 44 ?_
         refine pn_ 11 45 ?_
         refine pn_ 12 46 ?_
         refine pn_ 13 47 ?_
         refine pn_ 14 48 ?_
         refine pn_ 15 49 ?_
         refine pn_ 16 50 ?_
         refine pv_ 17 51 ?_
         refine pv_ 18 52 ?_
         refine pn_ 19 53 ?_
         refine pn_ 20 54 ?_
         refine pn_ 21 55 ?_
         refine pn_ 22 56 ?_
         refine pn_ 23 57 ?_
         refine pn_ 24 58 ?_
         refine pn_ 25 59 ?_
         refine pn_ 26 60 ?_
         refine pn_ 27 61 ?_
         refine pn_ 28 62 ?_
         refine pn_ 29 63 ?_
         refine pn_ 30 64 ?_
         refine pn_ 31 65 ?_
         refine pn_ 32 66 ?_
         refine pn_ 33 67 ?_
         refine pn_ 34 68 ?_
         refine pn_ 35 69 ?_
         refine pn_ 36 70 ?_
         refine pv_ 37 71 ?_
         refine done_ (done_of HT_.out (by kernel_rfl)) ?_
         try go_wp2
         go_ret
         exact ⟨rf_,b_⟩
       ·rw [if_neg c15] at H
        exact absurd H (by simp)
      ·rw [if_neg c14] at H
       have c14b0 : decide (x3_2 < (l0_1.length : Int)) = false := decide_eq_false c14
       clear c14
       have H' := Aside0.mk H
       clear H
       obtain ⟨⟨hcz39_0,hcz39_1,hcz39_2,hcz39_3⟩,hfz39_0,hfz39_1,hfz39_2,hfz39_3⟩ := cl4_ BK145.out
       go_wp2
       go_loopg [4] k2 (fun kq v4 w' => ∃ (x4_3 : Int),v4 = .int .i64 x4_3 ∧ Aside0 (spec_MachineOk.l1 kq x4_3 a0_0 l0_1 l0_2 l0_3 = some r) ∧ Aside0 (kq ≤ k2) ∧ Aside0 (w'.heap[gb145]? = some (.cells #[.bool a0_0,(.slice A0_1 l0_1.length c0_1),(.slice A0_2 l0_2.length c0_2),(.slice A0_3 l0_3.length c0_3)] 31 (0,0))) ∧ Aside0 (Below w.heap.size w w'))
       case atStart => exact ⟨(0),rs_,H',⟨Nat.le_refl _⟩,⟨kb_ BK145⟩,⟨b_⟩⟩
       case round =>
        clear H'
        try clear c1
        try clear p1
        try clear q1
        try clear hx1
        try clear p2
        try clear c5
        try clear p6
        try clear c14
        try clear c14b0
        try clear p14
        try clear q14
        try clear hx14
        try clear c15
        try clear c17
        try clear c19
        try clear hcz34_0
        try clear hcz34_1
        try clear hcz34_2
        try clear hcz34_3
        try clear hcz37_0
        try clear hcz37_1
        try clear hcz37_2
        try clear hcz37_3
        try clear hcz39_0
        try clear hcz39_1
        try clear hcz39_2
        try clear hcz39_3
        try clear hfz34_0
        try clear hfz34_1
        try clear hfz34_2
        try clear hfz34_3
        try clear hfz37_0
        try clear hfz37_1
        try clear hfz37_2
        try clear hfz37_3
        try clear hfz39_0
        try clear hfz39_1
        try clear hfz39_2
        try clear hfz39_3
        try clear hx147_0
        try clear hx147_1
        try clear hx149_0
        try clear hx149_1
        try clear p147
        try clear p149
        try clear q147
        try clear q149
        obtain ⟨x4_3,rfl,HA,HK3,BK145,HB⟩ := hrel
        cases gk with
        | zero => exact absurd HA.out (by simp [spec_MachineOk.l1])
        | succ k3 =>
         have H := HA.out
         clear HA
         simp only [spec_MachineOk.l1] at H
         by_cases c40 : x4_3 < (l0_2.length : Int)
         ·rw [if_pos c40] at H
          have c40b0 : decide (x4_3 < (l0_2.length : Int)) = true := decide_eq_true c40
          clear c40
          by_cases c41 : 0 ≤ x4_3
          ·rw [if_pos c41] at H
           have c41b0 : decide (0 ≤ x4_3) = true := decide_eq_true c41
           clear c41
           replace H := bs_ H
           obtain ⟨t154,A42,H⟩ := H
           by_cases c43 : t154 = true
           ·subst c43
            replace H := it_ H
            have H' := Aside0.mk H
            clear H
            obtain ⟨⟨hcz44_0,hcz44_1,hcz44_2,hcz44_3⟩,hfz44_0,hfz44_1,hfz44_2,hfz44_3⟩ := cl4_ BK145.out
            have p153 : 0 ≤ (x4_3 : Int) := od_
            have q153 : x4_3 < (l0_2.length : Int) := od_
            obtain ⟨ad153,A153_3,c153_3,e153,hx153_0,hx153_1,hx153_2,hx153_3,hl153_3,hi153_3⟩ := at_T50 HR0_2.out x4_3 p153 q153
            cases e153
            replace hx153_0 := hx_ HB hx153_0
            replace hx153_1 := hx_ HB hx153_1
            replace hx153_2 := hx_ HB hx153_2
            replace hx153_3 := hx_ HB hx153_3
            have HR153_3 := Aside0.mk hi153_3
            have HC153_3 := Aside0.mk hl153_3
            clear hi153_3 hl153_3
            replace p153 := eq_true p153
            replace q153 := eq_true q153
            go_wp2_with (first|((with_reducible refine gcal_ (f := 67) rfl ?_);refine gl_ (some 84) Tryz.func67 #[.agg #[.int .i64 ((rd_T50 l0_2 x4_3).f0),.int .i64 ((rd_T50 l0_2 x4_3).f1),.int .i64 ((rd_T50 l0_2 x4_3).f2),.slice A153_3 ((rd_T50 l0_2 x4_3).f3).length c153_3]] ?_;(with_reducible refine (spec_RecordOk.calls k3 ((rd_T50 l0_2 x4_3).f0) ((rd_T50 l0_2 x4_3).f1) ((rd_T50 l0_2 x4_3).f2) _ _ ((rd_T50 l0_2 x4_3).f3) true _ ?side1 ?side2 A42.out).mono ?_);(case side1 => exact cb_ HR153_3);(case side2 => exact HC153_3.out);rintro e w45 ⟨rfl,hb⟩;refine ⟨_,rfl,?_⟩;replace BK145 := Aside0.mk (blk_below (kb_ BK145) hb);replace HB := Aside0.mk (below_step b_ hb);(try clear hb);(try clear hb2);(try clear hk);(try clear hi)))
            go_roundg k3
            case measure => have := HJ1.out;have := HK2.out;have := HK3.out;omega
            case rel => exact ⟨(wrap64 (x4_3 + 1)),rs_,H',⟨by have := HJ1.out;have := HK2.out;have := HK3.out;omega⟩,⟨kb_ BK145⟩,⟨b_⟩⟩
           ·replace c43 := Bool.eq_false_iff.mpr c43
            subst c43
            replace H := ie_ H
            obtain rfl := Option.some.inj H
            obtain ⟨⟨hcz46_0,hcz46_1,hcz46_2,hcz46_3⟩,hfz46_0,hfz46_1,hfz46_2,hfz46_3⟩ := cl4_ BK145.out
            have p153 : 0 ≤ (x4_3 : Int) := od_
            have q153 : x4_3 < (l0_2.length : Int) := od_
            obtain ⟨ad153,A153_3,c153_3,e153,hx153_0,hx153_1,hx153_2,hx153_3,hl153_3,hi153_3⟩ := at_T50 HR0_2.out x4_3 p153 q153
            cases e153
            replace hx153_0 := hx_ HB hx153_0
            replace hx153_1 := hx_ HB hx153_1
            replace hx153_2 := hx_ HB hx153_2
            replace hx153_3 := hx_ HB hx153_3
            have HR153_3 := Aside0.mk hi153_3
            have HC153_3 := Aside0.mk hl153_3
            clear hi153_3 hl153_3
            replace p153 := eq_true p153
            replace q153 := eq_true q153
            go_wp2_with (first|((with_reducible refine gcal_ (f := 67) rfl ?_);refine gl_ (some 84) Tryz.func67 #[.agg #[.int .i64 ((rd_T50 l0_2 x4_3).f0),.int .i64 ((rd_T50 l0_2 x4_3).f1),.int .i64 ((rd_T50 l0_2 x4_3).f2),.slice A153_3 ((rd_T50 l0_2 x4_3).f3).length c153_3]] ?_;(with_reducible refine (spec_RecordOk.calls k3 ((rd_T50 l0_2 x4_3).f0) ((rd_T50 l0_2 x4_3).f1) ((rd_T50 l0_2 x4_3).f2) _ _ ((rd_T50 l0_2 x4_3).f3) false _ ?side1 ?side2 A42.out).mono ?_);(case side1 => exact cb_ HR153_3);(case side2 => exact HC153_3.out);rintro e w47 ⟨rfl,hb⟩;refine ⟨_,rfl,?_⟩;replace BK145 := Aside0.mk (blk_below (kb_ BK145) hb);replace HB := Aside0.mk (below_step b_ hb);(try clear hb);(try clear hb2);(try clear hk);(try clear hi)))
            go_ret
            exact ⟨rf_,b_⟩
          ·rw [if_neg c41] at H
           exact absurd H (by simp)
         ·rw [if_neg c40] at H
          have c40b0 : decide (x4_3 < (l0_2.length : Int)) = false := decide_eq_false c40
          clear c40
          obtain rfl := Option.some.inj H
          obtain ⟨⟨hcz48_0,hcz48_1,hcz48_2,hcz48_3⟩,hfz48_0,hfz48_1,hfz48_2,hfz48_3⟩ := cl4_ BK145.out
          go_wp2
          go_ret
          exact ⟨rf_,b_⟩

end Go.Proofs.YthplaakckfhaaaaGreat.XCr
