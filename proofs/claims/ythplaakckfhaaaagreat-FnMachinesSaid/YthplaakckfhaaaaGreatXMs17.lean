/- Proved: a call of each Go function here comes to what its Lean function tells. -/
import Derived.Test.YthplaakckfhaaaaGreatXMs0
import Derived.Test.YthplaakckfhaaaaGreatXMs11
import Derived.Test.YthplaakckfhaaaaGreatXMs13
import Derived.Test.YthplaakckfhaaaaGreatXMs16
namespace Go.Proofs.YthplaakckfhaaaaGreat.XMs
open Go.RowKit Go.Proofs.YthplaakckfhaaaaGreat.Aid Go.Proofs.YthplaakckfhaaaaGreatW.PrintWords Go.Proofs.YthplaakckfhaaaaGreatW.PrintLast Go.Proofs.YthplaakckfhaaaaGreatW.PrintMore
set_option linter.unusedVariables false
set_option linter.unusedSimpArgs false

/-! ### spec_MachineOk: function 28 -/
mutual
def spec_MachineOk.j0 : Nat → Bool → Bool → List (S83) → List (S50) → List Int → Option (Bool)
  | 0, _, _, _, _, _ => none
  | k + 1, x26, x276000, x276001, x276002, x276003 => if x26 = true then (some false) else (spec_MachineOk.l0 k 0 x276000 x276001 x276002 x276003)
def spec_MachineOk.l0 : Nat → Int → Bool → List (S83) → List (S50) → List Int → Option (Bool)
  | 0, _, _, _, _, _ => none
  | k + 1, x3, x276000, x276001, x276002, x276003 => if x3 < (x276001.length : Int) then (if 0 ≤ x3 then ((spec_l1Region.f ((rd_T83 x276001 x3).f0)).bind fun t278 => (if t278 = true then ((spec_CellsOk.f k ((rd_T83 x276001 x3).f1)).bind fun t280 => (if t280 = true then (if x3 > 0 then (if 0 ≤ (wrap64 (x3 - 1)) then (if (wrap64 (x3 - 1)) < (x276001.length : Int) then (if ((rd_T83 x276001 x3).f0) ≤ ((rd_T83 x276001 (wrap64 (x3 - 1))).f0) then (some false) else (spec_MachineOk.l0 k (wrap64 (x3 + 1)) x276000 x276001 x276002 x276003)) else (none)) else (none)) else (spec_MachineOk.l0 k (wrap64 (x3 + 1)) x276000 x276001 x276002 x276003)) else (some false))) else (some false))) else (none)) else (spec_MachineOk.l1 k 0 x276000 x276001 x276002 x276003)
def spec_MachineOk.l1 : Nat → Int → Bool → List (S83) → List (S50) → List Int → Option (Bool)
  | 0, _, _, _, _, _ => none
  | k + 1, x4, x276000, x276001, x276002, x276003 => if x4 < (x276002.length : Int) then (if 0 ≤ x4 then ((spec_RecordOk.f k ((rd_T50 x276002 x4).f0) ((rd_T50 x276002 x4).f1) ((rd_T50 x276002 x4).f2) ((rd_T50 x276002 x4).f3)).bind fun t284 => (if t284 = true then (spec_MachineOk.l1 k (wrap64 (x4 + 1)) x276000 x276001 x276002 x276003) else (some false))) else (none)) else (some true)
end
def spec_MachineOk.f (k : Nat) (a0_0 : Bool) (l0_1 : List (S83)) (l0_2 : List (S50)) (l0_3 : List Int) : Option (Bool) := if (l0_1.length : Int) > 6 then (spec_MachineOk.j0 k true a0_0 l0_1 l0_2 l0_3) else (if (l0_2.length : Int) > 200 then (spec_MachineOk.j0 k true a0_0 l0_1 l0_2 l0_3) else (if (l0_3.length : Int) > 60 then (spec_MachineOk.j0 k true a0_0 l0_1 l0_2 l0_3) else ((spec_l6Rises.f k l0_3).bind fun t276 => (spec_MachineOk.j0 k (!t276) a0_0 l0_1 l0_2 l0_3))))

def spec_MachineOk.T6 : Bool × List (List Nat × List Nat) := (true, [([], []), ([0], [0]), ([], []), ([1, 2], [1, 2]), ([3], [3]), ([4], [4]), ([5], [5]), ([6], [6]), ([7, 6], [7]), ([8], [8]), ([9, 8], [8, 9]), ([8], [8]), ([10, 11, 8], [8, 10, 11]), ([12, 8], [8, 12]), ([13, 8], [8, 13]), ([14, 8, 8], [8, 14]), ([15, 8], [8, 15]), ([8, 16], [8, 16]), ([17, 15], [17]), ([18], [18]), ([19, 18], [18, 19]), ([20, 18, 18], [18, 20]), ([21], [21]), ([22, 21], [21, 22]), ([21], [21]), ([23, 24, 21], [21, 23, 24]), ([25, 21], [21, 25]), ([26, 21], [21, 26]), ([21], [21]), ([28, 21], [21, 28]), ([21], [21]), ([30, 21], [21, 30]), ([29, 31, 21], [21, 29, 31]), ([32, 21], [21, 32]), ([33, 21], [21, 33]), ([27, 34, 21], [21, 27, 34]), ([21, 35, 18], [18, 21, 35]), ([18, 36], [18, 36])])
def spec_MachineOk.B6 : List Nat := [0, 1, 0, 7, 15, 31, 63, 127, 255, 511, 1023, 511, 4095, 8191, 16383, 32767, 65535, 131071, 262143, 524287, 1048575, 2097151, 4194303, 8388607, 4194303, 33554431, 67108863, 134217727, 4194303, 272629759, 4194303, 1077936127, 4030726143, 8325693439, 16915628031, 34359738367, 68719476735, 137438953471]
theorem spec_MachineOk.tab6 : rtab .any (opsOf Tryz.f28 6) = spec_MachineOk.T6 := by kernel_rfl
theorem spec_MachineOk.bits6 : waitsOk spec_MachineOk.T6.2 spec_MachineOk.B6 = true := by kernel_rfl
set_option maxHeartbeats 8000000 in
set_option maxRecDepth 100000 in
theorem spec_MachineOk.calls (k : Nat) (a0_0 : Bool) (A0_1 : Option Addr) (c0_1 : Nat) (l0_1 : List (S83)) (A0_2 : Option Addr) (c0_2 : Nat) (l0_2 : List (S50)) (A0_3 : Option Addr) (c0_3 : Nat) (l0_3 : List Int) (r : Bool) (w : World) (hr0_1 : Kd.C k83 w A0_1 l0_1.length l0_1) (hc0_1 : l0_1.length ≤ c0_1) (hr0_2 : Kd.C k50 w A0_2 l0_2.length l0_2) (hc0_2 : l0_2.length ≤ c0_2) (hr0_3 : Kd.C (Kd.int .i64) w A0_3 l0_3.length l0_3) (hc0_3 : l0_3.length ≤ c0_3) (h : spec_MachineOk.f k a0_0 l0_1 l0_2 l0_3 = some r) :
    Calls Tryz.prog 28 #[.agg #[.bool a0_0, .slice A0_1 l0_1.length c0_1, .slice A0_2 l0_2.length c0_2, .slice A0_3 l0_3.length c0_3]] w fun e w' => e = .returned (.bool r) ∧ Below w.heap.size w w' := by
 have hu31 := Tryz.underlying31
 have hu50 := Tryz.underlying50
 have HR0_1 := ak hr0_1
 have HC0_1 := ak hc0_1
 clear hr0_1 hc0_1
 have HR0_2 := ak hr0_2
 have HC0_2 := ak hc0_2
 clear hr0_2 hc0_2
 have HR0_3 := ak hr0_3
 have HC0_3 := ak hc0_3
 clear hr0_3 hc0_3
 have HB := ak (Below.refl w.heap.size w)
 have H : (if (l0_1.length : Int) > 6 then (spec_MachineOk.j0 k true a0_0 l0_1 l0_2 l0_3) else (if (l0_2.length : Int) > 200 then (spec_MachineOk.j0 k true a0_0 l0_1 l0_2 l0_3) else (if (l0_3.length : Int) > 60 then (spec_MachineOk.j0 k true a0_0 l0_1 l0_2 l0_3) else ((spec_l6Rises.f k l0_3).bind fun t276 => (spec_MachineOk.j0 k (!t276) a0_0 l0_1 l0_2 l0_3))))) = some r := h
 clear h
 have HC2 := ak H
 clear H
 go_enter Tryz.func28,Tryz.ntmps28
 go_upto_region 1 with (first|((with_reducible refine gate_dst (N := 1) rfl ?_);(try (refine gate_guard (by rfl) ?_;dsimp only));refine bx_ 1 #[.bool a0_0,.slice A0_1 l0_1.length c0_1,.slice A0_2 l0_2.length c0_2,.slice A0_3 l0_3.length c0_3] 31 ?_;intro gb275 hg w3 hbox hb;have n0_ := ak (below_step b_ hb);have n1_ := ak (hbox);have n2_ := ak ((gw_ (w := w) hg));have n3_ := ak ((gw_ (w := w) hg));clear HB;have HB := n0_;have BK275 := n1_;have GW275 := n2_;have GE275 := n3_;clear n0_ n1_ n2_ n3_;clear hb hbox hg))
 (try simp only [Act.put,List.setIfInBounds_toArray,List.set_cons_zero,List.set_cons_succ])
 go_cut [26] (fun v26 wc => ∃ (kq : Nat) (x26_1 : Bool),v26 = .bool x26_1 ∧ Aside0 (spec_MachineOk.j0 kq x26_1 a0_0 l0_1 l0_2 l0_3 = some r) ∧ Aside0 (kq ≤ k) ∧ Aside0 (wc.heap[gb275]? = some (.cells #[.bool a0_0,(.slice A0_1 l0_1.length c0_1),(.slice A0_2 l0_2.length c0_2),(.slice A0_3 l0_3.length c0_3)] 31 (0,0))) ∧ Aside0 (Below w.heap.size w wc))
 case first =>
  have H := HC2.out
  clear HC2
  by_cases c4 : (l0_1.length : Int) > 6
  ·rw [if_pos c4] at H
   have c4b0 : decide (6 < (l0_1.length : Int)) = true := decide_eq_true c4
   have c4b1 : decide (6 < l0_1.length) = true := decide_eq_true (by omega)
   clear c4
   (first|rw [c4b0]|(simp only [i64_w,i32_w];rw [c4b0])|skip)
   have H' := ak H
   clear H
   obtain ⟨⟨hcz5_0,hcz5_1,hcz5_2,hcz5_3⟩,hfz5_0,hfz5_1,hfz5_2,hfz5_3⟩ := cl4_ BK275.out
   go_wp2
   go_meet
   case rel => exact ⟨_,(true),rs_,H',⟨by first|omega|exact Nat.le_refl _⟩,⟨kb_ BK275⟩,⟨b_⟩⟩
  ·rw [if_neg c4] at H
   have c4b0 : decide (6 < (l0_1.length : Int)) = false := decide_eq_false c4
   have c4b1 : decide (6 < l0_1.length) = false := decide_eq_false (by omega)
   clear c4
   (first|rw [c4b0]|(simp only [i64_w,i32_w];rw [c4b0])|skip)
   by_cases c6 : (l0_2.length : Int) > 200
   ·rw [if_pos c6] at H
    have c6b0 : decide (200 < (l0_2.length : Int)) = true := decide_eq_true c6
    have c6b1 : decide (200 < l0_2.length) = true := decide_eq_true (by omega)
    clear c6
    have H' := ak H
    clear H
    obtain ⟨⟨hcz7_0,hcz7_1,hcz7_2,hcz7_3⟩,hfz7_0,hfz7_1,hfz7_2,hfz7_3⟩ := cl4_ BK275.out
    go_wp2
    go_meet
    case rel => exact ⟨_,(true),rs_,H',⟨by first|omega|exact Nat.le_refl _⟩,⟨kb_ BK275⟩,⟨b_⟩⟩
   ·rw [if_neg c6] at H
    have c6b0 : decide (200 < (l0_2.length : Int)) = false := decide_eq_false c6
    have c6b1 : decide (200 < l0_2.length) = false := decide_eq_false (by omega)
    clear c6
    by_cases c8 : (l0_3.length : Int) > 60
    ·rw [if_pos c8] at H
     have c8b0 : decide (60 < (l0_3.length : Int)) = true := decide_eq_true c8
     have c8b1 : decide (60 < l0_3.length) = true := decide_eq_true (by omega)
     clear c8
     have H' := ak H
     clear H
     obtain ⟨⟨hcz9_0,hcz9_1,hcz9_2,hcz9_3⟩,hfz9_0,hfz9_1,hfz9_2,hfz9_3⟩ := cl4_ BK275.out
     go_wp2
     go_meet
     case rel => exact ⟨_,(true),rs_,H',⟨by first|omega|exact Nat.le_refl _⟩,⟨kb_ BK275⟩,⟨b_⟩⟩
    ·rw [if_neg c8] at H
     have c8b0 : decide (60 < (l0_3.length : Int)) = false := decide_eq_false c8
     have c8b1 : decide (60 < l0_3.length) = false := decide_eq_false (by omega)
     clear c8
     replace H := bs_ H
     obtain ⟨t276,A10,H⟩ := H
     have H' := ak H
     clear H
     obtain ⟨⟨hcz11_0,hcz11_1,hcz11_2,hcz11_3⟩,hfz11_0,hfz11_1,hfz11_2,hfz11_3⟩ := cl4_ BK275.out
     go_wp2_with (first|(go_at_call 73;(with_reducible refine (spec_l6Rises.calls k _ _ l0_3 t276 _ ?side1 ?side2 A10.out).mono ?_);(case side1 => exact cb_ HR0_3);(case side2 => exact HC0_3.out);rintro e w12 ⟨rfl,hb⟩;replace BK275 := ak (blk_below (kb_ BK275) hb);replace HB := ak (below_step b_ hb);(try clear hb);(try clear hb2);(try clear hk);(try clear hi)))
     go_meet
     case rel => exact ⟨_,(!t276),rs_,H',⟨by first|omega|exact Nat.le_refl _⟩,⟨kb_ BK275⟩,⟨b_⟩⟩
 case rest =>
  clear HC2
  try clear c2
  try clear p2
  try clear c4
  try clear c4b0
  try clear c4b1
  try clear c6
  try clear c6b0
  try clear c6b1
  try clear c8
  try clear c8b0
  try clear c8b1
  try clear hcz11_0 hcz11_1 hcz11_2 hcz11_3
  try clear hcz5_0 hcz5_1 hcz5_2 hcz5_3
  try clear hcz7_0 hcz7_1 hcz7_2 hcz7_3
  try clear hcz9_0 hcz9_1 hcz9_2 hcz9_3
  try clear hfz11_0 hfz11_1 hfz11_2 hfz11_3
  try clear hfz5_0 hfz5_1 hfz5_2 hfz5_3
  try clear hfz7_0 hfz7_1 hfz7_2 hfz7_3
  try clear hfz9_0 hfz9_1 hfz9_2 hfz9_3
  obtain ⟨kq,x26_1,rfl,HA,HJ1,BK275,HB⟩ := hcut
  cases kq with
    | zero => exact absurd HA.out (by simp [spec_MachineOk.j0])
    | succ kj1 =>
   have H := HA.out
   clear HA
   simp only [spec_MachineOk.j0] at H
   by_cases c13 : x26_1 = true
   ·subst c13
    replace H := it_ H
    obtain rfl := Option.some.inj H
    go_wp2
    go_ret
    exact ⟨rf_,b_⟩
   ·replace c13 := Bool.eq_false_iff.mpr c13
    subst c13
    replace H := ie_ H
    have H' := ak H
    clear H
    go_wp2
    go_loopg [3] kj1 (fun kq v3 w' => ∃ (x3_2 : Int),v3 = .int .i64 x3_2 ∧ Aside0 (spec_MachineOk.l0 kq x3_2 a0_0 l0_1 l0_2 l0_3 = some r) ∧ Aside0 (kq ≤ kj1) ∧ Aside0 (w'.heap[gb275]? = some (.cells #[.bool a0_0,(.slice A0_1 l0_1.length c0_1),(.slice A0_2 l0_2.length c0_2),(.slice A0_3 l0_3.length c0_3)] 31 (0,0))) ∧ Aside0 (Below w.heap.size w w'))
    case atStart => exact ⟨(0),rs_,H',⟨Nat.le_refl _⟩,⟨kb_ BK275⟩,⟨b_⟩⟩
    case round =>
     clear H'
     try clear c1
     try clear c2
     try clear p2
     try clear c4
     try clear c4b0
     try clear c4b1
     try clear c6
     try clear c6b0
     try clear c6b1
     try clear c8
     try clear c8b0
     try clear c8b1
     try clear c13
     try clear hcz11_0 hcz11_1 hcz11_2 hcz11_3
     try clear hcz5_0 hcz5_1 hcz5_2 hcz5_3
     try clear hcz7_0 hcz7_1 hcz7_2 hcz7_3
     try clear hcz9_0 hcz9_1 hcz9_2 hcz9_3
     try clear hfz11_0 hfz11_1 hfz11_2 hfz11_3
     try clear hfz5_0 hfz5_1 hfz5_2 hfz5_3
     try clear hfz7_0 hfz7_1 hfz7_2 hfz7_3
     try clear hfz9_0 hfz9_1 hfz9_2 hfz9_3
     try clear p2
     obtain ⟨x3_2,rfl,HA,HK2,BK275,HB⟩ := hrel
     cases gk with
     | zero => exact absurd HA.out (by simp [spec_MachineOk.l0])
     | succ k2 =>
      have H := HA.out
      clear HA
      simp only [spec_MachineOk.l0] at H
      by_cases c14 : x3_2 < (l0_1.length : Int)
      ·rw [if_pos c14] at H
       have c14b0 : decide (x3_2 < (l0_1.length : Int)) = true := decide_eq_true c14
       clear c14
       by_cases c15 : 0 ≤ x3_2
       ·rw [if_pos c15] at H
        have c15b0 : decide (0 ≤ x3_2) = true := decide_eq_true c15
        clear c15
        replace H := bs_ H
        obtain ⟨t278,A16,H⟩ := H
        by_cases c17 : t278 = true
        ·subst c17
         replace H := it_ H
         replace H := bs_ H
         obtain ⟨t280,A18,H⟩ := H
         by_cases c19 : t280 = true
         ·subst c19
          replace H := it_ H
          by_cases c20 : x3_2 > 0
          ·rw [if_pos c20] at H
           have c20b0 : decide (0 < x3_2) = true := decide_eq_true c20
           clear c20
           obtain ⟨ji21,hji21⟩ : ∃ j_ : Int,(wrap64 (x3_2 - 1)) = j_ := ⟨_,rfl⟩
           replace H : (if 0 ≤ (ji21) then (if (ji21) < (l0_1.length : Int) then (if ((rd_T83 l0_1 x3_2).f0) ≤ ((rd_T83 l0_1 (ji21)).f0) then (some false) else (spec_MachineOk.l0 k2 (wrap64 (x3_2 + 1)) a0_0 l0_1 l0_2 l0_3)) else (none)) else (none)) = some r := by first|(rw [hji21] at H;exact H)|(simp only [hji21] at H ⊢;exact H)
           (try rw [hji21] at A16)
           (try rw [hji21] at A18)
           have hji21w : (IntKind.i64.wrap (x3_2 - 1)) = ji21 := (i64_w _).trans hji21
           by_cases c22 : 0 ≤ (ji21)
           ·rw [if_pos c22] at H
            have c22b0 : decide (0 ≤ (ji21)) = true := decide_eq_true c22
            clear c22
            by_cases c23 : (ji21) < (l0_1.length : Int)
            ·rw [if_pos c23] at H
             have c23b0 : decide ((ji21) < (l0_1.length : Int)) = true := decide_eq_true c23
             clear c23
             by_cases c24 : ((rd_T83 l0_1 x3_2).f0) ≤ ((rd_T83 l0_1 (ji21)).f0)
             ·rw [if_pos c24] at H
              have c24b0 : decide (((rd_T83 l0_1 x3_2).f0) ≤ ((rd_T83 l0_1 (ji21)).f0)) = true := decide_eq_true c24
              clear c24
              obtain rfl := Option.some.inj H
              obtain ⟨⟨hcz25_0,hcz25_1,hcz25_2,hcz25_3⟩,hfz25_0,hfz25_1,hfz25_2,hfz25_3⟩ := cl4_ BK275.out
              try go_wp2
              replace BK275 := ak (blk_drew BK275.out)
              replace HB := ak (below_drew1 HB.out)
              have p277 : 0 ≤ (x3_2 : Int) := od_
              have q277 : x3_2 < (l0_1.length : Int) := od_
              obtain ⟨ad277,A277_1,c277_1,e277,hx277_0,hx277_1,hl277_1,hi277_1⟩ := at_T83 HR0_1.out x3_2 p277 q277
              have hw277_1 := hx277_1
              have hw277_0 := hx277_0
              cases e277
              replace hx277_0 := hx_ HB hx277_0
              replace hx277_1 := hx_ HB hx277_1
              have HR277_1 := ak hi277_1
              have HC277_1 := ak hl277_1
              clear hi277_1 hl277_1
              replace p277 := eq_true p277
              replace q277 := eq_true q277
              have p279 : 0 ≤ (x3_2 : Int) := od_
              have q279 : x3_2 < (l0_1.length : Int) := od_
              obtain ⟨ad279,A279_1,c279_1,e279,hx279_0,hx279_1,hl279_1,hi279_1⟩ := at_T83 HR0_1.out x3_2 p279 q279
              have hw279_1 := hx279_1
              have hw279_0 := hx279_0
              obtain rfl : ad277 = ad279 := (by injection e279)
              replace hx279_0 := hx_ HB hx279_0
              replace hx279_1 := hx_ HB hx279_1
              have HR279_1 := ak hi279_1
              have HC279_1 := ak hl279_1
              clear hi279_1 hl279_1
              replace p279 := eq_true p279
              replace q279 := eq_true q279
              have ea_ := Option.some.inj (hx277_1.symm.trans hx279_1)
              injection ea_ with ea_ en_ ec_
              subst ea_
              subst ec_
              clear en_
              have p281 : 0 ≤ (x3_2 : Int) := od_
              have q281 : x3_2 < (l0_1.length : Int) := od_
              obtain ⟨ad281,A281_1,c281_1,e281,hx281_0,hx281_1,hl281_1,hi281_1⟩ := at_T83 HR0_1.out x3_2 p281 q281
              have hw281_1 := hx281_1
              have hw281_0 := hx281_0
              obtain rfl : ad277 = ad281 := (by injection e281)
              replace hx281_0 := hx_ HB hx281_0
              replace hx281_1 := hx_ HB hx281_1
              have HR281_1 := ak hi281_1
              have HC281_1 := ak hl281_1
              clear hi281_1 hl281_1
              replace p281 := eq_true p281
              replace q281 := eq_true q281
              have p282 : 0 ≤ ((ji21) : Int) := od_
              have q282 : (ji21) < (l0_1.length : Int) := od_
              obtain ⟨ad282,A282_1,c282_1,e282,hx282_0,hx282_1,hl282_1,hi282_1⟩ := at_T83 HR0_1.out (ji21) p282 q282
              have hw282_1 := hx282_1
              have hw282_0 := hx282_0
              obtain rfl : ad277 = ad282 := (by injection e282)
              replace hx282_0 := hx_ HB hx282_0
              replace hx282_1 := hx_ HB hx282_1
              have HR282_1 := ak hi282_1
              have HC282_1 := ak hl282_1
              clear hi282_1 hl282_1
              replace p282 := eq_true p282
              replace q282 := eq_true q282
              refine st_ 38 (S := fun w' => hc4 w' gb275 (.bool a0_0) (.slice (some ad277) l0_1.length c0_1) (.slice A0_2 l0_2.length c0_2) (.slice A0_3 l0_3.length c0_3) (he2 w' (ad277.add ((x3_2).toNat * 2)) (.int .i64 ((rd_T83 l0_1 x3_2).f0)) (.slice A277_1 ((rd_T83 l0_1 x3_2).f1).length c277_1) (he2 w' (ad277.add ((x3_2).toNat * 2)) (.int .i64 ((rd_T83 l0_1 x3_2).f0)) (.slice A277_1 ((rd_T83 l0_1 x3_2).f1).length c277_1) (he2 w' (ad277.add ((x3_2).toNat * 2)) (.int .i64 ((rd_T83 l0_1 x3_2).f0)) (.slice A281_1 ((rd_T83 l0_1 x3_2).f1).length c281_1) (hf2 w' (ad277.add (((ji21)).toNat * 2)) (.int .i64 ((rd_T83 l0_1 (ji21)).f0)) (.slice A282_1 ((rd_T83 l0_1 (ji21)).f1).length c282_1)))))) hh_ (fun hHeld => ?_);refine with_tabW spec_MachineOk.tab6 spec_MachineOk.bits6 (fun HT_ HW_ => ?_)
              generalize wr.drew = w26 at BK275 HB HR277_1 HR279_1 HR281_1 HR282_1 hx277_0 hx277_1 hx279_0 hx279_1 hx281_0 hx281_1 hx282_0 hx282_1 hHeld ⊢
              refine pv_ 0 34 ?_
              refine pv_ 2 36 ?_
              refine tx_ 1 35 hHeld ?_
              refine pv_ 3 37 ?_
              refine pv_ 4 38 ?_
              refine tx_ 5 39 hHeld ?_
              refine oy_ 6 40 (fun K hK => ?_)
              refine gs_ Tryz.func57 #[.int .i64 ((rd_T83 l0_1 x3_2).f0)] ?_
              with_reducible refine (spec_l1Region.calls ((rd_T83 l0_1 x3_2).f0) true _ A16.out).mono ?_
              rintro e w' ⟨rfl,⟨nd,rfl⟩⟩
              refine ⟨_,rfl,?_⟩
              refine hK.out _ _ hh_ (fun hHeld => ?_)
              clear hK K
              refine nr_ (some 40) _ ?_
              refine pv_ 7 41 ?_
              refine pv_ 8 42 ?_
              refine pv_ 9 43 ?_
              refine pv_ 11 45 ?_
              refine tx_ 10 44 hHeld ?_
              refine pv_ 12 46 ?_
              refine pv_ 13 47 ?_
              refine tx_ 14 48 hHeld ?_
              refine oy_ 15 49 (fun K hK => ?_)
              refine gs_ Tryz.func58 #[.slice A277_1 ((rd_T83 l0_1 x3_2).f1).length c277_1] ?_
              with_reducible refine (spec_CellsOk.calls k2 _ _ ((rd_T83 l0_1 x3_2).f1) true _ ?side1 ?side2 A18.out).mono ?_
              (case side1 => exact cb_ HR279_1)
              (case side2 => exact HC279_1.out)
              rintro e w27 ⟨rfl,hb⟩
              refine ⟨_,rfl,?_⟩
              replace BK275 := ak (blk_below (kb_ BK275) hb)
              replace HB := ak (below_step b_ hb)
              (try clear hb)
              (try clear hb2)
              (try clear hk)
              (try clear hi)
              refine hK.out _ _ hh_ (fun hHeld => ?_)
              clear hK K
              refine nr_ (some 49) _ ?_
              refine pv_ 16 50 ?_
              refine pv_ 17 51 ?_
              refine pv_ 18 52 ?_
              refine pv_ 19 53 ?_
              refine pv_ 20 54 ?_
              refine pv_ 21 55 ?_
              refine pv_ 22 56 ?_
              refine pv_ 24 58 ?_
              refine pv_ 28 62 ?_
              refine pv_ 30 64 ?_
              refine pv_ 31 65 ?_
              refine tx_ 23 57 hHeld ?_
              refine pv_ 25 59 ?_
              refine pv_ 26 60 ?_
              refine tx_ 27 61 hHeld ?_
              refine tx_ 29 63 hHeld ?_
              refine pv_ 32 66 ?_
              refine pv_ 33 67 ?_
              refine tx_ 34 68 hHeld ?_
              refine pv_ 35 69 ?_
              refine pv_ 36 70 ?_
              refine pv_ 37 71 ?_
              refine done_ (done_of HT_.out (by kernel_rfl)) ?_
              try go_wp2
              go_ret
              exact ⟨by first|rfl|(simp [errW_none,errW_some] <;> rfl)|(simp only [← hji21];first|rfl|(simp [errW_none,errW_some] <;> rfl))|(simp [*,errW_none,errW_some] <;> rfl),b_⟩
             ·rw [if_neg c24] at H
              have c24b0 : decide (((rd_T83 l0_1 x3_2).f0) ≤ ((rd_T83 l0_1 (ji21)).f0)) = false := decide_eq_false c24
              clear c24
              have H' := ak H
              clear H
              obtain ⟨⟨hcz28_0,hcz28_1,hcz28_2,hcz28_3⟩,hfz28_0,hfz28_1,hfz28_2,hfz28_3⟩ := cl4_ BK275.out
              try go_wp2
              replace BK275 := ak (blk_drew BK275.out)
              replace HB := ak (below_drew1 HB.out)
              have p277 : 0 ≤ (x3_2 : Int) := od_
              have q277 : x3_2 < (l0_1.length : Int) := od_
              obtain ⟨ad277,A277_1,c277_1,e277,hx277_0,hx277_1,hl277_1,hi277_1⟩ := at_T83 HR0_1.out x3_2 p277 q277
              have hw277_1 := hx277_1
              have hw277_0 := hx277_0
              cases e277
              replace hx277_0 := hx_ HB hx277_0
              replace hx277_1 := hx_ HB hx277_1
              have HR277_1 := ak hi277_1
              have HC277_1 := ak hl277_1
              clear hi277_1 hl277_1
              replace p277 := eq_true p277
              replace q277 := eq_true q277
              have p279 : 0 ≤ (x3_2 : Int) := od_
              have q279 : x3_2 < (l0_1.length : Int) := od_
              obtain ⟨ad279,A279_1,c279_1,e279,hx279_0,hx279_1,hl279_1,hi279_1⟩ := at_T83 HR0_1.out x3_2 p279 q279
              have hw279_1 := hx279_1
              have hw279_0 := hx279_0
              obtain rfl : ad277 = ad279 := (by injection e279)
              replace hx279_0 := hx_ HB hx279_0
              replace hx279_1 := hx_ HB hx279_1
              have HR279_1 := ak hi279_1
              have HC279_1 := ak hl279_1
              clear hi279_1 hl279_1
              replace p279 := eq_true p279
              replace q279 := eq_true q279
              have ea_ := Option.some.inj (hx277_1.symm.trans hx279_1)
              injection ea_ with ea_ en_ ec_
              subst ea_
              subst ec_
              clear en_
              have p281 : 0 ≤ (x3_2 : Int) := od_
              have q281 : x3_2 < (l0_1.length : Int) := od_
              obtain ⟨ad281,A281_1,c281_1,e281,hx281_0,hx281_1,hl281_1,hi281_1⟩ := at_T83 HR0_1.out x3_2 p281 q281
              have hw281_1 := hx281_1
              have hw281_0 := hx281_0
              obtain rfl : ad277 = ad281 := (by injection e281)
              replace hx281_0 := hx_ HB hx281_0
              replace hx281_1 := hx_ HB hx281_1
              have HR281_1 := ak hi281_1
              have HC281_1 := ak hl281_1
              clear hi281_1 hl281_1
              replace p281 := eq_true p281
              replace q281 := eq_true q281
              have p282 : 0 ≤ ((ji21) : Int) := od_
              have q282 : (ji21) < (l0_1.length : Int) := od_
              obtain ⟨ad282,A282_1,c282_1,e282,hx282_0,hx282_1,hl282_1,hi282_1⟩ := at_T83 HR0_1.out (ji21) p282 q282
              have hw282_1 := hx282_1
              have hw282_0 := hx282_0
              obtain rfl : ad277 = ad282 := (by injection e282)
              replace hx282_0 := hx_ HB hx282_0
              replace hx282_1 := hx_ HB hx282_1
              have HR282_1 := ak hi282_1
              have HC282_1 := ak hl282_1
              clear hi282_1 hl282_1
              replace p282 := eq_true p282
              replace q282 := eq_true q282
              refine st_ 38 (S := fun w' => hc4 w' gb275 (.bool a0_0) (.slice (some ad277) l0_1.length c0_1) (.slice A0_2 l0_2.length c0_2) (.slice A0_3 l0_3.length c0_3) (he2 w' (ad277.add ((x3_2).toNat * 2)) (.int .i64 ((rd_T83 l0_1 x3_2).f0)) (.slice A277_1 ((rd_T83 l0_1 x3_2).f1).length c277_1) (he2 w' (ad277.add ((x3_2).toNat * 2)) (.int .i64 ((rd_T83 l0_1 x3_2).f0)) (.slice A277_1 ((rd_T83 l0_1 x3_2).f1).length c277_1) (he2 w' (ad277.add ((x3_2).toNat * 2)) (.int .i64 ((rd_T83 l0_1 x3_2).f0)) (.slice A281_1 ((rd_T83 l0_1 x3_2).f1).length c281_1) (hf2 w' (ad277.add (((ji21)).toNat * 2)) (.int .i64 ((rd_T83 l0_1 (ji21)).f0)) (.slice A282_1 ((rd_T83 l0_1 (ji21)).f1).length c282_1)))))) hh_ (fun hHeld => ?_);refine with_tabW spec_MachineOk.tab6 spec_MachineOk.bits6 (fun HT_ HW_ => ?_)
              generalize wr.drew = w29 at BK275 HB HR277_1 HR279_1 HR281_1 HR282_1 hx277_0 hx277_1 hx279_0 hx279_1 hx281_0 hx281_1 hx282_0 hx282_1 hHeld ⊢
              refine pv_ 0 34 ?_
              refine pv_ 2 36 ?_
              refine tx_ 1 35 hHeld ?_
              refine pv_ 3 37 ?_
              refine pv_ 4 38 ?_
              refine tx_ 5 39 hHeld ?_
              refine oy_ 6 40 (fun K hK => ?_)
              refine gs_ Tryz.func57 #[.int .i64 ((rd_T83 l0_1 x3_2).f0)] ?_
              with_reducible refine (spec_l1Region.calls ((rd_T83 l0_1 x3_2).f0) true _ A16.out).mono ?_
              rintro e w' ⟨rfl,⟨nd,rfl⟩⟩
              refine ⟨_,rfl,?_⟩
              refine hK.out _ _ hh_ (fun hHeld => ?_)
              clear hK K
              refine nr_ (some 40) _ ?_
              refine pv_ 7 41 ?_
              refine pv_ 8 42 ?_
              refine pv_ 9 43 ?_
              refine pv_ 11 45 ?_
              refine tx_ 10 44 hHeld ?_
              refine pv_ 12 46 ?_
              refine pv_ 13 47 ?_
              refine tx_ 14 48 hHeld ?_
              refine oy_ 15 49 (fun K hK => ?_)
              refine gs_ Tryz.func58 #[.slice A277_1 ((rd_T83 l0_1 x3_2).f1).length c277_1] ?_
              with_reducible refine (spec_CellsOk.calls k2 _ _ ((rd_T83 l0_1 x3_2).f1) true _ ?side1 ?side2 A18.out).mono ?_
              (case side1 => exact cb_ HR279_1)
              (case side2 => exact HC279_1.out)
              rintro e w30 ⟨rfl,hb⟩
              refine ⟨_,rfl,?_⟩
              replace BK275 := ak (blk_below (kb_ BK275) hb)
              replace HB := ak (below_step b_ hb)
              (try clear hb)
              (try clear hb2)
              (try clear hk)
              (try clear hi)
              refine hK.out _ _ hh_ (fun hHeld => ?_)
              clear hK K
              refine nr_ (some 49) _ ?_
              refine pv_ 16 50 ?_
              refine pv_ 17 51 ?_
              refine pv_ 18 52 ?_
              refine pv_ 19 53 ?_
              refine pv_ 20 54 ?_
              refine pv_ 21 55 ?_
              refine pv_ 22 56 ?_
              refine pv_ 24 58 ?_
              refine pv_ 28 62 ?_
              refine pv_ 30 64 ?_
              refine pv_ 31 65 ?_
              refine tx_ 23 57 hHeld ?_
              refine pv_ 25 59 ?_
              refine pv_ 26 60 ?_
              refine tx_ 27 61 hHeld ?_
              refine tx_ 29 63 hHeld ?_
              refine pv_ 32 66 ?_
              refine pv_ 33 67 ?_
              refine tx_ 34 68 hHeld ?_
              refine pv_ 35 69 ?_
              refine pv_ 36 70 ?_
              refine pv_ 37 71 ?_
              refine done_ (done_of HT_.out (by kernel_rfl)) ?_
              try go_wp2
              go_roundg k2
              case measure => have := HJ1.out;have := HK2.out;omega
              case rel => exact ⟨(wrap64 (x3_2 + 1)),rs_,H',⟨by have := HJ1.out;have := HK2.out;omega⟩,⟨kb_ BK275⟩,⟨b_⟩⟩
            ·rw [if_neg c23] at H
             exact absurd H (by simp)
           ·rw [if_neg c22] at H
            exact absurd H (by simp)
          ·rw [if_neg c20] at H
           have c20b0 : decide (0 < x3_2) = false := decide_eq_false c20
           clear c20
           have H' := ak H
           clear H
           obtain ⟨⟨hcz31_0,hcz31_1,hcz31_2,hcz31_3⟩,hfz31_0,hfz31_1,hfz31_2,hfz31_3⟩ := cl4_ BK275.out
           try go_wp2
           replace BK275 := ak (blk_drew BK275.out)
           replace HB := ak (below_drew1 HB.out)
           have p277 : 0 ≤ (x3_2 : Int) := od_
           have q277 : x3_2 < (l0_1.length : Int) := od_
           obtain ⟨ad277,A277_1,c277_1,e277,hx277_0,hx277_1,hl277_1,hi277_1⟩ := at_T83 HR0_1.out x3_2 p277 q277
           have hw277_1 := hx277_1
           have hw277_0 := hx277_0
           cases e277
           replace hx277_0 := hx_ HB hx277_0
           replace hx277_1 := hx_ HB hx277_1
           have HR277_1 := ak hi277_1
           have HC277_1 := ak hl277_1
           clear hi277_1 hl277_1
           replace p277 := eq_true p277
           replace q277 := eq_true q277
           have p279 : 0 ≤ (x3_2 : Int) := od_
           have q279 : x3_2 < (l0_1.length : Int) := od_
           obtain ⟨ad279,A279_1,c279_1,e279,hx279_0,hx279_1,hl279_1,hi279_1⟩ := at_T83 HR0_1.out x3_2 p279 q279
           have hw279_1 := hx279_1
           have hw279_0 := hx279_0
           obtain rfl : ad277 = ad279 := (by injection e279)
           replace hx279_0 := hx_ HB hx279_0
           replace hx279_1 := hx_ HB hx279_1
           have HR279_1 := ak hi279_1
           have HC279_1 := ak hl279_1
           clear hi279_1 hl279_1
           replace p279 := eq_true p279
           replace q279 := eq_true q279
           have ea_ := Option.some.inj (hx277_1.symm.trans hx279_1)
           injection ea_ with ea_ en_ ec_
           subst ea_
           subst ec_
           clear en_
           refine st_ 38 (S := fun w' => hc4 w' gb275 (.bool a0_0) (.slice (some ad277) l0_1.length c0_1) (.slice A0_2 l0_2.length c0_2) (.slice A0_3 l0_3.length c0_3) (he2 w' (ad277.add ((x3_2).toNat * 2)) (.int .i64 ((rd_T83 l0_1 x3_2).f0)) (.slice A277_1 ((rd_T83 l0_1 x3_2).f1).length c277_1) (hf2 w' (ad277.add ((x3_2).toNat * 2)) (.int .i64 ((rd_T83 l0_1 x3_2).f0)) (.slice A277_1 ((rd_T83 l0_1 x3_2).f1).length c277_1)))) hh_ (fun hHeld => ?_);refine with_tabW spec_MachineOk.tab6 spec_MachineOk.bits6 (fun HT_ HW_ => ?_)
           generalize wr.drew = w32 at BK275 HB HR277_1 HR279_1 hx277_0 hx277_1 hx279_0 hx279_1 hHeld ⊢
           refine pv_ 0 34 ?_
           refine pv_ 2 36 ?_
           refine tx_ 1 35 hHeld ?_
           refine pv_ 3 37 ?_
           refine pv_ 4 38 ?_
           refine tx_ 5 39 hHeld ?_
           refine oy_ 6 40 (fun K hK => ?_)
           refine gs_ Tryz.func57 #[.int .i64 ((rd_T83 l0_1 x3_2).f0)] ?_
           with_reducible refine (spec_l1Region.calls ((rd_T83 l0_1 x3_2).f0) true _ A16.out).mono ?_
           rintro e w' ⟨rfl,⟨nd,rfl⟩⟩
           refine ⟨_,rfl,?_⟩
           refine hK.out _ _ hh_ (fun hHeld => ?_)
           clear hK K
           refine nr_ (some 40) _ ?_
           refine pv_ 7 41 ?_
           refine pv_ 8 42 ?_
           refine pv_ 9 43 ?_
           refine pv_ 11 45 ?_
           refine tx_ 10 44 hHeld ?_
           refine pv_ 12 46 ?_
           refine pv_ 13 47 ?_
           refine tx_ 14 48 hHeld ?_
           refine oy_ 15 49 (fun K hK => ?_)
           refine gs_ Tryz.func58 #[.slice A277_1 ((rd_T83 l0_1 x3_2).f1).length c277_1] ?_
           with_reducible refine (spec_CellsOk.calls k2 _ _ ((rd_T83 l0_1 x3_2).f1) true _ ?side1 ?side2 A18.out).mono ?_
           (case side1 => exact cb_ HR279_1)
           (case side2 => exact HC279_1.out)
           rintro e w33 ⟨rfl,hb⟩
           refine ⟨_,rfl,?_⟩
           replace BK275 := ak (blk_below (kb_ BK275) hb)
           replace HB := ak (below_step b_ hb)
           (try clear hb)
           (try clear hb2)
           (try clear hk)
           (try clear hi)
           refine hK.out _ _ hh_ (fun hHeld => ?_)
           clear hK K
           refine nr_ (some 49) _ ?_
           refine pv_ 16 50 ?_
           refine pv_ 17 51 ?_
           refine pv_ 18 52 ?_
           refine pv_ 19 53 ?_
           refine pv_ 20 54 ?_
           refine pv_ 21 55 ?_
           refine pn_ 22 56 ?_
           refine pn_ 23 57 ?_
           refine pn_ 24 58 ?_
           refine pn_ 25 59 ?_
           refine pn_ 26 60 ?_
           refine pn_ 27 61 ?_
           refine pn_ 28 62 ?_
           refine pn_ 29 63 ?_
           refine pn_ 30 64 ?_
           refine pn_ 31 65 ?_
           refine pn_ 32 66 ?_
           refine pn_ 33 67 ?_
           refine pn_ 34 68 ?_
           refine pn_ 35 69 ?_
           refine pv_ 36 70 ?_
           refine pv_ 37 71 ?_
           refine done_ (done_of HT_.out (by kernel_rfl)) ?_
           try go_wp2
           go_roundg k2
           case measure => have := HJ1.out;have := HK2.out;omega
           case rel => exact ⟨(wrap64 (x3_2 + 1)),rs_,H',⟨by have := HJ1.out;have := HK2.out;omega⟩,⟨kb_ BK275⟩,⟨b_⟩⟩
         ·replace c19 := Bool.eq_false_iff.mpr c19
          subst c19
          replace H := ie_ H
          obtain rfl := Option.some.inj H
          obtain ⟨⟨hcz34_0,hcz34_1,hcz34_2,hcz34_3⟩,hfz34_0,hfz34_1,hfz34_2,hfz34_3⟩ := cl4_ BK275.out
          try go_wp2
          replace BK275 := ak (blk_drew BK275.out)
          replace HB := ak (below_drew1 HB.out)
          have p277 : 0 ≤ (x3_2 : Int) := od_
          have q277 : x3_2 < (l0_1.length : Int) := od_
          obtain ⟨ad277,A277_1,c277_1,e277,hx277_0,hx277_1,hl277_1,hi277_1⟩ := at_T83 HR0_1.out x3_2 p277 q277
          have hw277_1 := hx277_1
          have hw277_0 := hx277_0
          cases e277
          replace hx277_0 := hx_ HB hx277_0
          replace hx277_1 := hx_ HB hx277_1
          have HR277_1 := ak hi277_1
          have HC277_1 := ak hl277_1
          clear hi277_1 hl277_1
          replace p277 := eq_true p277
          replace q277 := eq_true q277
          have p279 : 0 ≤ (x3_2 : Int) := od_
          have q279 : x3_2 < (l0_1.length : Int) := od_
          obtain ⟨ad279,A279_1,c279_1,e279,hx279_0,hx279_1,hl279_1,hi279_1⟩ := at_T83 HR0_1.out x3_2 p279 q279
          have hw279_1 := hx279_1
          have hw279_0 := hx279_0
          obtain rfl : ad277 = ad279 := (by injection e279)
          replace hx279_0 := hx_ HB hx279_0
          replace hx279_1 := hx_ HB hx279_1
          have HR279_1 := ak hi279_1
          have HC279_1 := ak hl279_1
          clear hi279_1 hl279_1
          replace p279 := eq_true p279
          replace q279 := eq_true q279
          have ea_ := Option.some.inj (hx277_1.symm.trans hx279_1)
          injection ea_ with ea_ en_ ec_
          subst ea_
          subst ec_
          clear en_
          refine st_ 38 (S := fun w' => hc4 w' gb275 (.bool a0_0) (.slice (some ad277) l0_1.length c0_1) (.slice A0_2 l0_2.length c0_2) (.slice A0_3 l0_3.length c0_3) (he2 w' (ad277.add ((x3_2).toNat * 2)) (.int .i64 ((rd_T83 l0_1 x3_2).f0)) (.slice A277_1 ((rd_T83 l0_1 x3_2).f1).length c277_1) (hf2 w' (ad277.add ((x3_2).toNat * 2)) (.int .i64 ((rd_T83 l0_1 x3_2).f0)) (.slice A277_1 ((rd_T83 l0_1 x3_2).f1).length c277_1)))) hh_ (fun hHeld => ?_);refine with_tabW spec_MachineOk.tab6 spec_MachineOk.bits6 (fun HT_ HW_ => ?_)
          generalize wr.drew = w35 at BK275 HB HR277_1 HR279_1 hx277_0 hx277_1 hx279_0 hx279_1 hHeld ⊢
          refine pv_ 0 34 ?_
          refine pv_ 2 36 ?_
          refine tx_ 1 35 hHeld ?_
          refine pv_ 3 37 ?_
          refine pv_ 4 38 ?_
          refine tx_ 5 39 hHeld ?_
          refine oy_ 6 40 (fun K hK => ?_)
          refine gs_ Tryz.func57 #[.int .i64 ((rd_T83 l0_1 x3_2).f0)] ?_
          with_reducible refine (spec_l1Region.calls ((rd_T83 l0_1 x3_2).f0) true _ A16.out).mono ?_
          rintro e w' ⟨rfl,⟨nd,rfl⟩⟩
          refine ⟨_,rfl,?_⟩
          refine hK.out _ _ hh_ (fun hHeld => ?_)
          clear hK K
          refine nr_ (some 40) _ ?_
          refine pv_ 7 41 ?_
          refine pv_ 8 42 ?_
          refine pv_ 9 43 ?_
          refine pv_ 11 45 ?_
          refine tx_ 10 44 hHeld ?_
          refine pv_ 12 46 ?_
          refine pv_ 13 47 ?_
          refine tx_ 14 48 hHeld ?_
          refine oy_ 15 49 (fun K hK => ?_)
          refine gs_ Tryz.func58 #[.slice A277_1 ((rd_T83 l0_1 x3_2).f1).length c277_1] ?_
          with_reducible refine (spec_CellsOk.calls k2 _ _ ((rd_T83 l0_1 x3_2).f1) false _ ?side1 ?side2 A18.out).mono ?_
          (case side1 => exact cb_ HR279_1)
          (case side2 => exact HC279_1.out)
          rintro e w36 ⟨rfl,hb⟩
          refine ⟨_,rfl,?_⟩
          replace BK275 := ak (blk_below (kb_ BK275) hb)
          replace HB := ak (below_step b_ hb)
          (try clear hb)
          (try clear hb2)
          (try clear hk)
          (try clear hi)
          refine hK.out _ _ hh_ (fun hHeld => ?_)
          clear hK K
          refine nr_ (some 49) _ ?_
          refine pv_ 16 50 ?_
          refine pv_ 17 51 ?_
          refine pv_ 18 52 ?_
          refine pn_ 19 53 ?_
          refine pn_ 20 54 ?_
          refine pn_ 21 55 ?_
          refine pn_ 22 56 ?_
          refine pn_ 23 57 ?_
          refine pn_ 24 58 ?_
          refine pn_ 25 59 ?_
          refine pn_ 26 60 ?_
          refine pn_ 27 61 ?_
          refine pn_ 28 62 ?_
          refine pn_ 29 63 ?_
          refine pn_ 30 64 ?_
          refine pn_ 31 65 ?_
          refine pn_ 32 66 ?_
          refine pn_ 33 67 ?_
          refine pn_ 34 68 ?_
          refine pn_ 35 69 ?_
          refine pn_ 36 70 ?_
          refine pv_ 37 71 ?_
          refine done_ (done_of HT_.out (by kernel_rfl)) ?_
          try go_wp2
          go_ret
          exact ⟨rf_,b_⟩
        ·replace c17 := Bool.eq_false_iff.mpr c17
         subst c17
         replace H := ie_ H
         obtain rfl := Option.some.inj H
         obtain ⟨⟨hcz37_0,hcz37_1,hcz37_2,hcz37_3⟩,hfz37_0,hfz37_1,hfz37_2,hfz37_3⟩ := cl4_ BK275.out
         try go_wp2
         replace BK275 := ak (blk_drew BK275.out)
         replace HB := ak (below_drew1 HB.out)
         have p277 : 0 ≤ (x3_2 : Int) := od_
         have q277 : x3_2 < (l0_1.length : Int) := od_
         obtain ⟨ad277,A277_1,c277_1,e277,hx277_0,hx277_1,hl277_1,hi277_1⟩ := at_T83 HR0_1.out x3_2 p277 q277
         have hw277_1 := hx277_1
         have hw277_0 := hx277_0
         cases e277
         replace hx277_0 := hx_ HB hx277_0
         replace hx277_1 := hx_ HB hx277_1
         have HR277_1 := ak hi277_1
         have HC277_1 := ak hl277_1
         clear hi277_1 hl277_1
         replace p277 := eq_true p277
         replace q277 := eq_true q277
         refine st_ 38 (S := fun w' => hc4 w' gb275 (.bool a0_0) (.slice (some ad277) l0_1.length c0_1) (.slice A0_2 l0_2.length c0_2) (.slice A0_3 l0_3.length c0_3) (hf2 w' (ad277.add ((x3_2).toNat * 2)) (.int .i64 ((rd_T83 l0_1 x3_2).f0)) (.slice A277_1 ((rd_T83 l0_1 x3_2).f1).length c277_1))) hh_ (fun hHeld => ?_);refine with_tabW spec_MachineOk.tab6 spec_MachineOk.bits6 (fun HT_ HW_ => ?_)
         generalize wr.drew = w38 at BK275 HB HR277_1 hx277_0 hx277_1 hHeld ⊢
         refine pv_ 0 34 ?_
         refine pv_ 2 36 ?_
         refine tx_ 1 35 hHeld ?_
         refine pv_ 3 37 ?_
         refine pv_ 4 38 ?_
         refine tx_ 5 39 hHeld ?_
         refine oy_ 6 40 (fun K hK => ?_)
         refine gs_ Tryz.func57 #[.int .i64 ((rd_T83 l0_1 x3_2).f0)] ?_
         with_reducible refine (spec_l1Region.calls ((rd_T83 l0_1 x3_2).f0) false _ A16.out).mono ?_
         rintro e w' ⟨rfl,⟨nd,rfl⟩⟩
         refine ⟨_,rfl,?_⟩
         refine hK.out _ _ hh_ (fun hHeld => ?_)
         clear hK K
         refine nr_ (some 40) _ ?_
         refine pv_ 7 41 ?_
         refine pv_ 8 42 ?_
         refine pn_ 9 43 ?_
         refine pn_ 10 44 ?_
         refine pn_ 11 45 ?_
         refine pn_ 12 46 ?_
         refine pn_ 13 47 ?_
         refine pn_ 14 48 ?_
         refine pn_ 15 49 ?_
         refine pn_ 16 50 ?_
         refine pv_ 17 51 ?_
         refine pv_ 18 52 ?_
         refine pn_ 19 53 ?_
         refine pn_ 20 54 ?_
         refine pn_ 21 55 ?_
         refine pn_ 22 56 ?_
         refine pn_ 23 57 ?_
         refine pn_ 24 58 ?_
         refine pn_ 25 59 ?_
         refine pn_ 26 60 ?_
         refine pn_ 27 61 ?_
         refine pn_ 28 62 ?_
         refine pn_ 29 63 ?_
         refine pn_ 30 64 ?_
         refine pn_ 31 65 ?_
         refine pn_ 32 66 ?_
         refine pn_ 33 67 ?_
         refine pn_ 34 68 ?_
         refine pn_ 35 69 ?_
         refine pn_ 36 70 ?_
         refine pv_ 37 71 ?_
         refine done_ (done_of HT_.out (by kernel_rfl)) ?_
         try go_wp2
         go_ret
         exact ⟨rf_,b_⟩
       ·rw [if_neg c15] at H
        exact absurd H (by simp)
      ·rw [if_neg c14] at H
       have c14b0 : decide (x3_2 < (l0_1.length : Int)) = false := decide_eq_false c14
       clear c14
       have H' := ak H
       clear H
       obtain ⟨⟨hcz39_0,hcz39_1,hcz39_2,hcz39_3⟩,hfz39_0,hfz39_1,hfz39_2,hfz39_3⟩ := cl4_ BK275.out
       go_wp2
       go_loopg [4] k2 (fun kq v4 w' => ∃ (x4_3 : Int),v4 = .int .i64 x4_3 ∧ Aside0 (spec_MachineOk.l1 kq x4_3 a0_0 l0_1 l0_2 l0_3 = some r) ∧ Aside0 (kq ≤ k2) ∧ Aside0 (w'.heap[gb275]? = some (.cells #[.bool a0_0,(.slice A0_1 l0_1.length c0_1),(.slice A0_2 l0_2.length c0_2),(.slice A0_3 l0_3.length c0_3)] 31 (0,0))) ∧ Aside0 (Below w.heap.size w w'))
       case atStart => exact ⟨(0),rs_,H',⟨Nat.le_refl _⟩,⟨kb_ BK275⟩,⟨b_⟩⟩
       case round =>
        clear H'
        try clear c1
        try clear c2
        try clear p2
        try clear q2
        try clear hx2
        try clear c5
        try clear p6
        try clear c14
        try clear c14b0
        try clear c15
        try clear c17
        try clear c19
        try clear c27
        try clear p27
        try clear q27
        try clear hx27
        try clear hcz34_0 hcz34_1 hcz34_2 hcz34_3
        try clear hcz37_0 hcz37_1 hcz37_2 hcz37_3
        try clear hcz39_0 hcz39_1 hcz39_2 hcz39_3
        try clear hfz34_0 hfz34_1 hfz34_2 hfz34_3
        try clear hfz37_0 hfz37_1 hfz37_2 hfz37_3
        try clear hfz39_0 hfz39_1 hfz39_2 hfz39_3
        try clear hx277_0
        try clear hx277_1
        try clear hx279_0
        try clear hx279_1
        try clear p277
        try clear p279
        try clear q277
        try clear q279
        obtain ⟨x4_3,rfl,HA,HK3,BK275,HB⟩ := hrel
        cases gk with
        | zero => exact absurd HA.out (by simp [spec_MachineOk.l1])
        | succ k3 =>
         have H := HA.out
         clear HA
         simp only [spec_MachineOk.l1] at H
         by_cases c40 : x4_3 < (l0_2.length : Int)
         ·rw [if_pos c40] at H
          have c40b0 : decide (x4_3 < (l0_2.length : Int)) = true := decide_eq_true c40
          clear c40
          by_cases c41 : 0 ≤ x4_3
          ·rw [if_pos c41] at H
           have c41b0 : decide (0 ≤ x4_3) = true := decide_eq_true c41
           clear c41
           replace H := bs_ H
           obtain ⟨t284,A42,H⟩ := H
           by_cases c43 : t284 = true
           ·subst c43
            replace H := it_ H
            have H' := ak H
            clear H
            obtain ⟨⟨hcz44_0,hcz44_1,hcz44_2,hcz44_3⟩,hfz44_0,hfz44_1,hfz44_2,hfz44_3⟩ := cl4_ BK275.out
            have p283 : 0 ≤ (x4_3 : Int) := od_
            have q283 : x4_3 < (l0_2.length : Int) := od_
            obtain ⟨ad283,A283_3,c283_3,e283,hx283_0,hx283_1,hx283_2,hx283_3,hl283_3,hi283_3⟩ := at_T50 HR0_2.out x4_3 p283 q283
            cases e283
            replace hx283_0 := hx_ HB hx283_0
            replace hx283_1 := hx_ HB hx283_1
            replace hx283_2 := hx_ HB hx283_2
            replace hx283_3 := hx_ HB hx283_3
            have HR283_3 := ak hi283_3
            have HC283_3 := ak hl283_3
            clear hi283_3 hl283_3
            replace p283 := eq_true p283
            replace q283 := eq_true q283
            go_wp2_with (first|((with_reducible refine gcal_ (f := 67) rfl ?_);refine gl_ (some 84) Tryz.func67 #[.agg #[.int .i64 ((rd_T50 l0_2 x4_3).f0),.int .i64 ((rd_T50 l0_2 x4_3).f1),.int .i64 ((rd_T50 l0_2 x4_3).f2),.slice A283_3 ((rd_T50 l0_2 x4_3).f3).length c283_3]] ?_;(with_reducible refine (spec_RecordOk.calls k3 ((rd_T50 l0_2 x4_3).f0) ((rd_T50 l0_2 x4_3).f1) ((rd_T50 l0_2 x4_3).f2) _ _ ((rd_T50 l0_2 x4_3).f3) true _ ?side1 ?side2 A42.out).mono ?_);(case side1 => exact cb_ HR283_3);(case side2 => exact HC283_3.out);rintro e w45 ⟨rfl,hb⟩;refine ⟨_,rfl,?_⟩;replace BK275 := ak (blk_below (kb_ BK275) hb);replace HB := ak (below_step b_ hb);(try clear hb);(try clear hb2);(try clear hk);(try clear hi)))
            go_roundg k3
            case measure => have := HJ1.out;have := HK2.out;have := HK3.out;omega
            case rel => exact ⟨(wrap64 (x4_3 + 1)),rs_,H',⟨by have := HJ1.out;have := HK2.out;have := HK3.out;omega⟩,⟨kb_ BK275⟩,⟨b_⟩⟩
           ·replace c43 := Bool.eq_false_iff.mpr c43
            subst c43
            replace H := ie_ H
            obtain rfl := Option.some.inj H
            obtain ⟨⟨hcz46_0,hcz46_1,hcz46_2,hcz46_3⟩,hfz46_0,hfz46_1,hfz46_2,hfz46_3⟩ := cl4_ BK275.out
            have p283 : 0 ≤ (x4_3 : Int) := od_
            have q283 : x4_3 < (l0_2.length : Int) := od_
            obtain ⟨ad283,A283_3,c283_3,e283,hx283_0,hx283_1,hx283_2,hx283_3,hl283_3,hi283_3⟩ := at_T50 HR0_2.out x4_3 p283 q283
            cases e283
            replace hx283_0 := hx_ HB hx283_0
            replace hx283_1 := hx_ HB hx283_1
            replace hx283_2 := hx_ HB hx283_2
            replace hx283_3 := hx_ HB hx283_3
            have HR283_3 := ak hi283_3
            have HC283_3 := ak hl283_3
            clear hi283_3 hl283_3
            replace p283 := eq_true p283
            replace q283 := eq_true q283
            go_wp2_with (first|((with_reducible refine gcal_ (f := 67) rfl ?_);refine gl_ (some 84) Tryz.func67 #[.agg #[.int .i64 ((rd_T50 l0_2 x4_3).f0),.int .i64 ((rd_T50 l0_2 x4_3).f1),.int .i64 ((rd_T50 l0_2 x4_3).f2),.slice A283_3 ((rd_T50 l0_2 x4_3).f3).length c283_3]] ?_;(with_reducible refine (spec_RecordOk.calls k3 ((rd_T50 l0_2 x4_3).f0) ((rd_T50 l0_2 x4_3).f1) ((rd_T50 l0_2 x4_3).f2) _ _ ((rd_T50 l0_2 x4_3).f3) false _ ?side1 ?side2 A42.out).mono ?_);(case side1 => exact cb_ HR283_3);(case side2 => exact HC283_3.out);rintro e w47 ⟨rfl,hb⟩;refine ⟨_,rfl,?_⟩;replace BK275 := ak (blk_below (kb_ BK275) hb);replace HB := ak (below_step b_ hb);(try clear hb);(try clear hb2);(try clear hk);(try clear hi)))
            go_ret
            exact ⟨rf_,b_⟩
          ·rw [if_neg c41] at H
           exact absurd H (by simp)
         ·rw [if_neg c40] at H
          have c40b0 : decide (x4_3 < (l0_2.length : Int)) = false := decide_eq_false c40
          clear c40
          obtain rfl := Option.some.inj H
          obtain ⟨⟨hcz48_0,hcz48_1,hcz48_2,hcz48_3⟩,hfz48_0,hfz48_1,hfz48_2,hfz48_3⟩ := cl4_ BK275.out
          go_wp2
          go_ret
          exact ⟨rf_,b_⟩

end Go.Proofs.YthplaakckfhaaaaGreat.XMs
