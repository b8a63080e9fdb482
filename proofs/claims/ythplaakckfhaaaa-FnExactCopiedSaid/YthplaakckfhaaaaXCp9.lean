/- Proved: of each Go function here that a call comes to what the Lean function of its name tells. Written by a program of this session over the translation. No conditions beyond each theorem's own. -/
import Derived.Test.YthplaakckfhaaaaXCp0
import Derived.Test.YthplaakckfhaaaaXCp5
import Derived.Test.YthplaakckfhaaaaXCp6
import Derived.Test.YthplaakckfhaaaaXCp8
namespace Go.Proofs.Ythplaakckfhaaaa.XCp
open Go.RowKit Go.Proofs.Ythplaakckfhaaaa.Aid Go.Proofs.YthplaakckfhaaaaW.PrintWords Go.Proofs.YthplaakckfhaaaaW.PrintLast Go.Proofs.YthplaakckfhaaaaW.PrintMore
set_option linter.unusedVariables false
set_option linter.unusedSimpArgs false

/-! ### spec_MachineOk: function 11 -/
mutual
def spec_MachineOk.j0 : Nat → Bool → Bool → List (S79) → List (S45) → List Int → Option (Bool)
  | 0, _, _, _, _, _ => none
  | k + 1, x26, x247000, x247001, x247002, x247003 => if x26 = true then (some false) else (spec_MachineOk.l0 k 0 x247000 x247001 x247002 x247003)
def spec_MachineOk.l0 : Nat → Int → Bool → List (S79) → List (S45) → List Int → Option (Bool)
  | 0, _, _, _, _, _ => none
  | k + 1, x3, x247000, x247001, x247002, x247003 => if x3 < (x247001.length : Int) then (if 0 ≤ x3 then ((spec_l1Region.f ((rd_T79 x247001 x3).f0)).bind fun t249 => (if t249 = true then ((spec_CellsOk.f k ((rd_T79 x247001 x3).f1)).bind fun t251 => (if t251 = true then (if x3 > 0 then (if 0 ≤ (wrap64 (x3 - 1)) then (if (wrap64 (x3 - 1)) < (x247001.length : Int) then (if ((rd_T79 x247001 x3).f0) ≤ ((rd_T79 x247001 (wrap64 (x3 - 1))).f0) then (some false) else (spec_MachineOk.l0 k (wrap64 (x3 + 1)) x247000 x247001 x247002 x247003)) else (none)) else (none)) else (spec_MachineOk.l0 k (wrap64 (x3 + 1)) x247000 x247001 x247002 x247003)) else (some false))) else (some false))) else (none)) else (spec_MachineOk.l1 k 0 x247000 x247001 x247002 x247003)
def spec_MachineOk.l1 : Nat → Int → Bool → List (S79) → List (S45) → List Int → Option (Bool)
  | 0, _, _, _, _, _ => none
  | k + 1, x4, x247000, x247001, x247002, x247003 => if x4 < (x247002.length : Int) then (if 0 ≤ x4 then ((spec_RecordOk.f k ((rd_T45 x247002 x4).f0) ((rd_T45 x247002 x4).f1) ((rd_T45 x247002 x4).f2) ((rd_T45 x247002 x4).f3)).bind fun t255 => (if t255 = true then (spec_MachineOk.l1 k (wrap64 (x4 + 1)) x247000 x247001 x247002 x247003) else (some false))) else (none)) else (some true)
end
def spec_MachineOk.f (k : Nat) (a0_0 : Bool) (l0_1 : List (S79)) (l0_2 : List (S45)) (l0_3 : List Int) : Option (Bool) := if (l0_1.length : Int) > 6 then (spec_MachineOk.j0 k true a0_0 l0_1 l0_2 l0_3) else (if (l0_2.length : Int) > 200 then (spec_MachineOk.j0 k true a0_0 l0_1 l0_2 l0_3) else (if (l0_3.length : Int) > 60 then (spec_MachineOk.j0 k true a0_0 l0_1 l0_2 l0_3) else ((spec_l6Rises.f k l0_3).bind fun t247 => (spec_MachineOk.j0 k (!t247) a0_0 l0_1 l0_2 l0_3))))

def spec_MachineOk.T6 : Bool × List (List Nat × List Nat) := (true, [([], []), ([0], [0]), ([], []), ([1, 2], [1, 2]), ([3], [3]), ([4], [4]), ([5], [5]), ([6], [6]), ([7, 6], [7]), ([8], [8]), ([9, 8], [8, 9]), ([8], [8]), ([10, 11, 8], [8, 10, 11]), ([12, 8], [8, 12]), ([13, 8], [8, 13]), ([14, 8, 8], [8, 14]), ([15, 8], [8, 15]), ([8, 16], [8, 16]), ([17, 15], [17]), ([18], [18]), ([19, 18], [18, 19]), ([20, 18, 18], [18, 20]), ([21], [21]), ([22, 21], [21, 22]), ([21], [21]), ([23, 24, 21], [21, 23, 24]), ([25, 21], [21, 25]), ([26, 21], [21, 26]), ([21], [21]), ([28, 21], [21, 28]), ([21], [21]), ([30, 21], [21, 30]), ([29, 31, 21], [21, 29, 31]), ([32, 21], [21, 32]), ([33, 21], [21, 33]), ([27, 34, 21], [21, 27, 34]), ([21, 35, 18], [18, 21, 35]), ([18, 36], [18, 36])])
def spec_MachineOk.B6 : List Nat := [0, 1, 0, 7, 15, 31, 63, 127, 255, 511, 1023, 511, 4095, 8191, 16383, 32767, 65535, 131071, 262143, 524287, 1048575, 2097151, 4194303, 8388607, 4194303, 33554431, 67108863, 134217727, 4194303, 272629759, 4194303, 1077936127, 4030726143, 8325693439, 16915628031, 34359738367, 68719476735, 137438953471]
theorem spec_MachineOk.tab6 : rtab .any (opsOf Try.f11 6) = spec_MachineOk.T6 := by kernel_rfl
theorem spec_MachineOk.bits6 : waitsOk spec_MachineOk.T6.2 spec_MachineOk.B6 = true := by kernel_rfl
set_option maxHeartbeats 8000000 in
set_option maxRecDepth 100000 in
theorem spec_MachineOk.calls (k : Nat) (a0_0 : Bool) (A0_1 : Option Addr) (c0_1 : Nat) (l0_1 : List (S79)) (A0_2 : Option Addr) (c0_2 : Nat) (l0_2 : List (S45)) (A0_3 : Option Addr) (c0_3 : Nat) (l0_3 : List Int) (r : Bool) (w : World) (hr0_1 : Kd.C k79 w A0_1 l0_1.length l0_1) (hc0_1 : l0_1.length ≤ c0_1) (hr0_2 : Kd.C k45 w A0_2 l0_2.length l0_2) (hc0_2 : l0_2.length ≤ c0_2) (hr0_3 : Kd.C (Kd.int .i64) w A0_3 l0_3.length l0_3) (hc0_3 : l0_3.length ≤ c0_3) (h : spec_MachineOk.f k a0_0 l0_1 l0_2 l0_3 = some r) :
    Calls Try.prog 11 #[.agg #[.bool a0_0, .slice A0_1 l0_1.length c0_1, .slice A0_2 l0_2.length c0_2, .slice A0_3 l0_3.length c0_3]] w fun e w' => e = .returned (.bool r) ∧ Below w.heap.size w w' := by
 have hu32 := Try.underlying32
 have hu45 := Try.underlying45
 have HR0_1 := Aside0.mk hr0_1
 have HC0_1 := Aside0.mk hc0_1
 clear hr0_1 hc0_1
 have HR0_2 := Aside0.mk hr0_2
 have HC0_2 := Aside0.mk hc0_2
 clear hr0_2 hc0_2
 have HR0_3 := Aside0.mk hr0_3
 have HC0_3 := Aside0.mk hc0_3
 clear hr0_3 hc0_3
 have HB := Aside0.mk (Below.refl w.heap.size w)
 have H : (if (l0_1.length : Int) > 6 then (spec_MachineOk.j0 k true a0_0 l0_1 l0_2 l0_3) else (if (l0_2.length : Int) > 200 then (spec_MachineOk.j0 k true a0_0 l0_1 l0_2 l0_3) else (if (l0_3.length : Int) > 60 then (spec_MachineOk.j0 k true a0_0 l0_1 l0_2 l0_3) else ((spec_l6Rises.f k l0_3).bind fun t247 => (spec_MachineOk.j0 k (!t247) a0_0 l0_1 l0_2 l0_3))))) = some r := h
 clear h
 have HC2 := Aside0.mk H
 clear H
 go_enter Try.func11,Try.ntmps11
 go_upto_region 1 with (first|((with_reducible refine gate_dst (N := 1) rfl ?_);(try (refine gate_guard (by rfl) ?_;dsimp only));refine box_event ?hg (N := 1) ?hd (cs := #[.bool a0_0,.slice A0_1 l0_1.length c0_1,.slice A0_2 l0_2.length c0_2,.slice A0_3 l0_3.length c0_3]) (t := 32) ?hr ?_;(case hd => rfl);(case hg => rfl);(case hr => first|(go_simp;done)|(go_simp;rfl));intro gb246 hg w3 hbox hb;have n0_ := Aside0.mk (below_step (by repeat (first|(with_reducible first|exact HB.out|apply below_alloc|apply pw_below_drewN|apply below_drew1)|exact HB.out)) hb);have n1_ := Aside0.mk (hbox);have n2_ := Aside0.mk ((by rw [hg];exact (below_size (by repeat (first|(with_reducible first|exact HB.out|apply below_alloc|apply pw_below_drewN|apply below_drew1)|exact HB.out))) : w.heap.size ≤ gb246));have n3_ := Aside0.mk ((by rw [hg];exact (below_size (by repeat (first|(with_reducible first|exact HB.out|apply below_alloc|apply pw_below_drewN|apply below_drew1)|exact HB.out))) : w.heap.size ≤ gb246));clear HB;have HB := n0_;have BK246 := n1_;have GW246 := n2_;have GE246 := n3_;clear n0_ n1_ n2_ n3_;clear hb hbox hg))
 (try simp only [Act.put,List.setIfInBounds_toArray,List.set_cons_zero,List.set_cons_succ])
 go_cut [26] (fun v26 wc => ∃ (kq : Nat) (x26_1 : Bool),v26 = .bool x26_1 ∧ Aside0 (spec_MachineOk.j0 kq x26_1 a0_0 l0_1 l0_2 l0_3 = some r) ∧ Aside0 (kq ≤ k) ∧ Aside0 (wc.heap[gb246]? = some (.cells #[.bool a0_0,(.slice A0_1 l0_1.length c0_1),(.slice A0_2 l0_2.length c0_2),(.slice A0_3 l0_3.length c0_3)] 32 (0,0))) ∧ Aside0 (Below w.heap.size w wc))
 case first =>
  have H := HC2.out
  clear HC2
  by_cases c4 : (l0_1.length : Int) > 6
  ·rw [if_pos c4] at H
   have c4b0 : decide (6 < (l0_1.length : Int)) = true := decide_eq_true c4
   have c4b1 : decide (6 < l0_1.length) = true := decide_eq_true (by omega)
   clear c4
   (first|rw [c4b0]|(simp only [i64_w,i32_w];rw [c4b0])|skip)
   have H' := Aside0.mk H
   clear H
   have hcz5_0 : w3.cell? ⟨gb246,0,none⟩ = some (.bool a0_0) := (blk_cell BK246.out 0).trans rfl
   have hcz5_1 : w3.cell? ⟨gb246,1,none⟩ = some (.slice A0_1 l0_1.length c0_1) := (blk_cell BK246.out 1).trans rfl
   have hcz5_2 : w3.cell? ⟨gb246,2,none⟩ = some (.slice A0_2 l0_2.length c0_2) := (blk_cell BK246.out 2).trans rfl
   have hcz5_3 : w3.cell? ⟨gb246,3,none⟩ = some (.slice A0_3 l0_3.length c0_3) := (blk_cell BK246.out 3).trans rfl
   have hfz5_0 := blk_frozen BK246.out 0
   have hfz5_1 := blk_frozen BK246.out 1
   have hfz5_2 := blk_frozen BK246.out 2
   have hfz5_3 := blk_frozen BK246.out 3
   go_wp2
   go_meet
   case rel => exact ⟨_,(true),(by first|rfl|(simp;done)|(simp [*];done)),H',⟨by first|omega|exact Nat.le_refl _⟩,⟨by (with_reducible repeat (first|refine blk_drewN ?_ _|refine blk_drew ?_|refine blk_alloc ?_ _));exact BK246.out⟩,⟨by repeat (first|(with_reducible first|exact HB.out|apply below_alloc|apply pw_below_drewN|apply below_drew1|refine below_set ?_ GE246.out)|exact HB.out)⟩⟩
  ·rw [if_neg c4] at H
   have c4b0 : decide (6 < (l0_1.length : Int)) = false := decide_eq_false c4
   have c4b1 : decide (6 < l0_1.length) = false := decide_eq_false (by omega)
   clear c4
   (first|rw [c4b0]|(simp only [i64_w,i32_w];rw [c4b0])|skip)
   by_cases c6 : (l0_2.length : Int) > 200
   ·rw [if_pos c6] at H
    have c6b0 : decide (200 < (l0_2.length : Int)) = true := decide_eq_true c6
    have c6b1 : decide (200 < l0_2.length) = true := decide_eq_true (by omega)
    clear c6
    have H' := Aside0.mk H
    clear H
    have hcz7_0 : w3.cell? ⟨gb246,0,none⟩ = some (.bool a0_0) := (blk_cell BK246.out 0).trans rfl
    have hcz7_1 : w3.cell? ⟨gb246,1,none⟩ = some (.slice A0_1 l0_1.length c0_1) := (blk_cell BK246.out 1).trans rfl
    have hcz7_2 : w3.cell? ⟨gb246,2,none⟩ = some (.slice A0_2 l0_2.length c0_2) := (blk_cell BK246.out 2).trans rfl
    have hcz7_3 : w3.cell? ⟨gb246,3,none⟩ = some (.slice A0_3 l0_3.length c0_3) := (blk_cell BK246.out 3).trans rfl
    have hfz7_0 := blk_frozen BK246.out 0
    have hfz7_1 := blk_frozen BK246.out 1
    have hfz7_2 := blk_frozen BK246.out 2
    have hfz7_3 := blk_frozen BK246.out 3
    go_wp2
    go_meet
    case rel => exact ⟨_,(true),(by first|rfl|(simp;done)|(simp [*];done)),H',⟨by first|omega|exact Nat.le_refl _⟩,⟨by (with_reducible repeat (first|refine blk_drewN ?_ _|refine blk_drew ?_|refine blk_alloc ?_ _));exact BK246.out⟩,⟨by repeat (first|(with_reducible first|exact HB.out|apply below_alloc|apply pw_below_drewN|apply below_drew1|refine below_set ?_ GE246.out)|exact HB.out)⟩⟩
   ·rw [if_neg c6] at H
    have c6b0 : decide (200 < (l0_2.length : Int)) = false := decide_eq_false c6
    have c6b1 : decide (200 < l0_2.length) = false := decide_eq_false (by omega)
    clear c6
    by_cases c8 : (l0_3.length : Int) > 60
    ·rw [if_pos c8] at H
     have c8b0 : decide (60 < (l0_3.length : Int)) = true := decide_eq_true c8
     have c8b1 : decide (60 < l0_3.length) = true := decide_eq_true (by omega)
     clear c8
     have H' := Aside0.mk H
     clear H
     have hcz9_0 : w3.cell? ⟨gb246,0,none⟩ = some (.bool a0_0) := (blk_cell BK246.out 0).trans rfl
     have hcz9_1 : w3.cell? ⟨gb246,1,none⟩ = some (.slice A0_1 l0_1.length c0_1) := (blk_cell BK246.out 1).trans rfl
     have hcz9_2 : w3.cell? ⟨gb246,2,none⟩ = some (.slice A0_2 l0_2.length c0_2) := (blk_cell BK246.out 2).trans rfl
     have hcz9_3 : w3.cell? ⟨gb246,3,none⟩ = some (.slice A0_3 l0_3.length c0_3) := (blk_cell BK246.out 3).trans rfl
     have hfz9_0 := blk_frozen BK246.out 0
     have hfz9_1 := blk_frozen BK246.out 1
     have hfz9_2 := blk_frozen BK246.out 2
     have hfz9_3 := blk_frozen BK246.out 3
     go_wp2
     go_meet
     case rel => exact ⟨_,(true),(by first|rfl|(simp;done)|(simp [*];done)),H',⟨by first|omega|exact Nat.le_refl _⟩,⟨by (with_reducible repeat (first|refine blk_drewN ?_ _|refine blk_drew ?_|refine blk_alloc ?_ _));exact BK246.out⟩,⟨by repeat (first|(with_reducible first|exact HB.out|apply below_alloc|apply pw_below_drewN|apply below_drew1|refine below_set ?_ GE246.out)|exact HB.out)⟩⟩
    ·rw [if_neg c8] at H
     have c8b0 : decide (60 < (l0_3.length : Int)) = false := decide_eq_false c8
     have c8b1 : decide (60 < l0_3.length) = false := decide_eq_false (by omega)
     clear c8
     replace H := Option.bind_eq_some_iff.mp H
     obtain ⟨t247,A100,H⟩ := H
     replace H : (spec_MachineOk.j0 k (!t247) a0_0 l0_1 l0_2 l0_3) = some r := H
     have A10 := Aside0.mk A100
     clear A100
     have H' := Aside0.mk H
     clear H
     have hcz11_0 : w3.cell? ⟨gb246,0,none⟩ = some (.bool a0_0) := (blk_cell BK246.out 0).trans rfl
     have hcz11_1 : w3.cell? ⟨gb246,1,none⟩ = some (.slice A0_1 l0_1.length c0_1) := (blk_cell BK246.out 1).trans rfl
     have hcz11_2 : w3.cell? ⟨gb246,2,none⟩ = some (.slice A0_2 l0_2.length c0_2) := (blk_cell BK246.out 2).trans rfl
     have hcz11_3 : w3.cell? ⟨gb246,3,none⟩ = some (.slice A0_3 l0_3.length c0_3) := (blk_cell BK246.out 3).trans rfl
     have hfz11_0 := blk_frozen BK246.out 0
     have hfz11_1 := blk_frozen BK246.out 1
     have hfz11_2 := blk_frozen BK246.out 2
     have hfz11_3 := blk_frozen BK246.out 3
     go_wp2_with (first|(go_at_call 46;(with_reducible refine (spec_l6Rises.calls k _ _ l0_3 t247 _ ?side1 ?side2 A10.out).mono ?_);(case side1 => repeat (first|exact (Kd.C_below HR0_3.out HB.out)|(with_reducible refine Kd.C_alloc ?_ _)|(with_reducible refine Kd.C_drewN ?_ _)|(with_reducible refine Kd.C_drew ?_)));(case side2 => exact HC0_3.out);rintro e w12 ⟨rfl,hb⟩;have n0_ := Aside0.mk (blk_below (g := gb246) (o := .cells #[.bool a0_0,.slice A0_1 l0_1.length c0_1,.slice A0_2 l0_2.length c0_2,.slice A0_3 l0_3.length c0_3] 32 (0,0)) (by (with_reducible repeat (first|refine blk_drewN ?_ _|refine blk_drew ?_|refine blk_alloc ?_ _));exact BK246.out) hb);have n1_ := Aside0.mk (below_step (by repeat (first|(with_reducible first|exact HB.out|apply below_alloc|apply pw_below_drewN|apply below_drew1|refine below_set ?_ GE246.out)|exact HB.out)) hb);clear BK246;clear HB;have BK246 := n0_;have HB := n1_;clear n0_ n1_;(try clear hb);(try clear hb2);(try clear hk);(try clear hi)))
     go_meet
     case rel => exact ⟨_,(!t247),(by first|rfl|(simp;done)|(simp [*];done)),H',⟨by first|omega|exact Nat.le_refl _⟩,⟨by (with_reducible repeat (first|refine blk_drewN ?_ _|refine blk_drew ?_|refine blk_alloc ?_ _));exact BK246.out⟩,⟨by repeat (first|(with_reducible first|exact HB.out|apply below_alloc|apply pw_below_drewN|apply below_drew1|refine below_set ?_ GE246.out)|exact HB.out)⟩⟩
 case rest =>
  clear HC2
  try clear c1
  try clear p2
  try clear c4
  try clear c4b0
  try clear c4b1
  try clear c6
  try clear c6b0
  try clear c6b1
  try clear c8
  try clear c8b0
  try clear c8b1
  try clear c11
  try clear hcz11_0
  try clear hcz11_1
  try clear hcz11_2
  try clear hcz11_3
  try clear hcz5_0
  try clear hcz5_1
  try clear hcz5_2
  try clear hcz5_3
  try clear hcz7_0
  try clear hcz7_1
  try clear hcz7_2
  try clear hcz7_3
  try clear hcz9_0
  try clear hcz9_1
  try clear hcz9_2
  try clear hcz9_3
  try clear hfz11_0
  try clear hfz11_1
  try clear hfz11_2
  try clear hfz11_3
  try clear hfz5_0
  try clear hfz5_1
  try clear hfz5_2
  try clear hfz5_3
  try clear hfz7_0
  try clear hfz7_1
  try clear hfz7_2
  try clear hfz7_3
  try clear hfz9_0
  try clear hfz9_1
  try clear hfz9_2
  try clear hfz9_3
  obtain ⟨kq,x26_1,rfl,HA,HJ1,BK246,HB⟩ := hcut
  cases kq with
    | zero => exact absurd HA.out (by simp [spec_MachineOk.j0])
    | succ kj1 =>
   have H := HA.out
   clear HA
   simp only [spec_MachineOk.j0] at H
   by_cases c13 : x26_1 = true
   ·subst c13
    have H1 : (some false) = some r := by rw [if_pos rfl] at H;exact H
    clear H
    have H := H1
    clear H1
    obtain rfl := Option.some.inj H
    go_wp2
    go_ret
    exact ⟨by first|rfl|(simp [errW_none,errW_some] <;> rfl)|(simp [*,errW_none,errW_some] <;> rfl),by repeat (first|(with_reducible first|exact HB.out|apply below_alloc|apply pw_below_drewN|apply below_drew1|refine below_set ?_ GE246.out)|exact HB.out)⟩
   ·replace c13 := Bool.eq_false_iff.mpr c13
    subst c13
    have H1 : (spec_MachineOk.l0 kj1 0 a0_0 l0_1 l0_2 l0_3) = some r := by rw [if_neg (show ¬ (false = true) by decide)] at H;exact H
    clear H
    have H := H1
    clear H1
    have H' := Aside0.mk H
    clear H
    go_wp2
    go_loopg [3] kj1 (fun kq v3 w' => ∃ (x3_2 : Int),v3 = .int .i64 x3_2 ∧ Aside0 (spec_MachineOk.l0 kq x3_2 a0_0 l0_1 l0_2 l0_3 = some r) ∧ Aside0 (kq ≤ kj1) ∧ Aside0 (w'.heap[gb246]? = some (.cells #[.bool a0_0,(.slice A0_1 l0_1.length c0_1),(.slice A0_2 l0_2.length c0_2),(.slice A0_3 l0_3.length c0_3)] 32 (0,0))) ∧ Aside0 (Below w.heap.size w w'))
    case atStart => exact ⟨(0),(by first|rfl|(simp;done)|(simp [*];done)),H',⟨Nat.le_refl _⟩,⟨by (with_reducible repeat (first|refine blk_drewN ?_ _|refine blk_drew ?_|refine blk_alloc ?_ _));exact BK246.out⟩,⟨by repeat (first|(with_reducible first|exact HB.out|apply below_alloc|apply pw_below_drewN|apply below_drew1|refine below_set ?_ GE246.out)|exact HB.out)⟩⟩
    case round =>
     clear H'
     try clear c1
     try clear p2
     try clear c4
     try clear c4b0
     try clear c4b1
     try clear c6
     try clear c6b0
     try clear c6b1
     try clear c8
     try clear c8b0
     try clear c8b1
     try clear c11
     try clear c13
     try clear hcz11_0
     try clear hcz11_1
     try clear hcz11_2
     try clear hcz11_3
     try clear hcz5_0
     try clear hcz5_1
     try clear hcz5_2
     try clear hcz5_3
     try clear hcz7_0
     try clear hcz7_1
     try clear hcz7_2
     try clear hcz7_3
     try clear hcz9_0
     try clear hcz9_1
     try clear hcz9_2
     try clear hcz9_3
     try clear hfz11_0
     try clear hfz11_1
     try clear hfz11_2
     try clear hfz11_3
     try clear hfz5_0
     try clear hfz5_1
     try clear hfz5_2
     try clear hfz5_3
     try clear hfz7_0
     try clear hfz7_1
     try clear hfz7_2
     try clear hfz7_3
     try clear hfz9_0
     try clear hfz9_1
     try clear hfz9_2
     try clear hfz9_3
     try clear p2
     obtain ⟨x3_2,rfl,HA,HK2,BK246,HB⟩ := hrel
     cases gk with
     | zero => exact absurd HA.out (by simp [spec_MachineOk.l0])
     | succ k2 =>
      have H := HA.out
      clear HA
      simp only [spec_MachineOk.l0] at H
      by_cases c14 : x3_2 < (l0_1.length : Int)
      ·rw [if_pos c14] at H
       have c14b0 : decide (x3_2 < (l0_1.length : Int)) = true := decide_eq_true c14
       clear c14
       by_cases c15 : 0 ≤ x3_2
       ·rw [if_pos c15] at H
        have c15b0 : decide (0 ≤ x3_2) = true := decide_eq_true c15
        clear c15
        replace H := Option.bind_eq_some_iff.mp H
        obtain ⟨t249,A160,H⟩ := H
        replace H : (if t249 = true then ((spec_CellsOk.f k2 ((rd_T79 l0_1 x3_2).f1)).bind fun t251 => (if t251 = true then (if x3_2 > 0 then (if 0 ≤ (wrap64 (x3_2 - 1)) then (if (wrap64 (x3_2 - 1)) < (l0_1.length : Int) then (if ((rd_T79 l0_1 x3_2).f0) ≤ ((rd_T79 l0_1 (wrap64 (x3_2 - 1))).f0) then (some false) else (spec_MachineOk.l0 k2 (wrap64 (x3_2 + 1)) a0_0 l0_1 l0_2 l0_3)) else (none)) else (none)) else (spec_MachineOk.l0 k2 (wrap64 (x3_2 + 1)) a0_0 l0_1 l0_2 l0_3)) else (some false))) else (some false)) = some r := H
        have A16 := Aside0.mk A160
        clear A160
        by_cases c17 : t249 = true
        ·subst c17
         have H1 : ((spec_CellsOk.f k2 ((rd_T79 l0_1 x3_2).f1)).bind fun t251 => (if t251 = true then (if x3_2 > 0 then (if 0 ≤ (wrap64 (x3_2 - 1)) then (if (wrap64 (x3_2 - 1)) < (l0_1.length : Int) then (if ((rd_T79 l0_1 x3_2).f0) ≤ ((rd_T79 l0_1 (wrap64 (x3_2 - 1))).f0) then (some false) else (spec_MachineOk.l0 k2 (wrap64 (x3_2 + 1)) a0_0 l0_1 l0_2 l0_3)) else (none)) else (none)) else (spec_MachineOk.l0 k2 (wrap64 (x3_2 + 1)) a0_0 l0_1 l0_2 l0_3)) else (some false))) = some r := by rw [if_pos rfl] at H;exact H
         clear H
         have H := H1
         clear H1
         replace H := Option.bind_eq_some_iff.mp H
         obtain ⟨t251,A180,H⟩ := H
         replace H : (if t251 = true then (if x3_2 > 0 then (if 0 ≤ (wrap64 (x3_2 - 1)) then (if (wrap64 (x3_2 - 1)) < (l0_1.length : Int) then (if ((rd_T79 l0_1 x3_2).f0) ≤ ((rd_T79 l0_1 (wrap64 (x3_2 - 1))).f0) then (some false) else (spec_MachineOk.l0 k2 (wrap64 (x3_2 + 1)) a0_0 l0_1 l0_2 l0_3)) else (none)) else (none)) else (spec_MachineOk.l0 k2 (wrap64 (x3_2 + 1)) a0_0 l0_1 l0_2 l0_3)) else (some false)) = some r := H
         have A18 := Aside0.mk A180
         clear A180
         by_cases c19 : t251 = true
         ·subst c19
          have H1 : (if x3_2 > 0 then (if 0 ≤ (wrap64 (x3_2 - 1)) then (if (wrap64 (x3_2 - 1)) < (l0_1.length : Int) then (if ((rd_T79 l0_1 x3_2).f0) ≤ ((rd_T79 l0_1 (wrap64 (x3_2 - 1))).f0) then (some false) else (spec_MachineOk.l0 k2 (wrap64 (x3_2 + 1)) a0_0 l0_1 l0_2 l0_3)) else (none)) else (none)) else (spec_MachineOk.l0 k2 (wrap64 (x3_2 + 1)) a0_0 l0_1 l0_2 l0_3)) = some r := by rw [if_pos rfl] at H;exact H
          clear H
          have H := H1
          clear H1
          by_cases c20 : x3_2 > 0
          ·rw [if_pos c20] at H
           have c20b0 : decide (0 < x3_2) = true := decide_eq_true c20
           clear c20
           obtain ⟨ji21,hji21⟩ : ∃ j_ : Int,(wrap64 (x3_2 - 1)) = j_ := ⟨_,rfl⟩
           replace H : (if 0 ≤ (ji21) then (if (ji21) < (l0_1.length : Int) then (if ((rd_T79 l0_1 x3_2).f0) ≤ ((rd_T79 l0_1 (ji21)).f0) then (some false) else (spec_MachineOk.l0 k2 (wrap64 (x3_2 + 1)) a0_0 l0_1 l0_2 l0_3)) else (none)) else (none)) = some r := by first|(rw [hji21] at H;exact H)|(simp only [hji21] at H ⊢;exact H)
           (try rw [hji21] at A16)
           (try rw [hji21] at A18)
           have hji21w : (IntKind.i64.wrap (x3_2 - 1)) = ji21 := (i64_w _).trans hji21
           by_cases c22 : 0 ≤ (ji21)
           ·rw [if_pos c22] at H
            have c22b0 : decide (0 ≤ (ji21)) = true := decide_eq_true c22
            clear c22
            by_cases c23 : (ji21) < (l0_1.length : Int)
            ·rw [if_pos c23] at H
             have c23b0 : decide ((ji21) < (l0_1.length : Int)) = true := decide_eq_true c23
             clear c23
             by_cases c24 : ((rd_T79 l0_1 x3_2).f0) ≤ ((rd_T79 l0_1 (ji21)).f0)
             ·rw [if_pos c24] at H
              have c24b0 : decide (((rd_T79 l0_1 x3_2).f0) ≤ ((rd_T79 l0_1 (ji21)).f0)) = true := decide_eq_true c24
              clear c24
              obtain rfl := Option.some.inj H
              have hcz25_0 : wr.cell? ⟨gb246,0,none⟩ = some (.bool a0_0) := (blk_cell BK246.out 0).trans rfl
              have hcz25_1 : wr.cell? ⟨gb246,1,none⟩ = some (.slice A0_1 l0_1.length c0_1) := (blk_cell BK246.out 1).trans rfl
              have hcz25_2 : wr.cell? ⟨gb246,2,none⟩ = some (.slice A0_2 l0_2.length c0_2) := (blk_cell BK246.out 2).trans rfl
              have hcz25_3 : wr.cell? ⟨gb246,3,none⟩ = some (.slice A0_3 l0_3.length c0_3) := (blk_cell BK246.out 3).trans rfl
              have hfz25_0 := blk_frozen BK246.out 0
              have hfz25_1 := blk_frozen BK246.out 1
              have hfz25_2 := blk_frozen BK246.out 2
              have hfz25_3 := blk_frozen BK246.out 3
              try go_wp2
              have n0_ := Aside0.mk (blk_drew BK246.out)
              have n1_ := Aside0.mk (below_drew1 HB.out)
              clear BK246
              clear HB
              have BK246 := n0_
              have HB := n1_
              clear n0_ n1_
              have p248 : 0 ≤ (x3_2 : Int) := of_decide_eq_true (by first|(with_reducible assumption)|assumption)
              have q248 : x3_2 < (l0_1.length : Int) := of_decide_eq_true (by first|(with_reducible assumption)|assumption)
              obtain ⟨ad248,A248_1,c248_1,e248,hx248_0,hx248_1,hl248_1,hi248_1⟩ := at_T79 HR0_1.out x3_2 p248 q248
              have hw248_1 := hx248_1
              have hw248_0 := hx248_0
              cases e248
              replace hx248_0 := (HB.out.cell (World.block_lt_of_cell? w _ hx248_0)).trans hx248_0
              replace hx248_1 := (HB.out.cell (World.block_lt_of_cell? w _ hx248_1)).trans hx248_1
              have HR248_1 := Aside0.mk hi248_1
              have HC248_1 := Aside0.mk hl248_1
              clear hi248_1 hl248_1
              replace p248 := eq_true p248
              replace q248 := eq_true q248
              have p250 : 0 ≤ (x3_2 : Int) := of_decide_eq_true (by first|(with_reducible assumption)|assumption)
              have q250 : x3_2 < (l0_1.length : Int) := of_decide_eq_true (by first|(with_reducible assumption)|assumption)
              obtain ⟨ad250,A250_1,c250_1,e250,hx250_0,hx250_1,hl250_1,hi250_1⟩ := at_T79 HR0_1.out x3_2 p250 q250
              have hw250_1 := hx250_1
              have hw250_0 := hx250_0
              obtain rfl : ad248 = ad250 := (by injection e250)
              replace hx250_0 := (HB.out.cell (World.block_lt_of_cell? w _ hx250_0)).trans hx250_0
              replace hx250_1 := (HB.out.cell (World.block_lt_of_cell? w _ hx250_1)).trans hx250_1
              have HR250_1 := Aside0.mk hi250_1
              have HC250_1 := Aside0.mk hl250_1
              clear hi250_1 hl250_1
              replace p250 := eq_true p250
              replace q250 := eq_true q250
              have ea_ := Option.some.inj (hx248_1.symm.trans hx250_1)
              injection ea_ with ea_ en_ ec_
              subst ea_
              subst ec_
              clear en_
              have p252 : 0 ≤ (x3_2 : Int) := of_decide_eq_true (by first|(with_reducible assumption)|assumption)
              have q252 : x3_2 < (l0_1.length : Int) := of_decide_eq_true (by first|(with_reducible assumption)|assumption)
              obtain ⟨ad252,A252_1,c252_1,e252,hx252_0,hx252_1,hl252_1,hi252_1⟩ := at_T79 HR0_1.out x3_2 p252 q252
              have hw252_1 := hx252_1
              have hw252_0 := hx252_0
              obtain rfl : ad248 = ad252 := (by injection e252)
              replace hx252_0 := (HB.out.cell (World.block_lt_of_cell? w _ hx252_0)).trans hx252_0
              replace hx252_1 := (HB.out.cell (World.block_lt_of_cell? w _ hx252_1)).trans hx252_1
              have HR252_1 := Aside0.mk hi252_1
              have HC252_1 := Aside0.mk hl252_1
              clear hi252_1 hl252_1
              replace p252 := eq_true p252
              replace q252 := eq_true q252
              have p253 : 0 ≤ ((ji21) : Int) := of_decide_eq_true (by first|(with_reducible assumption)|assumption)
              have q253 : (ji21) < (l0_1.length : Int) := of_decide_eq_true (by first|(with_reducible assumption)|assumption)
              obtain ⟨ad253,A253_1,c253_1,e253,hx253_0,hx253_1,hl253_1,hi253_1⟩ := at_T79 HR0_1.out (ji21) p253 q253
              have hw253_1 := hx253_1
              have hw253_0 := hx253_0
              obtain rfl : ad248 = ad253 := (by injection e253)
              replace hx253_0 := (HB.out.cell (World.block_lt_of_cell? w _ hx253_0)).trans hx253_0
              replace hx253_1 := (HB.out.cell (World.block_lt_of_cell? w _ hx253_1)).trans hx253_1
              have HR253_1 := Aside0.mk hi253_1
              have HC253_1 := Aside0.mk hl253_1
              clear hi253_1 hl253_1
              replace p253 := eq_true p253
              replace q253 := eq_true q253
              refine start_ (n := 38) (S := fun w' => w'.cell? ⟨gb246,0,none⟩ = some (.bool a0_0) ∧ w'.cell? ⟨gb246,1,none⟩ = some (.slice (some ad248) l0_1.length c0_1) ∧ w'.cell? ⟨gb246,2,none⟩ = some (.slice A0_2 l0_2.length c0_2) ∧ w'.cell? ⟨gb246,3,none⟩ = some (.slice A0_3 l0_3.length c0_3) ∧ w'.cell? (ad248.add ((x3_2).toNat * 2)) = some (.int .i64 ((rd_T79 l0_1 x3_2).f0)) ∧ w'.cell? ⟨(ad248.add ((x3_2).toNat * 2)).block,(ad248.add ((x3_2).toNat * 2)).off + 1,none⟩ = some (.slice A248_1 ((rd_T79 l0_1 x3_2).f1).length c248_1) ∧ w'.cell? (ad248.add ((x3_2).toNat * 2)) = some (.int .i64 ((rd_T79 l0_1 x3_2).f0)) ∧ w'.cell? ⟨(ad248.add ((x3_2).toNat * 2)).block,(ad248.add ((x3_2).toNat * 2)).off + 1,none⟩ = some (.slice A248_1 ((rd_T79 l0_1 x3_2).f1).length c248_1) ∧ w'.cell? (ad248.add ((x3_2).toNat * 2)) = some (.int .i64 ((rd_T79 l0_1 x3_2).f0)) ∧ w'.cell? ⟨(ad248.add ((x3_2).toNat * 2)).block,(ad248.add ((x3_2).toNat * 2)).off + 1,none⟩ = some (.slice A252_1 ((rd_T79 l0_1 x3_2).f1).length c252_1) ∧ w'.cell? (ad248.add (((ji21)).toNat * 2)) = some (.int .i64 ((rd_T79 l0_1 (ji21)).f0)) ∧ w'.cell? ⟨(ad248.add (((ji21)).toNat * 2)).block,(ad248.add (((ji21)).toNat * 2)).off + 1,none⟩ = some (.slice A253_1 ((rd_T79 l0_1 (ji21)).f1).length c253_1)) (ds := []) #[false,false,false,false,false,false,false,false,false,false,false,false,false,false,false,false,false,false,false,false,false,false,false,false,false,false,false,false,false,false,false,false,false,false,false,false,false,false] (by kernel_rfl) rfl rfl ⟨(blk_cell BK246.out 0).trans rfl,(blk_cell BK246.out 1).trans rfl,(blk_cell BK246.out 2).trans rfl,(blk_cell BK246.out 3).trans rfl,((HB.out.cell (World.block_lt_of_cell? w _ hw248_0)).trans hw248_0),((HB.out.cell (World.block_lt_of_cell? w _ hw248_1)).trans hw248_1),((HB.out.cell (World.block_lt_of_cell? w _ hw250_0)).trans hw250_0),((HB.out.cell (World.block_lt_of_cell? w _ hw250_1)).trans hw250_1),((HB.out.cell (World.block_lt_of_cell? w _ hw252_0)).trans hw252_0),((HB.out.cell (World.block_lt_of_cell? w _ hw252_1)).trans hw252_1),((HB.out.cell (World.block_lt_of_cell? w _ hw253_0)).trans hw253_0),((HB.out.cell (World.block_lt_of_cell? w _ hw253_1)).trans hw253_1)⟩ (fun hHeld => ?_);refine with_tabW spec_MachineOk.tab6 spec_MachineOk.bits6 (fun HT_ HW_ => ?_)
              generalize wr.drew = w26 at BK246 HB HR248_1 HR250_1 HR252_1 HR253_1 hx248_0 hx248_1 hx250_0 hx250_1 hx252_0 hx252_1 hx253_0 hx253_1 hHeld ⊢
              refine pw_ 0 (some 34) HT_.out ?_
              refine pw_ 2 (some 36) HT_.out ?_
              refine tw_ 1 (some 35) HT_.out HW_.out hHeld rfl rfl (by rintro w' ⟨s0,s1,s2,s3,s4,s5,s6,s7,s8,s9,s10,s11⟩;go_simp;with_reducible rfl) ?_
              refine pw_ 3 (some 37) HT_.out ?_
              refine pw_ 4 (some 38) HT_.out ?_
              refine tw_ 5 (some 39) HT_.out HW_.out hHeld rfl rfl (by rintro w' ⟨s0,s1,s2,s3,s4,s5,s6,s7,s8,s9,s10,s11⟩;go_simp;with_reducible rfl) ?_
              refine oz_ (i := 6) (N := some 40) HT_.out rfl rfl (by kernel_rfl) (by decide) (fun K hK => ?_)
              refine goes_ Try.func47 (by kernel_rfl) rfl #[.int .i64 ((rd_T79 l0_1 x3_2).f0)] (by rfl) rfl rfl (by (try simp only [List.map_toArray,List.map_cons,List.map_nil]);first|done|rfl|(simp only [List.length_drop,List.length_take];rfl)) ?_
              with_reducible refine (spec_l1Region.calls ((rd_T79 l0_1 x3_2).f0) true _ A16.out).mono ?_
              rintro e w' ⟨rfl,⟨nd,rfl⟩⟩
              refine ⟨_,rfl,?_⟩
              refine hK.out _ _ ⟨(blk_cell BK246.out 0).trans rfl,(blk_cell BK246.out 1).trans rfl,(blk_cell BK246.out 2).trans rfl,(blk_cell BK246.out 3).trans rfl,((HB.out.cell (World.block_lt_of_cell? w _ hw248_0)).trans hw248_0),((HB.out.cell (World.block_lt_of_cell? w _ hw248_1)).trans hw248_1),((HB.out.cell (World.block_lt_of_cell? w _ hw250_0)).trans hw250_0),((HB.out.cell (World.block_lt_of_cell? w _ hw250_1)).trans hw250_1),((HB.out.cell (World.block_lt_of_cell? w _ hw252_0)).trans hw252_0),((HB.out.cell (World.block_lt_of_cell? w _ hw252_1)).trans hw252_1),((HB.out.cell (World.block_lt_of_cell? w _ hw253_0)).trans hw253_0),((HB.out.cell (World.block_lt_of_cell? w _ hw253_1)).trans hw253_1)⟩ (fun hHeld => ?_)
              clear hK K
              refine norm_ (a' := ?_) ?_ ?_
              rotate_left
              ·show Act.put _ (some 40) _ = _
               simp only [Act.put,q1,q2,q3,i64_w,i32_w]
               rfl
              refine pw_ 7 (some 41) HT_.out ?_
              refine pw_ 8 (some 42) HT_.out ?_
              refine pw_ 9 (some 43) HT_.out ?_
              refine pw_ 11 (some 45) HT_.out ?_
              refine tw_ 10 (some 44) HT_.out HW_.out hHeld rfl rfl (by rintro w' ⟨s0,s1,s2,s3,s4,s5,s6,s7,s8,s9,s10,s11⟩;go_simp;with_reducible rfl) ?_
              refine pw_ 12 (some 46) HT_.out ?_
              refine pw_ 13 (some 47) HT_.out ?_
              refine tw_ 14 (some 48) HT_.out HW_.out hHeld rfl rfl (by rintro w' ⟨s0,s1,s2,s3,s4,s5,s6,s7,s8,s9,s10,s11⟩;go_simp;with_reducible rfl) ?_
              refine oz_ (i := 15) (N := some 49) HT_.out rfl rfl (by kernel_rfl) (by decide) (fun K hK => ?_)
              refine goes_ Try.func48 (by kernel_rfl) rfl #[.slice A248_1 ((rd_T79 l0_1 x3_2).f1).length c248_1] (by rfl) rfl rfl (by (try simp only [List.map_toArray,List.map_cons,List.map_nil]);first|done|rfl|(simp only [List.length_drop,List.length_take];rfl)) ?_
              with_reducible refine (spec_CellsOk.calls k2 _ _ ((rd_T79 l0_1 x3_2).f1) true _ ?side1 ?side2 A18.out).mono ?_
              (case side1 => repeat (first|exact (Kd.C_below HR250_1.out (by repeat (first|(with_reducible first|exact HB.out|apply below_alloc|apply pw_below_drewN|apply below_drew1|refine below_set ?_ GE246.out)|exact HB.out)))|(with_reducible refine Kd.C_alloc ?_ _)|(with_reducible refine Kd.C_drewN ?_ _)|(with_reducible refine Kd.C_drew ?_)))
              (case side2 => exact HC250_1.out)
              rintro e w27 ⟨rfl,hb⟩
              refine ⟨_,rfl,?_⟩
              have n0_ := Aside0.mk (blk_below (g := gb246) (o := .cells #[.bool a0_0,.slice (some ad248) l0_1.length c0_1,.slice A0_2 l0_2.length c0_2,.slice A0_3 l0_3.length c0_3] 32 (0,0)) (by (with_reducible repeat (first|refine blk_drewN ?_ _|refine blk_drew ?_|refine blk_alloc ?_ _));exact BK246.out) hb)
              have n1_ := Aside0.mk (below_step (by repeat (first|(with_reducible first|exact HB.out|apply below_alloc|apply pw_below_drewN|apply below_drew1|refine below_set ?_ GE246.out)|exact HB.out)) hb)
              clear BK246
              clear HB
              have BK246 := n0_
              have HB := n1_
              clear n0_ n1_
              (try clear hb)
              (try clear hb2)
              (try clear hk)
              (try clear hi)
              refine hK.out _ _ ⟨(blk_cell BK246.out 0).trans rfl,(blk_cell BK246.out 1).trans rfl,(blk_cell BK246.out 2).trans rfl,(blk_cell BK246.out 3).trans rfl,((HB.out.cell (World.block_lt_of_cell? w _ hw248_0)).trans hw248_0),((HB.out.cell (World.block_lt_of_cell? w _ hw248_1)).trans hw248_1),((HB.out.cell (World.block_lt_of_cell? w _ hw250_0)).trans hw250_0),((HB.out.cell (World.block_lt_of_cell? w _ hw250_1)).trans hw250_1),((HB.out.cell (World.block_lt_of_cell? w _ hw252_0)).trans hw252_0),((HB.out.cell (World.block_lt_of_cell? w _ hw252_1)).trans hw252_1),((HB.out.cell (World.block_lt_of_cell? w _ hw253_0)).trans hw253_0),((HB.out.cell (World.block_lt_of_cell? w _ hw253_1)).trans hw253_1)⟩ (fun hHeld => ?_)
              clear hK K
              refine norm_ (a' := ?_) ?_ ?_
              rotate_left
              ·show Act.put _ (some 49) _ = _
               simp only [Act.put,q1,q2,q3,i64_w,i32_w]
               rfl
              refine pw_ 16 (some 50) HT_.out ?_
              refine pw_ 17 (some 51) HT_.out ?_
              refine pw_ 18 (some 52) HT_.out ?_
              refine pw_ 19 (some 53) HT_.out ?_
              refine pw_ 20 (some 54) HT_.out ?_
              refine pw_ 21 (some 55) HT_.out ?_
              refine pw_ 22 (some 56) HT_.out ?_
              refine pw_ 24 (some 58) HT_.out ?_
              refine pw_ 28 (some 62) HT_.out ?_
              refine pw_ 30 (some 64) HT_.out ?_
              refine pw_ 31 (some 65) HT_.out ?_
              refine tw_ 23 (some 57) HT_.out HW_.out hHeld rfl rfl (by rintro w' ⟨s0,s1,s2,s3,s4,s5,s6,s7,s8,s9,s10,s11⟩;go_simp;with_reducible rfl) ?_
              refine pw_ 25 (some 59) HT_.out ?_
              refine pw_ 26 (some 60) HT_.out ?_
              refine tw_ 27 (some 61) HT_.out HW_.out hHeld rfl rfl (by rintro w' ⟨s0,s1,s2,s3,s4,s5,s6,s7,s8,s9,s10,s11⟩;go_simp;with_reducible rfl) ?_
              refine tw_ 29 (some 63) HT_.out HW_.out hHeld rfl rfl (by rintro w' ⟨s0,s1,s2,s3,s4,s5,s6,s7,s8,s9,s10,s11⟩;go_simp;with_reducible rfl) ?_
              refine pw_ 32 (some 66) HT_.out ?_
              refine pw_ 33 (some 67) HT_.out ?_
              refine tw_ 34 (some 68) HT_.out HW_.out hHeld rfl rfl (by rintro w' ⟨s0,s1,s2,s3,s4,s5,s6,s7,s8,s9,s10,s11⟩;go_simp;with_reducible rfl) ?_
              refine pw_ 35 (some 69) HT_.out ?_
              refine pw_ 36 (some 70) HT_.out ?_
              refine pw_ 37 (some 71) HT_.out ?_
              refine done_ (done_of HT_.out (by kernel_rfl)) ?_
              try go_wp2
              go_ret
              exact ⟨by first|rfl|(simp [errW_none,errW_some] <;> rfl)|(simp only [← hji21];first|rfl|(simp [errW_none,errW_some] <;> rfl))|(simp [*,errW_none,errW_some] <;> rfl),by repeat (first|(with_reducible first|exact HB.out|apply below_alloc|apply pw_below_drewN|apply below_drew1|refine below_set ?_ GE246.out)|exact HB.out)⟩
             ·rw [if_neg c24] at H
              have c24b0 : decide (((rd_T79 l0_1 x3_2).f0) ≤ ((rd_T79 l0_1 (ji21)).f0)) = false := decide_eq_false c24
              clear c24
              have H' := Aside0.mk H
              clear H
              have hcz28_0 : wr.cell? ⟨gb246,0,none⟩ = some (.bool a0_0) := (blk_cell BK246.out 0).trans rfl
              have hcz28_1 : wr.cell? ⟨gb246,1,none⟩ = some (.slice A0_1 l0_1.length c0_1) := (blk_cell BK246.out 1).trans rfl
              have hcz28_2 : wr.cell? ⟨gb246,2,none⟩ = some (.slice A0_2 l0_2.length c0_2) := (blk_cell BK246.out 2).trans rfl
              have hcz28_3 : wr.cell? ⟨gb246,3,none⟩ = some (.slice A0_3 l0_3.length c0_3) := (blk_cell BK246.out 3).trans rfl
              have hfz28_0 := blk_frozen BK246.out 0
              have hfz28_1 := blk_frozen BK246.out 1
              have hfz28_2 := blk_frozen BK246.out 2
              have hfz28_3 := blk_frozen BK246.out 3
              try go_wp2
              have n0_ := Aside0.mk (blk_drew BK246.out)
              have n1_ := Aside0.mk (below_drew1 HB.out)
              clear BK246
              clear HB
              have BK246 := n0_
              have HB := n1_
              clear n0_ n1_
              have p248 : 0 ≤ (x3_2 : Int) := of_decide_eq_true (by first|(with_reducible assumption)|assumption)
              have q248 : x3_2 < (l0_1.length : Int) := of_decide_eq_true (by first|(with_reducible assumption)|assumption)
              obtain ⟨ad248,A248_1,c248_1,e248,hx248_0,hx248_1,hl248_1,hi248_1⟩ := at_T79 HR0_1.out x3_2 p248 q248
              have hw248_1 := hx248_1
              have hw248_0 := hx248_0
              cases e248
              replace hx248_0 := (HB.out.cell (World.block_lt_of_cell? w _ hx248_0)).trans hx248_0
              replace hx248_1 := (HB.out.cell (World.block_lt_of_cell? w _ hx248_1)).trans hx248_1
              have HR248_1 := Aside0.mk hi248_1
              have HC248_1 := Aside0.mk hl248_1
              clear hi248_1 hl248_1
              replace p248 := eq_true p248
              replace q248 := eq_true q248
              have p250 : 0 ≤ (x3_2 : Int) := of_decide_eq_true (by first|(with_reducible assumption)|assumption)
              have q250 : x3_2 < (l0_1.length : Int) := of_decide_eq_true (by first|(with_reducible assumption)|assumption)
              obtain ⟨ad250,A250_1,c250_1,e250,hx250_0,hx250_1,hl250_1,hi250_1⟩ := at_T79 HR0_1.out x3_2 p250 q250
              have hw250_1 := hx250_1
              have hw250_0 := hx250_0
              obtain rfl : ad248 = ad250 := (by injection e250)
              replace hx250_0 := (HB.out.cell (World.block_lt_of_cell? w _ hx250_0)).trans hx250_0
              replace hx250_1 := (HB.out.cell (World.block_lt_of_cell? w _ hx250_1)).trans hx250_1
              have HR250_1 := Aside0.mk hi250_1
              have HC250_1 := Aside0.mk hl250_1
              clear hi250_1 hl250_1
              replace p250 := eq_true p250
              replace q250 := eq_true q250
              have ea_ := Option.some.inj (hx248_1.symm.trans hx250_1)
              injection ea_ with ea_ en_ ec_
              subst ea_
              subst ec_
              clear en_
              have p252 : 0 ≤ (x3_2 : Int) := of_decide_eq_true (by first|(with_reducible assumption)|assumption)
              have q252 : x3_2 < (l0_1.length : Int) := of_decide_eq_true (by first|(with_reducible assumption)|assumption)
              obtain ⟨ad252,A252_1,c252_1,e252,hx252_0,hx252_1,hl252_1,hi252_1⟩ := at_T79 HR0_1.out x3_2 p252 q252
              have hw252_1 := hx252_1
              have hw252_0 := hx252_0
              obtain rfl : ad248 = ad252 := (by injection e252)
              replace hx252_0 := (HB.out.cell (World.block_lt_of_cell? w _ hx252_0)).trans hx252_0
              replace hx252_1 := (HB.out.cell (World.block_lt_of_cell? w _ hx252_1)).trans hx252_1
              have HR252_1 := Aside0.mk hi252_1
              have HC252_1 := Aside0.mk hl252_1
              clear hi252_1 hl252_1
              replace p252 := eq_true p252
              replace q252 := eq_true q252
              have p253 : 0 ≤ ((ji21) : Int) := of_decide_eq_true (by first|(with_reducible assumption)|assumption)
              have q253 : (ji21) < (l0_1.length : Int) := of_decide_eq_true (by first|(with_reducible assumption)|assumption)
              obtain ⟨ad253,A253_1,c253_1,e253,hx253_0,hx253_1,hl253_1,hi253_1⟩ := at_T79 HR0_1.out (ji21) p253 q253
              have hw253_1 := hx253_1
              have hw253_0 := hx253_0
              obtain rfl : ad248 = ad253 := (by injection e253)
              replace hx253_0 := (HB.out.cell (World.block_lt_of_cell? w _ hx253_0)).trans hx253_0
              replace hx253_1 := (HB.out.cell (World.block_lt_of_cell? w _ hx253_1)).trans hx253_1
              have HR253_1 := Aside0.mk hi253_1
              have HC253_1 := Aside0.mk hl253_1
              clear hi253_1 hl253_1
              replace p253 := eq_true p253
              replace q253 := eq_true q253
              refine start_ (n := 38) (S := fun w' => w'.cell? ⟨gb246,0,none⟩ = some (.bool a0_0) ∧ w'.cell? ⟨gb246,1,none⟩ = some (.slice (some ad248) l0_1.length c0_1) ∧ w'.cell? ⟨gb246,2,none⟩ = some (.slice A0_2 l0_2.length c0_2) ∧ w'.cell? ⟨gb246,3,none⟩ = some (.slice A0_3 l0_3.length c0_3) ∧ w'.cell? (ad248.add ((x3_2).toNat * 2)) = some (.int .i64 ((rd_T79 l0_1 x3_2).f0)) ∧ w'.cell? ⟨(ad248.add ((x3_2).toNat * 2)).block,(ad248.add ((x3_2).toNat * 2)).off + 1,none⟩ = some (.slice A248_1 ((rd_T79 l0_1 x3_2).f1).length c248_1) ∧ w'.cell? (ad248.add ((x3_2).toNat * 2)) = some (.int .i64 ((rd_T79 l0_1 x3_2).f0)) ∧ w'.cell? ⟨(ad248.add ((x3_2).toNat * 2)).block,(ad248.add ((x3_2).toNat * 2)).off + 1,none⟩ = some (.slice A248_1 ((rd_T79 l0_1 x3_2).f1).length c248_1) ∧ w'.cell? (ad248.add ((x3_2).toNat * 2)) = some (.int .i64 ((rd_T79 l0_1 x3_2).f0)) ∧ w'.cell? ⟨(ad248.add ((x3_2).toNat * 2)).block,(ad248.add ((x3_2).toNat * 2)).off + 1,none⟩ = some (.slice A252_1 ((rd_T79 l0_1 x3_2).f1).length c252_1) ∧ w'.cell? (ad248.add (((ji21)).toNat * 2)) = some (.int .i64 ((rd_T79 l0_1 (ji21)).f0)) ∧ w'.cell? ⟨(ad248.add (((ji21)).toNat * 2)).block,(ad248.add (((ji21)).toNat * 2)).off + 1,none⟩ = some (.slice A253_1 ((rd_T79 l0_1 (ji21)).f1).length c253_1)) (ds := []) #[false,false,false,false,false,false,false,false,false,false,false,false,false,false,false,false,false,false,false,false,false,false,false,false,false,false,false,false,false,false,false,false,false,false,false,false,false,false] (by kernel_rfl) rfl rfl ⟨(blk_cell BK246.out 0).trans rfl,(blk_cell BK246.out 1).trans rfl,(blk_cell BK246.out 2).trans rfl,(blk_cell BK246.out 3).trans rfl,((HB.out.cell (World.block_lt_of_cell? w _ hw248_0)).trans hw248_0),((HB.out.cell (World.block_lt_of_cell? w _ hw248_1)).trans hw248_1),((HB.out.cell (World.block_lt_of_cell? w _ hw250_0)).trans hw250_0),((HB.out.cell (World.block_lt_of_cell? w _ hw250_1)).trans hw250_1),((HB.out.cell (World.block_lt_of_cell? w _ hw252_0)).trans hw252_0),((HB.out.cell (World.block_lt_of_cell? w _ hw252_1)).trans hw252_1),((HB.out.cell (World.block_lt_of_cell? w _ hw253_0)).trans hw253_0),((HB.out.cell (World.block_lt_of_cell? w _ hw253_1)).trans hw253_1)⟩ (fun hHeld => ?_);refine with_tabW spec_MachineOk.tab6 spec_MachineOk.bits6 (fun HT_ HW_ => ?_)
              generalize wr.drew = w29 at BK246 HB HR248_1 HR250_1 HR252_1 HR253_1 hx248_0 hx248_1 hx250_0 hx250_1 hx252_0 hx252_1 hx253_0 hx253_1 hHeld ⊢
              refine pw_ 0 (some 34) HT_.out ?_
              refine pw_ 2 (some 36) HT_.out ?_
              refine tw_ 1 (some 35) HT_.out HW_.out hHeld rfl rfl (by rintro w' ⟨s0,s1,s2,s3,s4,s5,s6,s7,s8,s9,s10,s11⟩;go_simp;with_reducible rfl) ?_
              refine pw_ 3 (some 37) HT_.out ?_
              refine pw_ 4 (some 38) HT_.out ?_
              refine tw_ 5 (some 39) HT_.out HW_.out hHeld rfl rfl (by rintro w' ⟨s0,s1,s2,s3,s4,s5,s6,s7,s8,s9,s10,s11⟩;go_simp;with_reducible rfl) ?_
              refine oz_ (i := 6) (N := some 40) HT_.out rfl rfl (by kernel_rfl) (by decide) (fun K hK => ?_)
              refine goes_ Try.func47 (by kernel_rfl) rfl #[.int .i64 ((rd_T79 l0_1 x3_2).f0)] (by rfl) rfl rfl (by (try simp only [List.map_toArray,List.map_cons,List.map_nil]);first|done|rfl|(simp only [List.length_drop,List.length_take];rfl)) ?_
              with_reducible refine (spec_l1Region.calls ((rd_T79 l0_1 x3_2).f0) true _ A16.out).mono ?_
              rintro e w' ⟨rfl,⟨nd,rfl⟩⟩
              refine ⟨_,rfl,?_⟩
              refine hK.out _ _ ⟨(blk_cell BK246.out 0).trans rfl,(blk_cell BK246.out 1).trans rfl,(blk_cell BK246.out 2).trans rfl,(blk_cell BK246.out 3).trans rfl,((HB.out.cell (World.block_lt_of_cell? w _ hw248_0)).trans hw248_0),((HB.out.cell (World.block_lt_of_cell? w _ hw248_1)).trans hw248_1),((HB.out.cell (World.block_lt_of_cell? w _ hw250_0)).trans hw250_0),((HB.out.cell (World.block_lt_of_cell? w _ hw250_1)).trans hw250_1),((HB.out.cell (World.block_lt_of_cell? w _ hw252_0)).trans hw252_0),((HB.out.cell (World.block_lt_of_cell? w _ hw252_1)).trans hw252_1),((HB.out.cell (World.block_lt_of_cell? w _ hw253_0)).trans hw253_0),((HB.out.cell (World.block_lt_of_cell? w _ hw253_1)).trans hw253_1)⟩ (fun hHeld => ?_)
              clear hK K
              refine norm_ (a' := ?_) ?_ ?_
              rotate_left
              ·show Act.put _ (some 40) _ = _
               simp only [Act.put,q1,q2,q3,i64_w,i32_w]
               rfl
              refine pw_ 7 (some 41) HT_.out ?_
              refine pw_ 8 (some 42) HT_.out ?_
              refine pw_ 9 (some 43) HT_.out ?_
              refine pw_ 11 (some 45) HT_.out ?_
              refine tw_ 10 (some 44) HT_.out HW_.out hHeld rfl rfl (by rintro w' ⟨s0,s1,s2,s3,s4,s5,s6,s7,s8,s9,s10,s11⟩;go_simp;with_reducible rfl) ?_
              refine pw_ 12 (some 46) HT_.out ?_
              refine pw_ 13 (some 47) HT_.out ?_
              refine tw_ 14 (some 48) HT_.out HW_.out hHeld rfl rfl (by rintro w' ⟨s0,s1,s2,s3,s4,s5,s6,s7,s8,s9,s10,s11⟩;go_simp;with_reducible rfl) ?_
              refine oz_ (i := 15) (N := some 49) HT_.out rfl rfl (by kernel_rfl) (by decide) (fun K hK => ?_)
              refine goes_ Try.func48 (by kernel_rfl) rfl #[.slice A248_1 ((rd_T79 l0_1 x3_2).f1).length c248_1] (by rfl) rfl rfl (by (try simp only [List.map_toArray,List.map_cons,List.map_nil]);first|done|rfl|(simp only [List.length_drop,List.length_take];rfl)) ?_
              with_reducible refine (spec_CellsOk.calls k2 _ _ ((rd_T79 l0_1 x3_2).f1) true _ ?side1 ?side2 A18.out).mono ?_
              (case side1 => repeat (first|exact (Kd.C_below HR250_1.out (by repeat (first|(with_reducible first|exact HB.out|apply below_alloc|apply pw_below_drewN|apply below_drew1|refine below_set ?_ GE246.out)|exact HB.out)))|(with_reducible refine Kd.C_alloc ?_ _)|(with_reducible refine Kd.C_drewN ?_ _)|(with_reducible refine Kd.C_drew ?_)))
              (case side2 => exact HC250_1.out)
              rintro e w30 ⟨rfl,hb⟩
              refine ⟨_,rfl,?_⟩
              have n0_ := Aside0.mk (blk_below (g := gb246) (o := .cells #[.bool a0_0,.slice (some ad248) l0_1.length c0_1,.slice A0_2 l0_2.length c0_2,.slice A0_3 l0_3.length c0_3] 32 (0,0)) (by (with_reducible repeat (first|refine blk_drewN ?_ _|refine blk_drew ?_|refine blk_alloc ?_ _));exact BK246.out) hb)
              have n1_ := Aside0.mk (below_step (by repeat (first|(with_reducible first|exact HB.out|apply below_alloc|apply pw_below_drewN|apply below_drew1|refine below_set ?_ GE246.out)|exact HB.out)) hb)
              clear BK246
              clear HB
              have BK246 := n0_
              have HB := n1_
              clear n0_ n1_
              (try clear hb)
              (try clear hb2)
              (try clear hk)
              (try clear hi)
              refine hK.out _ _ ⟨(blk_cell BK246.out 0).trans rfl,(blk_cell BK246.out 1).trans rfl,(blk_cell BK246.out 2).trans rfl,(blk_cell BK246.out 3).trans rfl,((HB.out.cell (World.block_lt_of_cell? w _ hw248_0)).trans hw248_0),((HB.out.cell (World.block_lt_of_cell? w _ hw248_1)).trans hw248_1),((HB.out.cell (World.block_lt_of_cell? w _ hw250_0)).trans hw250_0),((HB.out.cell (World.block_lt_of_cell? w _ hw250_1)).trans hw250_1),((HB.out.cell (World.block_lt_of_cell? w _ hw252_0)).trans hw252_0),((HB.out.cell (World.block_lt_of_cell? w _ hw252_1)).trans hw252_1),((HB.out.cell (World.block_lt_of_cell? w _ hw253_0)).trans hw253_0),((HB.out.cell (World.block_lt_of_cell? w _ hw253_1)).trans hw253_1)⟩ (fun hHeld => ?_)
              clear hK K
              refine norm_ (a' := ?_) ?_ ?_
              rotate_left
              ·show Act.put _ (some 49) _ = _
               simp only [Act.put,q1,q2,q3,i64_w,i32_w]
               rfl
              refine pw_ 16 (some 50) HT_.out ?_
              refine pw_ 17 (some 51) HT_.out ?_
              refine pw_ 18 (some 52) HT_.out ?_
              refine pw_ 19 (some 53) HT_.out ?_
              refine pw_ 20 (some 54) HT_.out ?_
              refine pw_ 21 (some 55) HT_.out ?_
              refine pw_ 22 (some 56) HT_.out ?_
              refine pw_ 24 (some 58) HT_.out ?_
              refine pw_ 28 (some 62) HT_.out ?_
              refine pw_ 30 (some 64) HT_.out ?_
              refine pw_ 31 (some 65) HT_.out ?_
              refine tw_ 23 (some 57) HT_.out HW_.out hHeld rfl rfl (by rintro w' ⟨s0,s1,s2,s3,s4,s5,s6,s7,s8,s9,s10,s11⟩;go_simp;with_reducible rfl) ?_
              refine pw_ 25 (some 59) HT_.out ?_
              refine pw_ 26 (some 60) HT_.out ?_
              refine tw_ 27 (some 61) HT_.out HW_.out hHeld rfl rfl (by rintro w' ⟨s0,s1,s2,s3,s4,s5,s6,s7,s8,s9,s10,s11⟩;go_simp;with_reducible rfl) ?_
              refine tw_ 29 (some 63) HT_.out HW_.out hHeld rfl rfl (by rintro w' ⟨s0,s1,s2,s3,s4,s5,s6,s7,s8,s9,s10,s11⟩;go_simp;with_reducible rfl) ?_
              refine pw_ 32 (some 66) HT_.out ?_
              refine pw_ 33 (some 67) HT_.out ?_
              refine tw_ 34 (some 68) HT_.out HW_.out hHeld rfl rfl (by rintro w' ⟨s0,s1,s2,s3,s4,s5,s6,s7,s8,s9,s10,s11⟩;go_simp;with_reducible rfl) ?_
              refine pw_ 35 (some 69) HT_.out ?_
              refine pw_ 36 (some 70) HT_.out ?_
              refine pw_ 37 (some 71) HT_.out ?_
              refine done_ (done_of HT_.out (by kernel_rfl)) ?_
              try go_wp2
              go_roundg k2
              case measure => have := HJ1.out;have := HK2.out;omega
              case rel => exact ⟨(wrap64 (x3_2 + 1)),(by first|rfl|(simp;done)|(simp [*];done)),H',⟨by have := HJ1.out;have := HK2.out;omega⟩,⟨by (with_reducible repeat (first|refine blk_drewN ?_ _|refine blk_drew ?_|refine blk_alloc ?_ _));exact BK246.out⟩,⟨by repeat (first|(with_reducible first|exact HB.out|apply below_alloc|apply pw_below_drewN|apply below_drew1|refine below_set ?_ GE246.out)|exact HB.out)⟩⟩
            ·rw [if_neg c23] at H
             exact absurd H (by simp)
           ·rw [if_neg c22] at H
            exact absurd H (by simp)
          ·rw [if_neg c20] at H
           have c20b0 : decide (0 < x3_2) = false := decide_eq_false c20
           clear c20
           have H' := Aside0.mk H
           clear H
           have hcz31_0 : wr.cell? ⟨gb246,0,none⟩ = some (.bool a0_0) := (blk_cell BK246.out 0).trans rfl
           have hcz31_1 : wr.cell? ⟨gb246,1,none⟩ = some (.slice A0_1 l0_1.length c0_1) := (blk_cell BK246.out 1).trans rfl
           have hcz31_2 : wr.cell? ⟨gb246,2,none⟩ = some (.slice A0_2 l0_2.length c0_2) := (blk_cell BK246.out 2).trans rfl
           have hcz31_3 : wr.cell? ⟨gb246,3,none⟩ = some (.slice A0_3 l0_3.length c0_3) := (blk_cell BK246.out 3).trans rfl
           have hfz31_0 := blk_frozen BK246.out 0
           have hfz31_1 := blk_frozen BK246.out 1
           have hfz31_2 := blk_frozen BK246.out 2
           have hfz31_3 := blk_frozen BK246.out 3
           try go_wp2
           have n0_ := Aside0.mk (blk_drew BK246.out)
           have n1_ := Aside0.mk (below_drew1 HB.out)
           clear BK246
           clear HB
           have BK246 := n0_
           have HB := n1_
           clear n0_ n1_
           have p248 : 0 ≤ (x3_2 : Int) := of_decide_eq_true (by first|(with_reducible assumption)|assumption)
           have q248 : x3_2 < (l0_1.length : Int) := of_decide_eq_true (by first|(with_reducible assumption)|assumption)
           obtain ⟨ad248,A248_1,c248_1,e248,hx248_0,hx248_1,hl248_1,hi248_1⟩ := at_T79 HR0_1.out x3_2 p248 q248
           have hw248_1 := hx248_1
           have hw248_0 := hx248_0
           cases e248
           replace hx248_0 := (HB.out.cell (World.block_lt_of_cell? w _ hx248_0)).trans hx248_0
           replace hx248_1 := (HB.out.cell (World.block_lt_of_cell? w _ hx248_1)).trans hx248_1
           have HR248_1 := Aside0.mk hi248_1
           have HC248_1 := Aside0.mk hl248_1
           clear hi248_1 hl248_1
           replace p248 := eq_true p248
           replace q248 := eq_true q248
           have p250 : 0 ≤ (x3_2 : Int) := of_decide_eq_true (by first|(with_reducible assumption)|assumption)
           have q250 : x3_2 < (l0_1.length : Int) := of_decide_eq_true (by first|(with_reducible assumption)|assumption)
           obtain ⟨ad250,A250_1,c250_1,e250,hx250_0,hx250_1,hl250_1,hi250_1⟩ := at_T79 HR0_1.out x3_2 p250 q250
           have hw250_1 := hx250_1
           have hw250_0 := hx250_0
           obtain rfl : ad248 = ad250 := (by injection e250)
           replace hx250_0 := (HB.out.cell (World.block_lt_of_cell? w _ hx250_0)).trans hx250_0
           replace hx250_1 := (HB.out.cell (World.block_lt_of_cell? w _ hx250_1)).trans hx250_1
           have HR250_1 := Aside0.mk hi250_1
           have HC250_1 := Aside0.mk hl250_1
           clear hi250_1 hl250_1
           replace p250 := eq_true p250
           replace q250 := eq_true q250
           have ea_ := Option.some.inj (hx248_1.symm.trans hx250_1)
           injection ea_ with ea_ en_ ec_
           subst ea_
           subst ec_
           clear en_
           refine start_ (n := 38) (S := fun w' => w'.cell? ⟨gb246,0,none⟩ = some (.bool a0_0) ∧ w'.cell? ⟨gb246,1,none⟩ = some (.slice (some ad248) l0_1.length c0_1) ∧ w'.cell? ⟨gb246,2,none⟩ = some (.slice A0_2 l0_2.length c0_2) ∧ w'.cell? ⟨gb246,3,none⟩ = some (.slice A0_3 l0_3.length c0_3) ∧ w'.cell? (ad248.add ((x3_2).toNat * 2)) = some (.int .i64 ((rd_T79 l0_1 x3_2).f0)) ∧ w'.cell? ⟨(ad248.add ((x3_2).toNat * 2)).block,(ad248.add ((x3_2).toNat * 2)).off + 1,none⟩ = some (.slice A248_1 ((rd_T79 l0_1 x3_2).f1).length c248_1) ∧ w'.cell? (ad248.add ((x3_2).toNat * 2)) = some (.int .i64 ((rd_T79 l0_1 x3_2).f0)) ∧ w'.cell? ⟨(ad248.add ((x3_2).toNat * 2)).block,(ad248.add ((x3_2).toNat * 2)).off + 1,none⟩ = some (.slice A248_1 ((rd_T79 l0_1 x3_2).f1).length c248_1)) (ds := []) #[false,false,false,false,false,false,false,false,false,false,false,false,false,false,false,false,false,false,false,false,false,false,false,false,false,false,false,false,false,false,false,false,false,false,false,false,false,false] (by kernel_rfl) rfl rfl ⟨(blk_cell BK246.out 0).trans rfl,(blk_cell BK246.out 1).trans rfl,(blk_cell BK246.out 2).trans rfl,(blk_cell BK246.out 3).trans rfl,((HB.out.cell (World.block_lt_of_cell? w _ hw248_0)).trans hw248_0),((HB.out.cell (World.block_lt_of_cell? w _ hw248_1)).trans hw248_1),((HB.out.cell (World.block_lt_of_cell? w _ hw250_0)).trans hw250_0),((HB.out.cell (World.block_lt_of_cell? w _ hw250_1)).trans hw250_1)⟩ (fun hHeld => ?_);refine with_tabW spec_MachineOk.tab6 spec_MachineOk.bits6 (fun HT_ HW_ => ?_)
           generalize wr.drew = w32 at BK246 HB HR248_1 HR250_1 hx248_0 hx248_1 hx250_0 hx250_1 hHeld ⊢
           refine pw_ 0 (some 34) HT_.out ?_
           refine pw_ 2 (some 36) HT_.out ?_
           refine tw_ 1 (some 35) HT_.out HW_.out hHeld rfl rfl (by rintro w' ⟨s0,s1,s2,s3,s4,s5,s6,s7⟩;go_simp;with_reducible rfl) ?_
           refine pw_ 3 (some 37) HT_.out ?_
           refine pw_ 4 (some 38) HT_.out ?_
           refine tw_ 5 (some 39) HT_.out HW_.out hHeld rfl rfl (by rintro w' ⟨s0,s1,s2,s3,s4,s5,s6,s7⟩;go_simp;with_reducible rfl) ?_
           refine oz_ (i := 6) (N := some 40) HT_.out rfl rfl (by kernel_rfl) (by decide) (fun K hK => ?_)
           refine goes_ Try.func47 (by kernel_rfl) rfl #[.int .i64 ((rd_T79 l0_1 x3_2).f0)] (by rfl) rfl rfl (by (try simp only [List.map_toArray,List.map_cons,List.map_nil]);first|done|rfl|(simp only [List.length_drop,List.length_take];rfl)) ?_
           with_reducible refine (spec_l1Region.calls ((rd_T79 l0_1 x3_2).f0) true _ A16.out).mono ?_
           rintro e w' ⟨rfl,⟨nd,rfl⟩⟩
           refine ⟨_,rfl,?_⟩
           refine hK.out _ _ ⟨(blk_cell BK246.out 0).trans rfl,(blk_cell BK246.out 1).trans rfl,(blk_cell BK246.out 2).trans rfl,(blk_cell BK246.out 3).trans rfl,((HB.out.cell (World.block_lt_of_cell? w _ hw248_0)).trans hw248_0),((HB.out.cell (World.block_lt_of_cell? w _ hw248_1)).trans hw248_1),((HB.out.cell (World.block_lt_of_cell? w _ hw250_0)).trans hw250_0),((HB.out.cell (World.block_lt_of_cell? w _ hw250_1)).trans hw250_1)⟩ (fun hHeld => ?_)
           clear hK K
           refine norm_ (a' := ?_) ?_ ?_
           rotate_left
           ·show Act.put _ (some 40) _ = _
            simp only [Act.put,q1,q2,q3,i64_w,i32_w]
            rfl
           refine pw_ 7 (some 41) HT_.out ?_
           refine pw_ 8 (some 42) HT_.out ?_
           refine pw_ 9 (some 43) HT_.out ?_
           refine pw_ 11 (some 45) HT_.out ?_
           refine tw_ 10 (some 44) HT_.out HW_.out hHeld rfl rfl (by rintro w' ⟨s0,s1,s2,s3,s4,s5,s6,s7⟩;go_simp;with_reducible rfl) ?_
           refine pw_ 12 (some 46) HT_.out ?_
           refine pw_ 13 (some 47) HT_.out ?_
           refine tw_ 14 (some 48) HT_.out HW_.out hHeld rfl rfl (by rintro w' ⟨s0,s1,s2,s3,s4,s5,s6,s7⟩;go_simp;with_reducible rfl) ?_
           refine oz_ (i := 15) (N := some 49) HT_.out rfl rfl (by kernel_rfl) (by decide) (fun K hK => ?_)
           refine goes_ Try.func48 (by kernel_rfl) rfl #[.slice A248_1 ((rd_T79 l0_1 x3_2).f1).length c248_1] (by rfl) rfl rfl (by (try simp only [List.map_toArray,List.map_cons,List.map_nil]);first|done|rfl|(simp only [List.length_drop,List.length_take];rfl)) ?_
           with_reducible refine (spec_CellsOk.calls k2 _ _ ((rd_T79 l0_1 x3_2).f1) true _ ?side1 ?side2 A18.out).mono ?_
           (case side1 => repeat (first|exact (Kd.C_below HR250_1.out (by repeat (first|(with_reducible first|exact HB.out|apply below_alloc|apply pw_below_drewN|apply below_drew1|refine below_set ?_ GE246.out)|exact HB.out)))|(with_reducible refine Kd.C_alloc ?_ _)|(with_reducible refine Kd.C_drewN ?_ _)|(with_reducible refine Kd.C_drew ?_)))
           (case side2 => exact HC250_1.out)
           rintro e w33 ⟨rfl,hb⟩
           refine ⟨_,rfl,?_⟩
           have n0_ := Aside0.mk (blk_below (g := gb246) (o := .cells #[.bool a0_0,.slice (some ad248) l0_1.length c0_1,.slice A0_2 l0_2.length c0_2,.slice A0_3 l0_3.length c0_3] 32 (0,0)) (by (with_reducible repeat (first|refine blk_drewN ?_ _|refine blk_drew ?_|refine blk_alloc ?_ _));exact BK246.out) hb)
           have n1_ := Aside0.mk (below_step (by repeat (first|(with_reducible first|exact HB.out|apply below_alloc|apply pw_below_drewN|apply below_drew1|refine below_set ?_ GE246.out)|exact HB.out)) hb)
           clear BK246
           clear HB
           have BK246 := n0_
           have HB := n1_
           clear n0_ n1_
           (try clear hb)
           (try clear hb2)
           (try clear hk)
           (try clear hi)
           refine hK.out _ _ ⟨(blk_cell BK246.out 0).trans rfl,(blk_cell BK246.out 1).trans rfl,(blk_cell BK246.out 2).trans rfl,(blk_cell BK246.out 3).trans rfl,((HB.out.cell (World.block_lt_of_cell? w _ hw248_0)).trans hw248_0),((HB.out.cell (World.block_lt_of_cell? w _ hw248_1)).trans hw248_1),((HB.out.cell (World.block_lt_of_cell? w _ hw250_0)).trans hw250_0),((HB.out.cell (World.block_lt_of_cell? w _ hw250_1)).trans hw250_1)⟩ (fun hHeld => ?_)
           clear hK K
           refine norm_ (a' := ?_) ?_ ?_
           rotate_left
           ·show Act.put _ (some 49) _ = _
            simp only [Act.put,q1,q2,q3,i64_w,i32_w]
            rfl
           refine pw_ 16 (some 50) HT_.out ?_
           refine pw_ 17 (some 51) HT_.out ?_
           refine pw_ 18 (some 52) HT_.out ?_
           refine pw_ 19 (some 53) HT_.out ?_
           refine pw_ 20 (some 54) HT_.out ?_
           refine pw_ 21 (some 55) HT_.out ?_
           refine pu_ 22 (some 56) HT_.out ?_
           refine pu_ 23 (some 57) HT_.out ?_
           refine pu_ 24 (some 58) HT_.out ?_
           refine pu_ 25 (some 59) HT_.out ?_
           refine pu_ 26 (some 60) HT_.out ?_
           refine pu_ 27 (some 61) HT_.out ?_
           refine pu_ 28 (some 62) HT_.out ?_
           refine pu_ 29 (some 63) HT_.out ?_
           refine pu_ 30 (some 64) HT_.out ?_
           refine pu_ 31 (some 65) HT_.out ?_
           refine pu_ 32 (some 66) HT_.out ?_
           refine pu_ 33 (some 67) HT_.out ?_
           refine pu_ 34 (some 68) HT_.out ?_
           refine pu_ 35 (some 69) HT_.out ?_
           refine pw_ 36 (some 70) HT_.out ?_
           refine pw_ 37 (some 71) HT_.out ?_
           refine done_ (done_of HT_.out (by kernel_rfl)) ?_
           try go_wp2
           go_roundg k2
           case measure => have := HJ1.out;have := HK2.out;omega
           case rel => exact ⟨(wrap64 (x3_2 + 1)),(by first|rfl|(simp;done)|(simp [*];done)),H',⟨by have := HJ1.out;have := HK2.out;omega⟩,⟨by (with_reducible repeat (first|refine blk_drewN ?_ _|refine blk_drew ?_|refine blk_alloc ?_ _));exact BK246.out⟩,⟨by repeat (first|(with_reducible first|exact HB.out|apply below_alloc|apply pw_below_drewN|apply below_drew1|refine below_set ?_ GE246.out)|exact HB.out)⟩⟩
         ·replace c19 := Bool.eq_false_iff.mpr c19
          subst c19
          have H1 : (some false) = some r := by rw [if_neg (show ¬ (false = true) by decide)] at H;exact H
          clear H
          have H := H1
          clear H1
          obtain rfl := Option.some.inj H
          have hcz34_0 : wr.cell? ⟨gb246,0,none⟩ = some (.bool a0_0) := (blk_cell BK246.out 0).trans rfl
          have hcz34_1 : wr.cell? ⟨gb246,1,none⟩ = some (.slice A0_1 l0_1.length c0_1) := (blk_cell BK246.out 1).trans rfl
          have hcz34_2 : wr.cell? ⟨gb246,2,none⟩ = some (.slice A0_2 l0_2.length c0_2) := (blk_cell BK246.out 2).trans rfl
          have hcz34_3 : wr.cell? ⟨gb246,3,none⟩ = some (.slice A0_3 l0_3.length c0_3) := (blk_cell BK246.out 3).trans rfl
          have hfz34_0 := blk_frozen BK246.out 0
          have hfz34_1 := blk_frozen BK246.out 1
          have hfz34_2 := blk_frozen BK246.out 2
          have hfz34_3 := blk_frozen BK246.out 3
          try go_wp2
          have n0_ := Aside0.mk (blk_drew BK246.out)
          have n1_ := Aside0.mk (below_drew1 HB.out)
          clear BK246
          clear HB
          have BK246 := n0_
          have HB := n1_
          clear n0_ n1_
          have p248 : 0 ≤ (x3_2 : Int) := of_decide_eq_true (by first|(with_reducible assumption)|assumption)
          have q248 : x3_2 < (l0_1.length : Int) := of_decide_eq_true (by first|(with_reducible assumption)|assumption)
          obtain ⟨ad248,A248_1,c248_1,e248,hx248_0,hx248_1,hl248_1,hi248_1⟩ := at_T79 HR0_1.out x3_2 p248 q248
          have hw248_1 := hx248_1
          have hw248_0 := hx248_0
          cases e248
          replace hx248_0 := (HB.out.cell (World.block_lt_of_cell? w _ hx248_0)).trans hx248_0
          replace hx248_1 := (HB.out.cell (World.block_lt_of_cell? w _ hx248_1)).trans hx248_1
          have HR248_1 := Aside0.mk hi248_1
          have HC248_1 := Aside0.mk hl248_1
          clear hi248_1 hl248_1
          replace p248 := eq_true p248
          replace q248 := eq_true q248
          have p250 : 0 ≤ (x3_2 : Int) := of_decide_eq_true (by first|(with_reducible assumption)|assumption)
          have q250 : x3_2 < (l0_1.length : Int) := of_decide_eq_true (by first|(with_reducible assumption)|assumption)
          obtain ⟨ad250,A250_1,c250_1,e250,hx250_0,hx250_1,hl250_1,hi250_1⟩ := at_T79 HR0_1.out x3_2 p250 q250
          have hw250_1 := hx250_1
          have hw250_0 := hx250_0
          obtain rfl : ad248 = ad250 := (by injection e250)
          replace hx250_0 := (HB.out.cell (World.block_lt_of_cell? w _ hx250_0)).trans hx250_0
          replace hx250_1 := (HB.out.cell (World.block_lt_of_cell? w _ hx250_1)).trans hx250_1
          have HR250_1 := Aside0.mk hi250_1
          have HC250_1 := Aside0.mk hl250_1
          clear hi250_1 hl250_1
          replace p250 := eq_true p250
          replace q250 := eq_true q250
          have ea_ := Option.some.inj (hx248_1.symm.trans hx250_1)
          injection ea_ with ea_ en_ ec_
          subst ea_
          subst ec_
          clear en_
          refine start_ (n := 38) (S := fun w' => w'.cell? ⟨gb246,0,none⟩ = some (.bool a0_0) ∧ w'.cell? ⟨gb246,1,none⟩ = some (.slice (some ad248) l0_1.length c0_1) ∧ w'.cell? ⟨gb246,2,none⟩ = some (.slice A0_2 l0_2.length c0_2) ∧ w'.cell? ⟨gb246,3,none⟩ = some (.slice A0_3 l0_3.length c0_3) ∧ w'.cell? (ad248.add ((x3_2).toNat * 2)) = some (.int .i64 ((rd_T79 l0_1 x3_2).f0)) ∧ w'.cell? ⟨(ad248.add ((x3_2).toNat * 2)).block,(ad248.add ((x3_2).toNat * 2)).off + 1,none⟩ = some (.slice A248_1 ((rd_T79 l0_1 x3_2).f1).length c248_1) ∧ w'.cell? (ad248.add ((x3_2).toNat * 2)) = some (.int .i64 ((rd_T79 l0_1 x3_2).f0)) ∧ w'.cell? ⟨(ad248.add ((x3_2).toNat * 2)).block,(ad248.add ((x3_2).toNat * 2)).off + 1,none⟩ = some (.slice A248_1 ((rd_T79 l0_1 x3_2).f1).length c248_1)) (ds := []) #[false,false,false,false,false,false,false,false,false,false,false,false,false,false,false,false,false,false,false,false,false,false,false,false,false,false,false,false,false,false,false,false,false,false,false,false,false,false] (by kernel_rfl) rfl rfl ⟨(blk_cell BK246.out 0).trans rfl,(blk_cell BK246.out 1).trans rfl,(blk_cell BK246.out 2).trans rfl,(blk_cell BK246.out 3).trans rfl,((HB.out.cell (World.block_lt_of_cell? w _ hw248_0)).trans hw248_0),((HB.out.cell (World.block_lt_of_cell? w _ hw248_1)).trans hw248_1),((HB.out.cell (World.block_lt_of_cell? w _ hw250_0)).trans hw250_0),((HB.out.cell (World.block_lt_of_cell? w _ hw250_1)).trans hw250_1)⟩ (fun hHeld => ?_);refine with_tabW spec_MachineOk.tab6 spec_MachineOk.bits6 (fun HT_ HW_ => ?_)
          generalize wr.drew = w35 at BK246 HB HR248_1 HR250_1 hx248_0 hx248_1 hx250_0 hx250_1 hHeld ⊢
          refine pw_ 0 (some 34) HT_.out ?_
          refine pw_ 2 (some 36) HT_.out ?_
          refine tw_ 1 (some 35) HT_.out HW_.out hHeld rfl rfl (by rintro w' ⟨s0,s1,s2,s3,s4,s5,s6,s7⟩;go_simp;with_reducible rfl) ?_
          refine pw_ 3 (some 37) HT_.out ?_
          refine pw_ 4 (some 38) HT_.out ?_
          refine tw_ 5 (some 39) HT_.out HW_.out hHeld rfl rfl (by rintro w' ⟨s0,s1,s2,s3,s4,s5,s6,s7⟩;go_simp;with_reducible rfl) ?_
          refine oz_ (i := 6) (N := some 40) HT_.out rfl rfl (by kernel_rfl) (by decide) (fun K hK => ?_)
          refine goes_ Try.func47 (by kernel_rfl) rfl #[.int .i64 ((rd_T79 l0_1 x3_2).f0)] (by rfl) rfl rfl (by (try simp only [List.map_toArray,List.map_cons,List.map_nil]);first|done|rfl|(simp only [List.length_drop,List.length_take];rfl)) ?_
          with_reducible refine (spec_l1Region.calls ((rd_T79 l0_1 x3_2).f0) true _ A16.out).mono ?_
          rintro e w' ⟨rfl,⟨nd,rfl⟩⟩
          refine ⟨_,rfl,?_⟩
          refine hK.out _ _ ⟨(blk_cell BK246.out 0).trans rfl,(blk_cell BK246.out 1).trans rfl,(blk_cell BK246.out 2).trans rfl,(blk_cell BK246.out 3).trans rfl,((HB.out.cell (World.block_lt_of_cell? w _ hw248_0)).trans hw248_0),((HB.out.cell (World.block_lt_of_cell? w _ hw248_1)).trans hw248_1),((HB.out.cell (World.block_lt_of_cell? w _ hw250_0)).trans hw250_0),((HB.out.cell (World.block_lt_of_cell? w _ hw250_1)).trans hw250_1)⟩ (fun hHeld => ?_)
          clear hK K
          refine norm_ (a' := ?_) ?_ ?_
          rotate_left
          ·show Act.put _ (some 40) _ = _
           simp only [Act.put,q1,q2,q3,i64_w,i32_w]
           rfl
          refine pw_ 7 (some 41) HT_.out ?_
          refine pw_ 8 (some 42) HT_.out ?_
          refine pw_ 9 (some 43) HT_.out ?_
          refine pw_ 11 (some 45) HT_.out ?_
          refine tw_ 10 (some 44) HT_.out HW_.out hHeld rfl rfl (by rintro w' ⟨s0,s1,s2,s3,s4,s5,s6,s7⟩;go_simp;with_reducible rfl) ?_
          refine pw_ 12 (some 46) HT_.out ?_
          refine pw_ 13 (some 47) HT_.out ?_
          refine tw_ 14 (some 48) HT_.out HW_.out hHeld rfl rfl (by rintro w' ⟨s0,s1,s2,s3,s4,s5,s6,s7⟩;go_simp;with_reducible rfl) ?_
          refine oz_ (i := 15) (N := some 49) HT_.out rfl rfl (by kernel_rfl) (by decide) (fun K hK => ?_)
          refine goes_ Try.func48 (by kernel_rfl) rfl #[.slice A248_1 ((rd_T79 l0_1 x3_2).f1).length c248_1] (by rfl) rfl rfl (by (try simp only [List.map_toArray,List.map_cons,List.map_nil]);first|done|rfl|(simp only [List.length_drop,List.length_take];rfl)) ?_
          with_reducible refine (spec_CellsOk.calls k2 _ _ ((rd_T79 l0_1 x3_2).f1) false _ ?side1 ?side2 A18.out).mono ?_
          (case side1 => repeat (first|exact (Kd.C_below HR250_1.out (by repeat (first|(with_reducible first|exact HB.out|apply below_alloc|apply pw_below_drewN|apply below_drew1|refine below_set ?_ GE246.out)|exact HB.out)))|(with_reducible refine Kd.C_alloc ?_ _)|(with_reducible refine Kd.C_drewN ?_ _)|(with_reducible refine Kd.C_drew ?_)))
          (case side2 => exact HC250_1.out)
          rintro e w36 ⟨rfl,hb⟩
          refine ⟨_,rfl,?_⟩
          have n0_ := Aside0.mk (blk_below (g := gb246) (o := .cells #[.bool a0_0,.slice (some ad248) l0_1.length c0_1,.slice A0_2 l0_2.length c0_2,.slice A0_3 l0_3.length c0_3] 32 (0,0)) (by (with_reducible repeat (first|refine blk_drewN ?_ _|refine blk_drew ?_|refine blk_alloc ?_ _));exact BK246.out) hb)
          have n1_ := Aside0.mk (below_step (by repeat (first|(with_reducible first|exact HB.out|apply below_alloc|apply pw_below_drewN|apply below_drew1|refine below_set ?_ GE246.out)|exact HB.out)) hb)
          clear BK246
          clear HB
          have BK246 := n0_
          have HB := n1_
          clear n0_ n1_
          (try clear hb)
          (try clear hb2)
          (try clear hk)
          (try clear hi)
          refine hK.out _ _ ⟨(blk_cell BK246.out 0).trans rfl,(blk_cell BK246.out 1).trans rfl,(blk_cell BK246.out 2).trans rfl,(blk_cell BK246.out 3).trans rfl,((HB.out.cell (World.block_lt_of_cell? w _ hw248_0)).trans hw248_0),((HB.out.cell (World.block_lt_of_cell? w _ hw248_1)).trans hw248_1),((HB.out.cell (World.block_lt_of_cell? w _ hw250_0)).trans hw250_0),((HB.out.cell (World.block_lt_of_cell? w _ hw250_1)).trans hw250_1)⟩ (fun hHeld => ?_)
          clear hK K
          refine norm_ (a' := ?_) ?_ ?_
          rotate_left
          ·show Act.put _ (some 49) _ = _
           simp only [Act.put,q1,q2,q3,i64_w,i32_w]
           rfl
          refine pw_ 16 (some 50) HT_.out ?_
          refine pw_ 17 (some 51) HT_.out ?_
          refine pw_ 18 (some 52) HT_.out ?_
          refine pu_ 19 (some 53) HT_.out ?_
          refine pu_ 20 (some 54) HT_.out ?_
          refine pu_ 21 (some 55) HT_.out ?_
          refine pu_ 22 (some 56) HT_.out ?_
          refine pu_ 23 (some 57) HT_.out ?_
          refine pu_ 24 (some 58) HT_.out ?_
          refine pu_ 25 (some 59) HT_.out ?_
          refine pu_ 26 (some 60) HT_.out ?_
          refine pu_ 27 (some 61) HT_.out ?_
          refine pu_ 28 (some 62) HT_.out ?_
          refine pu_ 29 (some 63) HT_.out ?_
          refine pu_ 30 (some 64) HT_.out ?_
          refine pu_ 31 (some 65) HT_.out ?_
          refine pu_ 32 (some 66) HT_.out ?_
          refine pu_ 33 (some 67) HT_.out ?_
          refine pu_ 34 (some 68) HT_.out ?_
          refine pu_ 35 (some 69) HT_.out ?_
          refine pu_ 36 (some 70) HT_.out ?_
          refine pw_ 37 (some 71) HT_.out ?_
          refine done_ (done_of HT_.out (by kernel_rfl)) ?_
          try go_wp2
          go_ret
          exact ⟨by first|rfl|(simp [errW_none,errW_some] <;> rfl)|(simp [*,errW_none,errW_some] <;> rfl),by repeat (first|(with_reducible first|exact HB.out|apply below_alloc|apply pw_below_drewN|apply below_drew1|refine below_set ?_ GE246.out)|exact HB.out)⟩
        ·replace c17 := Bool.eq_false_iff.mpr c17
         subst c17
         have H1 : (some false) = some r := by rw [if_neg (show ¬ (false = true) by decide)] at H;exact H
         clear H
         have H := H1
         clear H1
         obtain rfl := Option.some.inj H
         have hcz37_0 : wr.cell? ⟨gb246,0,none⟩ = some (.bool a0_0) := (blk_cell BK246.out 0).trans rfl
         have hcz37_1 : wr.cell? ⟨gb246,1,none⟩ = some (.slice A0_1 l0_1.length c0_1) := (blk_cell BK246.out 1).trans rfl
         have hcz37_2 : wr.cell? ⟨gb246,2,none⟩ = some (.slice A0_2 l0_2.length c0_2) := (blk_cell BK246.out 2).trans rfl
         have hcz37_3 : wr.cell? ⟨gb246,3,none⟩ = some (.slice A0_3 l0_3.length c0_3) := (blk_cell BK246.out 3).trans rfl
         have hfz37_0 := blk_frozen BK246.out 0
         have hfz37_1 := blk_frozen BK246.out 1
         have hfz37_2 := blk_frozen BK246.out 2
         have hfz37_3 := blk_frozen BK246.out 3
         try go_wp2
         have n0_ := Aside0.mk (blk_drew BK246.out)
         have n1_ := Aside0.mk (below_drew1 HB.out)
         clear BK246
         clear HB
         have BK246 := n0_
         have HB := n1_
         clear n0_ n1_
         have p248 : 0 ≤ (x3_2 : Int) := of_decide_eq_true (by first|(with_reducible assumption)|assumption)
         have q248 : x3_2 < (l0_1.length : Int) := of_decide_eq_true (by first|(with_reducible assumption)|assumption)
         obtain ⟨ad248,A248_1,c248_1,e248,hx248_0,hx248_1,hl248_1,hi248_1⟩ := at_T79 HR0_1.out x3_2 p248 q248
         have hw248_1 := hx248_1
         have hw248_0 := hx248_0
         cases e248
         replace hx248_0 := (HB.out.cell (World.block_lt_of_cell? w _ hx248_0)).trans hx248_0
         replace hx248_1 := (HB.out.cell (World.block_lt_of_cell? w _ hx248_1)).trans hx248_1
         have HR248_1 := Aside0.mk hi248_1
         have HC248_1 := Aside0.mk hl248_1
         clear hi248_1 hl248_1
         replace p248 := eq_true p248
         replace q248 := eq_true q248
         refine start_ (n := 38) (S := fun w' => w'.cell? ⟨gb246,0,none⟩ = some (.bool a0_0) ∧ w'.cell? ⟨gb246,1,none⟩ = some (.slice (some ad248) l0_1.length c0_1) ∧ w'.cell? ⟨gb246,2,none⟩ = some (.slice A0_2 l0_2.length c0_2) ∧ w'.cell? ⟨gb246,3,none⟩ = some (.slice A0_3 l0_3.length c0_3) ∧ w'.cell? (ad248.add ((x3_2).toNat * 2)) = some (.int .i64 ((rd_T79 l0_1 x3_2).f0)) ∧ w'.cell? ⟨(ad248.add ((x3_2).toNat * 2)).block,(ad248.add ((x3_2).toNat * 2)).off + 1,none⟩ = some (.slice A248_1 ((rd_T79 l0_1 x3_2).f1).length c248_1)) (ds := []) #[false,false,false,false,false,false,false,false,false,false,false,false,false,false,false,false,false,false,false,false,false,false,false,false,false,false,false,false,false,false,false,false,false,false,false,false,false,false] (by kernel_rfl) rfl rfl ⟨(blk_cell BK246.out 0).trans rfl,(blk_cell BK246.out 1).trans rfl,(blk_cell BK246.out 2).trans rfl,(blk_cell BK246.out 3).trans rfl,((HB.out.cell (World.block_lt_of_cell? w _ hw248_0)).trans hw248_0),((HB.out.cell (World.block_lt_of_cell? w _ hw248_1)).trans hw248_1)⟩ (fun hHeld => ?_);refine with_tabW spec_MachineOk.tab6 spec_MachineOk.bits6 (fun HT_ HW_ => ?_)
         generalize wr.drew = w38 at BK246 HB HR248_1 hx248_0 hx248_1 hHeld ⊢
         refine pw_ 0 (some 34) HT_.out ?_
         refine pw_ 2 (some 36) HT_.out ?_
         refine tw_ 1 (some 35) HT_.out HW_.out hHeld rfl rfl (by rintro w' ⟨s0,s1,s2,s3,s4,s5⟩;go_simp;with_reducible rfl) ?_
         refine pw_ 3 (some 37) HT_.out ?_
         refine pw_ 4 (some 38) HT_.out ?_
         refine tw_ 5 (some 39) HT_.out HW_.out hHeld rfl rfl (by rintro w' ⟨s0,s1,s2,s3,s4,s5⟩;go_simp;with_reducible rfl) ?_
         refine oz_ (i := 6) (N := some 40) HT_.out rfl rfl (by kernel_rfl) (by decide) (fun K hK => ?_)
         refine goes_ Try.func47 (by kernel_rfl) rfl #[.int .i64 ((rd_T79 l0_1 x3_2).f0)] (by rfl) rfl rfl (by (try simp only [List.map_toArray,List.map_cons,List.map_nil]);first|done|rfl|(simp only [List.length_drop,List.length_take];rfl)) ?_
         with_reducible refine (spec_l1Region.calls ((rd_T79 l0_1 x3_2).f0) false _ A16.out).mono ?_
         rintro e w' ⟨rfl,⟨nd,rfl⟩⟩
         refine ⟨_,rfl,?_⟩
         refine hK.out _ _ ⟨(blk_cell BK246.out 0).trans rfl,(blk_cell BK246.out 1).trans rfl,(blk_cell BK246.out 2).trans rfl,(blk_cell BK246.out 3).trans rfl,((HB.out.cell (World.block_lt_of_cell? w _ hw248_0)).trans hw248_0),((HB.out.cell (World.block_lt_of_cell? w _ hw248_1)).trans hw248_1)⟩ (fun hHeld => ?_)
         clear hK K
         refine norm_ (a' := ?_) ?_ ?_
         rotate_left
         ·show Act.put _ (some 40) _ = _
          simp only [Act.put,q1,q2,q3,i64_w,i32_w]
          rfl
         refine pw_ 7 (some 41) HT_.out ?_
         refine pw_ 8 (some 42) HT_.out ?_
         refine pu_ 9 (some 43) HT_.out ?_
         refine pu_ 10 (some 44) HT_.out ?_
         refine pu_ 11 (some 45) HT_.out ?_
         refine pu_ 12 (some 46) HT_.out ?_
         refine pu_ 13 (some 47) HT_.out ?_
         refine pu_ 14 (some 48) HT_.out ?_
         refine pu_ 15 (some 49) HT_.out ?_
         refine pu_ 16 (some 50) HT_.out ?_
         refine pw_ 17 (some 51) HT_.out ?_
         refine pw_ 18 (some 52) HT_.out ?_
         refine pu_ 19 (some 53) HT_.out ?_
         refine pu_ 20 (some 54) HT_.out ?_
         refine pu_ 21 (some 55) HT_.out ?_
         refine pu_ 22 (some 56) HT_.out ?_
         refine pu_ 23 (some 57) HT_.out ?_
         refine pu_ 24 (some 58) HT_.out ?_
         refine pu_ 25 (some 59) HT_.out ?_
         refine pu_ 26 (some 60) HT_.out ?_
         refine pu_ 27 (some 61) HT_.out ?_
         refine pu_ 28 (some 62) HT_.out ?_
         refine pu_ 29 (some 63) HT_.out ?_
         refine pu_ 30 (some 64) HT_.out ?_
         refine pu_ 31 (some 65) HT_.out ?_
         refine pu_ 32 (some 66) HT_.out ?_
         refine pu_ 33 (some 67) HT_.out ?_
         refine pu_ 34 (some 68) HT_.out ?_
         refine pu_ 35 (some 69) HT_.out ?_
         refine pu_ 36 (some 70) HT_.out ?_
         refine pw_ 37 (some 71) HT_.out ?_
         refine done_ (done_of HT_.out (by kernel_rfl)) ?_
         try go_wp2
         go_ret
         exact ⟨by first|rfl|(simp [errW_none,errW_some] <;> rfl)|(simp [*,errW_none,errW_some] <;> rfl),by repeat (first|(with_reducible first|exact HB.out|apply below_alloc|apply pw_below_drewN|apply below_drew1|refine below_set ?_ GE246.out)|exact HB.out)⟩
       ·rw [if_neg c15] at H
        exact absurd H (by simp)
      ·rw [if_neg c14] at H
       have c14b0 : decide (x3_2 < (l0_1.length : Int)) = false := decide_eq_false c14
       clear c14
       have H' := Aside0.mk H
       clear H
       have hcz39_0 : wr.cell? ⟨gb246,0,none⟩ = some (.bool a0_0) := (blk_cell BK246.out 0).trans rfl
       have hcz39_1 : wr.cell? ⟨gb246,1,none⟩ = some (.slice A0_1 l0_1.length c0_1) := (blk_cell BK246.out 1).trans rfl
       have hcz39_2 : wr.cell? ⟨gb246,2,none⟩ = some (.slice A0_2 l0_2.length c0_2) := (blk_cell BK246.out 2).trans rfl
       have hcz39_3 : wr.cell? ⟨gb246,3,none⟩ = some (.slice A0_3 l0_3.length c0_3) := (blk_cell BK246.out 3).trans rfl
       have hfz39_0 := blk_frozen BK246.out 0
       have hfz39_1 := blk_frozen BK246.out 1
       have hfz39_2 := blk_frozen BK246.out 2
       have hfz39_3 := blk_frozen BK246.out 3
       go_wp2
       go_loopg [4] k2 (fun kq v4 w' => ∃ (x4_3 : Int),v4 = .int .i64 x4_3 ∧ Aside0 (spec_MachineOk.l1 kq x4_3 a0_0 l0_1 l0_2 l0_3 = some r) ∧ Aside0 (kq ≤ k2) ∧ Aside0 (w'.heap[gb246]? = some (.cells #[.bool a0_0,(.slice A0_1 l0_1.length c0_1),(.slice A0_2 l0_2.length c0_2),(.slice A0_3 l0_3.length c0_3)] 32 (0,0))) ∧ Aside0 (Below w.heap.size w w'))
       case atStart => exact ⟨(0),(by first|rfl|(simp;done)|(simp [*];done)),H',⟨Nat.le_refl _⟩,⟨by (with_reducible repeat (first|refine blk_drewN ?_ _|refine blk_drew ?_|refine blk_alloc ?_ _));exact BK246.out⟩,⟨by repeat (first|(with_reducible first|exact HB.out|apply below_alloc|apply pw_below_drewN|apply below_drew1|refine below_set ?_ GE246.out)|exact HB.out)⟩⟩
       case round =>
        clear H'
        try clear c1
        try clear c2
        try clear p2
        try clear q2
        try clear hx2
        try clear c4
        try clear p6
        try clear c14
        try clear c14b0
        try clear c15
        try clear c17
        try clear c19
        try clear c24
        try clear p24
        try clear q24
        try clear hx24
        try clear c25
        try clear p25
        try clear q25
        try clear hx25
        try clear hcz34_0
        try clear hcz34_1
        try clear hcz34_2
        try clear hcz34_3
        try clear hcz37_0
        try clear hcz37_1
        try clear hcz37_2
        try clear hcz37_3
        try clear hcz39_0
        try clear hcz39_1
        try clear hcz39_2
        try clear hcz39_3
        try clear hfz34_0
        try clear hfz34_1
        try clear hfz34_2
        try clear hfz34_3
        try clear hfz37_0
        try clear hfz37_1
        try clear hfz37_2
        try clear hfz37_3
        try clear hfz39_0
        try clear hfz39_1
        try clear hfz39_2
        try clear hfz39_3
        try clear hx248_0
        try clear hx248_1
        try clear hx250_0
        try clear hx250_1
        try clear p248
        try clear p250
        try clear q248
        try clear q250
        obtain ⟨x4_3,rfl,HA,HK3,BK246,HB⟩ := hrel
        cases gk with
        | zero => exact absurd HA.out (by simp [spec_MachineOk.l1])
        | succ k3 =>
         have H := HA.out
         clear HA
         simp only [spec_MachineOk.l1] at H
         by_cases c40 : x4_3 < (l0_2.length : Int)
         ·rw [if_pos c40] at H
          have c40b0 : decide (x4_3 < (l0_2.length : Int)) = true := decide_eq_true c40
          clear c40
          by_cases c41 : 0 ≤ x4_3
          ·rw [if_pos c41] at H
           have c41b0 : decide (0 ≤ x4_3) = true := decide_eq_true c41
           clear c41
           replace H := Option.bind_eq_some_iff.mp H
           obtain ⟨t255,A420,H⟩ := H
           replace H : (if t255 = true then (spec_MachineOk.l1 k3 (wrap64 (x4_3 + 1)) a0_0 l0_1 l0_2 l0_3) else (some false)) = some r := H
           have A42 := Aside0.mk A420
           clear A420
           by_cases c43 : t255 = true
           ·subst c43
            have H1 : (spec_MachineOk.l1 k3 (wrap64 (x4_3 + 1)) a0_0 l0_1 l0_2 l0_3) = some r := by rw [if_pos rfl] at H;exact H
            clear H
            have H := H1
            clear H1
            have H' := Aside0.mk H
            clear H
            have hcz44_0 : wr.cell? ⟨gb246,0,none⟩ = some (.bool a0_0) := (blk_cell BK246.out 0).trans rfl
            have hcz44_1 : wr.cell? ⟨gb246,1,none⟩ = some (.slice A0_1 l0_1.length c0_1) := (blk_cell BK246.out 1).trans rfl
            have hcz44_2 : wr.cell? ⟨gb246,2,none⟩ = some (.slice A0_2 l0_2.length c0_2) := (blk_cell BK246.out 2).trans rfl
            have hcz44_3 : wr.cell? ⟨gb246,3,none⟩ = some (.slice A0_3 l0_3.length c0_3) := (blk_cell BK246.out 3).trans rfl
            have hfz44_0 := blk_frozen BK246.out 0
            have hfz44_1 := blk_frozen BK246.out 1
            have hfz44_2 := blk_frozen BK246.out 2
            have hfz44_3 := blk_frozen BK246.out 3
            have p254 : 0 ≤ (x4_3 : Int) := of_decide_eq_true (by first|(with_reducible assumption)|assumption)
            have q254 : x4_3 < (l0_2.length : Int) := of_decide_eq_true (by first|(with_reducible assumption)|assumption)
            obtain ⟨ad254,A254_3,c254_3,e254,hx254_0,hx254_1,hx254_2,hx254_3,hl254_3,hi254_3⟩ := at_T45 HR0_2.out x4_3 p254 q254
            cases e254
            replace hx254_0 := (HB.out.cell (World.block_lt_of_cell? w _ hx254_0)).trans hx254_0
            replace hx254_1 := (HB.out.cell (World.block_lt_of_cell? w _ hx254_1)).trans hx254_1
            replace hx254_2 := (HB.out.cell (World.block_lt_of_cell? w _ hx254_2)).trans hx254_2
            replace hx254_3 := (HB.out.cell (World.block_lt_of_cell? w _ hx254_3)).trans hx254_3
            have HR254_3 := Aside0.mk hi254_3
            have HC254_3 := Aside0.mk hl254_3
            clear hi254_3 hl254_3
            replace p254 := eq_true p254
            replace q254 := eq_true q254
            go_wp2_with (first|((with_reducible refine gcal_ (f := 49) rfl ?_);refine goesL_ (some 84) rfl rfl Try.func49 (by kernel_rfl) rfl #[.agg #[.int .i64 ((rd_T45 l0_2 x4_3).f0),.int .i64 ((rd_T45 l0_2 x4_3).f1),.int .i64 ((rd_T45 l0_2 x4_3).f2),.slice A254_3 ((rd_T45 l0_2 x4_3).f3).length c254_3]] rfl (by (try simp only [List.map_toArray,List.map_cons,List.map_nil]);first|done|rfl|(simp only [List.length_drop,List.length_take];rfl)) ?_;(with_reducible refine (spec_RecordOk.calls k3 ((rd_T45 l0_2 x4_3).f0) ((rd_T45 l0_2 x4_3).f1) ((rd_T45 l0_2 x4_3).f2) _ _ ((rd_T45 l0_2 x4_3).f3) true _ ?side1 ?side2 A42.out).mono ?_);(case side1 => repeat (first|exact (Kd.C_below HR254_3.out HB.out)|(with_reducible refine Kd.C_alloc ?_ _)|(with_reducible refine Kd.C_drewN ?_ _)|(with_reducible refine Kd.C_drew ?_)));(case side2 => exact HC254_3.out);rintro e w45 ⟨rfl,hb⟩;refine ⟨_,rfl,?_⟩;have n0_ := Aside0.mk (blk_below (g := gb246) (o := .cells #[.bool a0_0,.slice A0_1 l0_1.length c0_1,.slice (some ad254) l0_2.length c0_2,.slice A0_3 l0_3.length c0_3] 32 (0,0)) (by (with_reducible repeat (first|refine blk_drewN ?_ _|refine blk_drew ?_|refine blk_alloc ?_ _));exact BK246.out) hb);have n1_ := Aside0.mk (below_step (by repeat (first|(with_reducible first|exact HB.out|apply below_alloc|apply pw_below_drewN|apply below_drew1|refine below_set ?_ GE246.out)|exact HB.out)) hb);clear BK246;clear HB;have BK246 := n0_;have HB := n1_;clear n0_ n1_;(try clear hb);(try clear hb2);(try clear hk);(try clear hi)))
            go_roundg k3
            case measure => have := HJ1.out;have := HK2.out;have := HK3.out;omega
            case rel => exact ⟨(wrap64 (x4_3 + 1)),(by first|rfl|(simp;done)|(simp [*];done)),H',⟨by have := HJ1.out;have := HK2.out;have := HK3.out;omega⟩,⟨by (with_reducible repeat (first|refine blk_drewN ?_ _|refine blk_drew ?_|refine blk_alloc ?_ _));exact BK246.out⟩,⟨by repeat (first|(with_reducible first|exact HB.out|apply below_alloc|apply pw_below_drewN|apply below_drew1|refine below_set ?_ GE246.out)|exact HB.out)⟩⟩
           ·replace c43 := Bool.eq_false_iff.mpr c43
            subst c43
            have H1 : (some false) = some r := by rw [if_neg (show ¬ (false = true) by decide)] at H;exact H
            clear H
            have H := H1
            clear H1
            obtain rfl := Option.some.inj H
            have hcz46_0 : wr.cell? ⟨gb246,0,none⟩ = some (.bool a0_0) := (blk_cell BK246.out 0).trans rfl
            have hcz46_1 : wr.cell? ⟨gb246,1,none⟩ = some (.slice A0_1 l0_1.length c0_1) := (blk_cell BK246.out 1).trans rfl
            have hcz46_2 : wr.cell? ⟨gb246,2,none⟩ = some (.slice A0_2 l0_2.length c0_2) := (blk_cell BK246.out 2).trans rfl
            have hcz46_3 : wr.cell? ⟨gb246,3,none⟩ = some (.slice A0_3 l0_3.length c0_3) := (blk_cell BK246.out 3).trans rfl
            have hfz46_0 := blk_frozen BK246.out 0
            have hfz46_1 := blk_frozen BK246.out 1
            have hfz46_2 := blk_frozen BK246.out 2
            have hfz46_3 := blk_frozen BK246.out 3
            have p254 : 0 ≤ (x4_3 : Int) := of_decide_eq_true (by first|(with_reducible assumption)|assumption)
            have q254 : x4_3 < (l0_2.length : Int) := of_decide_eq_true (by first|(with_reducible assumption)|assumption)
            obtain ⟨ad254,A254_3,c254_3,e254,hx254_0,hx254_1,hx254_2,hx254_3,hl254_3,hi254_3⟩ := at_T45 HR0_2.out x4_3 p254 q254
            cases e254
            replace hx254_0 := (HB.out.cell (World.block_lt_of_cell? w _ hx254_0)).trans hx254_0
            replace hx254_1 := (HB.out.cell (World.block_lt_of_cell? w _ hx254_1)).trans hx254_1
            replace hx254_2 := (HB.out.cell (World.block_lt_of_cell? w _ hx254_2)).trans hx254_2
            replace hx254_3 := (HB.out.cell (World.block_lt_of_cell? w _ hx254_3)).trans hx254_3
            have HR254_3 := Aside0.mk hi254_3
            have HC254_3 := Aside0.mk hl254_3
            clear hi254_3 hl254_3
            replace p254 := eq_true p254
            replace q254 := eq_true q254
            go_wp2_with (first|((with_reducible refine gcal_ (f := 49) rfl ?_);refine goesL_ (some 84) rfl rfl Try.func49 (by kernel_rfl) rfl #[.agg #[.int .i64 ((rd_T45 l0_2 x4_3).f0),.int .i64 ((rd_T45 l0_2 x4_3).f1),.int .i64 ((rd_T45 l0_2 x4_3).f2),.slice A254_3 ((rd_T45 l0_2 x4_3).f3).length c254_3]] rfl (by (try simp only [List.map_toArray,List.map_cons,List.map_nil]);first|done|rfl|(simp only [List.length_drop,List.length_take];rfl)) ?_;(with_reducible refine (spec_RecordOk.calls k3 ((rd_T45 l0_2 x4_3).f0) ((rd_T45 l0_2 x4_3).f1) ((rd_T45 l0_2 x4_3).f2) _ _ ((rd_T45 l0_2 x4_3).f3) false _ ?side1 ?side2 A42.out).mono ?_);(case side1 => repeat (first|exact (Kd.C_below HR254_3.out HB.out)|(with_reducible refine Kd.C_alloc ?_ _)|(with_reducible refine Kd.C_drewN ?_ _)|(with_reducible refine Kd.C_drew ?_)));(case side2 => exact HC254_3.out);rintro e w47 ⟨rfl,hb⟩;refine ⟨_,rfl,?_⟩;have n0_ := Aside0.mk (blk_below (g := gb246) (o := .cells #[.bool a0_0,.slice A0_1 l0_1.length c0_1,.slice (some ad254) l0_2.length c0_2,.slice A0_3 l0_3.length c0_3] 32 (0,0)) (by (with_reducible repeat (first|refine blk_drewN ?_ _|refine blk_drew ?_|refine blk_alloc ?_ _));exact BK246.out) hb);have n1_ := Aside0.mk (below_step (by repeat (first|(with_reducible first|exact HB.out|apply below_alloc|apply pw_below_drewN|apply below_drew1|refine below_set ?_ GE246.out)|exact HB.out)) hb);clear BK246;clear HB;have BK246 := n0_;have HB := n1_;clear n0_ n1_;(try clear hb);(try clear hb2);(try clear hk);(try clear hi)))
            go_ret
            exact ⟨by first|rfl|(simp [errW_none,errW_some] <;> rfl)|(simp [*,errW_none,errW_some] <;> rfl),by repeat (first|(with_reducible first|exact HB.out|apply below_alloc|apply pw_below_drewN|apply below_drew1|refine below_set ?_ GE246.out)|exact HB.out)⟩
          ·rw [if_neg c41] at H
           exact absurd H (by simp)
         ·rw [if_neg c40] at H
          have c40b0 : decide (x4_3 < (l0_2.length : Int)) = false := decide_eq_false c40
          clear c40
          obtain rfl := Option.some.inj H
          have hcz48_0 : wr.cell? ⟨gb246,0,none⟩ = some (.bool a0_0) := (blk_cell BK246.out 0).trans rfl
          have hcz48_1 : wr.cell? ⟨gb246,1,none⟩ = some (.slice A0_1 l0_1.length c0_1) := (blk_cell BK246.out 1).trans rfl
          have hcz48_2 : wr.cell? ⟨gb246,2,none⟩ = some (.slice A0_2 l0_2.length c0_2) := (blk_cell BK246.out 2).trans rfl
          have hcz48_3 : wr.cell? ⟨gb246,3,none⟩ = some (.slice A0_3 l0_3.length c0_3) := (blk_cell BK246.out 3).trans rfl
          have hfz48_0 := blk_frozen BK246.out 0
          have hfz48_1 := blk_frozen BK246.out 1
          have hfz48_2 := blk_frozen BK246.out 2
          have hfz48_3 := blk_frozen BK246.out 3
          go_wp2
          go_ret
          exact ⟨by first|rfl|(simp [errW_none,errW_some] <;> rfl)|(simp [*,errW_none,errW_some] <;> rfl),by repeat (first|(with_reducible first|exact HB.out|apply below_alloc|apply pw_below_drewN|apply below_drew1|refine below_set ?_ GE246.out)|exact HB.out)⟩

end Go.Proofs.Ythplaakckfhaaaa.XCp
