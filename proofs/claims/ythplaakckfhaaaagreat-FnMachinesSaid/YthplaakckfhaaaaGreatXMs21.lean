/- Proved: a call of each Go function here comes to what its Lean function tells. -/
import Derived.Test.YthplaakckfhaaaaGreatXMs0
import Derived.Test.YthplaakckfhaaaaGreatXMs20
namespace Go.Proofs.YthplaakckfhaaaaGreat.XMs
open Go.RowKit Go.Proofs.YthplaakckfhaaaaGreat.Aid Go.Proofs.YthplaakckfhaaaaGreatW.PrintWords Go.Proofs.YthplaakckfhaaaaGreatW.PrintLast Go.Proofs.YthplaakckfhaaaaGreatW.PrintMore
set_option linter.unusedVariables false
set_option linter.unusedSimpArgs false

/-! ### laws_likeMachine: function 16 -/
mutual
def laws_likeMachine.j0 : Nat → Bool → Bool → List (S83) → List (S50) → List Int → Bool → List (S83) → List (S50) → List Int → Option (Bool)
  | 0, _, _, _, _, _, _, _, _, _ => none
  | k + 1, x37, x338000, x338001, x338002, x338003, x339000, x339001, x339002, x339003 => if x37 = true then (some false) else (laws_likeMachine.l0 k 0 x338000 x338001 x338002 x338003 x339000 x339001 x339002 x339003)
def laws_likeMachine.l0 : Nat → Int → Bool → List (S83) → List (S50) → List Int → Bool → List (S83) → List (S50) → List Int → Option (Bool)
  | 0, _, _, _, _, _, _, _, _, _ => none
  | k + 1, x5, x338000, x338001, x338002, x338003, x339000, x339001, x339002, x339003 => if x5 < (x338001.length : Int) then (if 0 ≤ x5 then (if x5 < (x339001.length : Int) then (if ((rd_T83 x338001 x5).f0) = ((rd_T83 x339001 x5).f0) then ((laws_likeCells.f k ((rd_T83 x338001 x5).f1) ((rd_T83 x339001 x5).f1)).bind fun t344 => (if t344 = true then (laws_likeMachine.l0 k (wrap64 (x5 + 1)) x338000 x338001 x338002 x338003 x339000 x339001 x339002 x339003) else (some false))) else (some false)) else (none)) else (none)) else (laws_likeMachine.l1 k 0 x338000 x338001 x338002 x338003 x339000 x339001 x339002 x339003)
def laws_likeMachine.l1 : Nat → Int → Bool → List (S83) → List (S50) → List Int → Bool → List (S83) → List (S50) → List Int → Option (Bool)
  | 0, _, _, _, _, _, _, _, _, _ => none
  | k + 1, x6, x338000, x338001, x338002, x338003, x339000, x339001, x339002, x339003 => if x6 < (x338002.length : Int) then (if 0 ≤ x6 then (if x6 < (x339002.length : Int) then ((laws_likeRecord.f k ((rd_T50 x338002 x6).f0) ((rd_T50 x338002 x6).f1) ((rd_T50 x338002 x6).f2) ((rd_T50 x338002 x6).f3) ((rd_T50 x339002 x6).f0) ((rd_T50 x339002 x6).f1) ((rd_T50 x339002 x6).f2) ((rd_T50 x339002 x6).f3)).bind fun t347 => (if t347 = true then (laws_likeMachine.l1 k (wrap64 (x6 + 1)) x338000 x338001 x338002 x338003 x339000 x339001 x339002 x339003) else (some false))) else (none)) else (none)) else (some true)
end
def laws_likeMachine.f (k : Nat) (a0_0 : Bool) (l0_1 : List (S83)) (l0_2 : List (S50)) (l0_3 : List Int) (a1_0 : Bool) (l1_1 : List (S83)) (l1_2 : List (S50)) (l1_3 : List Int) : Option (Bool) := if (a0_0 != a1_0) = true then (laws_likeMachine.j0 k true a0_0 l0_1 l0_2 l0_3 a1_0 l1_1 l1_2 l1_3) else (if (l0_1.length : Int) = (l1_1.length : Int) then (if (l0_2.length : Int) = (l1_2.length : Int) then ((laws_likeInts.f k l0_3 l1_3).bind fun t339 => (laws_likeMachine.j0 k (!t339) a0_0 l0_1 l0_2 l0_3 a1_0 l1_1 l1_2 l1_3)) else (laws_likeMachine.j0 k true a0_0 l0_1 l0_2 l0_3 a1_0 l1_1 l1_2 l1_3)) else (laws_likeMachine.j0 k true a0_0 l0_1 l0_2 l0_3 a1_0 l1_1 l1_2 l1_3))

def laws_likeMachine.T6 : Bool × List (List Nat × List Nat) := (true, [([], []), ([0], [0]), ([], []), ([1, 2], [1, 2]), ([3], [3]), ([4], [4]), ([], []), ([6], [6]), ([], []), ([7, 8], [7, 8]), ([9], [9]), ([10], [10]), ([5, 11], [5, 11]), ([12], [12]), ([13], [13]), ([14, 13], [13, 14]), ([13], [13]), ([15, 16, 13], [13, 15, 16]), ([17, 13], [13, 17]), ([18, 13], [13, 18]), ([13], [13]), ([20, 13], [13, 20]), ([13], [13]), ([21, 22, 13], [13, 21, 22]), ([23, 13], [13, 23]), ([24, 13], [13, 24]), ([19, 25, 13, 13], [13, 19, 25]), ([26, 13], [13, 26]), ([13, 27], [13, 27])])
def laws_likeMachine.B6 : List Nat := [0, 1, 0, 7, 15, 31, 0, 64, 0, 448, 960, 1984, 4095, 8191, 16383, 32767, 16383, 131071, 262143, 524287, 16383, 1064959, 16383, 7356415, 15745023, 32522239, 67108863, 134217727, 268435455]
theorem laws_likeMachine.tab6 : rtab .any (opsOf Tryz.f16 6) = laws_likeMachine.T6 := by kernel_rfl
theorem laws_likeMachine.bits6 : waitsOk laws_likeMachine.T6.2 laws_likeMachine.B6 = true := by kernel_rfl
def laws_likeMachine.T11 : Bool × List (List Nat × List Nat) := (true, [([], []), ([0], [0]), ([], []), ([1, 2], [1, 2]), ([3], [3]), ([], []), ([5], [5]), ([], []), ([6, 7], [6, 7]), ([8], [8]), ([4, 9], [4, 9]), ([10], [10])])
def laws_likeMachine.B11 : List Nat := [0, 1, 0, 7, 15, 0, 32, 0, 224, 480, 1023, 2047]
theorem laws_likeMachine.tab11 : rtab .any (opsOf Tryz.f16 11) = laws_likeMachine.T11 := by kernel_rfl
theorem laws_likeMachine.bits11 : waitsOk laws_likeMachine.T11.2 laws_likeMachine.B11 = true := by kernel_rfl
set_option maxHeartbeats 8000000 in
set_option maxRecDepth 100000 in
theorem laws_likeMachine.calls (k : Nat) (a0_0 : Bool) (A0_1 : Option Addr) (c0_1 : Nat) (l0_1 : List (S83)) (A0_2 : Option Addr) (c0_2 : Nat) (l0_2 : List (S50)) (A0_3 : Option Addr) (c0_3 : Nat) (l0_3 : List Int) (a1_0 : Bool) (A1_1 : Option Addr) (c1_1 : Nat) (l1_1 : List (S83)) (A1_2 : Option Addr) (c1_2 : Nat) (l1_2 : List (S50)) (A1_3 : Option Addr) (c1_3 : Nat) (l1_3 : List Int) (r : Bool) (w : World) (hr0_1 : Kd.C k83 w A0_1 l0_1.length l0_1) (hc0_1 : l0_1.length ≤ c0_1) (hr0_2 : Kd.C k50 w A0_2 l0_2.length l0_2) (hc0_2 : l0_2.length ≤ c0_2) (hr0_3 : Kd.C (Kd.int .i64) w A0_3 l0_3.length l0_3) (hc0_3 : l0_3.length ≤ c0_3) (hr1_1 : Kd.C k83 w A1_1 l1_1.length l1_1) (hc1_1 : l1_1.length ≤ c1_1) (hr1_2 : Kd.C k50 w A1_2 l1_2.length l1_2) (hc1_2 : l1_2.length ≤ c1_2) (hr1_3 : Kd.C (Kd.int .i64) w A1_3 l1_3.length l1_3) (hc1_3 : l1_3.length ≤ c1_3) (h : laws_likeMachine.f k a0_0 l0_1 l0_2 l0_3 a1_0 l1_1 l1_2 l1_3 = some r) :
    Calls Tryz.prog 16 #[.agg #[.bool a0_0, .slice A0_1 l0_1.length c0_1, .slice A0_2 l0_2.length c0_2, .slice A0_3 l0_3.length c0_3], .agg #[.bool a1_0, .slice A1_1 l1_1.length c1_1, .slice A1_2 l1_2.length c1_2, .slice A1_3 l1_3.length c1_3]] w fun e w' => e = .returned (.bool r) ∧ Below w.heap.size w w' := by
 have hu31 := Tryz.underlying31
 have hu50 := Tryz.underlying50
 have HR0_1 := ak hr0_1
 have HC0_1 := ak hc0_1
 clear hr0_1 hc0_1
 have HR0_2 := ak hr0_2
 have HC0_2 := ak hc0_2
 clear hr0_2 hc0_2
 have HR0_3 := ak hr0_3
 have HC0_3 := ak hc0_3
 clear hr0_3 hc0_3
 have HR1_1 := ak hr1_1
 have HC1_1 := ak hc1_1
 clear hr1_1 hc1_1
 have HR1_2 := ak hr1_2
 have HC1_2 := ak hc1_2
 clear hr1_2 hc1_2
 have HR1_3 := ak hr1_3
 have HC1_3 := ak hc1_3
 clear hr1_3 hc1_3
 have HB := ak (Below.refl w.heap.size w)
 have H : (if (a0_0 != a1_0) = true then (laws_likeMachine.j0 k true a0_0 l0_1 l0_2 l0_3 a1_0 l1_1 l1_2 l1_3) else (if (l0_1.length : Int) = (l1_1.length : Int) then (if (l0_2.length : Int) = (l1_2.length : Int) then ((laws_likeInts.f k l0_3 l1_3).bind fun t339 => (laws_likeMachine.j0 k (!t339) a0_0 l0_1 l0_2 l0_3 a1_0 l1_1 l1_2 l1_3)) else (laws_likeMachine.j0 k true a0_0 l0_1 l0_2 l0_3 a1_0 l1_1 l1_2 l1_3)) else (laws_likeMachine.j0 k true a0_0 l0_1 l0_2 l0_3 a1_0 l1_1 l1_2 l1_3))) = some r := h
 clear h
 have HC3 := ak H
 clear H
 go_enter Tryz.func16,Tryz.ntmps16
 go_upto_region 1 with (first|((with_reducible refine gate_dst (N := 2) rfl ?_);(try (refine gate_guard (by rfl) ?_;dsimp only));refine bx_ 2 #[.bool a0_0,.slice A0_1 l0_1.length c0_1,.slice A0_2 l0_2.length c0_2,.slice A0_3 l0_3.length c0_3] 31 ?_;intro gb337 hg w4 hbox hb;have n0_ := ak (below_step b_ hb);have n1_ := ak (hbox);have n2_ := ak ((gw_ (w := w) hg));have n3_ := ak ((gw_ (w := w) hg));clear HB;have HB := n0_;have BK337 := n1_;have GW337 := n2_;have GE337 := n3_;clear n0_ n1_ n2_ n3_;clear hb hbox hg)|((with_reducible refine gate_dst (N := 3) rfl ?_);(try (refine gate_guard (by rfl) ?_;dsimp only));refine bx_ 3 #[.bool a1_0,.slice A1_1 l1_1.length c1_1,.slice A1_2 l1_2.length c1_2,.slice A1_3 l1_3.length c1_3] 31 ?_;intro gb338 hg w5 hbox hb;have n0_ := ak (blk_below (kb_ BK337) hb);have n1_ := ak (below_step b_ hb);have n2_ := ak (hbox);have n3_ := ak ((gw_ (w := w) hg));have n4_ := ak ((gw_ (w := w) hg));have n5_ := ak ((nl_ BK337 hg));have n6_ := ak ((ng_ BK337 hg));clear BK337;clear HB;have BK337 := n0_;have HB := n1_;have BK338 := n2_;have GW338 := n3_;have GE338 := n4_;have NB337_338 := n5_;have NB338_337 := n6_;clear n0_ n1_ n2_ n3_ n4_ n5_ n6_;clear hb hbox hg))
 (try simp only [Act.put,List.setIfInBounds_toArray,List.set_cons_zero,List.set_cons_succ])
 go_cut [37] (fun v37 wc => ∃ (kq : Nat) (x37_2 : Bool),v37 = .bool x37_2 ∧ Aside0 (laws_likeMachine.j0 kq x37_2 a0_0 l0_1 l0_2 l0_3 a1_0 l1_1 l1_2 l1_3 = some r) ∧ Aside0 (kq ≤ k) ∧ Aside0 (wc.heap[gb337]? = some (.cells #[.bool a0_0,(.slice A0_1 l0_1.length c0_1),(.slice A0_2 l0_2.length c0_2),(.slice A0_3 l0_3.length c0_3)] 31 (0,0))) ∧ Aside0 (wc.heap[gb338]? = some (.cells #[.bool a1_0,(.slice A1_1 l1_1.length c1_1),(.slice A1_2 l1_2.length c1_2),(.slice A1_3 l1_3.length c1_3)] 31 (0,0))) ∧ Aside0 (Below w.heap.size w wc))
 case first =>
  have H := HC3.out
  clear HC3
  by_cases c6 : (a0_0 != a1_0) = true
  ·rw [if_pos c6] at H
   have c6b0 : (a0_0 != a1_0) = true := c6
   (try (have c6b1 : decide (a0_0 = a1_0) = false := by simpa using c6))
   (try (have c6b2 : (a0_0 == a1_0) = false := by simpa using c6))
   (try (have c6b3 : ¬ (a0_0 = a1_0) := by simpa using c6))
   clear c6
   (first|rw [c6b0]|(simp only [i64_w,i32_w];rw [c6b0])|skip)
   have H' := ak H
   clear H
   have hnb7 := NB337_338.out
   have hnc7 := NB338_337.out
   obtain ⟨⟨hcz8_0,hcz8_1,hcz8_2,hcz8_3⟩,hfz8_0,hfz8_1,hfz8_2,hfz8_3⟩ := cl4_ BK337.out
   obtain ⟨⟨hcz9_0,hcz9_1,hcz9_2,hcz9_3⟩,hfz9_0,hfz9_1,hfz9_2,hfz9_3⟩ := cl4_ BK338.out
   go_wp2
   go_meet
   case rel => exact ⟨_,(true),rs_,H',⟨by first|omega|exact Nat.le_refl _⟩,⟨kb_ BK337⟩,⟨kb_ BK338⟩,⟨b_⟩⟩
  ·rw [if_neg c6] at H
   have c6b0 : (a0_0 != a1_0) = false := by simpa using c6
   (try (have c6b1 : decide (a0_0 = a1_0) = true := by simpa using c6))
   (try (have c6b2 : (a0_0 == a1_0) = true := by simpa using c6))
   clear c6
   (first|rw [c6b0]|(simp only [i64_w,i32_w];rw [c6b0])|skip)
   by_cases c10 : (l0_1.length : Int) = (l1_1.length : Int)
   ·rw [if_pos c10] at H
    have c10b0 : ((l0_1.length : Int) == (l1_1.length : Int)) = true := beq_iff_eq.mpr c10
    have c10b1 : ((l0_1.length : Int) != (l1_1.length : Int)) = false := bne_eq_false_iff_eq.mpr c10
    have c10b2 : (l0_1.length == l1_1.length) = true := by first|simpa using c10|(simp at c10 ⊢;omega)
    clear c10
    by_cases c11 : (l0_2.length : Int) = (l1_2.length : Int)
    ·rw [if_pos c11] at H
     have c11b0 : ((l0_2.length : Int) == (l1_2.length : Int)) = true := beq_iff_eq.mpr c11
     have c11b1 : ((l0_2.length : Int) != (l1_2.length : Int)) = false := bne_eq_false_iff_eq.mpr c11
     have c11b2 : (l0_2.length == l1_2.length) = true := by first|simpa using c11|(simp at c11 ⊢;omega)
     clear c11
     replace H := bs_ H
     obtain ⟨t339,A12,H⟩ := H
     have H' := ak H
     clear H
     have hnb13 := NB337_338.out
     have hnc13 := NB338_337.out
     obtain ⟨⟨hcz14_0,hcz14_1,hcz14_2,hcz14_3⟩,hfz14_0,hfz14_1,hfz14_2,hfz14_3⟩ := cl4_ BK337.out
     obtain ⟨⟨hcz15_0,hcz15_1,hcz15_2,hcz15_3⟩,hfz15_0,hfz15_1,hfz15_2,hfz15_3⟩ := cl4_ BK338.out
     go_wp2_with (first|(go_at_call 24;(with_reducible refine (laws_likeInts.calls k _ _ l0_3 _ _ l1_3 t339 _ ?side1 ?side2 ?side3 ?side4 A12.out).mono ?_);(case side1 => exact cb_ HR0_3);(case side2 => exact HC0_3.out);(case side3 => exact cb_ HR1_3);(case side4 => exact HC1_3.out);rintro e w' ⟨rfl,⟨nd,rfl⟩⟩))
     go_meet
     case rel => exact ⟨_,(!t339),rs_,H',⟨by first|omega|exact Nat.le_refl _⟩,⟨kb_ BK337⟩,⟨kb_ BK338⟩,⟨b_⟩⟩
    ·rw [if_neg c11] at H
     have c11b0 : ((l0_2.length : Int) == (l1_2.length : Int)) = false := beq_eq_false_iff_ne.mpr c11
     have c11b1 : ((l0_2.length : Int) != (l1_2.length : Int)) = true := bne_iff_ne.mpr c11
     have c11b2 : (l0_2.length == l1_2.length) = false := by first|simpa using c11|(simp at c11 ⊢;omega)
     have H' := ak H
     clear H
     have hnb16 := NB337_338.out
     have hnc16 := NB338_337.out
     obtain ⟨⟨hcz17_0,hcz17_1,hcz17_2,hcz17_3⟩,hfz17_0,hfz17_1,hfz17_2,hfz17_3⟩ := cl4_ BK337.out
     obtain ⟨⟨hcz18_0,hcz18_1,hcz18_2,hcz18_3⟩,hfz18_0,hfz18_1,hfz18_2,hfz18_3⟩ := cl4_ BK338.out
     go_wp2
     go_meet
     case rel => exact ⟨_,(true),rs_,H',⟨by first|omega|exact Nat.le_refl _⟩,⟨kb_ BK337⟩,⟨kb_ BK338⟩,⟨b_⟩⟩
   ·rw [if_neg c10] at H
    have c10b0 : ((l0_1.length : Int) == (l1_1.length : Int)) = false := beq_eq_false_iff_ne.mpr c10
    have c10b1 : ((l0_1.length : Int) != (l1_1.length : Int)) = true := bne_iff_ne.mpr c10
    have c10b2 : (l0_1.length == l1_1.length) = false := by first|simpa using c10|(simp at c10 ⊢;omega)
    have H' := ak H
    clear H
    have hnb19 := NB337_338.out
    have hnc19 := NB338_337.out
    obtain ⟨⟨hcz20_0,hcz20_1,hcz20_2,hcz20_3⟩,hfz20_0,hfz20_1,hfz20_2,hfz20_3⟩ := cl4_ BK337.out
    obtain ⟨⟨hcz21_0,hcz21_1,hcz21_2,hcz21_3⟩,hfz21_0,hfz21_1,hfz21_2,hfz21_3⟩ := cl4_ BK338.out
    go_wp2
    go_meet
    case rel => exact ⟨_,(true),rs_,H',⟨by first|omega|exact Nat.le_refl _⟩,⟨kb_ BK337⟩,⟨kb_ BK338⟩,⟨b_⟩⟩
 case rest =>
  clear HC3
  try clear c1
  try clear p2
  try clear c6
  try clear c6b0
  try clear c6b1
  try clear c6b2
  try clear c7
  try clear c10
  try clear c10b0
  try clear c10b1
  try clear c10b2
  try clear c11
  try clear c11b0
  try clear c11b1
  try clear c11b2
  try clear c13
  try clear c16
  try clear c19
  try clear hcz14_0 hcz14_1 hcz14_2 hcz14_3
  try clear hcz15_0 hcz15_1 hcz15_2 hcz15_3
  try clear hcz17_0 hcz17_1 hcz17_2 hcz17_3
  try clear hcz18_0 hcz18_1 hcz18_2 hcz18_3
  try clear hcz20_0 hcz20_1 hcz20_2 hcz20_3
  try clear hcz21_0 hcz21_1 hcz21_2 hcz21_3
  try clear hcz8_0 hcz8_1 hcz8_2 hcz8_3
  try clear hcz9_0 hcz9_1 hcz9_2 hcz9_3
  try clear hfz14_0 hfz14_1 hfz14_2 hfz14_3
  try clear hfz15_0 hfz15_1 hfz15_2 hfz15_3
  try clear hfz17_0 hfz17_1 hfz17_2 hfz17_3
  try clear hfz18_0 hfz18_1 hfz18_2 hfz18_3
  try clear hfz20_0 hfz20_1 hfz20_2 hfz20_3
  try clear hfz21_0 hfz21_1 hfz21_2 hfz21_3
  try clear hfz8_0 hfz8_1 hfz8_2 hfz8_3
  try clear hfz9_0 hfz9_1 hfz9_2 hfz9_3
  obtain ⟨kq,x37_2,rfl,HA,HJ2,BK337,BK338,HB⟩ := hcut
  cases kq with
    | zero => exact absurd HA.out (by simp [laws_likeMachine.j0])
    | succ kj2 =>
   have H := HA.out
   clear HA
   simp only [laws_likeMachine.j0] at H
   by_cases c22 : x37_2 = true
   ·subst c22
    replace H := it_ H
    obtain rfl := Option.some.inj H
    go_wp2
    go_ret
    exact ⟨rf_,b_⟩
   ·replace c22 := Bool.eq_false_iff.mpr c22
    subst c22
    replace H := ie_ H
    have H' := ak H
    clear H
    go_wp2
    go_loopg [5] kj2 (fun kq v5 w' => ∃ (x5_2 : Int),v5 = .int .i64 x5_2 ∧ Aside0 (laws_likeMachine.l0 kq x5_2 a0_0 l0_1 l0_2 l0_3 a1_0 l1_1 l1_2 l1_3 = some r) ∧ Aside0 (kq ≤ kj2) ∧ Aside0 (w'.heap[gb337]? = some (.cells #[.bool a0_0,(.slice A0_1 l0_1.length c0_1),(.slice A0_2 l0_2.length c0_2),(.slice A0_3 l0_3.length c0_3)] 31 (0,0))) ∧ Aside0 (w'.heap[gb338]? = some (.cells #[.bool a1_0,(.slice A1_1 l1_1.length c1_1),(.slice A1_2 l1_2.length c1_2),(.slice A1_3 l1_3.length c1_3)] 31 (0,0))) ∧ Aside0 (Below w.heap.size w w'))
    case atStart => exact ⟨(0),rs_,H',⟨Nat.le_refl _⟩,⟨kb_ BK337⟩,⟨kb_ BK338⟩,⟨b_⟩⟩
    case round =>
     clear H'
     try clear c1
     try clear c2
     try clear p2
     try clear c6
     try clear c6b0
     try clear c6b1
     try clear c6b2
     try clear c7
     try clear c10
     try clear c10b0
     try clear c10b1
     try clear c10b2
     try clear c11
     try clear c11b0
     try clear c11b1
     try clear c11b2
     try clear c13
     try clear c16
     try clear c19
     try clear c22
     try clear hcz14_0 hcz14_1 hcz14_2 hcz14_3
     try clear hcz15_0 hcz15_1 hcz15_2 hcz15_3
     try clear hcz17_0 hcz17_1 hcz17_2 hcz17_3
     try clear hcz18_0 hcz18_1 hcz18_2 hcz18_3
     try clear hcz20_0 hcz20_1 hcz20_2 hcz20_3
     try clear hcz21_0 hcz21_1 hcz21_2 hcz21_3
     try clear hcz8_0 hcz8_1 hcz8_2 hcz8_3
     try clear hcz9_0 hcz9_1 hcz9_2 hcz9_3
     try clear hfz14_0 hfz14_1 hfz14_2 hfz14_3
     try clear hfz15_0 hfz15_1 hfz15_2 hfz15_3
     try clear hfz17_0 hfz17_1 hfz17_2 hfz17_3
     try clear hfz18_0 hfz18_1 hfz18_2 hfz18_3
     try clear hfz20_0 hfz20_1 hfz20_2 hfz20_3
     try clear hfz21_0 hfz21_1 hfz21_2 hfz21_3
     try clear hfz8_0 hfz8_1 hfz8_2 hfz8_3
     try clear hfz9_0 hfz9_1 hfz9_2 hfz9_3
     try clear p2
     obtain ⟨x5_2,rfl,HA,HK2,BK337,BK338,HB⟩ := hrel
     cases gk with
     | zero => exact absurd HA.out (by simp [laws_likeMachine.l0])
     | succ k2 =>
      have H := HA.out
      clear HA
      simp only [laws_likeMachine.l0] at H
      by_cases c23 : x5_2 < (l0_1.length : Int)
      ·rw [if_pos c23] at H
       have c23b0 : decide (x5_2 < (l0_1.length : Int)) = true := decide_eq_true c23
       clear c23
       by_cases c24 : 0 ≤ x5_2
       ·rw [if_pos c24] at H
        have c24b0 : decide (0 ≤ x5_2) = true := decide_eq_true c24
        clear c24
        by_cases c25 : x5_2 < (l1_1.length : Int)
        ·rw [if_pos c25] at H
         have c25b0 : decide (x5_2 < (l1_1.length : Int)) = true := decide_eq_true c25
         clear c25
         by_cases c26 : ((rd_T83 l0_1 x5_2).f0) = ((rd_T83 l1_1 x5_2).f0)
         ·rw [if_pos c26] at H
          have c26b0 : (((rd_T83 l0_1 x5_2).f0) == ((rd_T83 l1_1 x5_2).f0)) = true := beq_iff_eq.mpr c26
          have c26b1 : (((rd_T83 l0_1 x5_2).f0) != ((rd_T83 l1_1 x5_2).f0)) = false := bne_eq_false_iff_eq.mpr c26
          clear c26
          replace H := bs_ H
          obtain ⟨t344,A27,H⟩ := H
          by_cases c28 : t344 = true
          ·subst c28
           replace H := it_ H
           have H' := ak H
           clear H
           have hnb29 := NB337_338.out
           have hnc29 := NB338_337.out
           obtain ⟨⟨hcz30_0,hcz30_1,hcz30_2,hcz30_3⟩,hfz30_0,hfz30_1,hfz30_2,hfz30_3⟩ := cl4_ BK337.out
           try go_wp2
           replace BK337 := ak (blk_drew BK337.out)
           replace BK338 := ak (blk_drew BK338.out)
           replace HB := ak (below_drew1 HB.out)
           have p340 : 0 ≤ (x5_2 : Int) := od_
           have q340 : x5_2 < (l0_1.length : Int) := od_
           obtain ⟨ad340,A340_1,c340_1,e340,hx340_0,hx340_1,hl340_1,hi340_1⟩ := at_T83 HR0_1.out x5_2 p340 q340
           have hw340_1 := hx340_1
           have hw340_0 := hx340_0
           cases e340
           replace hx340_0 := hx_ HB hx340_0
           replace hx340_1 := hx_ HB hx340_1
           have HR340_1 := ak hi340_1
           have HC340_1 := ak hl340_1
           clear hi340_1 hl340_1
           replace p340 := eq_true p340
           replace q340 := eq_true q340
           have p341 : 0 ≤ (x5_2 : Int) := od_
           have q341 : x5_2 < (l1_1.length : Int) := od_
           obtain ⟨ad341,A341_1,c341_1,e341,hx341_0,hx341_1,hl341_1,hi341_1⟩ := at_T83 HR1_1.out x5_2 p341 q341
           have hw341_1 := hx341_1
           have hw341_0 := hx341_0
           cases e341
           replace hx341_0 := hx_ HB hx341_0
           replace hx341_1 := hx_ HB hx341_1
           have HR341_1 := ak hi341_1
           have HC341_1 := ak hl341_1
           clear hi341_1 hl341_1
           replace p341 := eq_true p341
           replace q341 := eq_true q341
           have p342 : 0 ≤ (x5_2 : Int) := od_
           have q342 : x5_2 < (l0_1.length : Int) := od_
           obtain ⟨ad342,A342_1,c342_1,e342,hx342_0,hx342_1,hl342_1,hi342_1⟩ := at_T83 HR0_1.out x5_2 p342 q342
           have hw342_1 := hx342_1
           have hw342_0 := hx342_0
           obtain rfl : ad340 = ad342 := (by injection e342)
           replace hx342_0 := hx_ HB hx342_0
           replace hx342_1 := hx_ HB hx342_1
           have HR342_1 := ak hi342_1
           have HC342_1 := ak hl342_1
           clear hi342_1 hl342_1
           replace p342 := eq_true p342
           replace q342 := eq_true q342
           have ea_ := Option.some.inj (hx340_1.symm.trans hx342_1)
           injection ea_ with ea_ en_ ec_
           subst ea_
           subst ec_
           clear en_
           have p343 : 0 ≤ (x5_2 : Int) := od_
           have q343 : x5_2 < (l1_1.length : Int) := od_
           obtain ⟨ad343,A343_1,c343_1,e343,hx343_0,hx343_1,hl343_1,hi343_1⟩ := at_T83 HR1_1.out x5_2 p343 q343
           have hw343_1 := hx343_1
           have hw343_0 := hx343_0
           obtain rfl : ad341 = ad343 := (by injection e343)
           replace hx343_0 := hx_ HB hx343_0
           replace hx343_1 := hx_ HB hx343_1
           have HR343_1 := ak hi343_1
           have HC343_1 := ak hl343_1
           clear hi343_1 hl343_1
           replace p343 := eq_true p343
           replace q343 := eq_true q343
           have ea_ := Option.some.inj (hx341_1.symm.trans hx343_1)
           injection ea_ with ea_ en_ ec_
           subst ea_
           subst ec_
           clear en_
           refine st_ 29 (S := fun w' => hc4 w' gb337 (.bool a0_0) (.slice (some ad340) l0_1.length c0_1) (.slice A0_2 l0_2.length c0_2) (.slice A0_3 l0_3.length c0_3) (hc4 w' gb338 (.bool a1_0) (.slice (some ad341) l1_1.length c1_1) (.slice A1_2 l1_2.length c1_2) (.slice A1_3 l1_3.length c1_3) (he2 w' (ad340.add ((x5_2).toNat * 2)) (.int .i64 ((rd_T83 l0_1 x5_2).f0)) (.slice A340_1 ((rd_T83 l0_1 x5_2).f1).length c340_1) (he2 w' (ad341.add ((x5_2).toNat * 2)) (.int .i64 ((rd_T83 l1_1 x5_2).f0)) (.slice A341_1 ((rd_T83 l1_1 x5_2).f1).length c341_1) (he2 w' (ad340.add ((x5_2).toNat * 2)) (.int .i64 ((rd_T83 l0_1 x5_2).f0)) (.slice A340_1 ((rd_T83 l0_1 x5_2).f1).length c340_1) (hf2 w' (ad341.add ((x5_2).toNat * 2)) (.int .i64 ((rd_T83 l1_1 x5_2).f0)) (.slice A341_1 ((rd_T83 l1_1 x5_2).f1).length c341_1))))))) hh_ (fun hHeld => ?_);refine with_tabW laws_likeMachine.tab6 laws_likeMachine.bits6 (fun HT_ HW_ => ?_)
           generalize wr.drew = w31 at BK337 BK338 HB HR340_1 HR341_1 HR342_1 HR343_1 hx340_0 hx340_1 hx341_0 hx341_1 hx342_0 hx342_1 hx343_0 hx343_1 hHeld ⊢
           refine pv_ 0 45 ?_
           refine pv_ 2 47 ?_
           refine pv_ 6 51 ?_
           refine pv_ 8 53 ?_
           refine tx_ 1 46 hHeld ?_
           refine pv_ 3 48 ?_
           refine pv_ 4 49 ?_
           refine tx_ 5 50 hHeld ?_
           refine tx_ 7 52 hHeld ?_
           refine pv_ 9 54 ?_
           refine pv_ 10 55 ?_
           refine tx_ 11 56 hHeld ?_
           refine pv_ 12 57 ?_
           refine pv_ 13 58 ?_
           refine pv_ 14 59 ?_
           refine pv_ 16 61 ?_
           refine pv_ 20 65 ?_
           refine pv_ 22 67 ?_
           refine tx_ 15 60 hHeld ?_
           refine pv_ 17 62 ?_
           refine pv_ 18 63 ?_
           refine tx_ 19 64 hHeld ?_
           refine tx_ 21 66 hHeld ?_
           refine pv_ 23 68 ?_
           refine pv_ 24 69 ?_
           refine tx_ 25 70 hHeld ?_
           refine oy_ 26 71 (fun K hK => ?_)
           refine gs_ Tryz.func18 #[.slice A340_1 ((rd_T83 l0_1 x5_2).f1).length c340_1,.slice A341_1 ((rd_T83 l1_1 x5_2).f1).length c341_1] ?_
           with_reducible refine (laws_likeCells.calls k2 _ _ ((rd_T83 l0_1 x5_2).f1) _ _ ((rd_T83 l1_1 x5_2).f1) true _ ?side1 ?side2 ?side3 ?side4 A27.out).mono ?_
           (case side1 => exact cb_ HR342_1)
           (case side2 => exact HC342_1.out)
           (case side3 => exact cb_ HR343_1)
           (case side4 => exact HC343_1.out)
           rintro e w' ⟨rfl,⟨nd,rfl⟩⟩
           refine ⟨_,rfl,?_⟩
           refine hK.out _ _ hh_ (fun hHeld => ?_)
           clear hK K
           refine nr_ (some 71) _ ?_
           refine pv_ 27 72 ?_
           refine pv_ 28 73 ?_
           refine done_ (done_of HT_.out (by kernel_rfl)) ?_
           try go_wp2
           go_roundg k2
           case measure => have := HJ2.out;have := HK2.out;omega
           case rel => exact ⟨(wrap64 (x5_2 + 1)),rs_,H',⟨by have := HJ2.out;have := HK2.out;omega⟩,⟨kb_ BK337⟩,⟨kb_ BK338⟩,⟨b_⟩⟩
          ·replace c28 := Bool.eq_false_iff.mpr c28
           subst c28
           replace H := ie_ H
           obtain rfl := Option.some.inj H
           have hnb32 := NB337_338.out
           have hnc32 := NB338_337.out
           obtain ⟨⟨hcz33_0,hcz33_1,hcz33_2,hcz33_3⟩,hfz33_0,hfz33_1,hfz33_2,hfz33_3⟩ := cl4_ BK337.out
           try go_wp2
           replace BK337 := ak (blk_drew BK337.out)
           replace BK338 := ak (blk_drew BK338.out)
           replace HB := ak (below_drew1 HB.out)
           have p340 : 0 ≤ (x5_2 : Int) := od_
           have q340 : x5_2 < (l0_1.length : Int) := od_
           obtain ⟨ad340,A340_1,c340_1,e340,hx340_0,hx340_1,hl340_1,hi340_1⟩ := at_T83 HR0_1.out x5_2 p340 q340
           have hw340_1 := hx340_1
           have hw340_0 := hx340_0
           cases e340
           replace hx340_0 := hx_ HB hx340_0
           replace hx340_1 := hx_ HB hx340_1
           have HR340_1 := ak hi340_1
           have HC340_1 := ak hl340_1
           clear hi340_1 hl340_1
           replace p340 := eq_true p340
           replace q340 := eq_true q340
           have p341 : 0 ≤ (x5_2 : Int) := od_
           have q341 : x5_2 < (l1_1.length : Int) := od_
           obtain ⟨ad341,A341_1,c341_1,e341,hx341_0,hx341_1,hl341_1,hi341_1⟩ := at_T83 HR1_1.out x5_2 p341 q341
           have hw341_1 := hx341_1
           have hw341_0 := hx341_0
           cases e341
           replace hx341_0 := hx_ HB hx341_0
           replace hx341_1 := hx_ HB hx341_1
           have HR341_1 := ak hi341_1
           have HC341_1 := ak hl341_1
           clear hi341_1 hl341_1
           replace p341 := eq_true p341
           replace q341 := eq_true q341
           have p342 : 0 ≤ (x5_2 : Int) := od_
           have q342 : x5_2 < (l0_1.length : Int) := od_
           obtain ⟨ad342,A342_1,c342_1,e342,hx342_0,hx342_1,hl342_1,hi342_1⟩ := at_T83 HR0_1.out x5_2 p342 q342
           have hw342_1 := hx342_1
           have hw342_0 := hx342_0
           obtain rfl : ad340 = ad342 := (by injection e342)
           replace hx342_0 := hx_ HB hx342_0
           replace hx342_1 := hx_ HB hx342_1
           have HR342_1 := ak hi342_1
           have HC342_1 := ak hl342_1
           clear hi342_1 hl342_1
           replace p342 := eq_true p342
           replace q342 := eq_true q342
           have ea_ := Option.some.inj (hx340_1.symm.trans hx342_1)
           injection ea_ with ea_ en_ ec_
           subst ea_
           subst ec_
           clear en_
           have p343 : 0 ≤ (x5_2 : Int) := od_
           have q343 : x5_2 < (l1_1.length : Int) := od_
           obtain ⟨ad343,A343_1,c343_1,e343,hx343_0,hx343_1,hl343_1,hi343_1⟩ := at_T83 HR1_1.out x5_2 p343 q343
           have hw343_1 := hx343_1
           have hw343_0 := hx343_0
           obtain rfl : ad341 = ad343 := (by injection e343)
           replace hx343_0 := hx_ HB hx343_0
           replace hx343_1 := hx_ HB hx343_1
           have HR343_1 := ak hi343_1
           have HC343_1 := ak hl343_1
           clear hi343_1 hl343_1
           replace p343 := eq_true p343
           replace q343 := eq_true q343
           have ea_ := Option.some.inj (hx341_1.symm.trans hx343_1)
           injection ea_ with ea_ en_ ec_
           subst ea_
           subst ec_
           clear en_
           refine st_ 29 (S := fun w' => hc4 w' gb337 (.bool a0_0) (.slice (some ad340) l0_1.length c0_1) (.slice A0_2 l0_2.length c0_2) (.slice A0_3 l0_3.length c0_3) (hc4 w' gb338 (.bool a1_0) (.slice (some ad341) l1_1.length c1_1) (.slice A1_2 l1_2.length c1_2) (.slice A1_3 l1_3.length c1_3) (he2 w' (ad340.add ((x5_2).toNat * 2)) (.int .i64 ((rd_T83 l0_1 x5_2).f0)) (.slice A340_1 ((rd_T83 l0_1 x5_2).f1).length c340_1) (he2 w' (ad341.add ((x5_2).toNat * 2)) (.int .i64 ((rd_T83 l1_1 x5_2).f0)) (.slice A341_1 ((rd_T83 l1_1 x5_2).f1).length c341_1) (he2 w' (ad340.add ((x5_2).toNat * 2)) (.int .i64 ((rd_T83 l0_1 x5_2).f0)) (.slice A340_1 ((rd_T83 l0_1 x5_2).f1).length c340_1) (hf2 w' (ad341.add ((x5_2).toNat * 2)) (.int .i64 ((rd_T83 l1_1 x5_2).f0)) (.slice A341_1 ((rd_T83 l1_1 x5_2).f1).length c341_1))))))) hh_ (fun hHeld => ?_);refine with_tabW laws_likeMachine.tab6 laws_likeMachine.bits6 (fun HT_ HW_ => ?_)
           generalize wr.drew = w34 at BK337 BK338 HB HR340_1 HR341_1 HR342_1 HR343_1 hx340_0 hx340_1 hx341_0 hx341_1 hx342_0 hx342_1 hx343_0 hx343_1 hHeld ⊢
           refine pv_ 0 45 ?_
           refine pv_ 2 47 ?_
           refine pv_ 6 51 ?_
           refine pv_ 8 53 ?_
           refine tx_ 1 46 hHeld ?_
           refine pv_ 3 48 ?_
           refine pv_ 4 49 ?_
           refine tx_ 5 50 hHeld ?_
           refine tx_ 7 52 hHeld ?_
           refine pv_ 9 54 ?_
           refine pv_ 10 55 ?_
           refine tx_ 11 56 hHeld ?_
           refine pv_ 12 57 ?_
           refine pv_ 13 58 ?_
           refine pv_ 14 59 ?_
           refine pv_ 16 61 ?_
           refine pv_ 20 65 ?_
           refine pv_ 22 67 ?_
           refine tx_ 15 60 hHeld ?_
           refine pv_ 17 62 ?_
           refine pv_ 18 63 ?_
           refine tx_ 19 64 hHeld ?_
           refine tx_ 21 66 hHeld ?_
           refine pv_ 23 68 ?_
           refine pv_ 24 69 ?_
           refine tx_ 25 70 hHeld ?_
           refine oy_ 26 71 (fun K hK => ?_)
           refine gs_ Tryz.func18 #[.slice A340_1 ((rd_T83 l0_1 x5_2).f1).length c340_1,.slice A341_1 ((rd_T83 l1_1 x5_2).f1).length c341_1] ?_
           with_reducible refine (laws_likeCells.calls k2 _ _ ((rd_T83 l0_1 x5_2).f1) _ _ ((rd_T83 l1_1 x5_2).f1) false _ ?side1 ?side2 ?side3 ?side4 A27.out).mono ?_
           (case side1 => exact cb_ HR342_1)
           (case side2 => exact HC342_1.out)
           (case side3 => exact cb_ HR343_1)
           (case side4 => exact HC343_1.out)
           rintro e w' ⟨rfl,⟨nd,rfl⟩⟩
           refine ⟨_,rfl,?_⟩
           refine hK.out _ _ hh_ (fun hHeld => ?_)
           clear hK K
           refine nr_ (some 71) _ ?_
           refine pv_ 27 72 ?_
           refine pv_ 28 73 ?_
           refine done_ (done_of HT_.out (by kernel_rfl)) ?_
           try go_wp2
           go_ret
           exact ⟨rf_,b_⟩
         ·rw [if_neg c26] at H
          have c26b0 : (((rd_T83 l0_1 x5_2).f0) == ((rd_T83 l1_1 x5_2).f0)) = false := beq_eq_false_iff_ne.mpr c26
          have c26b1 : (((rd_T83 l0_1 x5_2).f0) != ((rd_T83 l1_1 x5_2).f0)) = true := bne_iff_ne.mpr c26
          obtain rfl := Option.some.inj H
          have hnb35 := NB337_338.out
          have hnc35 := NB338_337.out
          obtain ⟨⟨hcz36_0,hcz36_1,hcz36_2,hcz36_3⟩,hfz36_0,hfz36_1,hfz36_2,hfz36_3⟩ := cl4_ BK337.out
          try go_wp2
          replace BK337 := ak (blk_drew BK337.out)
          replace BK338 := ak (blk_drew BK338.out)
          replace HB := ak (below_drew1 HB.out)
          have p340 : 0 ≤ (x5_2 : Int) := od_
          have q340 : x5_2 < (l0_1.length : Int) := od_
          obtain ⟨ad340,A340_1,c340_1,e340,hx340_0,hx340_1,hl340_1,hi340_1⟩ := at_T83 HR0_1.out x5_2 p340 q340
          have hw340_1 := hx340_1
          have hw340_0 := hx340_0
          cases e340
          replace hx340_0 := hx_ HB hx340_0
          replace hx340_1 := hx_ HB hx340_1
          have HR340_1 := ak hi340_1
          have HC340_1 := ak hl340_1
          clear hi340_1 hl340_1
          replace p340 := eq_true p340
          replace q340 := eq_true q340
          have p341 : 0 ≤ (x5_2 : Int) := od_
          have q341 : x5_2 < (l1_1.length : Int) := od_
          obtain ⟨ad341,A341_1,c341_1,e341,hx341_0,hx341_1,hl341_1,hi341_1⟩ := at_T83 HR1_1.out x5_2 p341 q341
          have hw341_1 := hx341_1
          have hw341_0 := hx341_0
          cases e341
          replace hx341_0 := hx_ HB hx341_0
          replace hx341_1 := hx_ HB hx341_1
          have HR341_1 := ak hi341_1
          have HC341_1 := ak hl341_1
          clear hi341_1 hl341_1
          replace p341 := eq_true p341
          replace q341 := eq_true q341
          refine st_ 29 (S := fun w' => hc4 w' gb337 (.bool a0_0) (.slice (some ad340) l0_1.length c0_1) (.slice A0_2 l0_2.length c0_2) (.slice A0_3 l0_3.length c0_3) (hc4 w' gb338 (.bool a1_0) (.slice (some ad341) l1_1.length c1_1) (.slice A1_2 l1_2.length c1_2) (.slice A1_3 l1_3.length c1_3) (he2 w' (ad340.add ((x5_2).toNat * 2)) (.int .i64 ((rd_T83 l0_1 x5_2).f0)) (.slice A340_1 ((rd_T83 l0_1 x5_2).f1).length c340_1) (hf2 w' (ad341.add ((x5_2).toNat * 2)) (.int .i64 ((rd_T83 l1_1 x5_2).f0)) (.slice A341_1 ((rd_T83 l1_1 x5_2).f1).length c341_1))))) hh_ (fun hHeld => ?_);refine with_tabW laws_likeMachine.tab6 laws_likeMachine.bits6 (fun HT_ HW_ => ?_)
          generalize wr.drew = w37 at BK337 BK338 HB HR340_1 HR341_1 hx340_0 hx340_1 hx341_0 hx341_1 hHeld ⊢
          refine pv_ 0 45 ?_
          refine pv_ 2 47 ?_
          refine pv_ 6 51 ?_
          refine pv_ 8 53 ?_
          refine tx_ 1 46 hHeld ?_
          refine pv_ 3 48 ?_
          refine pv_ 4 49 ?_
          refine tx_ 5 50 hHeld ?_
          refine tx_ 7 52 hHeld ?_
          refine pv_ 9 54 ?_
          refine pv_ 10 55 ?_
          refine tx_ 11 56 hHeld ?_
          refine pv_ 12 57 ?_
          refine pv_ 13 58 ?_
          refine pn_ 14 59 ?_
          refine pn_ 15 60 ?_
          refine pn_ 16 61 ?_
          refine pn_ 17 62 ?_
          refine pn_ 18 63 ?_
          refine pn_ 19 64 ?_
          refine pn_ 20 65 ?_
          refine pn_ 21 66 ?_
          refine pn_ 22 67 ?_
          refine pn_ 23 68 ?_
          refine pn_ 24 69 ?_
          refine pn_ 25 70 ?_
          refine pn_ 26 71 ?_
          refine pn_ 27 72 ?_
          refine pv_ 28 73 ?_
          refine done_ (done_of HT_.out (by kernel_rfl)) ?_
          try go_wp2
          go_ret
          exact ⟨rf_,b_⟩
        ·rw [if_neg c25] at H
         exact absurd H (by simp)
       ·rw [if_neg c24] at H
        exact absurd H (by simp)
      ·rw [if_neg c23] at H
       have c23b0 : decide (x5_2 < (l0_1.length : Int)) = false := decide_eq_false c23
       clear c23
       have H' := ak H
       clear H
       have hnb38 := NB337_338.out
       have hnc38 := NB338_337.out
       obtain ⟨⟨hcz39_0,hcz39_1,hcz39_2,hcz39_3⟩,hfz39_0,hfz39_1,hfz39_2,hfz39_3⟩ := cl4_ BK337.out
       go_wp2
       go_loopg [6] k2 (fun kq v6 w' => ∃ (x6_3 : Int),v6 = .int .i64 x6_3 ∧ Aside0 (laws_likeMachine.l1 kq x6_3 a0_0 l0_1 l0_2 l0_3 a1_0 l1_1 l1_2 l1_3 = some r) ∧ Aside0 (kq ≤ k2) ∧ Aside0 (w'.heap[gb337]? = some (.cells #[.bool a0_0,(.slice A0_1 l0_1.length c0_1),(.slice A0_2 l0_2.length c0_2),(.slice A0_3 l0_3.length c0_3)] 31 (0,0))) ∧ Aside0 (w'.heap[gb338]? = some (.cells #[.bool a1_0,(.slice A1_1 l1_1.length c1_1),(.slice A1_2 l1_2.length c1_2),(.slice A1_3 l1_3.length c1_3)] 31 (0,0))) ∧ Aside0 (Below w.heap.size w w'))
       case atStart => exact ⟨(0),rs_,H',⟨Nat.le_refl _⟩,⟨kb_ BK337⟩,⟨kb_ BK338⟩,⟨b_⟩⟩
       case round =>
        clear H'
        try clear c1
        try clear c2
        try clear p2
        try clear c3
        try clear p3
        try clear q3
        try clear hx3
        try clear p6
        try clear c18
        try clear c23
        try clear c23b0
        try clear c24
        try clear c25
        try clear c26
        try clear c26b0
        try clear c26b1
        try clear c28
        try clear c32
        try clear c34
        try clear p34
        try clear q34
        try clear hx34
        try clear c35
        try clear c38
        try clear hcz33_0 hcz33_1 hcz33_2 hcz33_3
        try clear hcz36_0 hcz36_1 hcz36_2 hcz36_3
        try clear hcz39_0 hcz39_1 hcz39_2 hcz39_3
        try clear hfz33_0 hfz33_1 hfz33_2 hfz33_3
        try clear hfz36_0 hfz36_1 hfz36_2 hfz36_3
        try clear hfz39_0 hfz39_1 hfz39_2 hfz39_3
        try clear hx340_0
        try clear hx340_1
        try clear hx341_0
        try clear hx341_1
        try clear hx342_0
        try clear hx342_1
        try clear hx343_0
        try clear hx343_1
        try clear p340
        try clear p341
        try clear p342
        try clear p343
        try clear q340
        try clear q341
        try clear q342
        try clear q343
        obtain ⟨x6_3,rfl,HA,HK3,BK337,BK338,HB⟩ := hrel
        cases gk with
        | zero => exact absurd HA.out (by simp [laws_likeMachine.l1])
        | succ k3 =>
         have H := HA.out
         clear HA
         simp only [laws_likeMachine.l1] at H
         by_cases c40 : x6_3 < (l0_2.length : Int)
         ·rw [if_pos c40] at H
          have c40b0 : decide (x6_3 < (l0_2.length : Int)) = true := decide_eq_true c40
          clear c40
          by_cases c41 : 0 ≤ x6_3
          ·rw [if_pos c41] at H
           have c41b0 : decide (0 ≤ x6_3) = true := decide_eq_true c41
           clear c41
           by_cases c42 : x6_3 < (l1_2.length : Int)
           ·rw [if_pos c42] at H
            have c42b0 : decide (x6_3 < (l1_2.length : Int)) = true := decide_eq_true c42
            clear c42
            replace H := bs_ H
            obtain ⟨t347,A43,H⟩ := H
            by_cases c44 : t347 = true
            ·subst c44
             replace H := it_ H
             have H' := ak H
             clear H
             have hnb45 := NB337_338.out
             have hnc45 := NB338_337.out
             obtain ⟨⟨hcz46_0,hcz46_1,hcz46_2,hcz46_3⟩,hfz46_0,hfz46_1,hfz46_2,hfz46_3⟩ := cl4_ BK337.out
             try go_wp2
             replace BK337 := ak (blk_drew BK337.out)
             replace BK338 := ak (blk_drew BK338.out)
             replace HB := ak (below_drew1 HB.out)
             have p345 : 0 ≤ (x6_3 : Int) := od_
             have q345 : x6_3 < (l0_2.length : Int) := od_
             obtain ⟨ad345,A345_3,c345_3,e345,hx345_0,hx345_1,hx345_2,hx345_3,hl345_3,hi345_3⟩ := at_T50 HR0_2.out x6_3 p345 q345
             have hw345_3 := hx345_3
             have hw345_2 := hx345_2
             have hw345_1 := hx345_1
             have hw345_0 := hx345_0
             cases e345
             replace hx345_0 := hx_ HB hx345_0
             replace hx345_1 := hx_ HB hx345_1
             replace hx345_2 := hx_ HB hx345_2
             replace hx345_3 := hx_ HB hx345_3
             have HR345_3 := ak hi345_3
             have HC345_3 := ak hl345_3
             clear hi345_3 hl345_3
             replace p345 := eq_true p345
             replace q345 := eq_true q345
             have p346 : 0 ≤ (x6_3 : Int) := od_
             have q346 : x6_3 < (l1_2.length : Int) := od_
             obtain ⟨ad346,A346_3,c346_3,e346,hx346_0,hx346_1,hx346_2,hx346_3,hl346_3,hi346_3⟩ := at_T50 HR1_2.out x6_3 p346 q346
             have hw346_3 := hx346_3
             have hw346_2 := hx346_2
             have hw346_1 := hx346_1
             have hw346_0 := hx346_0
             cases e346
             replace hx346_0 := hx_ HB hx346_0
             replace hx346_1 := hx_ HB hx346_1
             replace hx346_2 := hx_ HB hx346_2
             replace hx346_3 := hx_ HB hx346_3
             have HR346_3 := ak hi346_3
             have HC346_3 := ak hl346_3
             clear hi346_3 hl346_3
             replace p346 := eq_true p346
             replace q346 := eq_true q346
             refine st_ 12 (S := fun w' => hc4 w' gb337 (.bool a0_0) (.slice A0_1 l0_1.length c0_1) (.slice (some ad345) l0_2.length c0_2) (.slice A0_3 l0_3.length c0_3) (hc4 w' gb338 (.bool a1_0) (.slice A1_1 l1_1.length c1_1) (.slice (some ad346) l1_2.length c1_2) (.slice A1_3 l1_3.length c1_3) (he4 w' (ad345.add ((x6_3).toNat * 4)) (.int .i64 ((rd_T50 l0_2 x6_3).f0)) (.int .i64 ((rd_T50 l0_2 x6_3).f1)) (.int .i64 ((rd_T50 l0_2 x6_3).f2)) (.slice A345_3 ((rd_T50 l0_2 x6_3).f3).length c345_3) (hf4 w' (ad346.add ((x6_3).toNat * 4)) (.int .i64 ((rd_T50 l1_2 x6_3).f0)) (.int .i64 ((rd_T50 l1_2 x6_3).f1)) (.int .i64 ((rd_T50 l1_2 x6_3).f2)) (.slice A346_3 ((rd_T50 l1_2 x6_3).f3).length c346_3))))) hh_ (fun hHeld => ?_);refine with_tabW laws_likeMachine.tab11 laws_likeMachine.bits11 (fun HT_ HW_ => ?_)
             generalize wr.drew = w47 at BK337 BK338 HB HR345_3 HR346_3 hx345_0 hx345_1 hx345_2 hx345_3 hx346_0 hx346_1 hx346_2 hx346_3 hHeld ⊢
             refine pv_ 0 81 ?_
             refine pv_ 2 83 ?_
             refine pv_ 5 86 ?_
             refine pv_ 7 88 ?_
             refine tx_ 1 82 hHeld ?_
             refine pv_ 3 84 ?_
             refine tx_ 4 85 hHeld ?_
             refine tx_ 6 87 hHeld ?_
             refine pv_ 8 89 ?_
             refine tx_ 9 90 hHeld ?_
             refine oy_ 10 91 (fun K hK => ?_)
             refine gs_ Tryz.func61 #[.agg #[.int .i64 ((rd_T50 l0_2 x6_3).f0),.int .i64 ((rd_T50 l0_2 x6_3).f1),.int .i64 ((rd_T50 l0_2 x6_3).f2),.slice A345_3 ((rd_T50 l0_2 x6_3).f3).length c345_3],.agg #[.int .i64 ((rd_T50 l1_2 x6_3).f0),.int .i64 ((rd_T50 l1_2 x6_3).f1),.int .i64 ((rd_T50 l1_2 x6_3).f2),.slice A346_3 ((rd_T50 l1_2 x6_3).f3).length c346_3]] ?_
             with_reducible refine (laws_likeRecord.calls k3 ((rd_T50 l0_2 x6_3).f0) ((rd_T50 l0_2 x6_3).f1) ((rd_T50 l0_2 x6_3).f2) _ _ ((rd_T50 l0_2 x6_3).f3) ((rd_T50 l1_2 x6_3).f0) ((rd_T50 l1_2 x6_3).f1) ((rd_T50 l1_2 x6_3).f2) _ _ ((rd_T50 l1_2 x6_3).f3) true _ ?side1 ?side2 ?side3 ?side4 A43.out).mono ?_
             (case side1 => exact cb_ HR345_3)
             (case side2 => exact HC345_3.out)
             (case side3 => exact cb_ HR346_3)
             (case side4 => exact HC346_3.out)
             rintro e w48 ⟨rfl,hb⟩
             refine ⟨_,rfl,?_⟩
             replace BK337 := ak (blk_below (kb_ BK337) hb)
             replace BK338 := ak (blk_below (kb_ BK338) hb)
             replace HB := ak (below_step b_ hb)
             (try clear hb)
             (try clear hb2)
             (try clear hk)
             (try clear hi)
             refine hK.out _ _ hh_ (fun hHeld => ?_)
             clear hK K
             refine nr_ (some 91) _ ?_
             refine pv_ 11 92 ?_
             refine done_ (done_of HT_.out (by kernel_rfl)) ?_
             try go_wp2
             go_roundg k3
             case measure => have := HJ2.out;have := HK2.out;have := HK3.out;omega
             case rel => exact ⟨(wrap64 (x6_3 + 1)),rs_,H',⟨by have := HJ2.out;have := HK2.out;have := HK3.out;omega⟩,⟨kb_ BK337⟩,⟨kb_ BK338⟩,⟨b_⟩⟩
            ·replace c44 := Bool.eq_false_iff.mpr c44
             subst c44
             replace H := ie_ H
             obtain rfl := Option.some.inj H
             have hnb49 := NB337_338.out
             have hnc49 := NB338_337.out
             obtain ⟨⟨hcz50_0,hcz50_1,hcz50_2,hcz50_3⟩,hfz50_0,hfz50_1,hfz50_2,hfz50_3⟩ := cl4_ BK337.out
             try go_wp2
             replace BK337 := ak (blk_drew BK337.out)
             replace BK338 := ak (blk_drew BK338.out)
             replace HB := ak (below_drew1 HB.out)
             have p345 : 0 ≤ (x6_3 : Int) := od_
             have q345 : x6_3 < (l0_2.length : Int) := od_
             obtain ⟨ad345,A345_3,c345_3,e345,hx345_0,hx345_1,hx345_2,hx345_3,hl345_3,hi345_3⟩ := at_T50 HR0_2.out x6_3 p345 q345
             have hw345_3 := hx345_3
             have hw345_2 := hx345_2
             have hw345_1 := hx345_1
             have hw345_0 := hx345_0
             cases e345
             replace hx345_0 := hx_ HB hx345_0
             replace hx345_1 := hx_ HB hx345_1
             replace hx345_2 := hx_ HB hx345_2
             replace hx345_3 := hx_ HB hx345_3
             have HR345_3 := ak hi345_3
             have HC345_3 := ak hl345_3
             clear hi345_3 hl345_3
             replace p345 := eq_true p345
             replace q345 := eq_true q345
             have p346 : 0 ≤ (x6_3 : Int) := od_
             have q346 : x6_3 < (l1_2.length : Int) := od_
             obtain ⟨ad346,A346_3,c346_3,e346,hx346_0,hx346_1,hx346_2,hx346_3,hl346_3,hi346_3⟩ := at_T50 HR1_2.out x6_3 p346 q346
             have hw346_3 := hx346_3
             have hw346_2 := hx346_2
             have hw346_1 := hx346_1
             have hw346_0 := hx346_0
             cases e346
             replace hx346_0 := hx_ HB hx346_0
             replace hx346_1 := hx_ HB hx346_1
             replace hx346_2 := hx_ HB hx346_2
             replace hx346_3 := hx_ HB hx346_3
             have HR346_3 := ak hi346_3
             have HC346_3 := ak hl346_3
             clear hi346_3 hl346_3
             replace p346 := eq_true p346
             replace q346 := eq_true q346
             refine st_ 12 (S := fun w' => hc4 w' gb337 (.bool a0_0) (.slice A0_1 l0_1.length c0_1) (.slice (some ad345) l0_2.length c0_2) (.slice A0_3 l0_3.length c0_3) (hc4 w' gb338 (.bool a1_0) (.slice A1_1 l1_1.length c1_1) (.slice (some ad346) l1_2.length c1_2) (.slice A1_3 l1_3.length c1_3) (he4 w' (ad345.add ((x6_3).toNat * 4)) (.int .i64 ((rd_T50 l0_2 x6_3).f0)) (.int .i64 ((rd_T50 l0_2 x6_3).f1)) (.int .i64 ((rd_T50 l0_2 x6_3).f2)) (.slice A345_3 ((rd_T50 l0_2 x6_3).f3).length c345_3) (hf4 w' (ad346.add ((x6_3).toNat * 4)) (.int .i64 ((rd_T50 l1_2 x6_3).f0)) (.int .i64 ((rd_T50 l1_2 x6_3).f1)) (.int .i64 ((rd_T50 l1_2 x6_3).f2)) (.slice A346_3 ((rd_T50 l1_2 x6_3).f3).length c346_3))))) hh_ (fun hHeld => ?_);refine with_tabW laws_likeMachine.tab11 laws_likeMachine.bits11 (fun HT_ HW_ => ?_)
             generalize wr.drew = w51 at BK337 BK338 HB HR345_3 HR346_3 hx345_0 hx345_1 hx345_2 hx345_3 hx346_0 hx346_1 hx346_2 hx346_3 hHeld ⊢
             refine pv_ 0 81 ?_
             refine pv_ 2 83 ?_
             refine pv_ 5 86 ?_
             refine pv_ 7 88 ?_
             refine tx_ 1 82 hHeld ?_
             refine pv_ 3 84 ?_
             refine tx_ 4 85 hHeld ?_
             refine tx_ 6 87 hHeld ?_
             refine pv_ 8 89 ?_
             refine tx_ 9 90 hHeld ?_
             refine oy_ 10 91 (fun K hK => ?_)
             refine gs_ Tryz.func61 #[.agg #[.int .i64 ((rd_T50 l0_2 x6_3).f0),.int .i64 ((rd_T50 l0_2 x6_3).f1),.int .i64 ((rd_T50 l0_2 x6_3).f2),.slice A345_3 ((rd_T50 l0_2 x6_3).f3).length c345_3],.agg #[.int .i64 ((rd_T50 l1_2 x6_3).f0),.int .i64 ((rd_T50 l1_2 x6_3).f1),.int .i64 ((rd_T50 l1_2 x6_3).f2),.slice A346_3 ((rd_T50 l1_2 x6_3).f3).length c346_3]] ?_
             with_reducible refine (laws_likeRecord.calls k3 ((rd_T50 l0_2 x6_3).f0) ((rd_T50 l0_2 x6_3).f1) ((rd_T50 l0_2 x6_3).f2) _ _ ((rd_T50 l0_2 x6_3).f3) ((rd_T50 l1_2 x6_3).f0) ((rd_T50 l1_2 x6_3).f1) ((rd_T50 l1_2 x6_3).f2) _ _ ((rd_T50 l1_2 x6_3).f3) false _ ?side1 ?side2 ?side3 ?side4 A43.out).mono ?_
             (case side1 => exact cb_ HR345_3)
             (case side2 => exact HC345_3.out)
             (case side3 => exact cb_ HR346_3)
             (case side4 => exact HC346_3.out)
             rintro e w52 ⟨rfl,hb⟩
             refine ⟨_,rfl,?_⟩
             replace BK337 := ak (blk_below (kb_ BK337) hb)
             replace BK338 := ak (blk_below (kb_ BK338) hb)
             replace HB := ak (below_step b_ hb)
             (try clear hb)
             (try clear hb2)
             (try clear hk)
             (try clear hi)
             refine hK.out _ _ hh_ (fun hHeld => ?_)
             clear hK K
             refine nr_ (some 91) _ ?_
             refine pv_ 11 92 ?_
             refine done_ (done_of HT_.out (by kernel_rfl)) ?_
             try go_wp2
             go_ret
             exact ⟨rf_,b_⟩
           ·rw [if_neg c42] at H
            exact absurd H (by simp)
          ·rw [if_neg c41] at H
           exact absurd H (by simp)
         ·rw [if_neg c40] at H
          have c40b0 : decide (x6_3 < (l0_2.length : Int)) = false := decide_eq_false c40
          clear c40
          obtain rfl := Option.some.inj H
          have hnb53 := NB337_338.out
          have hnc53 := NB338_337.out
          obtain ⟨⟨hcz54_0,hcz54_1,hcz54_2,hcz54_3⟩,hfz54_0,hfz54_1,hfz54_2,hfz54_3⟩ := cl4_ BK337.out
          go_wp2
          go_ret
          exact ⟨rf_,b_⟩

end Go.Proofs.YthplaakckfhaaaaGreat.XMs
