/- Proved: of each Go function here that a call comes to what the Lean function of its name tells. Written by a program of this session over the translation. No conditions beyond each theorem's own. -/
import Derived.Test.YthplaakckfhaaaaXCp0
import Derived.Test.YthplaakckfhaaaaXCp10
namespace Go.Proofs.Ythplaakckfhaaaa.XCp
open Go.RowKit Go.Proofs.Ythplaakckfhaaaa.Aid Go.Proofs.YthplaakckfhaaaaW.PrintWords Go.Proofs.YthplaakckfhaaaaW.PrintLast Go.Proofs.YthplaakckfhaaaaW.PrintMore
set_option linter.unusedVariables false
set_option linter.unusedSimpArgs false

/-! ### impl_areSets: function 118 -/
def impl_areSets.l0 : Nat → List (S127) → List (S127) → Int → Int → Option (Bool)
  | 0, _, _, _, _ => none
  | k + 1, x0, x5, x6, x7 => if x7 < x6 then (if 0 ≤ x7 then (if x7 < (x5.length : Int) then ((impl_isSet.f ((rd_T127 x5 x7).f0) ((rd_T127 x5 x7).f1) ((rd_T127 x5 x7).f2) ((rd_T127 x5 x7).f3) ((rd_T127 x5 x7).f4)).bind fun t293 => (if t293 = true then (if 0 < (x0.length : Int) then (if ((rd_T127 x5 x7).f0) = ((rd_T127 x0 0).f0) then (if x7 > 0 then (if 0 ≤ (wrap64 (x7 - 1)) then (if (wrap64 (x7 - 1)) < (x0.length : Int) then (if ((rd_T127 x0 (wrap64 (x7 - 1))).f1) ≥ ((rd_T127 x5 x7).f1) then (some false) else (impl_areSets.l0 k x0 x5 x6 (wrap64 (x7 + 1)))) else (none)) else (none)) else (impl_areSets.l0 k x0 x5 x6 (wrap64 (x7 + 1)))) else (some false)) else (none)) else (some false))) else (none)) else (none)) else (some true)
def impl_areSets.f (k : Nat) (l0 : List (S127)) : Option (Bool) := impl_areSets.l0 k l0 l0 (l0.length : Int) 0

def impl_areSets.T4 : Bool × List (List Nat × List Nat) := (true, [([], []), ([0], [0]), ([1], [1]), ([2, 1], [2]), ([3], [3]), ([4, 3], [3, 4]), ([3], [3]), ([6, 3], [3, 6]), ([7, 3], [3, 7]), ([8, 3], [3, 8]), ([5, 9, 3], [3, 5, 9]), ([3, 10], [3, 10]), ([11, 3], [11]), ([12], [12]), ([13, 12], [12, 13]), ([14, 12, 12], [12, 14]), ([15], [15]), ([15], [15]), ([17, 15], [15, 17]), ([16, 18, 15], [15, 16, 18]), ([19, 15], [15, 19]), ([20, 15], [15, 20]), ([15], [15]), ([22, 15], [15, 22]), ([21, 23, 15], [15, 21, 23]), ([15, 24, 12], [12, 15, 24]), ([12, 25], [12, 25])])
def impl_areSets.B4 : List Nat := [0, 1, 3, 7, 15, 31, 15, 79, 207, 463, 1023, 2047, 4095, 8191, 16383, 32767, 65535, 65535, 196607, 524287, 1048575, 2097151, 65535, 4259839, 16777215, 33554431, 67108863]
theorem impl_areSets.tab4 : rtab .any (opsOf Try.f118 4) = impl_areSets.T4 := by kernel_rfl
theorem impl_areSets.bits4 : waitsOk impl_areSets.T4.2 impl_areSets.B4 = true := by kernel_rfl
set_option maxHeartbeats 8000000 in
set_option maxRecDepth 100000 in
theorem impl_areSets.calls (k : Nat) (A0 : Option Addr) (c0 : Nat) (l0 : List (S127)) (r : Bool) (w : World) (hr0 : Kd.C k127 w A0 l0.length l0) (hc0 : l0.length ≤ c0) (h : impl_areSets.f k l0 = some r) :
    Calls Try.prog 118 #[.slice A0 l0.length c0] w fun e w' => e = .returned (.bool r) ∧ Below w.heap.size w w' := by
 have hu127 := Try.underlying127
 have HR0 := Aside0.mk hr0
 have HC0 := Aside0.mk hc0
 clear hr0 hc0
 have HB := Aside0.mk (Below.refl w.heap.size w)
 have H : (impl_areSets.l0 k l0 l0 (l0.length : Int) 0) = some r := h
 clear h
 have H' := Aside0.mk H
 clear H
 go_enter Try.func118,Try.ntmps118
 go_wp2
 go_loopg [7] k (fun kq v7 w' => ∃ (x7_1 : Int),v7 = .int .i64 x7_1 ∧ Aside0 (impl_areSets.l0 kq l0 l0 (l0.length : Int) x7_1 = some r) ∧ Aside0 (kq ≤ k) ∧ Aside0 (Below w.heap.size w w'))
 case atStart => exact ⟨(0),(by first|rfl|(simp;done)|(simp [*];done)),H',⟨Nat.le_refl _⟩,⟨by repeat (first|(with_reducible first|exact HB.out|apply below_alloc|apply pw_below_drewN|apply below_drew1)|exact HB.out)⟩⟩
 case round =>
  clear H'
  try clear c1
  obtain ⟨x7_1,rfl,HA,HK1,HB⟩ := hrel
  cases gk with
    | zero => exact absurd HA.out (by simp [impl_areSets.l0])
    | succ k1 =>
   have H := HA.out
   clear HA
   simp only [impl_areSets.l0] at H
   by_cases c2 : x7_1 < (l0.length : Int)
   ·rw [if_pos c2] at H
    have c2b0 : decide (x7_1 < (l0.length : Int)) = true := decide_eq_true c2
    clear c2
    by_cases c3 : 0 ≤ x7_1
    ·rw [if_pos c3] at H
     have c3b0 : decide (0 ≤ x7_1) = true := decide_eq_true c3
     clear c3
     by_cases c4 : x7_1 < (l0.length : Int)
     ·rw [if_pos c4] at H
      have c4b0 : decide (x7_1 < (l0.length : Int)) = true := decide_eq_true c4
      clear c4
      replace H := Option.bind_eq_some_iff.mp H
      obtain ⟨t293,A50,H⟩ := H
      replace H : (if t293 = true then (if 0 < (l0.length : Int) then (if ((rd_T127 l0 x7_1).f0) = ((rd_T127 l0 0).f0) then (if x7_1 > 0 then (if 0 ≤ (wrap64 (x7_1 - 1)) then (if (wrap64 (x7_1 - 1)) < (l0.length : Int) then (if ((rd_T127 l0 (wrap64 (x7_1 - 1))).f1) ≥ ((rd_T127 l0 x7_1).f1) then (some false) else (impl_areSets.l0 k1 l0 l0 (l0.length : Int) (wrap64 (x7_1 + 1)))) else (none)) else (none)) else (impl_areSets.l0 k1 l0 l0 (l0.length : Int) (wrap64 (x7_1 + 1)))) else (some false)) else (none)) else (some false)) = some r := H
      have A5 := Aside0.mk A50
      clear A50
      by_cases c6 : t293 = true
      ·subst c6
       have H1 : (if 0 < (l0.length : Int) then (if ((rd_T127 l0 x7_1).f0) = ((rd_T127 l0 0).f0) then (if x7_1 > 0 then (if 0 ≤ (wrap64 (x7_1 - 1)) then (if (wrap64 (x7_1 - 1)) < (l0.length : Int) then (if ((rd_T127 l0 (wrap64 (x7_1 - 1))).f1) ≥ ((rd_T127 l0 x7_1).f1) then (some false) else (impl_areSets.l0 k1 l0 l0 (l0.length : Int) (wrap64 (x7_1 + 1)))) else (none)) else (none)) else (impl_areSets.l0 k1 l0 l0 (l0.length : Int) (wrap64 (x7_1 + 1)))) else (some false)) else (none)) = some r := by rw [if_pos rfl] at H;exact H
       clear H
       have H := H1
       clear H1
       by_cases c7 : 0 < (l0.length : Int)
       ·rw [if_pos c7] at H
        have c7b0 : decide (0 < (l0.length : Int)) = true := decide_eq_true c7
        have c7b1 : decide (0 < l0.length) = true := decide_eq_true (by omega)
        clear c7
        by_cases c8 : ((rd_T127 l0 x7_1).f0) = ((rd_T127 l0 0).f0)
        ·rw [if_pos c8] at H
         have c8b0 : (((rd_T127 l0 x7_1).f0) == ((rd_T127 l0 0).f0)) = true := beq_iff_eq.mpr c8
         have c8b1 : (((rd_T127 l0 x7_1).f0) != ((rd_T127 l0 0).f0)) = false := bne_eq_false_iff_eq.mpr c8
         clear c8
         by_cases c9 : x7_1 > 0
         ·rw [if_pos c9] at H
          have c9b0 : decide (0 < x7_1) = true := decide_eq_true c9
          clear c9
          obtain ⟨ji10,hji10⟩ : ∃ j_ : Int,(wrap64 (x7_1 - 1)) = j_ := ⟨_,rfl⟩
          replace H : (if 0 ≤ (ji10) then (if (ji10) < (l0.length : Int) then (if ((rd_T127 l0 (ji10)).f1) ≥ ((rd_T127 l0 x7_1).f1) then (some false) else (impl_areSets.l0 k1 l0 l0 (l0.length : Int) (wrap64 (x7_1 + 1)))) else (none)) else (none)) = some r := by first|(rw [hji10] at H;exact H)|(simp only [hji10] at H ⊢;exact H)
          (try rw [hji10] at A5)
          have hji10w : (IntKind.i64.wrap (x7_1 - 1)) = ji10 := (i64_w _).trans hji10
          by_cases c11 : 0 ≤ (ji10)
          ·rw [if_pos c11] at H
           have c11b0 : decide (0 ≤ (ji10)) = true := decide_eq_true c11
           clear c11
           by_cases c12 : (ji10) < (l0.length : Int)
           ·rw [if_pos c12] at H
            have c12b0 : decide ((ji10) < (l0.length : Int)) = true := decide_eq_true c12
            clear c12
            by_cases c13 : ((rd_T127 l0 (ji10)).f1) ≥ ((rd_T127 l0 x7_1).f1)
            ·rw [if_pos c13] at H
             have c13b0 : decide (((rd_T127 l0 x7_1).f1) ≤ ((rd_T127 l0 (ji10)).f1)) = true := decide_eq_true c13
             clear c13
             obtain rfl := Option.some.inj H
             have p291 : 0 ≤ (x7_1 : Int) := of_decide_eq_true (by first|(with_reducible assumption)|assumption)
             have q291 : x7_1 < (l0.length : Int) := of_decide_eq_true (by first|(with_reducible assumption)|assumption)
             obtain ⟨ad291,e291,hx291_0,hx291_1,hx291_2,hx291_3,hx291_4⟩ := at_T127 HR0.out x7_1 p291 q291
             cases e291
             replace hx291_0 := (HB.out.cell (World.block_lt_of_cell? w _ hx291_0)).trans hx291_0
             replace hx291_1 := (HB.out.cell (World.block_lt_of_cell? w _ hx291_1)).trans hx291_1
             replace hx291_2 := (HB.out.cell (World.block_lt_of_cell? w _ hx291_2)).trans hx291_2
             replace hx291_3 := (HB.out.cell (World.block_lt_of_cell? w _ hx291_3)).trans hx291_3
             replace hx291_4 := (HB.out.cell (World.block_lt_of_cell? w _ hx291_4)).trans hx291_4
             replace p291 := eq_true p291
             replace q291 := eq_true q291
             try go_wp2_with (first|((with_reducible refine gate_dst (N := 4) rfl ?_);refine box_event ?hg (N := 4) ?hd (cs := #[.int .i64 0,.int .i64 0,.int .i64 0,.bool false,.int .i64 0]) (t := 127) ?hr ?_;(case hd => rfl);(case hg => rfl);(case hr => first|(go_simp;done)|(go_simp;rfl));intro gb292 hg w14 hbox hb;have n0_ := Aside0.mk (below_step (by repeat (first|(with_reducible first|exact HB.out|apply below_alloc|apply pw_below_drewN|apply below_drew1)|exact HB.out)) hb);have n1_ := Aside0.mk (hbox);have n2_ := Aside0.mk ((by rw [hg];exact (below_size (by repeat (first|(with_reducible first|exact HB.out|apply below_alloc|apply pw_below_drewN|apply below_drew1)|exact HB.out))) : w.heap.size ≤ gb292));have n3_ := Aside0.mk ((by rw [hg];exact (below_size (by repeat (first|(with_reducible first|exact HB.out|apply below_alloc|apply pw_below_drewN|apply below_drew1)|exact HB.out))) : w.heap.size ≤ gb292));clear HB;have HB := n0_;have BK292 := n1_;have GW292 := n2_;have GE292 := n3_;clear n0_ n1_ n2_ n3_;clear hb hbox hg;have hcz15_0 : w14.cell? ⟨gb292,0,none⟩ = some (.int .i64 0) := (blk_cell BK292.out 0).trans rfl;have hcz15_1 : w14.cell? ⟨gb292,1,none⟩ = some (.int .i64 0) := (blk_cell BK292.out 1).trans rfl;have hcz15_2 : w14.cell? ⟨gb292,2,none⟩ = some (.int .i64 0) := (blk_cell BK292.out 2).trans rfl;have hcz15_3 : w14.cell? ⟨gb292,3,none⟩ = some (.bool false) := (blk_cell BK292.out 3).trans rfl;have hcz15_4 : w14.cell? ⟨gb292,4,none⟩ = some (.int .i64 0) := (blk_cell BK292.out 4).trans rfl;have hfz15_0 := blk_frozen BK292.out 0;have hfz15_1 := blk_frozen BK292.out 1;have hfz15_2 := blk_frozen BK292.out 2;have hfz15_3 := blk_frozen BK292.out 3;have hfz15_4 := blk_frozen BK292.out 4))
             have n0_ : Aside0 ((((((w14.setCell ⟨gb292,0,none⟩ (.int .i64 ((rd_T127 l0 x7_1).f0))).setCell ⟨gb292,1,none⟩ (.int .i64 ((rd_T127 l0 x7_1).f1))).setCell ⟨gb292,2,none⟩ (.int .i64 ((rd_T127 l0 x7_1).f2))).setCell ⟨gb292,3,none⟩ (.bool ((rd_T127 l0 x7_1).f3))).setCell ⟨gb292,4,none⟩ (.int .i64 ((rd_T127 l0 x7_1).f4))).heap[gb292]? = some (.cells #[.int .i64 ((rd_T127 l0 x7_1).f0),.int .i64 ((rd_T127 l0 x7_1).f1),.int .i64 ((rd_T127 l0 x7_1).f2),.bool ((rd_T127 l0 x7_1).f3),.int .i64 ((rd_T127 l0 x7_1).f4)] 127 (0,0))) := ⟨by (with_reducible repeat (first|refine blk_drewN ?_ _|refine blk_drew ?_|refine blk_alloc ?_ _));refine blk_put (cs := #[.int .i64 ((rd_T127 l0 x7_1).f0),.int .i64 ((rd_T127 l0 x7_1).f1),.int .i64 ((rd_T127 l0 x7_1).f2),.bool ((rd_T127 l0 x7_1).f3),.int .i64 0]) ?_ 4 _ rfl;(with_reducible repeat (first|refine blk_drewN ?_ _|refine blk_drew ?_|refine blk_alloc ?_ _));refine blk_put (cs := #[.int .i64 ((rd_T127 l0 x7_1).f0),.int .i64 ((rd_T127 l0 x7_1).f1),.int .i64 ((rd_T127 l0 x7_1).f2),.bool false,.int .i64 0]) ?_ 3 _ rfl;(with_reducible repeat (first|refine blk_drewN ?_ _|refine blk_drew ?_|refine blk_alloc ?_ _));refine blk_put (cs := #[.int .i64 ((rd_T127 l0 x7_1).f0),.int .i64 ((rd_T127 l0 x7_1).f1),.int .i64 0,.bool false,.int .i64 0]) ?_ 2 _ rfl;(with_reducible repeat (first|refine blk_drewN ?_ _|refine blk_drew ?_|refine blk_alloc ?_ _));refine blk_put (cs := #[.int .i64 ((rd_T127 l0 x7_1).f0),.int .i64 0,.int .i64 0,.bool false,.int .i64 0]) ?_ 1 _ rfl;(with_reducible repeat (first|refine blk_drewN ?_ _|refine blk_drew ?_|refine blk_alloc ?_ _));refine blk_put (cs := #[.int .i64 0,.int .i64 0,.int .i64 0,.bool false,.int .i64 0]) ?_ 0 _ rfl;(with_reducible repeat (first|refine blk_drewN ?_ _|refine blk_drew ?_|refine blk_alloc ?_ _));exact BK292.out⟩
             have n1_ : Aside0 (Below w.heap.size w (((((w14.setCell ⟨gb292,0,none⟩ (.int .i64 ((rd_T127 l0 x7_1).f0))).setCell ⟨gb292,1,none⟩ (.int .i64 ((rd_T127 l0 x7_1).f1))).setCell ⟨gb292,2,none⟩ (.int .i64 ((rd_T127 l0 x7_1).f2))).setCell ⟨gb292,3,none⟩ (.bool ((rd_T127 l0 x7_1).f3))).setCell ⟨gb292,4,none⟩ (.int .i64 ((rd_T127 l0 x7_1).f4)))) := ⟨by repeat (first|(with_reducible first|exact HB.out|apply below_alloc|apply pw_below_drewN|apply below_drew1|refine below_set ?_ GE292.out)|exact HB.out)⟩
             (try clear BK292)
             (try clear HB)
             generalize (((((w14.setCell ⟨gb292,0,none⟩ (.int .i64 ((rd_T127 l0 x7_1).f0))).setCell ⟨gb292,1,none⟩ (.int .i64 ((rd_T127 l0 x7_1).f1))).setCell ⟨gb292,2,none⟩ (.int .i64 ((rd_T127 l0 x7_1).f2))).setCell ⟨gb292,3,none⟩ (.bool ((rd_T127 l0 x7_1).f3))).setCell ⟨gb292,4,none⟩ (.int .i64 ((rd_T127 l0 x7_1).f4))) = w16 at n0_ n1_ ⊢
             have BK292 := n0_
             have HB := n1_
             clear n0_ n1_
             have n0_ := Aside0.mk (blk_drew BK292.out)
             have n1_ := Aside0.mk (below_drew1 HB.out)
             clear BK292
             clear HB
             have BK292 := n0_
             have HB := n1_
             clear n0_ n1_
             have p294 : 0 ≤ (0 : Int) := (by omega)
             have q294 : 0 < (l0.length : Int) := of_decide_eq_true (by first|(with_reducible assumption)|assumption)
             obtain ⟨ad294,e294,hx294_0,hx294_1,hx294_2,hx294_3,hx294_4⟩ := at_T127 HR0.out 0 p294 q294
             have hw294_4 := hx294_4
             (try rw [show ((0 : Int)).toNat = 0 from rfl] at hw294_4)
             (try rw [show 0 * 5 = 0 from rfl] at hw294_4)
             (try rw [Addr.add_zero'] at hw294_4)
             have hw294_3 := hx294_3
             (try rw [show ((0 : Int)).toNat = 0 from rfl] at hw294_3)
             (try rw [show 0 * 5 = 0 from rfl] at hw294_3)
             (try rw [Addr.add_zero'] at hw294_3)
             have hw294_2 := hx294_2
             (try rw [show ((0 : Int)).toNat = 0 from rfl] at hw294_2)
             (try rw [show 0 * 5 = 0 from rfl] at hw294_2)
             (try rw [Addr.add_zero'] at hw294_2)
             have hw294_1 := hx294_1
             (try rw [show ((0 : Int)).toNat = 0 from rfl] at hw294_1)
             (try rw [show 0 * 5 = 0 from rfl] at hw294_1)
             (try rw [Addr.add_zero'] at hw294_1)
             have hw294_0 := hx294_0
             (try rw [show ((0 : Int)).toNat = 0 from rfl] at hw294_0)
             (try rw [show 0 * 5 = 0 from rfl] at hw294_0)
             (try rw [Addr.add_zero'] at hw294_0)
             obtain rfl : ad291 = ad294 := (by injection e294)
             have qi294 : (0 < l0.length) = True := eq_true (by omega)
             (try rw [show ((0 : Int)).toNat = 0 from rfl] at hx294_0)
             (try rw [show 0 * 5 = 0 from rfl] at hx294_0)
             (try rw [Addr.add_zero'] at hx294_0)
             (try rw [show ((0 : Int)).toNat = 0 from rfl] at hx294_1)
             (try rw [show 0 * 5 = 0 from rfl] at hx294_1)
             (try rw [Addr.add_zero'] at hx294_1)
             (try rw [show ((0 : Int)).toNat = 0 from rfl] at hx294_2)
             (try rw [show 0 * 5 = 0 from rfl] at hx294_2)
             (try rw [Addr.add_zero'] at hx294_2)
             (try rw [show ((0 : Int)).toNat = 0 from rfl] at hx294_3)
             (try rw [show 0 * 5 = 0 from rfl] at hx294_3)
             (try rw [Addr.add_zero'] at hx294_3)
             (try rw [show ((0 : Int)).toNat = 0 from rfl] at hx294_4)
             (try rw [show 0 * 5 = 0 from rfl] at hx294_4)
             (try rw [Addr.add_zero'] at hx294_4)
             replace hx294_0 := (HB.out.cell (World.block_lt_of_cell? w _ hx294_0)).trans hx294_0
             replace hx294_1 := (HB.out.cell (World.block_lt_of_cell? w _ hx294_1)).trans hx294_1
             replace hx294_2 := (HB.out.cell (World.block_lt_of_cell? w _ hx294_2)).trans hx294_2
             replace hx294_3 := (HB.out.cell (World.block_lt_of_cell? w _ hx294_3)).trans hx294_3
             replace hx294_4 := (HB.out.cell (World.block_lt_of_cell? w _ hx294_4)).trans hx294_4
             replace p294 := eq_true p294
             replace q294 := eq_true q294
             have p295 : 0 ≤ ((ji10) : Int) := of_decide_eq_true (by first|(with_reducible assumption)|assumption)
             have q295 : (ji10) < (l0.length : Int) := of_decide_eq_true (by first|(with_reducible assumption)|assumption)
             obtain ⟨ad295,e295,hx295_0,hx295_1,hx295_2,hx295_3,hx295_4⟩ := at_T127 HR0.out (ji10) p295 q295
             have hw295_4 := hx295_4
             have hw295_3 := hx295_3
             have hw295_2 := hx295_2
             have hw295_1 := hx295_1
             have hw295_0 := hx295_0
             obtain rfl : ad291 = ad295 := (by injection e295)
             replace hx295_0 := (HB.out.cell (World.block_lt_of_cell? w _ hx295_0)).trans hx295_0
             replace hx295_1 := (HB.out.cell (World.block_lt_of_cell? w _ hx295_1)).trans hx295_1
             replace hx295_2 := (HB.out.cell (World.block_lt_of_cell? w _ hx295_2)).trans hx295_2
             replace hx295_3 := (HB.out.cell (World.block_lt_of_cell? w _ hx295_3)).trans hx295_3
             replace hx295_4 := (HB.out.cell (World.block_lt_of_cell? w _ hx295_4)).trans hx295_4
             replace p295 := eq_true p295
             replace q295 := eq_true q295
             refine start_ (n := 27) (S := fun w' => w'.cell? ⟨gb292,0,none⟩ = some (.int .i64 ((rd_T127 l0 x7_1).f0)) ∧ w'.cell? ⟨gb292,1,none⟩ = some (.int .i64 ((rd_T127 l0 x7_1).f1)) ∧ w'.cell? ⟨gb292,2,none⟩ = some (.int .i64 ((rd_T127 l0 x7_1).f2)) ∧ w'.cell? ⟨gb292,3,none⟩ = some (.bool ((rd_T127 l0 x7_1).f3)) ∧ w'.cell? ⟨gb292,4,none⟩ = some (.int .i64 ((rd_T127 l0 x7_1).f4)) ∧ w'.cell? ad291 = some (.int .i64 ((rd_T127 l0 0).f0)) ∧ w'.cell? ⟨ad291.block,ad291.off + 1,none⟩ = some (.int .i64 ((rd_T127 l0 0).f1)) ∧ w'.cell? ⟨ad291.block,ad291.off + 2,none⟩ = some (.int .i64 ((rd_T127 l0 0).f2)) ∧ w'.cell? ⟨ad291.block,ad291.off + 3,none⟩ = some (.bool ((rd_T127 l0 0).f3)) ∧ w'.cell? ⟨ad291.block,ad291.off + 4,none⟩ = some (.int .i64 ((rd_T127 l0 0).f4)) ∧ w'.cell? (ad291.add (((ji10)).toNat * 5)) = some (.int .i64 ((rd_T127 l0 (ji10)).f0)) ∧ w'.cell? ⟨(ad291.add (((ji10)).toNat * 5)).block,(ad291.add (((ji10)).toNat * 5)).off + 1,none⟩ = some (.int .i64 ((rd_T127 l0 (ji10)).f1)) ∧ w'.cell? ⟨(ad291.add (((ji10)).toNat * 5)).block,(ad291.add (((ji10)).toNat * 5)).off + 2,none⟩ = some (.int .i64 ((rd_T127 l0 (ji10)).f2)) ∧ w'.cell? ⟨(ad291.add (((ji10)).toNat * 5)).block,(ad291.add (((ji10)).toNat * 5)).off + 3,none⟩ = some (.bool ((rd_T127 l0 (ji10)).f3)) ∧ w'.cell? ⟨(ad291.add (((ji10)).toNat * 5)).block,(ad291.add (((ji10)).toNat * 5)).off + 4,none⟩ = some (.int .i64 ((rd_T127 l0 (ji10)).f4))) (ds := []) #[false,false,false,false,false,false,false,false,false,false,false,false,false,false,false,false,false,false,false,false,false,false,false,false,false,false,false] (by kernel_rfl) rfl rfl ⟨(blk_cell BK292.out 0).trans rfl,(blk_cell BK292.out 1).trans rfl,(blk_cell BK292.out 2).trans rfl,(blk_cell BK292.out 3).trans rfl,(blk_cell BK292.out 4).trans rfl,((HB.out.cell (World.block_lt_of_cell? w _ hw294_0)).trans hw294_0),((HB.out.cell (World.block_lt_of_cell? w _ hw294_1)).trans hw294_1),((HB.out.cell (World.block_lt_of_cell? w _ hw294_2)).trans hw294_2),((HB.out.cell (World.block_lt_of_cell? w _ hw294_3)).trans hw294_3),((HB.out.cell (World.block_lt_of_cell? w _ hw294_4)).trans hw294_4),((HB.out.cell (World.block_lt_of_cell? w _ hw295_0)).trans hw295_0),((HB.out.cell (World.block_lt_of_cell? w _ hw295_1)).trans hw295_1),((HB.out.cell (World.block_lt_of_cell? w _ hw295_2)).trans hw295_2),((HB.out.cell (World.block_lt_of_cell? w _ hw295_3)).trans hw295_3),((HB.out.cell (World.block_lt_of_cell? w _ hw295_4)).trans hw295_4)⟩ (fun hHeld => ?_);refine with_tabW impl_areSets.tab4 impl_areSets.bits4 (fun HT_ HW_ => ?_)
             generalize w16.drew = w17 at BK292 HB hx294_0 hx294_1 hx294_2 hx294_3 hx294_4 hx295_0 hx295_1 hx295_2 hx295_3 hx295_4 hHeld ⊢
             refine tw_ 0 (some 12) HT_.out HW_.out hHeld rfl rfl (by rintro w' ⟨s0,s1,s2,s3,s4,s5,s6,s7,s8,s9,s10,s11,s12,s13,s14⟩;go_simp;with_reducible rfl) ?_
             refine oz_ (i := 1) (N := some 13) HT_.out rfl rfl (by kernel_rfl) (by decide) (fun K hK => ?_)
             refine goes_ Try.func141 (by kernel_rfl) rfl #[.agg #[.int .i64 ((rd_T127 l0 x7_1).f0),.int .i64 ((rd_T127 l0 x7_1).f1),.int .i64 ((rd_T127 l0 x7_1).f2),.bool ((rd_T127 l0 x7_1).f3),.int .i64 ((rd_T127 l0 x7_1).f4)]] (by rfl) rfl rfl (by (try simp only [List.map_toArray,List.map_cons,List.map_nil]);first|done|rfl|(simp only [List.length_drop,List.length_take];rfl)) ?_
             with_reducible refine (impl_isSet.calls ((rd_T127 l0 x7_1).f0) ((rd_T127 l0 x7_1).f1) ((rd_T127 l0 x7_1).f2) ((rd_T127 l0 x7_1).f3) ((rd_T127 l0 x7_1).f4) true _ A5.out).mono ?_
             rintro e w18 ⟨rfl,hb⟩
             refine ⟨_,rfl,?_⟩
             have n0_ := Aside0.mk (blk_below (g := gb292) (o := .cells #[.int .i64 ((rd_T127 l0 x7_1).f0),.int .i64 ((rd_T127 l0 x7_1).f1),.int .i64 ((rd_T127 l0 x7_1).f2),.bool ((rd_T127 l0 x7_1).f3),.int .i64 ((rd_T127 l0 x7_1).f4)] 127 (0,0)) (by (with_reducible repeat (first|refine blk_drewN ?_ _|refine blk_drew ?_|refine blk_alloc ?_ _));exact BK292.out) hb)
             have n1_ := Aside0.mk (below_step (by repeat (first|(with_reducible first|exact HB.out|apply below_alloc|apply pw_below_drewN|apply below_drew1|refine below_set ?_ GE292.out)|exact HB.out)) hb)
             clear BK292
             clear HB
             have BK292 := n0_
             have HB := n1_
             clear n0_ n1_
             (try clear hb)
             (try clear hb2)
             (try clear hk)
             (try clear hi)
             refine hK.out _ _ ⟨(blk_cell BK292.out 0).trans rfl,(blk_cell BK292.out 1).trans rfl,(blk_cell BK292.out 2).trans rfl,(blk_cell BK292.out 3).trans rfl,(blk_cell BK292.out 4).trans rfl,((HB.out.cell (World.block_lt_of_cell? w _ hw294_0)).trans hw294_0),((HB.out.cell (World.block_lt_of_cell? w _ hw294_1)).trans hw294_1),((HB.out.cell (World.block_lt_of_cell? w _ hw294_2)).trans hw294_2),((HB.out.cell (World.block_lt_of_cell? w _ hw294_3)).trans hw294_3),((HB.out.cell (World.block_lt_of_cell? w _ hw294_4)).trans hw294_4),((HB.out.cell (World.block_lt_of_cell? w _ hw295_0)).trans hw295_0),((HB.out.cell (World.block_lt_of_cell? w _ hw295_1)).trans hw295_1),((HB.out.cell (World.block_lt_of_cell? w _ hw295_2)).trans hw295_2),((HB.out.cell (World.block_lt_of_cell? w _ hw295_3)).trans hw295_3),((HB.out.cell (World.block_lt_of_cell? w _ hw295_4)).trans hw295_4)⟩ (fun hHeld => ?_)
             clear hK K
             refine norm_ (a' := ?_) ?_ ?_
             rotate_left
             ·show Act.put _ (some 13) _ = _
              simp only [Act.put,q1,q2,q3,i64_w,i32_w]
              rfl
             refine pw_ 2 (some 14) HT_.out ?_
             refine pw_ 3 (some 15) HT_.out ?_
             refine pw_ 4 (some 16) HT_.out ?_
             refine pw_ 6 (some 18) HT_.out ?_
             refine pw_ 7 (some 19) HT_.out ?_
             refine pw_ 8 (some 20) HT_.out ?_
             refine tw_ 5 (some 17) HT_.out HW_.out hHeld rfl rfl (by rintro w' ⟨s0,s1,s2,s3,s4,s5,s6,s7,s8,s9,s10,s11,s12,s13,s14⟩;go_simp;with_reducible rfl) ?_
             refine tw_ 9 (some 21) HT_.out HW_.out hHeld rfl rfl (by rintro w' ⟨s0,s1,s2,s3,s4,s5,s6,s7,s8,s9,s10,s11,s12,s13,s14⟩;go_simp;with_reducible rfl) ?_
             refine pw_ 10 (some 22) HT_.out ?_
             refine pw_ 11 (some 23) HT_.out ?_
             refine pw_ 12 (some 24) HT_.out ?_
             refine pw_ 13 (some 25) HT_.out ?_
             refine pw_ 14 (some 26) HT_.out ?_
             refine pw_ 15 (some 27) HT_.out ?_
             refine pw_ 16 (some 28) HT_.out ?_
             refine pw_ 17 (some 29) HT_.out ?_
             refine pw_ 18 (some 30) HT_.out ?_
             refine pw_ 19 (some 31) HT_.out ?_
             refine pw_ 20 (some 32) HT_.out ?_
             refine pw_ 22 (some 34) HT_.out ?_
             refine tw_ 21 (some 33) HT_.out HW_.out hHeld rfl rfl (by rintro w' ⟨s0,s1,s2,s3,s4,s5,s6,s7,s8,s9,s10,s11,s12,s13,s14⟩;go_simp;with_reducible rfl) ?_
             refine tw_ 23 (some 35) HT_.out HW_.out hHeld rfl rfl (by rintro w' ⟨s0,s1,s2,s3,s4,s5,s6,s7,s8,s9,s10,s11,s12,s13,s14⟩;go_simp;with_reducible rfl) ?_
             refine pw_ 24 (some 36) HT_.out ?_
             refine pw_ 25 (some 37) HT_.out ?_
             refine pw_ 26 (some 38) HT_.out ?_
             refine done_ (done_of HT_.out (by kernel_rfl)) ?_
             try go_wp2
             go_ret
             exact ⟨by first|rfl|(simp [errW_none,errW_some] <;> rfl)|(simp only [← hji10];first|rfl|(simp [errW_none,errW_some] <;> rfl))|(simp [*,errW_none,errW_some] <;> rfl),by repeat (first|(with_reducible first|exact HB.out|apply below_alloc|apply pw_below_drewN|apply below_drew1|refine below_set ?_ GE292.out)|exact HB.out)⟩
            ·rw [if_neg c13] at H
             have c13b0 : decide (((rd_T127 l0 x7_1).f1) ≤ ((rd_T127 l0 (ji10)).f1)) = false := decide_eq_false c13
             clear c13
             have H' := Aside0.mk H
             clear H
             have p291 : 0 ≤ (x7_1 : Int) := of_decide_eq_true (by first|(with_reducible assumption)|assumption)
             have q291 : x7_1 < (l0.length : Int) := of_decide_eq_true (by first|(with_reducible assumption)|assumption)
             obtain ⟨ad291,e291,hx291_0,hx291_1,hx291_2,hx291_3,hx291_4⟩ := at_T127 HR0.out x7_1 p291 q291
             cases e291
             replace hx291_0 := (HB.out.cell (World.block_lt_of_cell? w _ hx291_0)).trans hx291_0
             replace hx291_1 := (HB.out.cell (World.block_lt_of_cell? w _ hx291_1)).trans hx291_1
             replace hx291_2 := (HB.out.cell (World.block_lt_of_cell? w _ hx291_2)).trans hx291_2
             replace hx291_3 := (HB.out.cell (World.block_lt_of_cell? w _ hx291_3)).trans hx291_3
             replace hx291_4 := (HB.out.cell (World.block_lt_of_cell? w _ hx291_4)).trans hx291_4
             replace p291 := eq_true p291
             replace q291 := eq_true q291
             try go_wp2_with (first|((with_reducible refine gate_dst (N := 4) rfl ?_);refine box_event ?hg (N := 4) ?hd (cs := #[.int .i64 0,.int .i64 0,.int .i64 0,.bool false,.int .i64 0]) (t := 127) ?hr ?_;(case hd => rfl);(case hg => rfl);(case hr => first|(go_simp;done)|(go_simp;rfl));intro gb292 hg w19 hbox hb;have n0_ := Aside0.mk (below_step (by repeat (first|(with_reducible first|exact HB.out|apply below_alloc|apply pw_below_drewN|apply below_drew1)|exact HB.out)) hb);have n1_ := Aside0.mk (hbox);have n2_ := Aside0.mk ((by rw [hg];exact (below_size (by repeat (first|(with_reducible first|exact HB.out|apply below_alloc|apply pw_below_drewN|apply below_drew1)|exact HB.out))) : w.heap.size ≤ gb292));have n3_ := Aside0.mk ((by rw [hg];exact (below_size (by repeat (first|(with_reducible first|exact HB.out|apply below_alloc|apply pw_below_drewN|apply below_drew1)|exact HB.out))) : w.heap.size ≤ gb292));clear HB;have HB := n0_;have BK292 := n1_;have GW292 := n2_;have GE292 := n3_;clear n0_ n1_ n2_ n3_;clear hb hbox hg;have hcz20_0 : w19.cell? ⟨gb292,0,none⟩ = some (.int .i64 0) := (blk_cell BK292.out 0).trans rfl;have hcz20_1 : w19.cell? ⟨gb292,1,none⟩ = some (.int .i64 0) := (blk_cell BK292.out 1).trans rfl;have hcz20_2 : w19.cell? ⟨gb292,2,none⟩ = some (.int .i64 0) := (blk_cell BK292.out 2).trans rfl;have hcz20_3 : w19.cell? ⟨gb292,3,none⟩ = some (.bool false) := (blk_cell BK292.out 3).trans rfl;have hcz20_4 : w19.cell? ⟨gb292,4,none⟩ = some (.int .i64 0) := (blk_cell BK292.out 4).trans rfl;have hfz20_0 := blk_frozen BK292.out 0;have hfz20_1 := blk_frozen BK292.out 1;have hfz20_2 := blk_frozen BK292.out 2;have hfz20_3 := blk_frozen BK292.out 3;have hfz20_4 := blk_frozen BK292.out 4))
             have n0_ : Aside0 ((((((w19.setCell ⟨gb292,0,none⟩ (.int .i64 ((rd_T127 l0 x7_1).f0))).setCell ⟨gb292,1,none⟩ (.int .i64 ((rd_T127 l0 x7_1).f1))).setCell ⟨gb292,2,none⟩ (.int .i64 ((rd_T127 l0 x7_1).f2))).setCell ⟨gb292,3,none⟩ (.bool ((rd_T127 l0 x7_1).f3))).setCell ⟨gb292,4,none⟩ (.int .i64 ((rd_T127 l0 x7_1).f4))).heap[gb292]? = some (.cells #[.int .i64 ((rd_T127 l0 x7_1).f0),.int .i64 ((rd_T127 l0 x7_1).f1),.int .i64 ((rd_T127 l0 x7_1).f2),.bool ((rd_T127 l0 x7_1).f3),.int .i64 ((rd_T127 l0 x7_1).f4)] 127 (0,0))) := ⟨by (with_reducible repeat (first|refine blk_drewN ?_ _|refine blk_drew ?_|refine blk_alloc ?_ _));refine blk_put (cs := #[.int .i64 ((rd_T127 l0 x7_1).f0),.int .i64 ((rd_T127 l0 x7_1).f1),.int .i64 ((rd_T127 l0 x7_1).f2),.bool ((rd_T127 l0 x7_1).f3),.int .i64 0]) ?_ 4 _ rfl;(with_reducible repeat (first|refine blk_drewN ?_ _|refine blk_drew ?_|refine blk_alloc ?_ _));refine blk_put (cs := #[.int .i64 ((rd_T127 l0 x7_1).f0),.int .i64 ((rd_T127 l0 x7_1).f1),.int .i64 ((rd_T127 l0 x7_1).f2),.bool false,.int .i64 0]) ?_ 3 _ rfl;(with_reducible repeat (first|refine blk_drewN ?_ _|refine blk_drew ?_|refine blk_alloc ?_ _));refine blk_put (cs := #[.int .i64 ((rd_T127 l0 x7_1).f0),.int .i64 ((rd_T127 l0 x7_1).f1),.int .i64 0,.bool false,.int .i64 0]) ?_ 2 _ rfl;(with_reducible repeat (first|refine blk_drewN ?_ _|refine blk_drew ?_|refine blk_alloc ?_ _));refine blk_put (cs := #[.int .i64 ((rd_T127 l0 x7_1).f0),.int .i64 0,.int .i64 0,.bool false,.int .i64 0]) ?_ 1 _ rfl;(with_reducible repeat (first|refine blk_drewN ?_ _|refine blk_drew ?_|refine blk_alloc ?_ _));refine blk_put (cs := #[.int .i64 0,.int .i64 0,.int .i64 0,.bool false,.int .i64 0]) ?_ 0 _ rfl;(with_reducible repeat (first|refine blk_drewN ?_ _|refine blk_drew ?_|refine blk_alloc ?_ _));exact BK292.out⟩
             have n1_ : Aside0 (Below w.heap.size w (((((w19.setCell ⟨gb292,0,none⟩ (.int .i64 ((rd_T127 l0 x7_1).f0))).setCell ⟨gb292,1,none⟩ (.int .i64 ((rd_T127 l0 x7_1).f1))).setCell ⟨gb292,2,none⟩ (.int .i64 ((rd_T127 l0 x7_1).f2))).setCell ⟨gb292,3,none⟩ (.bool ((rd_T127 l0 x7_1).f3))).setCell ⟨gb292,4,none⟩ (.int .i64 ((rd_T127 l0 x7_1).f4)))) := ⟨by repeat (first|(with_reducible first|exact HB.out|apply below_alloc|apply pw_below_drewN|apply below_drew1|refine below_set ?_ GE292.out)|exact HB.out)⟩
             (try clear BK292)
             (try clear HB)
             generalize (((((w19.setCell ⟨gb292,0,none⟩ (.int .i64 ((rd_T127 l0 x7_1).f0))).setCell ⟨gb292,1,none⟩ (.int .i64 ((rd_T127 l0 x7_1).f1))).setCell ⟨gb292,2,none⟩ (.int .i64 ((rd_T127 l0 x7_1).f2))).setCell ⟨gb292,3,none⟩ (.bool ((rd_T127 l0 x7_1).f3))).setCell ⟨gb292,4,none⟩ (.int .i64 ((rd_T127 l0 x7_1).f4))) = w21 at n0_ n1_ ⊢
             have BK292 := n0_
             have HB := n1_
             clear n0_ n1_
             have n0_ := Aside0.mk (blk_drew BK292.out)
             have n1_ := Aside0.mk (below_drew1 HB.out)
             clear BK292
             clear HB
             have BK292 := n0_
             have HB := n1_
             clear n0_ n1_
             have p294 : 0 ≤ (0 : Int) := (by omega)
             have q294 : 0 < (l0.length : Int) := of_decide_eq_true (by first|(with_reducible assumption)|assumption)
             obtain ⟨ad294,e294,hx294_0,hx294_1,hx294_2,hx294_3,hx294_4⟩ := at_T127 HR0.out 0 p294 q294
             have hw294_4 := hx294_4
             (try rw [show ((0 : Int)).toNat = 0 from rfl] at hw294_4)
             (try rw [show 0 * 5 = 0 from rfl] at hw294_4)
             (try rw [Addr.add_zero'] at hw294_4)
             have hw294_3 := hx294_3
             (try rw [show ((0 : Int)).toNat = 0 from rfl] at hw294_3)
             (try rw [show 0 * 5 = 0 from rfl] at hw294_3)
             (try rw [Addr.add_zero'] at hw294_3)
             have hw294_2 := hx294_2
             (try rw [show ((0 : Int)).toNat = 0 from rfl] at hw294_2)
             (try rw [show 0 * 5 = 0 from rfl] at hw294_2)
             (try rw [Addr.add_zero'] at hw294_2)
             have hw294_1 := hx294_1
             (try rw [show ((0 : Int)).toNat = 0 from rfl] at hw294_1)
             (try rw [show 0 * 5 = 0 from rfl] at hw294_1)
             (try rw [Addr.add_zero'] at hw294_1)
             have hw294_0 := hx294_0
             (try rw [show ((0 : Int)).toNat = 0 from rfl] at hw294_0)
             (try rw [show 0 * 5 = 0 from rfl] at hw294_0)
             (try rw [Addr.add_zero'] at hw294_0)
             obtain rfl : ad291 = ad294 := (by injection e294)
             have qi294 : (0 < l0.length) = True := eq_true (by omega)
             (try rw [show ((0 : Int)).toNat = 0 from rfl] at hx294_0)
             (try rw [show 0 * 5 = 0 from rfl] at hx294_0)
             (try rw [Addr.add_zero'] at hx294_0)
             (try rw [show ((0 : Int)).toNat = 0 from rfl] at hx294_1)
             (try rw [show 0 * 5 = 0 from rfl] at hx294_1)
             (try rw [Addr.add_zero'] at hx294_1)
             (try rw [show ((0 : Int)).toNat = 0 from rfl] at hx294_2)
             (try rw [show 0 * 5 = 0 from rfl] at hx294_2)
             (try rw [Addr.add_zero'] at hx294_2)
             (try rw [show ((0 : Int)).toNat = 0 from rfl] at hx294_3)
             (try rw [show 0 * 5 = 0 from rfl] at hx294_3)
             (try rw [Addr.add_zero'] at hx294_3)
             (try rw [show ((0 : Int)).toNat = 0 from rfl] at hx294_4)
             (try rw [show 0 * 5 = 0 from rfl] at hx294_4)
             (try rw [Addr.add_zero'] at hx294_4)
             replace hx294_0 := (HB.out.cell (World.block_lt_of_cell? w _ hx294_0)).trans hx294_0
             replace hx294_1 := (HB.out.cell (World.block_lt_of_cell? w _ hx294_1)).trans hx294_1
             replace hx294_2 := (HB.out.cell (World.block_lt_of_cell? w _ hx294_2)).trans hx294_2
             replace hx294_3 := (HB.out.cell (World.block_lt_of_cell? w _ hx294_3)).trans hx294_3
             replace hx294_4 := (HB.out.cell (World.block_lt_of_cell? w _ hx294_4)).trans hx294_4
             replace p294 := eq_true p294
             replace q294 := eq_true q294
             have p295 : 0 ≤ ((ji10) : Int) := of_decide_eq_true (by first|(with_reducible assumption)|assumption)
             have q295 : (ji10) < (l0.length : Int) := of_decide_eq_true (by first|(with_reducible assumption)|assumption)
             obtain ⟨ad295,e295,hx295_0,hx295_1,hx295_2,hx295_3,hx295_4⟩ := at_T127 HR0.out (ji10) p295 q295
             have hw295_4 := hx295_4
             have hw295_3 := hx295_3
             have hw295_2 := hx295_2
             have hw295_1 := hx295_1
             have hw295_0 := hx295_0
             obtain rfl : ad291 = ad295 := (by injection e295)
             replace hx295_0 := (HB.out.cell (World.block_lt_of_cell? w _ hx295_0)).trans hx295_0
             replace hx295_1 := (HB.out.cell (World.block_lt_of_cell? w _ hx295_1)).trans hx295_1
             replace hx295_2 := (HB.out.cell (World.block_lt_of_cell? w _ hx295_2)).trans hx295_2
             replace hx295_3 := (HB.out.cell (World.block_lt_of_cell? w _ hx295_3)).trans hx295_3
             replace hx295_4 := (HB.out.cell (World.block_lt_of_cell? w _ hx295_4)).trans hx295_4
             replace p295 := eq_true p295
             replace q295 := eq_true q295
             refine start_ (n := 27) (S := fun w' => w'.cell? ⟨gb292,0,none⟩ = some (.int .i64 ((rd_T127 l0 x7_1).f0)) ∧ w'.cell? ⟨gb292,1,none⟩ = some (.int .i64 ((rd_T127 l0 x7_1).f1)) ∧ w'.cell? ⟨gb292,2,none⟩ = some (.int .i64 ((rd_T127 l0 x7_1).f2)) ∧ w'.cell? ⟨gb292,3,none⟩ = some (.bool ((rd_T127 l0 x7_1).f3)) ∧ w'.cell? ⟨gb292,4,none⟩ = some (.int .i64 ((rd_T127 l0 x7_1).f4)) ∧ w'.cell? ad291 = some (.int .i64 ((rd_T127 l0 0).f0)) ∧ w'.cell? ⟨ad291.block,ad291.off + 1,none⟩ = some (.int .i64 ((rd_T127 l0 0).f1)) ∧ w'.cell? ⟨ad291.block,ad291.off + 2,none⟩ = some (.int .i64 ((rd_T127 l0 0).f2)) ∧ w'.cell? ⟨ad291.block,ad291.off + 3,none⟩ = some (.bool ((rd_T127 l0 0).f3)) ∧ w'.cell? ⟨ad291.block,ad291.off + 4,none⟩ = some (.int .i64 ((rd_T127 l0 0).f4)) ∧ w'.cell? (ad291.add (((ji10)).toNat * 5)) = some (.int .i64 ((rd_T127 l0 (ji10)).f0)) ∧ w'.cell? ⟨(ad291.add (((ji10)).toNat * 5)).block,(ad291.add (((ji10)).toNat * 5)).off + 1,none⟩ = some (.int .i64 ((rd_T127 l0 (ji10)).f1)) ∧ w'.cell? ⟨(ad291.add (((ji10)).toNat * 5)).block,(ad291.add (((ji10)).toNat * 5)).off + 2,none⟩ = some (.int .i64 ((rd_T127 l0 (ji10)).f2)) ∧ w'.cell? ⟨(ad291.add (((ji10)).toNat * 5)).block,(ad291.add (((ji10)).toNat * 5)).off + 3,none⟩ = some (.bool ((rd_T127 l0 (ji10)).f3)) ∧ w'.cell? ⟨(ad291.add (((ji10)).toNat * 5)).block,(ad291.add (((ji10)).toNat * 5)).off + 4,none⟩ = some (.int .i64 ((rd_T127 l0 (ji10)).f4))) (ds := []) #[false,false,false,false,false,false,false,false,false,false,false,false,false,false,false,false,false,false,false,false,false,false,false,false,false,false,false] (by kernel_rfl) rfl rfl ⟨(blk_cell BK292.out 0).trans rfl,(blk_cell BK292.out 1).trans rfl,(blk_cell BK292.out 2).trans rfl,(blk_cell BK292.out 3).trans rfl,(blk_cell BK292.out 4).trans rfl,((HB.out.cell (World.block_lt_of_cell? w _ hw294_0)).trans hw294_0),((HB.out.cell (World.block_lt_of_cell? w _ hw294_1)).trans hw294_1),((HB.out.cell (World.block_lt_of_cell? w _ hw294_2)).trans hw294_2),((HB.out.cell (World.block_lt_of_cell? w _ hw294_3)).trans hw294_3),((HB.out.cell (World.block_lt_of_cell? w _ hw294_4)).trans hw294_4),((HB.out.cell (World.block_lt_of_cell? w _ hw295_0)).trans hw295_0),((HB.out.cell (World.block_lt_of_cell? w _ hw295_1)).trans hw295_1),((HB.out.cell (World.block_lt_of_cell? w _ hw295_2)).trans hw295_2),((HB.out.cell (World.block_lt_of_cell? w _ hw295_3)).trans hw295_3),((HB.out.cell (World.block_lt_of_cell? w _ hw295_4)).trans hw295_4)⟩ (fun hHeld => ?_);refine with_tabW impl_areSets.tab4 impl_areSets.bits4 (fun HT_ HW_ => ?_)
             generalize w21.drew = w22 at BK292 HB hx294_0 hx294_1 hx294_2 hx294_3 hx294_4 hx295_0 hx295_1 hx295_2 hx295_3 hx295_4 hHeld ⊢
             refine tw_ 0 (some 12) HT_.out HW_.out hHeld rfl rfl (by rintro w' ⟨s0,s1,s2,s3,s4,s5,s6,s7,s8,s9,s10,s11,s12,s13,s14⟩;go_simp;with_reducible rfl) ?_
             refine oz_ (i := 1) (N := some 13) HT_.out rfl rfl (by kernel_rfl) (by decide) (fun K hK => ?_)
             refine goes_ Try.func141 (by kernel_rfl) rfl #[.agg #[.int .i64 ((rd_T127 l0 x7_1).f0),.int .i64 ((rd_T127 l0 x7_1).f1),.int .i64 ((rd_T127 l0 x7_1).f2),.bool ((rd_T127 l0 x7_1).f3),.int .i64 ((rd_T127 l0 x7_1).f4)]] (by rfl) rfl rfl (by (try simp only [List.map_toArray,List.map_cons,List.map_nil]);first|done|rfl|(simp only [List.length_drop,List.length_take];rfl)) ?_
             with_reducible refine (impl_isSet.calls ((rd_T127 l0 x7_1).f0) ((rd_T127 l0 x7_1).f1) ((rd_T127 l0 x7_1).f2) ((rd_T127 l0 x7_1).f3) ((rd_T127 l0 x7_1).f4) true _ A5.out).mono ?_
             rintro e w23 ⟨rfl,hb⟩
             refine ⟨_,rfl,?_⟩
             have n0_ := Aside0.mk (blk_below (g := gb292) (o := .cells #[.int .i64 ((rd_T127 l0 x7_1).f0),.int .i64 ((rd_T127 l0 x7_1).f1),.int .i64 ((rd_T127 l0 x7_1).f2),.bool ((rd_T127 l0 x7_1).f3),.int .i64 ((rd_T127 l0 x7_1).f4)] 127 (0,0)) (by (with_reducible repeat (first|refine blk_drewN ?_ _|refine blk_drew ?_|refine blk_alloc ?_ _));exact BK292.out) hb)
             have n1_ := Aside0.mk (below_step (by repeat (first|(with_reducible first|exact HB.out|apply below_alloc|apply pw_below_drewN|apply below_drew1|refine below_set ?_ GE292.out)|exact HB.out)) hb)
             clear BK292
             clear HB
             have BK292 := n0_
             have HB := n1_
             clear n0_ n1_
             (try clear hb)
             (try clear hb2)
             (try clear hk)
             (try clear hi)
             refine hK.out _ _ ⟨(blk_cell BK292.out 0).trans rfl,(blk_cell BK292.out 1).trans rfl,(blk_cell BK292.out 2).trans rfl,(blk_cell BK292.out 3).trans rfl,(blk_cell BK292.out 4).trans rfl,((HB.out.cell (World.block_lt_of_cell? w _ hw294_0)).trans hw294_0),((HB.out.cell (World.block_lt_of_cell? w _ hw294_1)).trans hw294_1),((HB.out.cell (World.block_lt_of_cell? w _ hw294_2)).trans hw294_2),((HB.out.cell (World.block_lt_of_cell? w _ hw294_3)).trans hw294_3),((HB.out.cell (World.block_lt_of_cell? w _ hw294_4)).trans hw294_4),((HB.out.cell (World.block_lt_of_cell? w _ hw295_0)).trans hw295_0),((HB.out.cell (World.block_lt_of_cell? w _ hw295_1)).trans hw295_1),((HB.out.cell (World.block_lt_of_cell? w _ hw295_2)).trans hw295_2),((HB.out.cell (World.block_lt_of_cell? w _ hw295_3)).trans hw295_3),((HB.out.cell (World.block_lt_of_cell? w _ hw295_4)).trans hw295_4)⟩ (fun hHeld => ?_)
             clear hK K
             refine norm_ (a' := ?_) ?_ ?_
             rotate_left
             ·show Act.put _ (some 13) _ = _
              simp only [Act.put,q1,q2,q3,i64_w,i32_w]
              rfl
             refine pw_ 2 (some 14) HT_.out ?_
             refine pw_ 3 (some 15) HT_.out ?_
             refine pw_ 4 (some 16) HT_.out ?_
             refine pw_ 6 (some 18) HT_.out ?_
             refine pw_ 7 (some 19) HT_.out ?_
             refine pw_ 8 (some 20) HT_.out ?_
             refine tw_ 5 (some 17) HT_.out HW_.out hHeld rfl rfl (by rintro w' ⟨s0,s1,s2,s3,s4,s5,s6,s7,s8,s9,s10,s11,s12,s13,s14⟩;go_simp;with_reducible rfl) ?_
             refine tw_ 9 (some 21) HT_.out HW_.out hHeld rfl rfl (by rintro w' ⟨s0,s1,s2,s3,s4,s5,s6,s7,s8,s9,s10,s11,s12,s13,s14⟩;go_simp;with_reducible rfl) ?_
             refine pw_ 10 (some 22) HT_.out ?_
             refine pw_ 11 (some 23) HT_.out ?_
             refine pw_ 12 (some 24) HT_.out ?_
             refine pw_ 13 (some 25) HT_.out ?_
             refine pw_ 14 (some 26) HT_.out ?_
             refine pw_ 15 (some 27) HT_.out ?_
             refine pw_ 16 (some 28) HT_.out ?_
             refine pw_ 17 (some 29) HT_.out ?_
             refine pw_ 18 (some 30) HT_.out ?_
             refine pw_ 19 (some 31) HT_.out ?_
             refine pw_ 20 (some 32) HT_.out ?_
             refine pw_ 22 (some 34) HT_.out ?_
             refine tw_ 21 (some 33) HT_.out HW_.out hHeld rfl rfl (by rintro w' ⟨s0,s1,s2,s3,s4,s5,s6,s7,s8,s9,s10,s11,s12,s13,s14⟩;go_simp;with_reducible rfl) ?_
             refine tw_ 23 (some 35) HT_.out HW_.out hHeld rfl rfl (by rintro w' ⟨s0,s1,s2,s3,s4,s5,s6,s7,s8,s9,s10,s11,s12,s13,s14⟩;go_simp;with_reducible rfl) ?_
             refine pw_ 24 (some 36) HT_.out ?_
             refine pw_ 25 (some 37) HT_.out ?_
             refine pw_ 26 (some 38) HT_.out ?_
             refine done_ (done_of HT_.out (by kernel_rfl)) ?_
             try go_wp2
             go_roundg k1
             case measure => have := HK1.out;omega
             case rel => exact ⟨(wrap64 (x7_1 + 1)),(by first|rfl|(simp;done)|(simp [*];done)),H',⟨by have := HK1.out;omega⟩,⟨by repeat (first|(with_reducible first|exact HB.out|apply below_alloc|apply pw_below_drewN|apply below_drew1|refine below_set ?_ GE292.out)|exact HB.out)⟩⟩
           ·rw [if_neg c12] at H
            exact absurd H (by simp)
          ·rw [if_neg c11] at H
           exact absurd H (by simp)
         ·rw [if_neg c9] at H
          have c9b0 : decide (0 < x7_1) = false := decide_eq_false c9
          clear c9
          have H' := Aside0.mk H
          clear H
          have p291 : 0 ≤ (x7_1 : Int) := of_decide_eq_true (by first|(with_reducible assumption)|assumption)
          have q291 : x7_1 < (l0.length : Int) := of_decide_eq_true (by first|(with_reducible assumption)|assumption)
          obtain ⟨ad291,e291,hx291_0,hx291_1,hx291_2,hx291_3,hx291_4⟩ := at_T127 HR0.out x7_1 p291 q291
          cases e291
          replace hx291_0 := (HB.out.cell (World.block_lt_of_cell? w _ hx291_0)).trans hx291_0
          replace hx291_1 := (HB.out.cell (World.block_lt_of_cell? w _ hx291_1)).trans hx291_1
          replace hx291_2 := (HB.out.cell (World.block_lt_of_cell? w _ hx291_2)).trans hx291_2
          replace hx291_3 := (HB.out.cell (World.block_lt_of_cell? w _ hx291_3)).trans hx291_3
          replace hx291_4 := (HB.out.cell (World.block_lt_of_cell? w _ hx291_4)).trans hx291_4
          replace p291 := eq_true p291
          replace q291 := eq_true q291
          try go_wp2_with (first|((with_reducible refine gate_dst (N := 4) rfl ?_);refine box_event ?hg (N := 4) ?hd (cs := #[.int .i64 0,.int .i64 0,.int .i64 0,.bool false,.int .i64 0]) (t := 127) ?hr ?_;(case hd => rfl);(case hg => rfl);(case hr => first|(go_simp;done)|(go_simp;rfl));intro gb292 hg w24 hbox hb;have n0_ := Aside0.mk (below_step (by repeat (first|(with_reducible first|exact HB.out|apply below_alloc|apply pw_below_drewN|apply below_drew1)|exact HB.out)) hb);have n1_ := Aside0.mk (hbox);have n2_ := Aside0.mk ((by rw [hg];exact (below_size (by repeat (first|(with_reducible first|exact HB.out|apply below_alloc|apply pw_below_drewN|apply below_drew1)|exact HB.out))) : w.heap.size ≤ gb292));have n3_ := Aside0.mk ((by rw [hg];exact (below_size (by repeat (first|(with_reducible first|exact HB.out|apply below_alloc|apply pw_below_drewN|apply below_drew1)|exact HB.out))) : w.heap.size ≤ gb292));clear HB;have HB := n0_;have BK292 := n1_;have GW292 := n2_;have GE292 := n3_;clear n0_ n1_ n2_ n3_;clear hb hbox hg;have hcz25_0 : w24.cell? ⟨gb292,0,none⟩ = some (.int .i64 0) := (blk_cell BK292.out 0).trans rfl;have hcz25_1 : w24.cell? ⟨gb292,1,none⟩ = some (.int .i64 0) := (blk_cell BK292.out 1).trans rfl;have hcz25_2 : w24.cell? ⟨gb292,2,none⟩ = some (.int .i64 0) := (blk_cell BK292.out 2).trans rfl;have hcz25_3 : w24.cell? ⟨gb292,3,none⟩ = some (.bool false) := (blk_cell BK292.out 3).trans rfl;have hcz25_4 : w24.cell? ⟨gb292,4,none⟩ = some (.int .i64 0) := (blk_cell BK292.out 4).trans rfl;have hfz25_0 := blk_frozen BK292.out 0;have hfz25_1 := blk_frozen BK292.out 1;have hfz25_2 := blk_frozen BK292.out 2;have hfz25_3 := blk_frozen BK292.out 3;have hfz25_4 := blk_frozen BK292.out 4))
          have n0_ : Aside0 ((((((w24.setCell ⟨gb292,0,none⟩ (.int .i64 ((rd_T127 l0 x7_1).f0))).setCell ⟨gb292,1,none⟩ (.int .i64 ((rd_T127 l0 x7_1).f1))).setCell ⟨gb292,2,none⟩ (.int .i64 ((rd_T127 l0 x7_1).f2))).setCell ⟨gb292,3,none⟩ (.bool ((rd_T127 l0 x7_1).f3))).setCell ⟨gb292,4,none⟩ (.int .i64 ((rd_T127 l0 x7_1).f4))).heap[gb292]? = some (.cells #[.int .i64 ((rd_T127 l0 x7_1).f0),.int .i64 ((rd_T127 l0 x7_1).f1),.int .i64 ((rd_T127 l0 x7_1).f2),.bool ((rd_T127 l0 x7_1).f3),.int .i64 ((rd_T127 l0 x7_1).f4)] 127 (0,0))) := ⟨by (with_reducible repeat (first|refine blk_drewN ?_ _|refine blk_drew ?_|refine blk_alloc ?_ _));refine blk_put (cs := #[.int .i64 ((rd_T127 l0 x7_1).f0),.int .i64 ((rd_T127 l0 x7_1).f1),.int .i64 ((rd_T127 l0 x7_1).f2),.bool ((rd_T127 l0 x7_1).f3),.int .i64 0]) ?_ 4 _ rfl;(with_reducible repeat (first|refine blk_drewN ?_ _|refine blk_drew ?_|refine blk_alloc ?_ _));refine blk_put (cs := #[.int .i64 ((rd_T127 l0 x7_1).f0),.int .i64 ((rd_T127 l0 x7_1).f1),.int .i64 ((rd_T127 l0 x7_1).f2),.bool false,.int .i64 0]) ?_ 3 _ rfl;(with_reducible repeat (first|refine blk_drewN ?_ _|refine blk_drew ?_|refine blk_alloc ?_ _));refine blk_put (cs := #[.int .i64 ((rd_T127 l0 x7_1).f0),.int .i64 ((rd_T127 l0 x7_1).f1),.int .i64 0,.bool false,.int .i64 0]) ?_ 2 _ rfl;(with_reducible repeat (first|refine blk_drewN ?_ _|refine blk_drew ?_|refine blk_alloc ?_ _));refine blk_put (cs := #[.int .i64 ((rd_T127 l0 x7_1).f0),.int .i64 0,.int .i64 0,.bool false,.int .i64 0]) ?_ 1 _ rfl;(with_reducible repeat (first|refine blk_drewN ?_ _|refine blk_drew ?_|refine blk_alloc ?_ _));refine blk_put (cs := #[.int .i64 0,.int .i64 0,.int .i64 0,.bool false,.int .i64 0]) ?_ 0 _ rfl;(with_reducible repeat (first|refine blk_drewN ?_ _|refine blk_drew ?_|refine blk_alloc ?_ _));exact BK292.out⟩
          have n1_ : Aside0 (Below w.heap.size w (((((w24.setCell ⟨gb292,0,none⟩ (.int .i64 ((rd_T127 l0 x7_1).f0))).setCell ⟨gb292,1,none⟩ (.int .i64 ((rd_T127 l0 x7_1).f1))).setCell ⟨gb292,2,none⟩ (.int .i64 ((rd_T127 l0 x7_1).f2))).setCell ⟨gb292,3,none⟩ (.bool ((rd_T127 l0 x7_1).f3))).setCell ⟨gb292,4,none⟩ (.int .i64 ((rd_T127 l0 x7_1).f4)))) := ⟨by repeat (first|(with_reducible first|exact HB.out|apply below_alloc|apply pw_below_drewN|apply below_drew1|refine below_set ?_ GE292.out)|exact HB.out)⟩
          (try clear BK292)
          (try clear HB)
          generalize (((((w24.setCell ⟨gb292,0,none⟩ (.int .i64 ((rd_T127 l0 x7_1).f0))).setCell ⟨gb292,1,none⟩ (.int .i64 ((rd_T127 l0 x7_1).f1))).setCell ⟨gb292,2,none⟩ (.int .i64 ((rd_T127 l0 x7_1).f2))).setCell ⟨gb292,3,none⟩ (.bool ((rd_T127 l0 x7_1).f3))).setCell ⟨gb292,4,none⟩ (.int .i64 ((rd_T127 l0 x7_1).f4))) = w26 at n0_ n1_ ⊢
          have BK292 := n0_
          have HB := n1_
          clear n0_ n1_
          have n0_ := Aside0.mk (blk_drew BK292.out)
          have n1_ := Aside0.mk (below_drew1 HB.out)
          clear BK292
          clear HB
          have BK292 := n0_
          have HB := n1_
          clear n0_ n1_
          have p294 : 0 ≤ (0 : Int) := (by omega)
          have q294 : 0 < (l0.length : Int) := of_decide_eq_true (by first|(with_reducible assumption)|assumption)
          obtain ⟨ad294,e294,hx294_0,hx294_1,hx294_2,hx294_3,hx294_4⟩ := at_T127 HR0.out 0 p294 q294
          have hw294_4 := hx294_4
          (try rw [show ((0 : Int)).toNat = 0 from rfl] at hw294_4)
          (try rw [show 0 * 5 = 0 from rfl] at hw294_4)
          (try rw [Addr.add_zero'] at hw294_4)
          have hw294_3 := hx294_3
          (try rw [show ((0 : Int)).toNat = 0 from rfl] at hw294_3)
          (try rw [show 0 * 5 = 0 from rfl] at hw294_3)
          (try rw [Addr.add_zero'] at hw294_3)
          have hw294_2 := hx294_2
          (try rw [show ((0 : Int)).toNat = 0 from rfl] at hw294_2)
          (try rw [show 0 * 5 = 0 from rfl] at hw294_2)
          (try rw [Addr.add_zero'] at hw294_2)
          have hw294_1 := hx294_1
          (try rw [show ((0 : Int)).toNat = 0 from rfl] at hw294_1)
          (try rw [show 0 * 5 = 0 from rfl] at hw294_1)
          (try rw [Addr.add_zero'] at hw294_1)
          have hw294_0 := hx294_0
          (try rw [show ((0 : Int)).toNat = 0 from rfl] at hw294_0)
          (try rw [show 0 * 5 = 0 from rfl] at hw294_0)
          (try rw [Addr.add_zero'] at hw294_0)
          obtain rfl : ad291 = ad294 := (by injection e294)
          have qi294 : (0 < l0.length) = True := eq_true (by omega)
          (try rw [show ((0 : Int)).toNat = 0 from rfl] at hx294_0)
          (try rw [show 0 * 5 = 0 from rfl] at hx294_0)
          (try rw [Addr.add_zero'] at hx294_0)
          (try rw [show ((0 : Int)).toNat = 0 from rfl] at hx294_1)
          (try rw [show 0 * 5 = 0 from rfl] at hx294_1)
          (try rw [Addr.add_zero'] at hx294_1)
          (try rw [show ((0 : Int)).toNat = 0 from rfl] at hx294_2)
          (try rw [show 0 * 5 = 0 from rfl] at hx294_2)
          (try rw [Addr.add_zero'] at hx294_2)
          (try rw [show ((0 : Int)).toNat = 0 from rfl] at hx294_3)
          (try rw [show 0 * 5 = 0 from rfl] at hx294_3)
          (try rw [Addr.add_zero'] at hx294_3)
          (try rw [show ((0 : Int)).toNat = 0 from rfl] at hx294_4)
          (try rw [show 0 * 5 = 0 from rfl] at hx294_4)
          (try rw [Addr.add_zero'] at hx294_4)
          replace hx294_0 := (HB.out.cell (World.block_lt_of_cell? w _ hx294_0)).trans hx294_0
          replace hx294_1 := (HB.out.cell (World.block_lt_of_cell? w _ hx294_1)).trans hx294_1
          replace hx294_2 := (HB.out.cell (World.block_lt_of_cell? w _ hx294_2)).trans hx294_2
          replace hx294_3 := (HB.out.cell (World.block_lt_of_cell? w _ hx294_3)).trans hx294_3
          replace hx294_4 := (HB.out.cell (World.block_lt_of_cell? w _ hx294_4)).trans hx294_4
          replace p294 := eq_true p294
          replace q294 := eq_true q294
          refine start_ (n := 27) (S := fun w' => w'.cell? ⟨gb292,0,none⟩ = some (.int .i64 ((rd_T127 l0 x7_1).f0)) ∧ w'.cell? ⟨gb292,1,none⟩ = some (.int .i64 ((rd_T127 l0 x7_1).f1)) ∧ w'.cell? ⟨gb292,2,none⟩ = some (.int .i64 ((rd_T127 l0 x7_1).f2)) ∧ w'.cell? ⟨gb292,3,none⟩ = some (.bool ((rd_T127 l0 x7_1).f3)) ∧ w'.cell? ⟨gb292,4,none⟩ = some (.int .i64 ((rd_T127 l0 x7_1).f4)) ∧ w'.cell? ad291 = some (.int .i64 ((rd_T127 l0 0).f0)) ∧ w'.cell? ⟨ad291.block,ad291.off + 1,none⟩ = some (.int .i64 ((rd_T127 l0 0).f1)) ∧ w'.cell? ⟨ad291.block,ad291.off + 2,none⟩ = some (.int .i64 ((rd_T127 l0 0).f2)) ∧ w'.cell? ⟨ad291.block,ad291.off + 3,none⟩ = some (.bool ((rd_T127 l0 0).f3)) ∧ w'.cell? ⟨ad291.block,ad291.off + 4,none⟩ = some (.int .i64 ((rd_T127 l0 0).f4))) (ds := []) #[false,false,false,false,false,false,false,false,false,false,false,false,false,false,false,false,false,false,false,false,false,false,false,false,false,false,false] (by kernel_rfl) rfl rfl ⟨(blk_cell BK292.out 0).trans rfl,(blk_cell BK292.out 1).trans rfl,(blk_cell BK292.out 2).trans rfl,(blk_cell BK292.out 3).trans rfl,(blk_cell BK292.out 4).trans rfl,((HB.out.cell (World.block_lt_of_cell? w _ hw294_0)).trans hw294_0),((HB.out.cell (World.block_lt_of_cell? w _ hw294_1)).trans hw294_1),((HB.out.cell (World.block_lt_of_cell? w _ hw294_2)).trans hw294_2),((HB.out.cell (World.block_lt_of_cell? w _ hw294_3)).trans hw294_3),((HB.out.cell (World.block_lt_of_cell? w _ hw294_4)).trans hw294_4)⟩ (fun hHeld => ?_);refine with_tabW impl_areSets.tab4 impl_areSets.bits4 (fun HT_ HW_ => ?_)
          generalize w26.drew = w27 at BK292 HB hx294_0 hx294_1 hx294_2 hx294_3 hx294_4 hHeld ⊢
          refine tw_ 0 (some 12) HT_.out HW_.out hHeld rfl rfl (by rintro w' ⟨s0,s1,s2,s3,s4,s5,s6,s7,s8,s9⟩;go_simp;with_reducible rfl) ?_
          refine oz_ (i := 1) (N := some 13) HT_.out rfl rfl (by kernel_rfl) (by decide) (fun K hK => ?_)
          refine goes_ Try.func141 (by kernel_rfl) rfl #[.agg #[.int .i64 ((rd_T127 l0 x7_1).f0),.int .i64 ((rd_T127 l0 x7_1).f1),.int .i64 ((rd_T127 l0 x7_1).f2),.bool ((rd_T127 l0 x7_1).f3),.int .i64 ((rd_T127 l0 x7_1).f4)]] (by rfl) rfl rfl (by (try simp only [List.map_toArray,List.map_cons,List.map_nil]);first|done|rfl|(simp only [List.length_drop,List.length_take];rfl)) ?_
          with_reducible refine (impl_isSet.calls ((rd_T127 l0 x7_1).f0) ((rd_T127 l0 x7_1).f1) ((rd_T127 l0 x7_1).f2) ((rd_T127 l0 x7_1).f3) ((rd_T127 l0 x7_1).f4) true _ A5.out).mono ?_
          rintro e w28 ⟨rfl,hb⟩
          refine ⟨_,rfl,?_⟩
          have n0_ := Aside0.mk (blk_below (g := gb292) (o := .cells #[.int .i64 ((rd_T127 l0 x7_1).f0),.int .i64 ((rd_T127 l0 x7_1).f1),.int .i64 ((rd_T127 l0 x7_1).f2),.bool ((rd_T127 l0 x7_1).f3),.int .i64 ((rd_T127 l0 x7_1).f4)] 127 (0,0)) (by (with_reducible repeat (first|refine blk_drewN ?_ _|refine blk_drew ?_|refine blk_alloc ?_ _));exact BK292.out) hb)
          have n1_ := Aside0.mk (below_step (by repeat (first|(with_reducible first|exact HB.out|apply below_alloc|apply pw_below_drewN|apply below_drew1|refine below_set ?_ GE292.out)|exact HB.out)) hb)
          clear BK292
          clear HB
          have BK292 := n0_
          have HB := n1_
          clear n0_ n1_
          (try clear hb)
          (try clear hb2)
          (try clear hk)
          (try clear hi)
          refine hK.out _ _ ⟨(blk_cell BK292.out 0).trans rfl,(blk_cell BK292.out 1).trans rfl,(blk_cell BK292.out 2).trans rfl,(blk_cell BK292.out 3).trans rfl,(blk_cell BK292.out 4).trans rfl,((HB.out.cell (World.block_lt_of_cell? w _ hw294_0)).trans hw294_0),((HB.out.cell (World.block_lt_of_cell? w _ hw294_1)).trans hw294_1),((HB.out.cell (World.block_lt_of_cell? w _ hw294_2)).trans hw294_2),((HB.out.cell (World.block_lt_of_cell? w _ hw294_3)).trans hw294_3),((HB.out.cell (World.block_lt_of_cell? w _ hw294_4)).trans hw294_4)⟩ (fun hHeld => ?_)
          clear hK K
          refine norm_ (a' := ?_) ?_ ?_
          rotate_left
          ·show Act.put _ (some 13) _ = _
           simp only [Act.put,q1,q2,q3,i64_w,i32_w]
           rfl
          refine pw_ 2 (some 14) HT_.out ?_
          refine pw_ 3 (some 15) HT_.out ?_
          refine pw_ 4 (some 16) HT_.out ?_
          refine pw_ 6 (some 18) HT_.out ?_
          refine pw_ 7 (some 19) HT_.out ?_
          refine pw_ 8 (some 20) HT_.out ?_
          refine tw_ 5 (some 17) HT_.out HW_.out hHeld rfl rfl (by rintro w' ⟨s0,s1,s2,s3,s4,s5,s6,s7,s8,s9⟩;go_simp;with_reducible rfl) ?_
          refine tw_ 9 (some 21) HT_.out HW_.out hHeld rfl rfl (by rintro w' ⟨s0,s1,s2,s3,s4,s5,s6,s7,s8,s9⟩;go_simp;with_reducible rfl) ?_
          refine pw_ 10 (some 22) HT_.out ?_
          refine pw_ 11 (some 23) HT_.out ?_
          refine pw_ 12 (some 24) HT_.out ?_
          refine pw_ 13 (some 25) HT_.out ?_
          refine pw_ 14 (some 26) HT_.out ?_
          refine pw_ 15 (some 27) HT_.out ?_
          refine pu_ 16 (some 28) HT_.out ?_
          refine pu_ 17 (some 29) HT_.out ?_
          refine pu_ 18 (some 30) HT_.out ?_
          refine pu_ 19 (some 31) HT_.out ?_
          refine pu_ 20 (some 32) HT_.out ?_
          refine pu_ 21 (some 33) HT_.out ?_
          refine pu_ 22 (some 34) HT_.out ?_
          refine pu_ 23 (some 35) HT_.out ?_
          refine pu_ 24 (some 36) HT_.out ?_
          refine pw_ 25 (some 37) HT_.out ?_
          refine pw_ 26 (some 38) HT_.out ?_
          refine done_ (done_of HT_.out (by kernel_rfl)) ?_
          try go_wp2
          go_roundg k1
          case measure => have := HK1.out;omega
          case rel => exact ⟨(wrap64 (x7_1 + 1)),(by first|rfl|(simp;done)|(simp [*];done)),H',⟨by have := HK1.out;omega⟩,⟨by repeat (first|(with_reducible first|exact HB.out|apply below_alloc|apply pw_below_drewN|apply below_drew1|refine below_set ?_ GE292.out)|exact HB.out)⟩⟩
        ·rw [if_neg c8] at H
         have c8b0 : (((rd_T127 l0 x7_1).f0) == ((rd_T127 l0 0).f0)) = false := beq_eq_false_iff_ne.mpr c8
         have c8b1 : (((rd_T127 l0 x7_1).f0) != ((rd_T127 l0 0).f0)) = true := bne_iff_ne.mpr c8
         obtain rfl := Option.some.inj H
         have p291 : 0 ≤ (x7_1 : Int) := of_decide_eq_true (by first|(with_reducible assumption)|assumption)
         have q291 : x7_1 < (l0.length : Int) := of_decide_eq_true (by first|(with_reducible assumption)|assumption)
         obtain ⟨ad291,e291,hx291_0,hx291_1,hx291_2,hx291_3,hx291_4⟩ := at_T127 HR0.out x7_1 p291 q291
         cases e291
         replace hx291_0 := (HB.out.cell (World.block_lt_of_cell? w _ hx291_0)).trans hx291_0
         replace hx291_1 := (HB.out.cell (World.block_lt_of_cell? w _ hx291_1)).trans hx291_1
         replace hx291_2 := (HB.out.cell (World.block_lt_of_cell? w _ hx291_2)).trans hx291_2
         replace hx291_3 := (HB.out.cell (World.block_lt_of_cell? w _ hx291_3)).trans hx291_3
         replace hx291_4 := (HB.out.cell (World.block_lt_of_cell? w _ hx291_4)).trans hx291_4
         replace p291 := eq_true p291
         replace q291 := eq_true q291
         try go_wp2_with (first|((with_reducible refine gate_dst (N := 4) rfl ?_);refine box_event ?hg (N := 4) ?hd (cs := #[.int .i64 0,.int .i64 0,.int .i64 0,.bool false,.int .i64 0]) (t := 127) ?hr ?_;(case hd => rfl);(case hg => rfl);(case hr => first|(go_simp;done)|(go_simp;rfl));intro gb292 hg w29 hbox hb;have n0_ := Aside0.mk (below_step (by repeat (first|(with_reducible first|exact HB.out|apply below_alloc|apply pw_below_drewN|apply below_drew1)|exact HB.out)) hb);have n1_ := Aside0.mk (hbox);have n2_ := Aside0.mk ((by rw [hg];exact (below_size (by repeat (first|(with_reducible first|exact HB.out|apply below_alloc|apply pw_below_drewN|apply below_drew1)|exact HB.out))) : w.heap.size ≤ gb292));have n3_ := Aside0.mk ((by rw [hg];exact (below_size (by repeat (first|(with_reducible first|exact HB.out|apply below_alloc|apply pw_below_drewN|apply below_drew1)|exact HB.out))) : w.heap.size ≤ gb292));clear HB;have HB := n0_;have BK292 := n1_;have GW292 := n2_;have GE292 := n3_;clear n0_ n1_ n2_ n3_;clear hb hbox hg;have hcz30_0 : w29.cell? ⟨gb292,0,none⟩ = some (.int .i64 0) := (blk_cell BK292.out 0).trans rfl;have hcz30_1 : w29.cell? ⟨gb292,1,none⟩ = some (.int .i64 0) := (blk_cell BK292.out 1).trans rfl;have hcz30_2 : w29.cell? ⟨gb292,2,none⟩ = some (.int .i64 0) := (blk_cell BK292.out 2).trans rfl;have hcz30_3 : w29.cell? ⟨gb292,3,none⟩ = some (.bool false) := (blk_cell BK292.out 3).trans rfl;have hcz30_4 : w29.cell? ⟨gb292,4,none⟩ = some (.int .i64 0) := (blk_cell BK292.out 4).trans rfl;have hfz30_0 := blk_frozen BK292.out 0;have hfz30_1 := blk_frozen BK292.out 1;have hfz30_2 := blk_frozen BK292.out 2;have hfz30_3 := blk_frozen BK292.out 3;have hfz30_4 := blk_frozen BK292.out 4))
         have n0_ : Aside0 ((((((w29.setCell ⟨gb292,0,none⟩ (.int .i64 ((rd_T127 l0 x7_1).f0))).setCell ⟨gb292,1,none⟩ (.int .i64 ((rd_T127 l0 x7_1).f1))).setCell ⟨gb292,2,none⟩ (.int .i64 ((rd_T127 l0 x7_1).f2))).setCell ⟨gb292,3,none⟩ (.bool ((rd_T127 l0 x7_1).f3))).setCell ⟨gb292,4,none⟩ (.int .i64 ((rd_T127 l0 x7_1).f4))).heap[gb292]? = some (.cells #[.int .i64 ((rd_T127 l0 x7_1).f0),.int .i64 ((rd_T127 l0 x7_1).f1),.int .i64 ((rd_T127 l0 x7_1).f2),.bool ((rd_T127 l0 x7_1).f3),.int .i64 ((rd_T127 l0 x7_1).f4)] 127 (0,0))) := ⟨by (with_reducible repeat (first|refine blk_drewN ?_ _|refine blk_drew ?_|refine blk_alloc ?_ _));refine blk_put (cs := #[.int .i64 ((rd_T127 l0 x7_1).f0),.int .i64 ((rd_T127 l0 x7_1).f1),.int .i64 ((rd_T127 l0 x7_1).f2),.bool ((rd_T127 l0 x7_1).f3),.int .i64 0]) ?_ 4 _ rfl;(with_reducible repeat (first|refine blk_drewN ?_ _|refine blk_drew ?_|refine blk_alloc ?_ _));refine blk_put (cs := #[.int .i64 ((rd_T127 l0 x7_1).f0),.int .i64 ((rd_T127 l0 x7_1).f1),.int .i64 ((rd_T127 l0 x7_1).f2),.bool false,.int .i64 0]) ?_ 3 _ rfl;(with_reducible repeat (first|refine blk_drewN ?_ _|refine blk_drew ?_|refine blk_alloc ?_ _));refine blk_put (cs := #[.int .i64 ((rd_T127 l0 x7_1).f0),.int .i64 ((rd_T127 l0 x7_1).f1),.int .i64 0,.bool false,.int .i64 0]) ?_ 2 _ rfl;(with_reducible repeat (first|refine blk_drewN ?_ _|refine blk_drew ?_|refine blk_alloc ?_ _));refine blk_put (cs := #[.int .i64 ((rd_T127 l0 x7_1).f0),.int .i64 0,.int .i64 0,.bool false,.int .i64 0]) ?_ 1 _ rfl;(with_reducible repeat (first|refine blk_drewN ?_ _|refine blk_drew ?_|refine blk_alloc ?_ _));refine blk_put (cs := #[.int .i64 0,.int .i64 0,.int .i64 0,.bool false,.int .i64 0]) ?_ 0 _ rfl;(with_reducible repeat (first|refine blk_drewN ?_ _|refine blk_drew ?_|refine blk_alloc ?_ _));exact BK292.out⟩
         have n1_ : Aside0 (Below w.heap.size w (((((w29.setCell ⟨gb292,0,none⟩ (.int .i64 ((rd_T127 l0 x7_1).f0))).setCell ⟨gb292,1,none⟩ (.int .i64 ((rd_T127 l0 x7_1).f1))).setCell ⟨gb292,2,none⟩ (.int .i64 ((rd_T127 l0 x7_1).f2))).setCell ⟨gb292,3,none⟩ (.bool ((rd_T127 l0 x7_1).f3))).setCell ⟨gb292,4,none⟩ (.int .i64 ((rd_T127 l0 x7_1).f4)))) := ⟨by repeat (first|(with_reducible first|exact HB.out|apply below_alloc|apply pw_below_drewN|apply below_drew1|refine below_set ?_ GE292.out)|exact HB.out)⟩
         (try clear BK292)
         (try clear HB)
         generalize (((((w29.setCell ⟨gb292,0,none⟩ (.int .i64 ((rd_T127 l0 x7_1).f0))).setCell ⟨gb292,1,none⟩ (.int .i64 ((rd_T127 l0 x7_1).f1))).setCell ⟨gb292,2,none⟩ (.int .i64 ((rd_T127 l0 x7_1).f2))).setCell ⟨gb292,3,none⟩ (.bool ((rd_T127 l0 x7_1).f3))).setCell ⟨gb292,4,none⟩ (.int .i64 ((rd_T127 l0 x7_1).f4))) = w31 at n0_ n1_ ⊢
         have BK292 := n0_
         have HB := n1_
         clear n0_ n1_
         have n0_ := Aside0.mk (blk_drew BK292.out)
         have n1_ := Aside0.mk (below_drew1 HB.out)
         clear BK292
         clear HB
         have BK292 := n0_
         have HB := n1_
         clear n0_ n1_
         have p294 : 0 ≤ (0 : Int) := (by omega)
         have q294 : 0 < (l0.length : Int) := of_decide_eq_true (by first|(with_reducible assumption)|assumption)
         obtain ⟨ad294,e294,hx294_0,hx294_1,hx294_2,hx294_3,hx294_4⟩ := at_T127 HR0.out 0 p294 q294
         have hw294_4 := hx294_4
         (try rw [show ((0 : Int)).toNat = 0 from rfl] at hw294_4)
         (try rw [show 0 * 5 = 0 from rfl] at hw294_4)
         (try rw [Addr.add_zero'] at hw294_4)
         have hw294_3 := hx294_3
         (try rw [show ((0 : Int)).toNat = 0 from rfl] at hw294_3)
         (try rw [show 0 * 5 = 0 from rfl] at hw294_3)
         (try rw [Addr.add_zero'] at hw294_3)
         have hw294_2 := hx294_2
         (try rw [show ((0 : Int)).toNat = 0 from rfl] at hw294_2)
         (try rw [show 0 * 5 = 0 from rfl] at hw294_2)
         (try rw [Addr.add_zero'] at hw294_2)
         have hw294_1 := hx294_1
         (try rw [show ((0 : Int)).toNat = 0 from rfl] at hw294_1)
         (try rw [show 0 * 5 = 0 from rfl] at hw294_1)
         (try rw [Addr.add_zero'] at hw294_1)
         have hw294_0 := hx294_0
         (try rw [show ((0 : Int)).toNat = 0 from rfl] at hw294_0)
         (try rw [show 0 * 5 = 0 from rfl] at hw294_0)
         (try rw [Addr.add_zero'] at hw294_0)
         obtain rfl : ad291 = ad294 := (by injection e294)
         have qi294 : (0 < l0.length) = True := eq_true (by omega)
         (try rw [show ((0 : Int)).toNat = 0 from rfl] at hx294_0)
         (try rw [show 0 * 5 = 0 from rfl] at hx294_0)
         (try rw [Addr.add_zero'] at hx294_0)
         (try rw [show ((0 : Int)).toNat = 0 from rfl] at hx294_1)
         (try rw [show 0 * 5 = 0 from rfl] at hx294_1)
         (try rw [Addr.add_zero'] at hx294_1)
         (try rw [show ((0 : Int)).toNat = 0 from rfl] at hx294_2)
         (try rw [show 0 * 5 = 0 from rfl] at hx294_2)
         (try rw [Addr.add_zero'] at hx294_2)
         (try rw [show ((0 : Int)).toNat = 0 from rfl] at hx294_3)
         (try rw [show 0 * 5 = 0 from rfl] at hx294_3)
         (try rw [Addr.add_zero'] at hx294_3)
         (try rw [show ((0 : Int)).toNat = 0 from rfl] at hx294_4)
         (try rw [show 0 * 5 = 0 from rfl] at hx294_4)
         (try rw [Addr.add_zero'] at hx294_4)
         replace hx294_0 := (HB.out.cell (World.block_lt_of_cell? w _ hx294_0)).trans hx294_0
         replace hx294_1 := (HB.out.cell (World.block_lt_of_cell? w _ hx294_1)).trans hx294_1
         replace hx294_2 := (HB.out.cell (World.block_lt_of_cell? w _ hx294_2)).trans hx294_2
         replace hx294_3 := (HB.out.cell (World.block_lt_of_cell? w _ hx294_3)).trans hx294_3
         replace hx294_4 := (HB.out.cell (World.block_lt_of_cell? w _ hx294_4)).trans hx294_4
         replace p294 := eq_true p294
         replace q294 := eq_true q294
         refine start_ (n := 27) (S := fun w' => w'.cell? ⟨gb292,0,none⟩ = some (.int .i64 ((rd_T127 l0 x7_1).f0)) ∧ w'.cell? ⟨gb292,1,none⟩ = some (.int .i64 ((rd_T127 l0 x7_1).f1)) ∧ w'.cell? ⟨gb292,2,none⟩ = some (.int .i64 ((rd_T127 l0 x7_1).f2)) ∧ w'.cell? ⟨gb292,3,none⟩ = some (.bool ((rd_T127 l0 x7_1).f3)) ∧ w'.cell? ⟨gb292,4,none⟩ = some (.int .i64 ((rd_T127 l0 x7_1).f4)) ∧ w'.cell? ad291 = some (.int .i64 ((rd_T127 l0 0).f0)) ∧ w'.cell? ⟨ad291.block,ad291.off + 1,none⟩ = some (.int .i64 ((rd_T127 l0 0).f1)) ∧ w'.cell? ⟨ad291.block,ad291.off + 2,none⟩ = some (.int .i64 ((rd_T127 l0 0).f2)) ∧ w'.cell? ⟨ad291.block,ad291.off + 3,none⟩ = some (.bool ((rd_T127 l0 0).f3)) ∧ w'.cell? ⟨ad291.block,ad291.off + 4,none⟩ = some (.int .i64 ((rd_T127 l0 0).f4))) (ds := []) #[false,false,false,false,false,false,false,false,false,false,false,false,false,false,false,false,false,false,false,false,false,false,false,false,false,false,false] (by kernel_rfl) rfl rfl ⟨(blk_cell BK292.out 0).trans rfl,(blk_cell BK292.out 1).trans rfl,(blk_cell BK292.out 2).trans rfl,(blk_cell BK292.out 3).trans rfl,(blk_cell BK292.out 4).trans rfl,((HB.out.cell (World.block_lt_of_cell? w _ hw294_0)).trans hw294_0),((HB.out.cell (World.block_lt_of_cell? w _ hw294_1)).trans hw294_1),((HB.out.cell (World.block_lt_of_cell? w _ hw294_2)).trans hw294_2),((HB.out.cell (World.block_lt_of_cell? w _ hw294_3)).trans hw294_3),((HB.out.cell (World.block_lt_of_cell? w _ hw294_4)).trans hw294_4)⟩ (fun hHeld => ?_);refine with_tabW impl_areSets.tab4 impl_areSets.bits4 (fun HT_ HW_ => ?_)
         generalize w31.drew = w32 at BK292 HB hx294_0 hx294_1 hx294_2 hx294_3 hx294_4 hHeld ⊢
         refine tw_ 0 (some 12) HT_.out HW_.out hHeld rfl rfl (by rintro w' ⟨s0,s1,s2,s3,s4,s5,s6,s7,s8,s9⟩;go_simp;with_reducible rfl) ?_
         refine oz_ (i := 1) (N := some 13) HT_.out rfl rfl (by kernel_rfl) (by decide) (fun K hK => ?_)
         refine goes_ Try.func141 (by kernel_rfl) rfl #[.agg #[.int .i64 ((rd_T127 l0 x7_1).f0),.int .i64 ((rd_T127 l0 x7_1).f1),.int .i64 ((rd_T127 l0 x7_1).f2),.bool ((rd_T127 l0 x7_1).f3),.int .i64 ((rd_T127 l0 x7_1).f4)]] (by rfl) rfl rfl (by (try simp only [List.map_toArray,List.map_cons,List.map_nil]);first|done|rfl|(simp only [List.length_drop,List.length_take];rfl)) ?_
         with_reducible refine (impl_isSet.calls ((rd_T127 l0 x7_1).f0) ((rd_T127 l0 x7_1).f1) ((rd_T127 l0 x7_1).f2) ((rd_T127 l0 x7_1).f3) ((rd_T127 l0 x7_1).f4) true _ A5.out).mono ?_
         rintro e w33 ⟨rfl,hb⟩
         refine ⟨_,rfl,?_⟩
         have n0_ := Aside0.mk (blk_below (g := gb292) (o := .cells #[.int .i64 ((rd_T127 l0 x7_1).f0),.int .i64 ((rd_T127 l0 x7_1).f1),.int .i64 ((rd_T127 l0 x7_1).f2),.bool ((rd_T127 l0 x7_1).f3),.int .i64 ((rd_T127 l0 x7_1).f4)] 127 (0,0)) (by (with_reducible repeat (first|refine blk_drewN ?_ _|refine blk_drew ?_|refine blk_alloc ?_ _));exact BK292.out) hb)
         have n1_ := Aside0.mk (below_step (by repeat (first|(with_reducible first|exact HB.out|apply below_alloc|apply pw_below_drewN|apply below_drew1|refine below_set ?_ GE292.out)|exact HB.out)) hb)
         clear BK292
         clear HB
         have BK292 := n0_
         have HB := n1_
         clear n0_ n1_
         (try clear hb)
         (try clear hb2)
         (try clear hk)
         (try clear hi)
         refine hK.out _ _ ⟨(blk_cell BK292.out 0).trans rfl,(blk_cell BK292.out 1).trans rfl,(blk_cell BK292.out 2).trans rfl,(blk_cell BK292.out 3).trans rfl,(blk_cell BK292.out 4).trans rfl,((HB.out.cell (World.block_lt_of_cell? w _ hw294_0)).trans hw294_0),((HB.out.cell (World.block_lt_of_cell? w _ hw294_1)).trans hw294_1),((HB.out.cell (World.block_lt_of_cell? w _ hw294_2)).trans hw294_2),((HB.out.cell (World.block_lt_of_cell? w _ hw294_3)).trans hw294_3),((HB.out.cell (World.block_lt_of_cell? w _ hw294_4)).trans hw294_4)⟩ (fun hHeld => ?_)
         clear hK K
         refine norm_ (a' := ?_) ?_ ?_
         rotate_left
         ·show Act.put _ (some 13) _ = _
          simp only [Act.put,q1,q2,q3,i64_w,i32_w]
          rfl
         refine pw_ 2 (some 14) HT_.out ?_
         refine pw_ 3 (some 15) HT_.out ?_
         refine pw_ 4 (some 16) HT_.out ?_
         refine pw_ 6 (some 18) HT_.out ?_
         refine pw_ 7 (some 19) HT_.out ?_
         refine pw_ 8 (some 20) HT_.out ?_
         refine tw_ 5 (some 17) HT_.out HW_.out hHeld rfl rfl (by rintro w' ⟨s0,s1,s2,s3,s4,s5,s6,s7,s8,s9⟩;go_simp;with_reducible rfl) ?_
         refine tw_ 9 (some 21) HT_.out HW_.out hHeld rfl rfl (by rintro w' ⟨s0,s1,s2,s3,s4,s5,s6,s7,s8,s9⟩;go_simp;with_reducible rfl) ?_
         refine pw_ 10 (some 22) HT_.out ?_
         refine pw_ 11 (some 23) HT_.out ?_
         refine pw_ 12 (some 24) HT_.out ?_
         refine pu_ 13 (some 25) HT_.out ?_
         refine pu_ 14 (some 26) HT_.out ?_
         refine pu_ 15 (some 27) HT_.out ?_
         refine pu_ 16 (some 28) HT_.out ?_
         refine pu_ 17 (some 29) HT_.out ?_
         refine pu_ 18 (some 30) HT_.out ?_
         refine pu_ 19 (some 31) HT_.out ?_
         refine pu_ 20 (some 32) HT_.out ?_
         refine pu_ 21 (some 33) HT_.out ?_
         refine pu_ 22 (some 34) HT_.out ?_
         refine pu_ 23 (some 35) HT_.out ?_
         refine pu_ 24 (some 36) HT_.out ?_
         refine pu_ 25 (some 37) HT_.out ?_
         refine pw_ 26 (some 38) HT_.out ?_
         refine done_ (done_of HT_.out (by kernel_rfl)) ?_
         try go_wp2
         go_ret
         exact ⟨by first|rfl|(simp [errW_none,errW_some] <;> rfl)|(simp [*,errW_none,errW_some] <;> rfl),by repeat (first|(with_reducible first|exact HB.out|apply below_alloc|apply pw_below_drewN|apply below_drew1|refine below_set ?_ GE292.out)|exact HB.out)⟩
       ·rw [if_neg c7] at H
        exact absurd H (by simp)
      ·replace c6 := Bool.eq_false_iff.mpr c6
       subst c6
       have H1 : (some false) = some r := by rw [if_neg (show ¬ (false = true) by decide)] at H;exact H
       clear H
       have H := H1
       clear H1
       obtain rfl := Option.some.inj H
       have p291 : 0 ≤ (x7_1 : Int) := of_decide_eq_true (by first|(with_reducible assumption)|assumption)
       have q291 : x7_1 < (l0.length : Int) := of_decide_eq_true (by first|(with_reducible assumption)|assumption)
       obtain ⟨ad291,e291,hx291_0,hx291_1,hx291_2,hx291_3,hx291_4⟩ := at_T127 HR0.out x7_1 p291 q291
       cases e291
       replace hx291_0 := (HB.out.cell (World.block_lt_of_cell? w _ hx291_0)).trans hx291_0
       replace hx291_1 := (HB.out.cell (World.block_lt_of_cell? w _ hx291_1)).trans hx291_1
       replace hx291_2 := (HB.out.cell (World.block_lt_of_cell? w _ hx291_2)).trans hx291_2
       replace hx291_3 := (HB.out.cell (World.block_lt_of_cell? w _ hx291_3)).trans hx291_3
       replace hx291_4 := (HB.out.cell (World.block_lt_of_cell? w _ hx291_4)).trans hx291_4
       replace p291 := eq_true p291
       replace q291 := eq_true q291
       try go_wp2_with (first|((with_reducible refine gate_dst (N := 4) rfl ?_);refine box_event ?hg (N := 4) ?hd (cs := #[.int .i64 0,.int .i64 0,.int .i64 0,.bool false,.int .i64 0]) (t := 127) ?hr ?_;(case hd => rfl);(case hg => rfl);(case hr => first|(go_simp;done)|(go_simp;rfl));intro gb292 hg w34 hbox hb;have n0_ := Aside0.mk (below_step (by repeat (first|(with_reducible first|exact HB.out|apply below_alloc|apply pw_below_drewN|apply below_drew1)|exact HB.out)) hb);have n1_ := Aside0.mk (hbox);have n2_ := Aside0.mk ((by rw [hg];exact (below_size (by repeat (first|(with_reducible first|exact HB.out|apply below_alloc|apply pw_below_drewN|apply below_drew1)|exact HB.out))) : w.heap.size ≤ gb292));have n3_ := Aside0.mk ((by rw [hg];exact (below_size (by repeat (first|(with_reducible first|exact HB.out|apply below_alloc|apply pw_below_drewN|apply below_drew1)|exact HB.out))) : w.heap.size ≤ gb292));clear HB;have HB := n0_;have BK292 := n1_;have GW292 := n2_;have GE292 := n3_;clear n0_ n1_ n2_ n3_;clear hb hbox hg;have hcz35_0 : w34.cell? ⟨gb292,0,none⟩ = some (.int .i64 0) := (blk_cell BK292.out 0).trans rfl;have hcz35_1 : w34.cell? ⟨gb292,1,none⟩ = some (.int .i64 0) := (blk_cell BK292.out 1).trans rfl;have hcz35_2 : w34.cell? ⟨gb292,2,none⟩ = some (.int .i64 0) := (blk_cell BK292.out 2).trans rfl;have hcz35_3 : w34.cell? ⟨gb292,3,none⟩ = some (.bool false) := (blk_cell BK292.out 3).trans rfl;have hcz35_4 : w34.cell? ⟨gb292,4,none⟩ = some (.int .i64 0) := (blk_cell BK292.out 4).trans rfl;have hfz35_0 := blk_frozen BK292.out 0;have hfz35_1 := blk_frozen BK292.out 1;have hfz35_2 := blk_frozen BK292.out 2;have hfz35_3 := blk_frozen BK292.out 3;have hfz35_4 := blk_frozen BK292.out 4))
       have n0_ : Aside0 ((((((w34.setCell ⟨gb292,0,none⟩ (.int .i64 ((rd_T127 l0 x7_1).f0))).setCell ⟨gb292,1,none⟩ (.int .i64 ((rd_T127 l0 x7_1).f1))).setCell ⟨gb292,2,none⟩ (.int .i64 ((rd_T127 l0 x7_1).f2))).setCell ⟨gb292,3,none⟩ (.bool ((rd_T127 l0 x7_1).f3))).setCell ⟨gb292,4,none⟩ (.int .i64 ((rd_T127 l0 x7_1).f4))).heap[gb292]? = some (.cells #[.int .i64 ((rd_T127 l0 x7_1).f0),.int .i64 ((rd_T127 l0 x7_1).f1),.int .i64 ((rd_T127 l0 x7_1).f2),.bool ((rd_T127 l0 x7_1).f3),.int .i64 ((rd_T127 l0 x7_1).f4)] 127 (0,0))) := ⟨by (with_reducible repeat (first|refine blk_drewN ?_ _|refine blk_drew ?_|refine blk_alloc ?_ _));refine blk_put (cs := #[.int .i64 ((rd_T127 l0 x7_1).f0),.int .i64 ((rd_T127 l0 x7_1).f1),.int .i64 ((rd_T127 l0 x7_1).f2),.bool ((rd_T127 l0 x7_1).f3),.int .i64 0]) ?_ 4 _ rfl;(with_reducible repeat (first|refine blk_drewN ?_ _|refine blk_drew ?_|refine blk_alloc ?_ _));refine blk_put (cs := #[.int .i64 ((rd_T127 l0 x7_1).f0),.int .i64 ((rd_T127 l0 x7_1).f1),.int .i64 ((rd_T127 l0 x7_1).f2),.bool false,.int .i64 0]) ?_ 3 _ rfl;(with_reducible repeat (first|refine blk_drewN ?_ _|refine blk_drew ?_|refine blk_alloc ?_ _));refine blk_put (cs := #[.int .i64 ((rd_T127 l0 x7_1).f0),.int .i64 ((rd_T127 l0 x7_1).f1),.int .i64 0,.bool false,.int .i64 0]) ?_ 2 _ rfl;(with_reducible repeat (first|refine blk_drewN ?_ _|refine blk_drew ?_|refine blk_alloc ?_ _));refine blk_put (cs := #[.int .i64 ((rd_T127 l0 x7_1).f0),.int .i64 0,.int .i64 0,.bool false,.int .i64 0]) ?_ 1 _ rfl;(with_reducible repeat (first|refine blk_drewN ?_ _|refine blk_drew ?_|refine blk_alloc ?_ _));refine blk_put (cs := #[.int .i64 0,.int .i64 0,.int .i64 0,.bool false,.int .i64 0]) ?_ 0 _ rfl;(with_reducible repeat (first|refine blk_drewN ?_ _|refine blk_drew ?_|refine blk_alloc ?_ _));exact BK292.out⟩
       have n1_ : Aside0 (Below w.heap.size w (((((w34.setCell ⟨gb292,0,none⟩ (.int .i64 ((rd_T127 l0 x7_1).f0))).setCell ⟨gb292,1,none⟩ (.int .i64 ((rd_T127 l0 x7_1).f1))).setCell ⟨gb292,2,none⟩ (.int .i64 ((rd_T127 l0 x7_1).f2))).setCell ⟨gb292,3,none⟩ (.bool ((rd_T127 l0 x7_1).f3))).setCell ⟨gb292,4,none⟩ (.int .i64 ((rd_T127 l0 x7_1).f4)))) := ⟨by repeat (first|(with_reducible first|exact HB.out|apply below_alloc|apply pw_below_drewN|apply below_drew1|refine below_set ?_ GE292.out)|exact HB.out)⟩
       (try clear BK292)
       (try clear HB)
       generalize (((((w34.setCell ⟨gb292,0,none⟩ (.int .i64 ((rd_T127 l0 x7_1).f0))).setCell ⟨gb292,1,none⟩ (.int .i64 ((rd_T127 l0 x7_1).f1))).setCell ⟨gb292,2,none⟩ (.int .i64 ((rd_T127 l0 x7_1).f2))).setCell ⟨gb292,3,none⟩ (.bool ((rd_T127 l0 x7_1).f3))).setCell ⟨gb292,4,none⟩ (.int .i64 ((rd_T127 l0 x7_1).f4))) = w36 at n0_ n1_ ⊢
       have BK292 := n0_
       have HB := n1_
       clear n0_ n1_
       have n0_ := Aside0.mk (blk_drew BK292.out)
       have n1_ := Aside0.mk (below_drew1 HB.out)
       clear BK292
       clear HB
       have BK292 := n0_
       have HB := n1_
       clear n0_ n1_
       refine start_ (n := 27) (S := fun w' => w'.cell? ⟨gb292,0,none⟩ = some (.int .i64 ((rd_T127 l0 x7_1).f0)) ∧ w'.cell? ⟨gb292,1,none⟩ = some (.int .i64 ((rd_T127 l0 x7_1).f1)) ∧ w'.cell? ⟨gb292,2,none⟩ = some (.int .i64 ((rd_T127 l0 x7_1).f2)) ∧ w'.cell? ⟨gb292,3,none⟩ = some (.bool ((rd_T127 l0 x7_1).f3)) ∧ w'.cell? ⟨gb292,4,none⟩ = some (.int .i64 ((rd_T127 l0 x7_1).f4))) (ds := []) #[false,false,false,false,false,false,false,false,false,false,false,false,false,false,false,false,false,false,false,false,false,false,false,false,false,false,false] (by kernel_rfl) rfl rfl ⟨(blk_cell BK292.out 0).trans rfl,(blk_cell BK292.out 1).trans rfl,(blk_cell BK292.out 2).trans rfl,(blk_cell BK292.out 3).trans rfl,(blk_cell BK292.out 4).trans rfl⟩ (fun hHeld => ?_);refine with_tabW impl_areSets.tab4 impl_areSets.bits4 (fun HT_ HW_ => ?_)
       generalize w36.drew = w37 at BK292 HB hHeld ⊢
       refine tw_ 0 (some 12) HT_.out HW_.out hHeld rfl rfl (by rintro w' ⟨s0,s1,s2,s3,s4⟩;go_simp;with_reducible rfl) ?_
       refine oz_ (i := 1) (N := some 13) HT_.out rfl rfl (by kernel_rfl) (by decide) (fun K hK => ?_)
       refine goes_ Try.func141 (by kernel_rfl) rfl #[.agg #[.int .i64 ((rd_T127 l0 x7_1).f0),.int .i64 ((rd_T127 l0 x7_1).f1),.int .i64 ((rd_T127 l0 x7_1).f2),.bool ((rd_T127 l0 x7_1).f3),.int .i64 ((rd_T127 l0 x7_1).f4)]] (by rfl) rfl rfl (by (try simp only [List.map_toArray,List.map_cons,List.map_nil]);first|done|rfl|(simp only [List.length_drop,List.length_take];rfl)) ?_
       with_reducible refine (impl_isSet.calls ((rd_T127 l0 x7_1).f0) ((rd_T127 l0 x7_1).f1) ((rd_T127 l0 x7_1).f2) ((rd_T127 l0 x7_1).f3) ((rd_T127 l0 x7_1).f4) false _ A5.out).mono ?_
       rintro e w38 ⟨rfl,hb⟩
       refine ⟨_,rfl,?_⟩
       have n0_ := Aside0.mk (blk_below (g := gb292) (o := .cells #[.int .i64 ((rd_T127 l0 x7_1).f0),.int .i64 ((rd_T127 l0 x7_1).f1),.int .i64 ((rd_T127 l0 x7_1).f2),.bool ((rd_T127 l0 x7_1).f3),.int .i64 ((rd_T127 l0 x7_1).f4)] 127 (0,0)) (by (with_reducible repeat (first|refine blk_drewN ?_ _|refine blk_drew ?_|refine blk_alloc ?_ _));exact BK292.out) hb)
       have n1_ := Aside0.mk (below_step (by repeat (first|(with_reducible first|exact HB.out|apply below_alloc|apply pw_below_drewN|apply below_drew1|refine below_set ?_ GE292.out)|exact HB.out)) hb)
       clear BK292
       clear HB
       have BK292 := n0_
       have HB := n1_
       clear n0_ n1_
       (try clear hb)
       (try clear hb2)
       (try clear hk)
       (try clear hi)
       refine hK.out _ _ ⟨(blk_cell BK292.out 0).trans rfl,(blk_cell BK292.out 1).trans rfl,(blk_cell BK292.out 2).trans rfl,(blk_cell BK292.out 3).trans rfl,(blk_cell BK292.out 4).trans rfl⟩ (fun hHeld => ?_)
       clear hK K
       refine norm_ (a' := ?_) ?_ ?_
       rotate_left
       ·show Act.put _ (some 13) _ = _
        simp only [Act.put,q1,q2,q3,i64_w,i32_w]
        rfl
       refine pw_ 2 (some 14) HT_.out ?_
       refine pw_ 3 (some 15) HT_.out ?_
       refine pu_ 4 (some 16) HT_.out ?_
       refine pu_ 5 (some 17) HT_.out ?_
       refine pu_ 6 (some 18) HT_.out ?_
       refine pu_ 7 (some 19) HT_.out ?_
       refine pu_ 8 (some 20) HT_.out ?_
       refine pu_ 9 (some 21) HT_.out ?_
       refine pu_ 10 (some 22) HT_.out ?_
       refine pw_ 11 (some 23) HT_.out ?_
       refine pw_ 12 (some 24) HT_.out ?_
       refine pu_ 13 (some 25) HT_.out ?_
       refine pu_ 14 (some 26) HT_.out ?_
       refine pu_ 15 (some 27) HT_.out ?_
       refine pu_ 16 (some 28) HT_.out ?_
       refine pu_ 17 (some 29) HT_.out ?_
       refine pu_ 18 (some 30) HT_.out ?_
       refine pu_ 19 (some 31) HT_.out ?_
       refine pu_ 20 (some 32) HT_.out ?_
       refine pu_ 21 (some 33) HT_.out ?_
       refine pu_ 22 (some 34) HT_.out ?_
       refine pu_ 23 (some 35) HT_.out ?_
       refine pu_ 24 (some 36) HT_.out ?_
       refine pu_ 25 (some 37) HT_.out ?_
       refine pw_ 26 (some 38) HT_.out ?_
       refine done_ (done_of HT_.out (by kernel_rfl)) ?_
       try go_wp2
       go_ret
       exact ⟨by first|rfl|(simp [errW_none,errW_some] <;> rfl)|(simp [*,errW_none,errW_some] <;> rfl),by repeat (first|(with_reducible first|exact HB.out|apply below_alloc|apply pw_below_drewN|apply below_drew1|refine below_set ?_ GE292.out)|exact HB.out)⟩
     ·rw [if_neg c4] at H
      exact absurd H (by simp)
    ·rw [if_neg c3] at H
     exact absurd H (by simp)
   ·rw [if_neg c2] at H
    have c2b0 : decide (x7_1 < (l0.length : Int)) = false := decide_eq_false c2
    clear c2
    obtain rfl := Option.some.inj H
    go_wp2
    go_ret
    exact ⟨by first|rfl|(simp [errW_none,errW_some] <;> rfl)|(simp [*,errW_none,errW_some] <;> rfl),by repeat (first|(with_reducible first|exact HB.out|apply below_alloc|apply pw_below_drewN|apply below_drew1)|exact HB.out)⟩

end Go.Proofs.Ythplaakckfhaaaa.XCp
