/- Proved: of each Go function here that a call comes to what the Lean function of its name tells. Written by a program of this session over the translation. No conditions beyond each theorem's own. -/
import Derived.Test.YthplaakckfhaaaaXTu0
import Derived.Test.YthplaakckfhaaaaXTu14
namespace Go.Proofs.Ythplaakckfhaaaa.XTu
open Go.RowKit Go.Proofs.Ythplaakckfhaaaa.Aid Go.Proofs.YthplaakckfhaaaaW.PrintWords Go.Proofs.YthplaakckfhaaaaW.PrintLast Go.Proofs.YthplaakckfhaaaaW.PrintMore
set_option linter.unusedVariables false
set_option linter.unusedSimpArgs false

/-! ### impl_areSets: function 118 -/
def impl_areSets.l0 : Nat → List (S127) → List (S127) → Int → Int → Option (Bool)
  | 0, _, _, _, _ => none
  | k + 1, x0, x5, x6, x7 => if x7 < x6 then (if 0 ≤ x7 then (if x7 < (x5.length : Int) then ((impl_isSet.f ((rd_T127 x5 x7).f0) ((rd_T127 x5 x7).f1) ((rd_T127 x5 x7).f2) ((rd_T127 x5 x7).f3) ((rd_T127 x5 x7).f4)).bind fun t341 => (if t341 = true then (if 0 < (x0.length : Int) then (if ((rd_T127 x5 x7).f0) = ((rd_T127 x0 0).f0) then (if x7 > 0 then (if 0 ≤ (wrap64 (x7 - 1)) then (if (wrap64 (x7 - 1)) < (x0.length : Int) then (if ((rd_T127 x0 (wrap64 (x7 - 1))).f1) ≥ ((rd_T127 x5 x7).f1) then (some false) else (impl_areSets.l0 k x0 x5 x6 (wrap64 (x7 + 1)))) else (none)) else (none)) else (impl_areSets.l0 k x0 x5 x6 (wrap64 (x7 + 1)))) else (some false)) else (none)) else (some false))) else (none)) else (none)) else (some true)
def impl_areSets.f (k : Nat) (l0 : List (S127)) : Option (Bool) := impl_areSets.l0 k l0 l0 (l0.length : Int) 0

def impl_areSets.T4 : Bool × List (List Nat × List Nat) := (true, [([], []), ([0], [0]), ([1], [1]), ([2, 1], [2]), ([3], [3]), ([4, 3], [3, 4]), ([3], [3]), ([6, 3], [3, 6]), ([7, 3], [3, 7]), ([8, 3], [3, 8]), ([5, 9, 3], [3, 5, 9]), ([3, 10], [3, 10]), ([11, 3], [11]), ([12], [12]), ([13, 12], [12, 13]), ([14, 12, 12], [12, 14]), ([15], [15]), ([15], [15]), ([17, 15], [15, 17]), ([16, 18, 15], [15, 16, 18]), ([19, 15], [15, 19]), ([20, 15], [15, 20]), ([15], [15]), ([22, 15], [15, 22]), ([21, 23, 15], [15, 21, 23]), ([15, 24, 12], [12, 15, 24]), ([12, 25], [12, 25])])
def impl_areSets.B4 : List Nat := [0, 1, 3, 7, 15, 31, 15, 79, 207, 463, 1023, 2047, 4095, 8191, 16383, 32767, 65535, 65535, 196607, 524287, 1048575, 2097151, 65535, 4259839, 16777215, 33554431, 67108863]
theorem impl_areSets.tab4 : rtab .any (opsOf Try.f118 4) = impl_areSets.T4 := by kernel_rfl
theorem impl_areSets.bits4 : waitsOk impl_areSets.T4.2 impl_areSets.B4 = true := by kernel_rfl
set_option maxHeartbeats 8000000 in
set_option maxRecDepth 100000 in
theorem impl_areSets.calls (k : Nat) (A0 : Option Addr) (c0 : Nat) (l0 : List (S127)) (r : Bool) (w : World) (hr0 : Kd.C k127 w A0 l0.length l0) (hc0 : l0.length ≤ c0) (h : impl_areSets.f k l0 = some r) :
    Calls Try.prog 118 #[.slice A0 l0.length c0] w fun e w' => e = .returned (.bool r) ∧ Below w.heap.size w w' := by
 have hu127 := Try.underlying127
 have HR0 := Aside0.mk hr0
 have HC0 := Aside0.mk hc0
 clear hr0 hc0
 have HB := Aside0.mk (Below.refl w.heap.size w)
 have H : (impl_areSets.l0 k l0 l0 (l0.length : Int) 0) = some r := h
 clear h
 have H' := Aside0.mk H
 clear H
 go_enter Try.func118,Try.ntmps118
 go_wp2
 go_loopg [7] k (fun kq v7 w' => ∃ (x7_1 : Int),v7 = .int .i64 x7_1 ∧ Aside0 (impl_areSets.l0 kq l0 l0 (l0.length : Int) x7_1 = some r) ∧ Aside0 (kq ≤ k) ∧ Aside0 (Below w.heap.size w w'))
 case atStart => exact ⟨(0),(by first|rfl|(simp;done)|(simp [*];done)),H',⟨Nat.le_refl _⟩,⟨b_⟩⟩
 case round =>
  clear H'
  try clear c1
  obtain ⟨x7_1,rfl,HA,HK1,HB⟩ := hrel
  cases gk with
    | zero => exact absurd HA.out (by simp [impl_areSets.l0])
    | succ k1 =>
   have H := HA.out
   clear HA
   simp only [impl_areSets.l0] at H
   by_cases c2 : x7_1 < (l0.length : Int)
   ·rw [if_pos c2] at H
    have c2b0 : decide (x7_1 < (l0.length : Int)) = true := decide_eq_true c2
    clear c2
    by_cases c3 : 0 ≤ x7_1
    ·rw [if_pos c3] at H
     have c3b0 : decide (0 ≤ x7_1) = true := decide_eq_true c3
     clear c3
     by_cases c4 : x7_1 < (l0.length : Int)
     ·rw [if_pos c4] at H
      have c4b0 : decide (x7_1 < (l0.length : Int)) = true := decide_eq_true c4
      clear c4
      replace H := Option.bind_eq_some_iff.mp H
      obtain ⟨t341,A50,H⟩ := H
      replace H : (if t341 = true then (if 0 < (l0.length : Int) then (if ((rd_T127 l0 x7_1).f0) = ((rd_T127 l0 0).f0) then (if x7_1 > 0 then (if 0 ≤ (wrap64 (x7_1 - 1)) then (if (wrap64 (x7_1 - 1)) < (l0.length : Int) then (if ((rd_T127 l0 (wrap64 (x7_1 - 1))).f1) ≥ ((rd_T127 l0 x7_1).f1) then (some false) else (impl_areSets.l0 k1 l0 l0 (l0.length : Int) (wrap64 (x7_1 + 1)))) else (none)) else (none)) else (impl_areSets.l0 k1 l0 l0 (l0.length : Int) (wrap64 (x7_1 + 1)))) else (some false)) else (none)) else (some false)) = some r := H
      have A5 := Aside0.mk A50
      clear A50
      by_cases c6 : t341 = true
      ·subst c6
       have H1 : (if 0 < (l0.length : Int) then (if ((rd_T127 l0 x7_1).f0) = ((rd_T127 l0 0).f0) then (if x7_1 > 0 then (if 0 ≤ (wrap64 (x7_1 - 1)) then (if (wrap64 (x7_1 - 1)) < (l0.length : Int) then (if ((rd_T127 l0 (wrap64 (x7_1 - 1))).f1) ≥ ((rd_T127 l0 x7_1).f1) then (some false) else (impl_areSets.l0 k1 l0 l0 (l0.length : Int) (wrap64 (x7_1 + 1)))) else (none)) else (none)) else (impl_areSets.l0 k1 l0 l0 (l0.length : Int) (wrap64 (x7_1 + 1)))) else (some false)) else (none)) = some r := by rw [if_pos rfl] at H;exact H
       clear H
       have H := H1
       clear H1
       by_cases c7 : 0 < (l0.length : Int)
       ·rw [if_pos c7] at H
        have c7b0 : decide (0 < (l0.length : Int)) = true := decide_eq_true c7
        have c7b1 : decide (0 < l0.length) = true := decide_eq_true (by omega)
        clear c7
        by_cases c8 : ((rd_T127 l0 x7_1).f0) = ((rd_T127 l0 0).f0)
        ·rw [if_pos c8] at H
         have c8b0 : (((rd_T127 l0 x7_1).f0) == ((rd_T127 l0 0).f0)) = true := beq_iff_eq.mpr c8
         have c8b1 : (((rd_T127 l0 x7_1).f0) != ((rd_T127 l0 0).f0)) = false := bne_eq_false_iff_eq.mpr c8
         clear c8
         by_cases c9 : x7_1 > 0
         ·rw [if_pos c9] at H
          have c9b0 : decide (0 < x7_1) = true := decide_eq_true c9
          clear c9
          obtain ⟨ji10,hji10⟩ : ∃ j_ : Int,(wrap64 (x7_1 - 1)) = j_ := ⟨_,rfl⟩
          replace H : (if 0 ≤ (ji10) then (if (ji10) < (l0.length : Int) then (if ((rd_T127 l0 (ji10)).f1) ≥ ((rd_T127 l0 x7_1).f1) then (some false) else (impl_areSets.l0 k1 l0 l0 (l0.length : Int) (wrap64 (x7_1 + 1)))) else (none)) else (none)) = some r := by first|(rw [hji10] at H;exact H)|(simp only [hji10] at H ⊢;exact H)
          (try rw [hji10] at A5)
          have hji10w : (IntKind.i64.wrap (x7_1 - 1)) = ji10 := (i64_w _).trans hji10
          by_cases c11 : 0 ≤ (ji10)
          ·rw [if_pos c11] at H
           have c11b0 : decide (0 ≤ (ji10)) = true := decide_eq_true c11
           clear c11
           by_cases c12 : (ji10) < (l0.length : Int)
           ·rw [if_pos c12] at H
            have c12b0 : decide ((ji10) < (l0.length : Int)) = true := decide_eq_true c12
            clear c12
            by_cases c13 : ((rd_T127 l0 (ji10)).f1) ≥ ((rd_T127 l0 x7_1).f1)
            ·rw [if_pos c13] at H
             have c13b0 : decide (((rd_T127 l0 x7_1).f1) ≤ ((rd_T127 l0 (ji10)).f1)) = true := decide_eq_true c13
             clear c13
             obtain rfl := Option.some.inj H
             have p339 : 0 ≤ (x7_1 : Int) := of_decide_eq_true (by first|(with_reducible assumption)|assumption)
             have q339 : x7_1 < (l0.length : Int) := of_decide_eq_true (by first|(with_reducible assumption)|assumption)
             obtain ⟨ad339,e339,hx339_0,hx339_1,hx339_2,hx339_3,hx339_4⟩ := at_T127 HR0.out x7_1 p339 q339
             cases e339
             replace hx339_0 := (HB.out.cell (World.block_lt_of_cell? w _ hx339_0)).trans hx339_0
             replace hx339_1 := (HB.out.cell (World.block_lt_of_cell? w _ hx339_1)).trans hx339_1
             replace hx339_2 := (HB.out.cell (World.block_lt_of_cell? w _ hx339_2)).trans hx339_2
             replace hx339_3 := (HB.out.cell (World.block_lt_of_cell? w _ hx339_3)).trans hx339_3
             replace hx339_4 := (HB.out.cell (World.block_lt_of_cell? w _ hx339_4)).trans hx339_4
             replace p339 := eq_true p339
             replace q339 := eq_true q339
             try go_wp2_with (first|((with_reducible refine gate_dst (N := 4) rfl ?_);refine bx_ 4 #[.int .i64 0,.int .i64 0,.int .i64 0,.bool false,.int .i64 0] 127 ?_;intro gb340 hg w14 hbox hb;have BK340 := Aside0.mk (hbox);have GW340 := Aside0.mk ((gw_ (w := w) hg));have GE340 := Aside0.mk ((gw_ (w := w) hg));replace HB := Aside0.mk (below_step b_ hb);clear hb hbox hg;obtain ⟨⟨hcz15_0,hcz15_1,hcz15_2,hcz15_3,hcz15_4⟩,hfz15_0,hfz15_1,hfz15_2,hfz15_3,hfz15_4⟩ := cl5_ BK340.out))
             have n0_ : Aside0 ((((((w14.setCell ⟨gb340,0,none⟩ (.int .i64 ((rd_T127 l0 x7_1).f0))).setCell ⟨gb340,1,none⟩ (.int .i64 ((rd_T127 l0 x7_1).f1))).setCell ⟨gb340,2,none⟩ (.int .i64 ((rd_T127 l0 x7_1).f2))).setCell ⟨gb340,3,none⟩ (.bool ((rd_T127 l0 x7_1).f3))).setCell ⟨gb340,4,none⟩ (.int .i64 ((rd_T127 l0 x7_1).f4))).heap[gb340]? = some (.cells #[.int .i64 ((rd_T127 l0 x7_1).f0),.int .i64 ((rd_T127 l0 x7_1).f1),.int .i64 ((rd_T127 l0 x7_1).f2),.bool ((rd_T127 l0 x7_1).f3),.int .i64 ((rd_T127 l0 x7_1).f4)] 127 (0,0))) := ⟨by (with_reducible repeat (first|refine blk_drewN ?_ _|refine blk_drew ?_|refine blk_alloc ?_ _));refine blk_put (cs := #[.int .i64 ((rd_T127 l0 x7_1).f0),.int .i64 ((rd_T127 l0 x7_1).f1),.int .i64 ((rd_T127 l0 x7_1).f2),.bool ((rd_T127 l0 x7_1).f3),.int .i64 0]) ?_ 4 _ rfl;(with_reducible repeat (first|refine blk_drewN ?_ _|refine blk_drew ?_|refine blk_alloc ?_ _));refine blk_put (cs := #[.int .i64 ((rd_T127 l0 x7_1).f0),.int .i64 ((rd_T127 l0 x7_1).f1),.int .i64 ((rd_T127 l0 x7_1).f2),.bool false,.int .i64 0]) ?_ 3 _ rfl;(with_reducible repeat (first|refine blk_drewN ?_ _|refine blk_drew ?_|refine blk_alloc ?_ _));refine blk_put (cs := #[.int .i64 ((rd_T127 l0 x7_1).f0),.int .i64 ((rd_T127 l0 x7_1).f1),.int .i64 0,.bool false,.int .i64 0]) ?_ 2 _ rfl;(with_reducible repeat (first|refine blk_drewN ?_ _|refine blk_drew ?_|refine blk_alloc ?_ _));refine blk_put (cs := #[.int .i64 ((rd_T127 l0 x7_1).f0),.int .i64 0,.int .i64 0,.bool false,.int .i64 0]) ?_ 1 _ rfl;(with_reducible repeat (first|refine blk_drewN ?_ _|refine blk_drew ?_|refine blk_alloc ?_ _));refine blk_put (cs := #[.int .i64 0,.int .i64 0,.int .i64 0,.bool false,.int .i64 0]) ?_ 0 _ rfl;(with_reducible repeat (first|refine blk_drewN ?_ _|refine blk_drew ?_|refine blk_alloc ?_ _));exact BK340.out⟩
             have n1_ : Aside0 (Below w.heap.size w (((((w14.setCell ⟨gb340,0,none⟩ (.int .i64 ((rd_T127 l0 x7_1).f0))).setCell ⟨gb340,1,none⟩ (.int .i64 ((rd_T127 l0 x7_1).f1))).setCell ⟨gb340,2,none⟩ (.int .i64 ((rd_T127 l0 x7_1).f2))).setCell ⟨gb340,3,none⟩ (.bool ((rd_T127 l0 x7_1).f3))).setCell ⟨gb340,4,none⟩ (.int .i64 ((rd_T127 l0 x7_1).f4)))) := ⟨b_⟩
             (try clear BK340)
             (try clear HB)
             generalize (((((w14.setCell ⟨gb340,0,none⟩ (.int .i64 ((rd_T127 l0 x7_1).f0))).setCell ⟨gb340,1,none⟩ (.int .i64 ((rd_T127 l0 x7_1).f1))).setCell ⟨gb340,2,none⟩ (.int .i64 ((rd_T127 l0 x7_1).f2))).setCell ⟨gb340,3,none⟩ (.bool ((rd_T127 l0 x7_1).f3))).setCell ⟨gb340,4,none⟩ (.int .i64 ((rd_T127 l0 x7_1).f4))) = w16 at n0_ n1_ ⊢
             have BK340 := n0_
             have HB := n1_
             clear n0_ n1_
             replace BK340 := Aside0.mk (blk_drew BK340.out)
             replace HB := Aside0.mk (below_drew1 HB.out)
             have p342 : 0 ≤ (0 : Int) := (by omega)
             have q342 : 0 < (l0.length : Int) := of_decide_eq_true (by first|(with_reducible assumption)|assumption)
             obtain ⟨ad342,e342,hx342_0,hx342_1,hx342_2,hx342_3,hx342_4⟩ := at_T127 HR0.out 0 p342 q342
             have hw342_4 := hx342_4
             (try rw [show ((0 : Int)).toNat = 0 from rfl] at hw342_4)
             (try rw [show 0 * 5 = 0 from rfl] at hw342_4)
             (try rw [Addr.add_zero'] at hw342_4)
             have hw342_3 := hx342_3
             (try rw [show ((0 : Int)).toNat = 0 from rfl] at hw342_3)
             (try rw [show 0 * 5 = 0 from rfl] at hw342_3)
             (try rw [Addr.add_zero'] at hw342_3)
             have hw342_2 := hx342_2
             (try rw [show ((0 : Int)).toNat = 0 from rfl] at hw342_2)
             (try rw [show 0 * 5 = 0 from rfl] at hw342_2)
             (try rw [Addr.add_zero'] at hw342_2)
             have hw342_1 := hx342_1
             (try rw [show ((0 : Int)).toNat = 0 from rfl] at hw342_1)
             (try rw [show 0 * 5 = 0 from rfl] at hw342_1)
             (try rw [Addr.add_zero'] at hw342_1)
             have hw342_0 := hx342_0
             (try rw [show ((0 : Int)).toNat = 0 from rfl] at hw342_0)
             (try rw [show 0 * 5 = 0 from rfl] at hw342_0)
             (try rw [Addr.add_zero'] at hw342_0)
             obtain rfl : ad339 = ad342 := (by injection e342)
             have qi342 : (0 < l0.length) = True := eq_true (by omega)
             (try rw [show ((0 : Int)).toNat = 0 from rfl] at hx342_0)
             (try rw [show 0 * 5 = 0 from rfl] at hx342_0)
             (try rw [Addr.add_zero'] at hx342_0)
             (try rw [show ((0 : Int)).toNat = 0 from rfl] at hx342_1)
             (try rw [show 0 * 5 = 0 from rfl] at hx342_1)
             (try rw [Addr.add_zero'] at hx342_1)
             (try rw [show ((0 : Int)).toNat = 0 from rfl] at hx342_2)
             (try rw [show 0 * 5 = 0 from rfl] at hx342_2)
             (try rw [Addr.add_zero'] at hx342_2)
             (try rw [show ((0 : Int)).toNat = 0 from rfl] at hx342_3)
             (try rw [show 0 * 5 = 0 from rfl] at hx342_3)
             (try rw [Addr.add_zero'] at hx342_3)
             (try rw [show ((0 : Int)).toNat = 0 from rfl] at hx342_4)
             (try rw [show 0 * 5 = 0 from rfl] at hx342_4)
             (try rw [Addr.add_zero'] at hx342_4)
             replace hx342_0 := (HB.out.cell (World.block_lt_of_cell? w _ hx342_0)).trans hx342_0
             replace hx342_1 := (HB.out.cell (World.block_lt_of_cell? w _ hx342_1)).trans hx342_1
             replace hx342_2 := (HB.out.cell (World.block_lt_of_cell? w _ hx342_2)).trans hx342_2
             replace hx342_3 := (HB.out.cell (World.block_lt_of_cell? w _ hx342_3)).trans hx342_3
             replace hx342_4 := (HB.out.cell (World.block_lt_of_cell? w _ hx342_4)).trans hx342_4
             replace p342 := eq_true p342
             replace q342 := eq_true q342
             have p343 : 0 ≤ ((ji10) : Int) := of_decide_eq_true (by first|(with_reducible assumption)|assumption)
             have q343 : (ji10) < (l0.length : Int) := of_decide_eq_true (by first|(with_reducible assumption)|assumption)
             obtain ⟨ad343,e343,hx343_0,hx343_1,hx343_2,hx343_3,hx343_4⟩ := at_T127 HR0.out (ji10) p343 q343
             have hw343_4 := hx343_4
             have hw343_3 := hx343_3
             have hw343_2 := hx343_2
             have hw343_1 := hx343_1
             have hw343_0 := hx343_0
             obtain rfl : ad339 = ad343 := (by injection e343)
             replace hx343_0 := (HB.out.cell (World.block_lt_of_cell? w _ hx343_0)).trans hx343_0
             replace hx343_1 := (HB.out.cell (World.block_lt_of_cell? w _ hx343_1)).trans hx343_1
             replace hx343_2 := (HB.out.cell (World.block_lt_of_cell? w _ hx343_2)).trans hx343_2
             replace hx343_3 := (HB.out.cell (World.block_lt_of_cell? w _ hx343_3)).trans hx343_3
             replace hx343_4 := (HB.out.cell (World.block_lt_of_cell? w _ hx343_4)).trans hx343_4
             replace p343 := eq_true p343
             replace q343 := eq_true q343
             refine start_ (n := 27) (S := fun w' => w'.cell? ⟨gb340,0,none⟩ = some (.int .i64 ((rd_T127 l0 x7_1).f0)) ∧ w'.cell? ⟨gb340,1,none⟩ = some (.int .i64 ((rd_T127 l0 x7_1).f1)) ∧ w'.cell? ⟨gb340,2,none⟩ = some (.int .i64 ((rd_T127 l0 x7_1).f2)) ∧ w'.cell? ⟨gb340,3,none⟩ = some (.bool ((rd_T127 l0 x7_1).f3)) ∧ w'.cell? ⟨gb340,4,none⟩ = some (.int .i64 ((rd_T127 l0 x7_1).f4)) ∧ w'.cell? ad339 = some (.int .i64 ((rd_T127 l0 0).f0)) ∧ w'.cell? ⟨ad339.block,ad339.off + 1,none⟩ = some (.int .i64 ((rd_T127 l0 0).f1)) ∧ w'.cell? ⟨ad339.block,ad339.off + 2,none⟩ = some (.int .i64 ((rd_T127 l0 0).f2)) ∧ w'.cell? ⟨ad339.block,ad339.off + 3,none⟩ = some (.bool ((rd_T127 l0 0).f3)) ∧ w'.cell? ⟨ad339.block,ad339.off + 4,none⟩ = some (.int .i64 ((rd_T127 l0 0).f4)) ∧ w'.cell? (ad339.add (((ji10)).toNat * 5)) = some (.int .i64 ((rd_T127 l0 (ji10)).f0)) ∧ w'.cell? ⟨(ad339.add (((ji10)).toNat * 5)).block,(ad339.add (((ji10)).toNat * 5)).off + 1,none⟩ = some (.int .i64 ((rd_T127 l0 (ji10)).f1)) ∧ w'.cell? ⟨(ad339.add (((ji10)).toNat * 5)).block,(ad339.add (((ji10)).toNat * 5)).off + 2,none⟩ = some (.int .i64 ((rd_T127 l0 (ji10)).f2)) ∧ w'.cell? ⟨(ad339.add (((ji10)).toNat * 5)).block,(ad339.add (((ji10)).toNat * 5)).off + 3,none⟩ = some (.bool ((rd_T127 l0 (ji10)).f3)) ∧ w'.cell? ⟨(ad339.add (((ji10)).toNat * 5)).block,(ad339.add (((ji10)).toNat * 5)).off + 4,none⟩ = some (.int .i64 ((rd_T127 l0 (ji10)).f4))) (ds := []) #[false,false,false,false,false,false,false,false,false,false,false,false,false,false,false,false,false,false,false,false,false,false,false,false,false,false,false] (by kernel_rfl) rfl rfl ⟨(blk_cell BK340.out 0).trans rfl,(blk_cell BK340.out 1).trans rfl,(blk_cell BK340.out 2).trans rfl,(blk_cell BK340.out 3).trans rfl,(blk_cell BK340.out 4).trans rfl,((HB.out.cell (World.block_lt_of_cell? w _ hw342_0)).trans hw342_0),((HB.out.cell (World.block_lt_of_cell? w _ hw342_1)).trans hw342_1),((HB.out.cell (World.block_lt_of_cell? w _ hw342_2)).trans hw342_2),((HB.out.cell (World.block_lt_of_cell? w _ hw342_3)).trans hw342_3),((HB.out.cell (World.block_lt_of_cell? w _ hw342_4)).trans hw342_4),((HB.out.cell (World.block_lt_of_cell? w _ hw343_0)).trans hw343_0),((HB.out.cell (World.block_lt_of_cell? w _ hw343_1)).trans hw343_1),((HB.out.cell (World.block_lt_of_cell? w _ hw343_2)).trans hw343_2),((HB.out.cell (World.block_lt_of_cell? w _ hw343_3)).trans hw343_3),((HB.out.cell (World.block_lt_of_cell? w _ hw343_4)).trans hw343_4)⟩ (fun hHeld => ?_);refine with_tabW impl_areSets.tab4 impl_areSets.bits4 (fun HT_ HW_ => ?_)
             generalize w16.drew = w17 at BK340 HB hx342_0 hx342_1 hx342_2 hx342_3 hx342_4 hx343_0 hx343_1 hx343_2 hx343_3 hx343_4 hHeld ⊢
             refine tw_ 0 (some 12) HT_.out HW_.out hHeld rfl rfl (by rintro w' ⟨s0,s1,s2,s3,s4,s5,s6,s7,s8,s9,s10,s11,s12,s13,s14⟩;go_simp;with_reducible rfl) ?_
             refine oz_ (i := 1) (N := some 13) HT_.out rfl rfl (by kernel_rfl) (by decide) (fun K hK => ?_)
             refine goes_ Try.func141 (by kernel_rfl) rfl #[.agg #[.int .i64 ((rd_T127 l0 x7_1).f0),.int .i64 ((rd_T127 l0 x7_1).f1),.int .i64 ((rd_T127 l0 x7_1).f2),.bool ((rd_T127 l0 x7_1).f3),.int .i64 ((rd_T127 l0 x7_1).f4)]] (by rfl) rfl rfl (by (try simp only [List.map_toArray,List.map_cons,List.map_nil]);first|done|rfl|(simp only [List.length_drop,List.length_take];rfl)) ?_
             with_reducible refine (impl_isSet.calls ((rd_T127 l0 x7_1).f0) ((rd_T127 l0 x7_1).f1) ((rd_T127 l0 x7_1).f2) ((rd_T127 l0 x7_1).f3) ((rd_T127 l0 x7_1).f4) true _ A5.out).mono ?_
             rintro e w18 ⟨rfl,hb⟩
             refine ⟨_,rfl,?_⟩
             replace BK340 := Aside0.mk (blk_below (kb_ BK340) hb)
             replace HB := Aside0.mk (below_step b_ hb)
             (try clear hb)
             (try clear hb2)
             (try clear hk)
             (try clear hi)
             refine hK.out _ _ ⟨(blk_cell BK340.out 0).trans rfl,(blk_cell BK340.out 1).trans rfl,(blk_cell BK340.out 2).trans rfl,(blk_cell BK340.out 3).trans rfl,(blk_cell BK340.out 4).trans rfl,((HB.out.cell (World.block_lt_of_cell? w _ hw342_0)).trans hw342_0),((HB.out.cell (World.block_lt_of_cell? w _ hw342_1)).trans hw342_1),((HB.out.cell (World.block_lt_of_cell? w _ hw342_2)).trans hw342_2),((HB.out.cell (World.block_lt_of_cell? w _ hw342_3)).trans hw342_3),((HB.out.cell (World.block_lt_of_cell? w _ hw342_4)).trans hw342_4),((HB.out.cell (World.block_lt_of_cell? w _ hw343_0)).trans hw343_0),((HB.out.cell (World.block_lt_of_cell? w _ hw343_1)).trans hw343_1),((HB.out.cell (World.block_lt_of_cell? w _ hw343_2)).trans hw343_2),((HB.out.cell (World.block_lt_of_cell? w _ hw343_3)).trans hw343_3),((HB.out.cell (World.block_lt_of_cell? w _ hw343_4)).trans hw343_4)⟩ (fun hHeld => ?_)
             clear hK K
             refine nr_ (some 13) _ ?_
             refine pw_ 2 (some 14) HT_.out ?_
             refine pw_ 3 (some 15) HT_.out ?_
             refine pw_ 4 (some 16) HT_.out ?_
             refine pw_ 6 (some 18) HT_.out ?_
             refine pw_ 7 (some 19) HT_.out ?_
             refine pw_ 8 (some 20) HT_.out ?_
             refine tw_ 5 (some 17) HT_.out HW_.out hHeld rfl rfl (by rintro w' ⟨s0,s1,s2,s3,s4,s5,s6,s7,s8,s9,s10,s11,s12,s13,s14⟩;go_simp;with_reducible rfl) ?_
             refine tw_ 9 (some 21) HT_.out HW_.out hHeld rfl rfl (by rintro w' ⟨s0,s1,s2,s3,s4,s5,s6,s7,s8,s9,s10,s11,s12,s13,s14⟩;go_simp;with_reducible rfl) ?_
             refine pw_ 10 (some 22) HT_.out ?_
             refine pw_ 11 (some 23) HT_.out ?_
             refine pw_ 12 (some 24) HT_.out ?_
             refine pw_ 13 (some 25) HT_.out ?_
             refine pw_ 14 (some 26) HT_.out ?_
             refine pw_ 15 (some 27) HT_.out ?_
             refine pw_ 16 (some 28) HT_.out ?_
             refine pw_ 17 (some 29) HT_.out ?_
             refine pw_ 18 (some 30) HT_.out ?_
             refine pw_ 19 (some 31) HT_.out ?_
             refine pw_ 20 (some 32) HT_.out ?_
             refine pw_ 22 (some 34) HT_.out ?_
             refine tw_ 21 (some 33) HT_.out HW_.out hHeld rfl rfl (by rintro w' ⟨s0,s1,s2,s3,s4,s5,s6,s7,s8,s9,s10,s11,s12,s13,s14⟩;go_simp;with_reducible rfl) ?_
             refine tw_ 23 (some 35) HT_.out HW_.out hHeld rfl rfl (by rintro w' ⟨s0,s1,s2,s3,s4,s5,s6,s7,s8,s9,s10,s11,s12,s13,s14⟩;go_simp;with_reducible rfl) ?_
             refine pw_ 24 (some 36) HT_.out ?_
             refine pw_ 25 (some 37) HT_.out ?_
             refine pw_ 26 (some 38) HT_.out ?_
             refine done_ (done_of HT_.out (by kernel_rfl)) ?_
             try go_wp2
             go_ret
             exact ⟨by first|rfl|(simp [errW_none,errW_some] <;> rfl)|(simp only [← hji10];first|rfl|(simp [errW_none,errW_some] <;> rfl))|(simp [*,errW_none,errW_some] <;> rfl),b_⟩
            ·rw [if_neg c13] at H
             have c13b0 : decide (((rd_T127 l0 x7_1).f1) ≤ ((rd_T127 l0 (ji10)).f1)) = false := decide_eq_false c13
             clear c13
             have H' := Aside0.mk H
             clear H
             have p339 : 0 ≤ (x7_1 : Int) := of_decide_eq_true (by first|(with_reducible assumption)|assumption)
             have q339 : x7_1 < (l0.length : Int) := of_decide_eq_true (by first|(with_reducible assumption)|assumption)
             obtain ⟨ad339,e339,hx339_0,hx339_1,hx339_2,hx339_3,hx339_4⟩ := at_T127 HR0.out x7_1 p339 q339
             cases e339
             replace hx339_0 := (HB.out.cell (World.block_lt_of_cell? w _ hx339_0)).trans hx339_0
             replace hx339_1 := (HB.out.cell (World.block_lt_of_cell? w _ hx339_1)).trans hx339_1
             replace hx339_2 := (HB.out.cell (World.block_lt_of_cell? w _ hx339_2)).trans hx339_2
             replace hx339_3 := (HB.out.cell (World.block_lt_of_cell? w _ hx339_3)).trans hx339_3
             replace hx339_4 := (HB.out.cell (World.block_lt_of_cell? w _ hx339_4)).trans hx339_4
             replace p339 := eq_true p339
             replace q339 := eq_true q339
             try go_wp2_with (first|((with_reducible refine gate_dst (N := 4) rfl ?_);refine bx_ 4 #[.int .i64 0,.int .i64 0,.int .i64 0,.bool false,.int .i64 0] 127 ?_;intro gb340 hg w19 hbox hb;have BK340 := Aside0.mk (hbox);have GW340 := Aside0.mk ((gw_ (w := w) hg));have GE340 := Aside0.mk ((gw_ (w := w) hg));replace HB := Aside0.mk (below_step b_ hb);clear hb hbox hg;obtain ⟨⟨hcz20_0,hcz20_1,hcz20_2,hcz20_3,hcz20_4⟩,hfz20_0,hfz20_1,hfz20_2,hfz20_3,hfz20_4⟩ := cl5_ BK340.out))
             have n0_ : Aside0 ((((((w19.setCell ⟨gb340,0,none⟩ (.int .i64 ((rd_T127 l0 x7_1).f0))).setCell ⟨gb340,1,none⟩ (.int .i64 ((rd_T127 l0 x7_1).f1))).setCell ⟨gb340,2,none⟩ (.int .i64 ((rd_T127 l0 x7_1).f2))).setCell ⟨gb340,3,none⟩ (.bool ((rd_T127 l0 x7_1).f3))).setCell ⟨gb340,4,none⟩ (.int .i64 ((rd_T127 l0 x7_1).f4))).heap[gb340]? = some (.cells #[.int .i64 ((rd_T127 l0 x7_1).f0),.int .i64 ((rd_T127 l0 x7_1).f1),.int .i64 ((rd_T127 l0 x7_1).f2),.bool ((rd_T127 l0 x7_1).f3),.int .i64 ((rd_T127 l0 x7_1).f4)] 127 (0,0))) := ⟨by (with_reducible repeat (first|refine blk_drewN ?_ _|refine blk_drew ?_|refine blk_alloc ?_ _));refine blk_put (cs := #[.int .i64 ((rd_T127 l0 x7_1).f0),.int .i64 ((rd_T127 l0 x7_1).f1),.int .i64 ((rd_T127 l0 x7_1).f2),.bool ((rd_T127 l0 x7_1).f3),.int .i64 0]) ?_ 4 _ rfl;(with_reducible repeat (first|refine blk_drewN ?_ _|refine blk_drew ?_|refine blk_alloc ?_ _));refine blk_put (cs := #[.int .i64 ((rd_T127 l0 x7_1).f0),.int .i64 ((rd_T127 l0 x7_1).f1),.int .i64 ((rd_T127 l0 x7_1).f2),.bool false,.int .i64 0]) ?_ 3 _ rfl;(with_reducible repeat (first|refine blk_drewN ?_ _|refine blk_drew ?_|refine blk_alloc ?_ _));refine blk_put (cs := #[.int .i64 ((rd_T127 l0 x7_1).f0),.int .i64 ((rd_T127 l0 x7_1).f1),.int .i64 0,.bool false,.int .i64 0]) ?_ 2 _ rfl;(with_reducible repeat (first|refine blk_drewN ?_ _|refine blk_drew ?_|refine blk_alloc ?_ _));refine blk_put (cs := #[.int .i64 ((rd_T127 l0 x7_1).f0),.int .i64 0,.int .i64 0,.bool false,.int .i64 0]) ?_ 1 _ rfl;(with_reducible repeat (first|refine blk_drewN ?_ _|refine blk_drew ?_|refine blk_alloc ?_ _));refine blk_put (cs := #[.int .i64 0,.int .i64 0,.int .i64 0,.bool false,.int .i64 0]) ?_ 0 _ rfl;(with_reducible repeat (first|refine blk_drewN ?_ _|refine blk_drew ?_|refine blk_alloc ?_ _));exact BK340.out⟩
             have n1_ : Aside0 (Below w.heap.size w (((((w19.setCell ⟨gb340,0,none⟩ (.int .i64 ((rd_T127 l0 x7_1).f0))).setCell ⟨gb340,1,none⟩ (.int .i64 ((rd_T127 l0 x7_1).f1))).setCell ⟨gb340,2,none⟩ (.int .i64 ((rd_T127 l0 x7_1).f2))).setCell ⟨gb340,3,none⟩ (.bool ((rd_T127 l0 x7_1).f3))).setCell ⟨gb340,4,none⟩ (.int .i64 ((rd_T127 l0 x7_1).f4)))) := ⟨b_⟩
             (try clear BK340)
             (try clear HB)
             generalize (((((w19.setCell ⟨gb340,0,none⟩ (.int .i64 ((rd_T127 l0 x7_1).f0))).setCell ⟨gb340,1,none⟩ (.int .i64 ((rd_T127 l0 x7_1).f1))).setCell ⟨gb340,2,none⟩ (.int .i64 ((rd_T127 l0 x7_1).f2))).setCell ⟨gb340,3,none⟩ (.bool ((rd_T127 l0 x7_1).f3))).setCell ⟨gb340,4,none⟩ (.int .i64 ((rd_T127 l0 x7_1).f4))) = w21 at n0_ n1_ ⊢
             have BK340 := n0_
             have HB := n1_
             clear n0_ n1_
             replace BK340 := Aside0.mk (blk_drew BK340.out)
             replace HB := Aside0.mk (below_drew1 HB.out)
             have p342 : 0 ≤ (0 : Int) := (by omega)
             have q342 : 0 < (l0.length : Int) := of_decide_eq_true (by first|(with_reducible assumption)|assumption)
             obtain ⟨ad342,e342,hx342_0,hx342_1,hx342_2,hx342_3,hx342_4⟩ := at_T127 HR0.out 0 p342 q342
             have hw342_4 := hx342_4
             (try rw [show ((0 : Int)).toNat = 0 from rfl] at hw342_4)
             (try rw [show 0 * 5 = 0 from rfl] at hw342_4)
             (try rw [Addr.add_zero'] at hw342_4)
             have hw342_3 := hx342_3
             (try rw [show ((0 : Int)).toNat = 0 from rfl] at hw342_3)
             (try rw [show 0 * 5 = 0 from rfl] at hw342_3)
             (try rw [Addr.add_zero'] at hw342_3)
             have hw342_2 := hx342_2
             (try rw [show ((0 : Int)).toNat = 0 from rfl] at hw342_2)
             (try rw [show 0 * 5 = 0 from rfl] at hw342_2)
             (try rw [Addr.add_zero'] at hw342_2)
             have hw342_1 := hx342_1
             (try rw [show ((0 : Int)).toNat = 0 from rfl] at hw342_1)
             (try rw [show 0 * 5 = 0 from rfl] at hw342_1)
             (try rw [Addr.add_zero'] at hw342_1)
             have hw342_0 := hx342_0
             (try rw [show ((0 : Int)).toNat = 0 from rfl] at hw342_0)
             (try rw [show 0 * 5 = 0 from rfl] at hw342_0)
             (try rw [Addr.add_zero'] at hw342_0)
             obtain rfl : ad339 = ad342 := (by injection e342)
             have qi342 : (0 < l0.length) = True := eq_true (by omega)
             (try rw [show ((0 : Int)).toNat = 0 from rfl] at hx342_0)
             (try rw [show 0 * 5 = 0 from rfl] at hx342_0)
             (try rw [Addr.add_zero'] at hx342_0)
             (try rw [show ((0 : Int)).toNat = 0 from rfl] at hx342_1)
             (try rw [show 0 * 5 = 0 from rfl] at hx342_1)
             (try rw [Addr.add_zero'] at hx342_1)
             (try rw [show ((0 : Int)).toNat = 0 from rfl] at hx342_2)
             (try rw [show 0 * 5 = 0 from rfl] at hx342_2)
             (try rw [Addr.add_zero'] at hx342_2)
             (try rw [show ((0 : Int)).toNat = 0 from rfl] at hx342_3)
             (try rw [show 0 * 5 = 0 from rfl] at hx342_3)
             (try rw [Addr.add_zero'] at hx342_3)
             (try rw [show ((0 : Int)).toNat = 0 from rfl] at hx342_4)
             (try rw [show 0 * 5 = 0 from rfl] at hx342_4)
             (try rw [Addr.add_zero'] at hx342_4)
             replace hx342_0 := (HB.out.cell (World.block_lt_of_cell? w _ hx342_0)).trans hx342_0
             replace hx342_1 := (HB.out.cell (World.block_lt_of_cell? w _ hx342_1)).trans hx342_1
             replace hx342_2 := (HB.out.cell (World.block_lt_of_cell? w _ hx342_2)).trans hx342_2
             replace hx342_3 := (HB.out.cell (World.block_lt_of_cell? w _ hx342_3)).trans hx342_3
             replace hx342_4 := (HB.out.cell (World.block_lt_of_cell? w _ hx342_4)).trans hx342_4
             replace p342 := eq_true p342
             replace q342 := eq_true q342
             have p343 : 0 ≤ ((ji10) : Int) := of_decide_eq_true (by first|(with_reducible assumption)|assumption)
             have q343 : (ji10) < (l0.length : Int) := of_decide_eq_true (by first|(with_reducible assumption)|assumption)
             obtain ⟨ad343,e343,hx343_0,hx343_1,hx343_2,hx343_3,hx343_4⟩ := at_T127 HR0.out (ji10) p343 q343
             have hw343_4 := hx343_4
             have hw343_3 := hx343_3
             have hw343_2 := hx343_2
             have hw343_1 := hx343_1
             have hw343_0 := hx343_0
             obtain rfl : ad339 = ad343 := (by injection e343)
             replace hx343_0 := (HB.out.cell (World.block_lt_of_cell? w _ hx343_0)).trans hx343_0
             replace hx343_1 := (HB.out.cell (World.block_lt_of_cell? w _ hx343_1)).trans hx343_1
             replace hx343_2 := (HB.out.cell (World.block_lt_of_cell? w _ hx343_2)).trans hx343_2
             replace hx343_3 := (HB.out.cell (World.block_lt_of_cell? w _ hx343_3)).trans hx343_3
             replace hx343_4 := (HB.out.cell (World.block_lt_of_cell? w _ hx343_4)).trans hx343_4
             replace p343 := eq_true p343
             replace q343 := eq_true q343
             refine start_ (n := 27) (S := fun w' => w'.cell? ⟨gb340,0,none⟩ = some (.int .i64 ((rd_T127 l0 x7_1).f0)) ∧ w'.cell? ⟨gb340,1,none⟩ = some (.int .i64 ((rd_T127 l0 x7_1).f1)) ∧ w'.cell? ⟨gb340,2,none⟩ = some (.int .i64 ((rd_T127 l0 x7_1).f2)) ∧ w'.cell? ⟨gb340,3,none⟩ = some (.bool ((rd_T127 l0 x7_1).f3)) ∧ w'.cell? ⟨gb340,4,none⟩ = some (.int .i64 ((rd_T127 l0 x7_1).f4)) ∧ w'.cell? ad339 = some (.int .i64 ((rd_T127 l0 0).f0)) ∧ w'.cell? ⟨ad339.block,ad339.off + 1,none⟩ = some (.int .i64 ((rd_T127 l0 0).f1)) ∧ w'.cell? ⟨ad339.block,ad339.off + 2,none⟩ = some (.int .i64 ((rd_T127 l0 0).f2)) ∧ w'.cell? ⟨ad339.block,ad339.off + 3,none⟩ = some (.bool ((rd_T127 l0 0).f3)) ∧ w'.cell? ⟨ad339.block,ad339.off + 4,none⟩ = some (.int .i64 ((rd_T127 l0 0).f4)) ∧ w'.cell? (ad339.add (((ji10)).toNat * 5)) = some (.int .i64 ((rd_T127 l0 (ji10)).f0)) ∧ w'.cell? ⟨(ad339.add (((ji10)).toNat * 5)).block,(ad339.add (((ji10)).toNat * 5)).off + 1,none⟩ = some (.int .i64 ((rd_T127 l0 (ji10)).f1)) ∧ w'.cell? ⟨(ad339.add (((ji10)).toNat * 5)).block,(ad339.add (((ji10)).toNat * 5)).off + 2,none⟩ = some (.int .i64 ((rd_T127 l0 (ji10)).f2)) ∧ w'.cell? ⟨(ad339.add (((ji10)).toNat * 5)).block,(ad339.add (((ji10)).toNat * 5)).off + 3,none⟩ = some (.bool ((rd_T127 l0 (ji10)).f3)) ∧ w'.cell? ⟨(ad339.add (((ji10)).toNat * 5)).block,(ad339.add (((ji10)).toNat * 5)).off + 4,none⟩ = some (.int .i64 ((rd_T127 l0 (ji10)).f4))) (ds := []) #[false,false,false,false,false,false,false,false,false,false,false,false,false,false,false,false,false,false,false,false,false,false,false,false,false,false,false] (by kernel_rfl) rfl rfl ⟨(blk_cell BK340.out 0).trans rfl,(blk_cell BK340.out 1).trans rfl,(blk_cell BK340.out 2).trans rfl,(blk_cell BK340.out 3).trans rfl,(blk_cell BK340.out 4).trans rfl,((HB.out.cell (World.block_lt_of_cell? w _ hw342_0)).trans hw342_0),((HB.out.cell (World.block_lt_of_cell? w _ hw342_1)).trans hw342_1),((HB.out.cell (World.block_lt_of_cell? w _ hw342_2)).trans hw342_2),((HB.out.cell (World.block_lt_of_cell? w _ hw342_3)).trans hw342_3),((HB.out.cell (World.block_lt_of_cell? w _ hw342_4)).trans hw342_4),((HB.out.cell (World.block_lt_of_cell? w _ hw343_0)).trans hw343_0),((HB.out.cell (World.block_lt_of_cell? w _ hw343_1)).trans hw343_1),((HB.out.cell (World.block_lt_of_cell? w _ hw343_2)).trans hw343_2),((HB.out.cell (World.block_lt_of_cell? w _ hw343_3)).trans hw343_3),((HB.out.cell (World.block_lt_of_cell? w _ hw343_4)).trans hw343_4)⟩ (fun hHeld => ?_);refine with_tabW impl_areSets.tab4 impl_areSets.bits4 (fun HT_ HW_ => ?_)
             generalize w21.drew = w22 at BK340 HB hx342_0 hx342_1 hx342_2 hx342_3 hx342_4 hx343_0 hx343_1 hx343_2 hx343_3 hx343_4 hHeld ⊢
             refine tw_ 0 (some 12) HT_.out HW_.out hHeld rfl rfl (by rintro w' ⟨s0,s1,s2,s3,s4,s5,s6,s7,s8,s9,s10,s11,s12,s13,s14⟩;go_simp;with_reducible rfl) ?_
             refine oz_ (i := 1) (N := some 13) HT_.out rfl rfl (by kernel_rfl) (by decide) (fun K hK => ?_)
             refine goes_ Try.func141 (by kernel_rfl) rfl #[.agg #[.int .i64 ((rd_T127 l0 x7_1).f0),.int .i64 ((rd_T127 l0 x7_1).f1),.int .i64 ((rd_T127 l0 x7_1).f2),.bool ((rd_T127 l0 x7_1).f3),.int .i64 ((rd_T127 l0 x7_1).f4)]] (by rfl) rfl rfl (by (try simp only [List.map_toArray,List.map_cons,List.map_nil]);first|done|rfl|(simp only [List.length_drop,List.length_take];rfl)) ?_
             with_reducible refine (impl_isSet.calls ((rd_T127 l0 x7_1).f0) ((rd_T127 l0 x7_1).f1) ((rd_T127 l0 x7_1).f2) ((rd_T127 l0 x7_1).f3) ((rd_T127 l0 x7_1).f4) true _ A5.out).mono ?_
             rintro e w23 ⟨rfl,hb⟩
             refine ⟨_,rfl,?_⟩
             replace BK340 := Aside0.mk (blk_below (kb_ BK340) hb)
             replace HB := Aside0.mk (below_step b_ hb)
             (try clear hb)
             (try clear hb2)
             (try clear hk)
             (try clear hi)
             refine hK.out _ _ ⟨(blk_cell BK340.out 0).trans rfl,(blk_cell BK340.out 1).trans rfl,(blk_cell BK340.out 2).trans rfl,(blk_cell BK340.out 3).trans rfl,(blk_cell BK340.out 4).trans rfl,((HB.out.cell (World.block_lt_of_cell? w _ hw342_0)).trans hw342_0),((HB.out.cell (World.block_lt_of_cell? w _ hw342_1)).trans hw342_1),((HB.out.cell (World.block_lt_of_cell? w _ hw342_2)).trans hw342_2),((HB.out.cell (World.block_lt_of_cell? w _ hw342_3)).trans hw342_3),((HB.out.cell (World.block_lt_of_cell? w _ hw342_4)).trans hw342_4),((HB.out.cell (World.block_lt_of_cell? w _ hw343_0)).trans hw343_0),((HB.out.cell (World.block_lt_of_cell? w _ hw343_1)).trans hw343_1),((HB.out.cell (World.block_lt_of_cell? w _ hw343_2)).trans hw343_2),((HB.out.cell (World.block_lt_of_cell? w _ hw343_3)).trans hw343_3),((HB.out.cell (World.block_lt_of_cell? w _ hw343_4)).trans hw343_4)⟩ (fun hHeld => ?_)
             clear hK K
             refine nr_ (some 13) _ ?_
             refine pw_ 2 (some 14) HT_.out ?_
             refine pw_ 3 (some 15) HT_.out ?_
             refine pw_ 4 (some 16) HT_.out ?_
             refine pw_ 6 (some 18) HT_.out ?_
             refine pw_ 7 (some 19) HT_.out ?_
             refine pw_ 8 (some 20) HT_.out ?_
             refine tw_ 5 (some 17) HT_.out HW_.out hHeld rfl rfl (by rintro w' ⟨s0,s1,s2,s3,s4,s5,s6,s7,s8,s9,s10,s11,s12,s13,s14⟩;go_simp;with_reducible rfl) ?_
             refine tw_ 9 (some 21) HT_.out HW_.out hHeld rfl rfl (by rintro w' ⟨s0,s1,s2,s3,s4,s5,s6,s7,s8,s9,s10,s11,s12,s13,s14⟩;go_simp;with_reducible rfl) ?_
             refine pw_ 10 (some 22) HT_.out ?_
             refine pw_ 11 (some 23) HT_.out ?_
             refine pw_ 12 (some 24) HT_.out ?_
             refine pw_ 13 (some 25) HT_.out ?_
             refine pw_ 14 (some 26) HT_.out ?_
             refine pw_ 15 (some 27) HT_.out ?_
             refine pw_ 16 (some 28) HT_.out ?_
             refine pw_ 17 (some 29) HT_.out ?_
             refine pw_ 18 (some 30) HT_.out ?_
             refine pw_ 19 (some 31) HT_.out ?_
             refine pw_ 20 (some 32) HT_.out ?_
             refine pw_ 22 (some 34) HT_.out ?_
             refine tw_ 21 (some 33) HT_.out HW_.out hHeld rfl rfl (by rintro w' ⟨s0,s1,s2,s3,s4,s5,s6,s7,s8,s9,s10,s11,s12,s13,s14⟩;go_simp;with_reducible rfl) ?_
             refine tw_ 23 (some 35) HT_.out HW_.out hHeld rfl rfl (by rintro w' ⟨s0,s1,s2,s3,s4,s5,s6,s7,s8,s9,s10,s11,s12,s13,s14⟩;go_simp;with_reducible rfl) ?_
             refine pw_ 24 (some 36) HT_.out ?_
             refine pw_ 25 (some 37) HT_.out ?_
             refine pw_ 26 (some 38) HT_.out ?_
             refine done_ (done_of HT_.out (by kernel_rfl)) ?_
             try go_wp2
             go_roundg k1
             case measure => have := HK1.out;omega
             case rel => exact ⟨(wrap64 (x7_1 + 1)),(by first|rfl|(simp;done)|(simp [*];done)),H',⟨by have := HK1.out;omega⟩,⟨b_⟩⟩
           ·rw [if_neg c12] at H
            exact absurd H (by simp)
          ·rw [if_neg c11] at H
           exact absurd H (by simp)
         ·rw [if_neg c9] at H
          have c9b0 : decide (0 < x7_1) = false := decide_eq_false c9
          clear c9
          have H' := Aside0.mk H
          clear H
          have p339 : 0 ≤ (x7_1 : Int) := of_decide_eq_true (by first|(with_reducible assumption)|assumption)
          have q339 : x7_1 < (l0.length : Int) := of_decide_eq_true (by first|(with_reducible assumption)|assumption)
          obtain ⟨ad339,e339,hx339_0,hx339_1,hx339_2,hx339_3,hx339_4⟩ := at_T127 HR0.out x7_1 p339 q339
          cases e339
          replace hx339_0 := (HB.out.cell (World.block_lt_of_cell? w _ hx339_0)).trans hx339_0
          replace hx339_1 := (HB.out.cell (World.block_lt_of_cell? w _ hx339_1)).trans hx339_1
          replace hx339_2 := (HB.out.cell (World.block_lt_of_cell? w _ hx339_2)).trans hx339_2
          replace hx339_3 := (HB.out.cell (World.block_lt_of_cell? w _ hx339_3)).trans hx339_3
          replace hx339_4 := (HB.out.cell (World.block_lt_of_cell? w _ hx339_4)).trans hx339_4
          replace p339 := eq_true p339
          replace q339 := eq_true q339
          try go_wp2_with (first|((with_reducible refine gate_dst (N := 4) rfl ?_);refine bx_ 4 #[.int .i64 0,.int .i64 0,.int .i64 0,.bool false,.int .i64 0] 127 ?_;intro gb340 hg w24 hbox hb;have BK340 := Aside0.mk (hbox);have GW340 := Aside0.mk ((gw_ (w := w) hg));have GE340 := Aside0.mk ((gw_ (w := w) hg));replace HB := Aside0.mk (below_step b_ hb);clear hb hbox hg;obtain ⟨⟨hcz25_0,hcz25_1,hcz25_2,hcz25_3,hcz25_4⟩,hfz25_0,hfz25_1,hfz25_2,hfz25_3,hfz25_4⟩ := cl5_ BK340.out))
          have n0_ : Aside0 ((((((w24.setCell ⟨gb340,0,none⟩ (.int .i64 ((rd_T127 l0 x7_1).f0))).setCell ⟨gb340,1,none⟩ (.int .i64 ((rd_T127 l0 x7_1).f1))).setCell ⟨gb340,2,none⟩ (.int .i64 ((rd_T127 l0 x7_1).f2))).setCell ⟨gb340,3,none⟩ (.bool ((rd_T127 l0 x7_1).f3))).setCell ⟨gb340,4,none⟩ (.int .i64 ((rd_T127 l0 x7_1).f4))).heap[gb340]? = some (.cells #[.int .i64 ((rd_T127 l0 x7_1).f0),.int .i64 ((rd_T127 l0 x7_1).f1),.int .i64 ((rd_T127 l0 x7_1).f2),.bool ((rd_T127 l0 x7_1).f3),.int .i64 ((rd_T127 l0 x7_1).f4)] 127 (0,0))) := ⟨by (with_reducible repeat (first|refine blk_drewN ?_ _|refine blk_drew ?_|refine blk_alloc ?_ _));refine blk_put (cs := #[.int .i64 ((rd_T127 l0 x7_1).f0),.int .i64 ((rd_T127 l0 x7_1).f1),.int .i64 ((rd_T127 l0 x7_1).f2),.bool ((rd_T127 l0 x7_1).f3),.int .i64 0]) ?_ 4 _ rfl;(with_reducible repeat (first|refine blk_drewN ?_ _|refine blk_drew ?_|refine blk_alloc ?_ _));refine blk_put (cs := #[.int .i64 ((rd_T127 l0 x7_1).f0),.int .i64 ((rd_T127 l0 x7_1).f1),.int .i64 ((rd_T127 l0 x7_1).f2),.bool false,.int .i64 0]) ?_ 3 _ rfl;(with_reducible repeat (first|refine blk_drewN ?_ _|refine blk_drew ?_|refine blk_alloc ?_ _));refine blk_put (cs := #[.int .i64 ((rd_T127 l0 x7_1).f0),.int .i64 ((rd_T127 l0 x7_1).f1),.int .i64 0,.bool false,.int .i64 0]) ?_ 2 _ rfl;(with_reducible repeat (first|refine blk_drewN ?_ _|refine blk_drew ?_|refine blk_alloc ?_ _));refine blk_put (cs := #[.int .i64 ((rd_T127 l0 x7_1).f0),.int .i64 0,.int .i64 0,.bool false,.int .i64 0]) ?_ 1 _ rfl;(with_reducible repeat (first|refine blk_drewN ?_ _|refine blk_drew ?_|refine blk_alloc ?_ _));refine blk_put (cs := #[.int .i64 0,.int .i64 0,.int .i64 0,.bool false,.int .i64 0]) ?_ 0 _ rfl;(with_reducible repeat (first|refine blk_drewN ?_ _|refine blk_drew ?_|refine blk_alloc ?_ _));exact BK340.out⟩
          have n1_ : Aside0 (Below w.heap.size w (((((w24.setCell ⟨gb340,0,none⟩ (.int .i64 ((rd_T127 l0 x7_1).f0))).setCell ⟨gb340,1,none⟩ (.int .i64 ((rd_T127 l0 x7_1).f1))).setCell ⟨gb340,2,none⟩ (.int .i64 ((rd_T127 l0 x7_1).f2))).setCell ⟨gb340,3,none⟩ (.bool ((rd_T127 l0 x7_1).f3))).setCell ⟨gb340,4,none⟩ (.int .i64 ((rd_T127 l0 x7_1).f4)))) := ⟨b_⟩
          (try clear BK340)
          (try clear HB)
          generalize (((((w24.setCell ⟨gb340,0,none⟩ (.int .i64 ((rd_T127 l0 x7_1).f0))).setCell ⟨gb340,1,none⟩ (.int .i64 ((rd_T127 l0 x7_1).f1))).setCell ⟨gb340,2,none⟩ (.int .i64 ((rd_T127 l0 x7_1).f2))).setCell ⟨gb340,3,none⟩ (.bool ((rd_T127 l0 x7_1).f3))).setCell ⟨gb340,4,none⟩ (.int .i64 ((rd_T127 l0 x7_1).f4))) = w26 at n0_ n1_ ⊢
          have BK340 := n0_
          have HB := n1_
          clear n0_ n1_
          replace BK340 := Aside0.mk (blk_drew BK340.out)
          replace HB := Aside0.mk (below_drew1 HB.out)
          have p342 : 0 ≤ (0 : Int) := (by omega)
          have q342 : 0 < (l0.length : Int) := of_decide_eq_true (by first|(with_reducible assumption)|assumption)
          obtain ⟨ad342,e342,hx342_0,hx342_1,hx342_2,hx342_3,hx342_4⟩ := at_T127 HR0.out 0 p342 q342
          have hw342_4 := hx342_4
          (try rw [show ((0 : Int)).toNat = 0 from rfl] at hw342_4)
          (try rw [show 0 * 5 = 0 from rfl] at hw342_4)
          (try rw [Addr.add_zero'] at hw342_4)
          have hw342_3 := hx342_3
          (try rw [show ((0 : Int)).toNat = 0 from rfl] at hw342_3)
          (try rw [show 0 * 5 = 0 from rfl] at hw342_3)
          (try rw [Addr.add_zero'] at hw342_3)
          have hw342_2 := hx342_2
          (try rw [show ((0 : Int)).toNat = 0 from rfl] at hw342_2)
          (try rw [show 0 * 5 = 0 from rfl] at hw342_2)
          (try rw [Addr.add_zero'] at hw342_2)
          have hw342_1 := hx342_1
          (try rw [show ((0 : Int)).toNat = 0 from rfl] at hw342_1)
          (try rw [show 0 * 5 = 0 from rfl] at hw342_1)
          (try rw [Addr.add_zero'] at hw342_1)
          have hw342_0 := hx342_0
          (try rw [show ((0 : Int)).toNat = 0 from rfl] at hw342_0)
          (try rw [show 0 * 5 = 0 from rfl] at hw342_0)
          (try rw [Addr.add_zero'] at hw342_0)
          obtain rfl : ad339 = ad342 := (by injection e342)
          have qi342 : (0 < l0.length) = True := eq_true (by omega)
          (try rw [show ((0 : Int)).toNat = 0 from rfl] at hx342_0)
          (try rw [show 0 * 5 = 0 from rfl] at hx342_0)
          (try rw [Addr.add_zero'] at hx342_0)
          (try rw [show ((0 : Int)).toNat = 0 from rfl] at hx342_1)
          (try rw [show 0 * 5 = 0 from rfl] at hx342_1)
          (try rw [Addr.add_zero'] at hx342_1)
          (try rw [show ((0 : Int)).toNat = 0 from rfl] at hx342_2)
          (try rw [show 0 * 5 = 0 from rfl] at hx342_2)
          (try rw [Addr.add_zero'] at hx342_2)
          (try rw [show ((0 : Int)).toNat = 0 from rfl] at hx342_3)
          (try rw [show 0 * 5 = 0 from rfl] at hx342_3)
          (try rw [Addr.add_zero'] at hx342_3)
          (try rw [show ((0 : Int)).toNat = 0 from rfl] at hx342_4)
          (try rw [show 0 * 5 = 0 from rfl] at hx342_4)
          (try rw [Addr.add_zero'] at hx342_4)
          replace hx342_0 := (HB.out.cell (World.block_lt_of_cell? w _ hx342_0)).trans hx342_0
          replace hx342_1 := (HB.out.cell (World.block_lt_of_cell? w _ hx342_1)).trans hx342_1
          replace hx342_2 := (HB.out.cell (World.block_lt_of_cell? w _ hx342_2)).trans hx342_2
          replace hx342_3 := (HB.out.cell (World.block_lt_of_cell? w _ hx342_3)).trans hx342_3
          replace hx342_4 := (HB.out.cell (World.block_lt_of_cell? w _ hx342_4)).trans hx342_4
          replace p342 := eq_true p342
          replace q342 := eq_true q342
          refine start_ (n := 27) (S := fun w' => w'.cell? ⟨gb340,0,none⟩ = some (.int .i64 ((rd_T127 l0 x7_1).f0)) ∧ w'.cell? ⟨gb340,1,none⟩ = some (.int .i64 ((rd_T127 l0 x7_1).f1)) ∧ w'.cell? ⟨gb340,2,none⟩ = some (.int .i64 ((rd_T127 l0 x7_1).f2)) ∧ w'.cell? ⟨gb340,3,none⟩ = some (.bool ((rd_T127 l0 x7_1).f3)) ∧ w'.cell? ⟨gb340,4,none⟩ = some (.int .i64 ((rd_T127 l0 x7_1).f4)) ∧ w'.cell? ad339 = some (.int .i64 ((rd_T127 l0 0).f0)) ∧ w'.cell? ⟨ad339.block,ad339.off + 1,none⟩ = some (.int .i64 ((rd_T127 l0 0).f1)) ∧ w'.cell? ⟨ad339.block,ad339.off + 2,none⟩ = some (.int .i64 ((rd_T127 l0 0).f2)) ∧ w'.cell? ⟨ad339.block,ad339.off + 3,none⟩ = some (.bool ((rd_T127 l0 0).f3)) ∧ w'.cell? ⟨ad339.block,ad339.off + 4,none⟩ = some (.int .i64 ((rd_T127 l0 0).f4))) (ds := []) #[false,false,false,false,false,false,false,false,false,false,false,false,false,false,false,false,false,false,false,false,false,false,false,false,false,false,false] (by kernel_rfl) rfl rfl ⟨(blk_cell BK340.out 0).trans rfl,(blk_cell BK340.out 1).trans rfl,(blk_cell BK340.out 2).trans rfl,(blk_cell BK340.out 3).trans rfl,(blk_cell BK340.out 4).trans rfl,((HB.out.cell (World.block_lt_of_cell? w _ hw342_0)).trans hw342_0),((HB.out.cell (World.block_lt_of_cell? w _ hw342_1)).trans hw342_1),((HB.out.cell (World.block_lt_of_cell? w _ hw342_2)).trans hw342_2),((HB.out.cell (World.block_lt_of_cell? w _ hw342_3)).trans hw342_3),((HB.out.cell (World.block_lt_of_cell? w _ hw342_4)).trans hw342_4)⟩ (fun hHeld => ?_);refine with_tabW impl_areSets.tab4 impl_areSets.bits4 (fun HT_ HW_ => ?_)
          generalize w26.drew = w27 at BK340 HB hx342_0 hx342_1 hx342_2 hx342_3 hx342_4 hHeld ⊢
          refine tw_ 0 (some 12) HT_.out HW_.out hHeld rfl rfl (by rintro w' ⟨s0,s1,s2,s3,s4,s5,s6,s7,s8,s9⟩;go_simp;with_reducible rfl) ?_
          refine oz_ (i := 1) (N := some 13) HT_.out rfl rfl (by kernel_rfl) (by decide) (fun K hK => ?_)
          refine goes_ Try.func141 (by kernel_rfl) rfl #[.agg #[.int .i64 ((rd_T127 l0 x7_1).f0),.int .i64 ((rd_T127 l0 x7_1).f1),.int .i64 ((rd_T127 l0 x7_1).f2),.bool ((rd_T127 l0 x7_1).f3),.int .i64 ((rd_T127 l0 x7_1).f4)]] (by rfl) rfl rfl (by (try simp only [List.map_toArray,List.map_cons,List.map_nil]);first|done|rfl|(simp only [List.length_drop,List.length_take];rfl)) ?_
          with_reducible refine (impl_isSet.calls ((rd_T127 l0 x7_1).f0) ((rd_T127 l0 x7_1).f1) ((rd_T127 l0 x7_1).f2) ((rd_T127 l0 x7_1).f3) ((rd_T127 l0 x7_1).f4) true _ A5.out).mono ?_
          rintro e w28 ⟨rfl,hb⟩
          refine ⟨_,rfl,?_⟩
          replace BK340 := Aside0.mk (blk_below (kb_ BK340) hb)
          replace HB := Aside0.mk (below_step b_ hb)
          (try clear hb)
          (try clear hb2)
          (try clear hk)
          (try clear hi)
          refine hK.out _ _ ⟨(blk_cell BK340.out 0).trans rfl,(blk_cell BK340.out 1).trans rfl,(blk_cell BK340.out 2).trans rfl,(blk_cell BK340.out 3).trans rfl,(blk_cell BK340.out 4).trans rfl,((HB.out.cell (World.block_lt_of_cell? w _ hw342_0)).trans hw342_0),((HB.out.cell (World.block_lt_of_cell? w _ hw342_1)).trans hw342_1),((HB.out.cell (World.block_lt_of_cell? w _ hw342_2)).trans hw342_2),((HB.out.cell (World.block_lt_of_cell? w _ hw342_3)).trans hw342_3),((HB.out.cell (World.block_lt_of_cell? w _ hw342_4)).trans hw342_4)⟩ (fun hHeld => ?_)
          clear hK K
          refine nr_ (some 13) _ ?_
          refine pw_ 2 (some 14) HT_.out ?_
          refine pw_ 3 (some 15) HT_.out ?_
          refine pw_ 4 (some 16) HT_.out ?_
          refine pw_ 6 (some 18) HT_.out ?_
          refine pw_ 7 (some 19) HT_.out ?_
          refine pw_ 8 (some 20) HT_.out ?_
          refine tw_ 5 (some 17) HT_.out HW_.out hHeld rfl rfl (by rintro w' ⟨s0,s1,s2,s3,s4,s5,s6,s7,s8,s9⟩;go_simp;with_reducible rfl) ?_
          refine tw_ 9 (some 21) HT_.out HW_.out hHeld rfl rfl (by rintro w' ⟨s0,s1,s2,s3,s4,s5,s6,s7,s8,s9⟩;go_simp;with_reducible rfl) ?_
          refine pw_ 10 (some 22) HT_.out ?_
          refine pw_ 11 (some 23) HT_.out ?_
          refine pw_ 12 (some 24) HT_.out ?_
          refine pw_ 13 (some 25) HT_.out ?_
          refine pw_ 14 (some 26) HT_.out ?_
          refine pw_ 15 (some 27) HT_.out ?_
          refine pu_ 16 (some 28) HT_.out ?_
          refine pu_ 17 (some 29) HT_.out ?_
          refine pu_ 18 (some 30) HT_.out ?_
          refine pu_ 19 (some 31) HT_.out ?_
          refine pu_ 20 (some 32) HT_.out ?_
          refine pu_ 21 (some 33) HT_.out ?_
          refine pu_ 22 (some 34) HT_.out ?_
          refine pu_ 23 (some 35) HT_.out ?_
          refine pu_ 24 (some 36) HT_.out ?_
          refine pw_ 25 (some 37) HT_.out ?_
          refine pw_ 26 (some 38) HT_.out ?_
          refine done_ (done_of HT_.out (by kernel_rfl)) ?_
          try go_wp2
          go_roundg k1
          case measure => have := HK1.out;omega
          case rel => exact ⟨(wrap64 (x7_1 + 1)),(by first|rfl|(simp;done)|(simp [*];done)),H',⟨by have := HK1.out;omega⟩,⟨b_⟩⟩
        ·rw [if_neg c8] at H
         have c8b0 : (((rd_T127 l0 x7_1).f0) == ((rd_T127 l0 0).f0)) = false := beq_eq_false_iff_ne.mpr c8
         have c8b1 : (((rd_T127 l0 x7_1).f0) != ((rd_T127 l0 0).f0)) = true := bne_iff_ne.mpr c8
         obtain rfl := Option.some.inj H
         have p339 : 0 ≤ (x7_1 : Int) := of_decide_eq_true (by first|(with_reducible assumption)|assumption)
         have q339 : x7_1 < (l0.length : Int) := of_decide_eq_true (by first|(with_reducible assumption)|assumption)
         obtain ⟨ad339,e339,hx339_0,hx339_1,hx339_2,hx339_3,hx339_4⟩ := at_T127 HR0.out x7_1 p339 q339
         cases e339
         replace hx339_0 := (HB.out.cell (World.block_lt_of_cell? w _ hx339_0)).trans hx339_0
         replace hx339_1 := (HB.out.cell (World.block_lt_of_cell? w _ hx339_1)).trans hx339_1
         replace hx339_2 := (HB.out.cell (World.block_lt_of_cell? w _ hx339_2)).trans hx339_2
         replace hx339_3 := (HB.out.cell (World.block_lt_of_cell? w _ hx339_3)).trans hx339_3
         replace hx339_4 := (HB.out.cell (World.block_lt_of_cell? w _ hx339_4)).trans hx339_4
         replace p339 := eq_true p339
         replace q339 := eq_true q339
         try go_wp2_with (first|((with_reducible refine gate_dst (N := 4) rfl ?_);refine bx_ 4 #[.int .i64 0,.int .i64 0,.int .i64 0,.bool false,.int .i64 0] 127 ?_;intro gb340 hg w29 hbox hb;have BK340 := Aside0.mk (hbox);have GW340 := Aside0.mk ((gw_ (w := w) hg));have GE340 := Aside0.mk ((gw_ (w := w) hg));replace HB := Aside0.mk (below_step b_ hb);clear hb hbox hg;obtain ⟨⟨hcz30_0,hcz30_1,hcz30_2,hcz30_3,hcz30_4⟩,hfz30_0,hfz30_1,hfz30_2,hfz30_3,hfz30_4⟩ := cl5_ BK340.out))
         have n0_ : Aside0 ((((((w29.setCell ⟨gb340,0,none⟩ (.int .i64 ((rd_T127 l0 x7_1).f0))).setCell ⟨gb340,1,none⟩ (.int .i64 ((rd_T127 l0 x7_1).f1))).setCell ⟨gb340,2,none⟩ (.int .i64 ((rd_T127 l0 x7_1).f2))).setCell ⟨gb340,3,none⟩ (.bool ((rd_T127 l0 x7_1).f3))).setCell ⟨gb340,4,none⟩ (.int .i64 ((rd_T127 l0 x7_1).f4))).heap[gb340]? = some (.cells #[.int .i64 ((rd_T127 l0 x7_1).f0),.int .i64 ((rd_T127 l0 x7_1).f1),.int .i64 ((rd_T127 l0 x7_1).f2),.bool ((rd_T127 l0 x7_1).f3),.int .i64 ((rd_T127 l0 x7_1).f4)] 127 (0,0))) := ⟨by (with_reducible repeat (first|refine blk_drewN ?_ _|refine blk_drew ?_|refine blk_alloc ?_ _));refine blk_put (cs := #[.int .i64 ((rd_T127 l0 x7_1).f0),.int .i64 ((rd_T127 l0 x7_1).f1),.int .i64 ((rd_T127 l0 x7_1).f2),.bool ((rd_T127 l0 x7_1).f3),.int .i64 0]) ?_ 4 _ rfl;(with_reducible repeat (first|refine blk_drewN ?_ _|refine blk_drew ?_|refine blk_alloc ?_ _));refine blk_put (cs := #[.int .i64 ((rd_T127 l0 x7_1).f0),.int .i64 ((rd_T127 l0 x7_1).f1),.int .i64 ((rd_T127 l0 x7_1).f2),.bool false,.int .i64 0]) ?_ 3 _ rfl;(with_reducible repeat (first|refine blk_drewN ?_ _|refine blk_drew ?_|refine blk_alloc ?_ _));refine blk_put (cs := #[.int .i64 ((rd_T127 l0 x7_1).f0),.int .i64 ((rd_T127 l0 x7_1).f1),.int .i64 0,.bool false,.int .i64 0]) ?_ 2 _ rfl;(with_reducible repeat (first|refine blk_drewN ?_ _|refine blk_drew ?_|refine blk_alloc ?_ _));refine blk_put (cs := #[.int .i64 ((rd_T127 l0 x7_1).f0),.int .i64 0,.int .i64 0,.bool false,.int .i64 0]) ?_ 1 _ rfl;(with_reducible repeat (first|refine blk_drewN ?_ _|refine blk_drew ?_|refine blk_alloc ?_ _));refine blk_put (cs := #[.int .i64 0,.int .i64 0,.int .i64 0,.bool false,.int .i64 0]) ?_ 0 _ rfl;(with_reducible repeat (first|refine blk_drewN ?_ _|refine blk_drew ?_|refine blk_alloc ?_ _));exact BK340.out⟩
         have n1_ : Aside0 (Below w.heap.size w (((((w29.setCell ⟨gb340,0,none⟩ (.int .i64 ((rd_T127 l0 x7_1).f0))).setCell ⟨gb340,1,none⟩ (.int .i64 ((rd_T127 l0 x7_1).f1))).setCell ⟨gb340,2,none⟩ (.int .i64 ((rd_T127 l0 x7_1).f2))).setCell ⟨gb340,3,none⟩ (.bool ((rd_T127 l0 x7_1).f3))).setCell ⟨gb340,4,none⟩ (.int .i64 ((rd_T127 l0 x7_1).f4)))) := ⟨b_⟩
         (try clear BK340)
         (try clear HB)
         generalize (((((w29.setCell ⟨gb340,0,none⟩ (.int .i64 ((rd_T127 l0 x7_1).f0))).setCell ⟨gb340,1,none⟩ (.int .i64 ((rd_T127 l0 x7_1).f1))).setCell ⟨gb340,2,none⟩ (.int .i64 ((rd_T127 l0 x7_1).f2))).setCell ⟨gb340,3,none⟩ (.bool ((rd_T127 l0 x7_1).f3))).setCell ⟨gb340,4,none⟩ (.int .i64 ((rd_T127 l0 x7_1).f4))) = w31 at n0_ n1_ ⊢
         have BK340 := n0_
         have HB := n1_
         clear n0_ n1_
         replace BK340 := Aside0.mk (blk_drew BK340.out)
         replace HB := Aside0.mk (below_drew1 HB.out)
         have p342 : 0 ≤ (0 : Int) := (by omega)
         have q342 : 0 < (l0.length : Int) := of_decide_eq_true (by first|(with_reducible assumption)|assumption)
         obtain ⟨ad342,e342,hx342_0,hx342_1,hx342_2,hx342_3,hx342_4⟩ := at_T127 HR0.out 0 p342 q342
         have hw342_4 := hx342_4
         (try rw [show ((0 : Int)).toNat = 0 from rfl] at hw342_4)
         (try rw [show 0 * 5 = 0 from rfl] at hw342_4)
         (try rw [Addr.add_zero'] at hw342_4)
         have hw342_3 := hx342_3
         (try rw [show ((0 : Int)).toNat = 0 from rfl] at hw342_3)
         (try rw [show 0 * 5 = 0 from rfl] at hw342_3)
         (try rw [Addr.add_zero'] at hw342_3)
         have hw342_2 := hx342_2
         (try rw [show ((0 : Int)).toNat = 0 from rfl] at hw342_2)
         (try rw [show 0 * 5 = 0 from rfl] at hw342_2)
         (try rw [Addr.add_zero'] at hw342_2)
         have hw342_1 := hx342_1
         (try rw [show ((0 : Int)).toNat = 0 from rfl] at hw342_1)
         (try rw [show 0 * 5 = 0 from rfl] at hw342_1)
         (try rw [Addr.add_zero'] at hw342_1)
         have hw342_0 := hx342_0
         (try rw [show ((0 : Int)).toNat = 0 from rfl] at hw342_0)
         (try rw [show 0 * 5 = 0 from rfl] at hw342_0)
         (try rw [Addr.add_zero'] at hw342_0)
         obtain rfl : ad339 = ad342 := (by injection e342)
         have qi342 : (0 < l0.length) = True := eq_true (by omega)
         (try rw [show ((0 : Int)).toNat = 0 from rfl] at hx342_0)
         (try rw [show 0 * 5 = 0 from rfl] at hx342_0)
         (try rw [Addr.add_zero'] at hx342_0)
         (try rw [show ((0 : Int)).toNat = 0 from rfl] at hx342_1)
         (try rw [show 0 * 5 = 0 from rfl] at hx342_1)
         (try rw [Addr.add_zero'] at hx342_1)
         (try rw [show ((0 : Int)).toNat = 0 from rfl] at hx342_2)
         (try rw [show 0 * 5 = 0 from rfl] at hx342_2)
         (try rw [Addr.add_zero'] at hx342_2)
         (try rw [show ((0 : Int)).toNat = 0 from rfl] at hx342_3)
         (try rw [show 0 * 5 = 0 from rfl] at hx342_3)
         (try rw [Addr.add_zero'] at hx342_3)
         (try rw [show ((0 : Int)).toNat = 0 from rfl] at hx342_4)
         (try rw [show 0 * 5 = 0 from rfl] at hx342_4)
         (try rw [Addr.add_zero'] at hx342_4)
         replace hx342_0 := (HB.out.cell (World.block_lt_of_cell? w _ hx342_0)).trans hx342_0
         replace hx342_1 := (HB.out.cell (World.block_lt_of_cell? w _ hx342_1)).trans hx342_1
         replace hx342_2 := (HB.out.cell (World.block_lt_of_cell? w _ hx342_2)).trans hx342_2
         replace hx342_3 := (HB.out.cell (World.block_lt_of_cell? w _ hx342_3)).trans hx342_3
         replace hx342_4 := (HB.out.cell (World.block_lt_of_cell? w _ hx342_4)).trans hx342_4
         replace p342 := eq_true p342
         replace q342 := eq_true q342
         refine start_ (n := 27) (S := fun w' => w'.cell? ⟨gb340,0,none⟩ = some (.int .i64 ((rd_T127 l0 x7_1).f0)) ∧ w'.cell? ⟨gb340,1,none⟩ = some (.int .i64 ((rd_T127 l0 x7_1).f1)) ∧ w'.cell? ⟨gb340,2,none⟩ = some (.int .i64 ((rd_T127 l0 x7_1).f2)) ∧ w'.cell? ⟨gb340,3,none⟩ = some (.bool ((rd_T127 l0 x7_1).f3)) ∧ w'.cell? ⟨gb340,4,none⟩ = some (.int .i64 ((rd_T127 l0 x7_1).f4)) ∧ w'.cell? ad339 = some (.int .i64 ((rd_T127 l0 0).f0)) ∧ w'.cell? ⟨ad339.block,ad339.off + 1,none⟩ = some (.int .i64 ((rd_T127 l0 0).f1)) ∧ w'.cell? ⟨ad339.block,ad339.off + 2,none⟩ = some (.int .i64 ((rd_T127 l0 0).f2)) ∧ w'.cell? ⟨ad339.block,ad339.off + 3,none⟩ = some (.bool ((rd_T127 l0 0).f3)) ∧ w'.cell? ⟨ad339.block,ad339.off + 4,none⟩ = some (.int .i64 ((rd_T127 l0 0).f4))) (ds := []) #[false,false,false,false,false,false,false,false,false,false,false,false,false,false,false,false,false,false,false,false,false,false,false,false,false,false,false] (by kernel_rfl) rfl rfl ⟨(blk_cell BK340.out 0).trans rfl,(blk_cell BK340.out 1).trans rfl,(blk_cell BK340.out 2).trans rfl,(blk_cell BK340.out 3).trans rfl,(blk_cell BK340.out 4).trans rfl,((HB.out.cell (World.block_lt_of_cell? w _ hw342_0)).trans hw342_0),((HB.out.cell (World.block_lt_of_cell? w _ hw342_1)).trans hw342_1),((HB.out.cell (World.block_lt_of_cell? w _ hw342_2)).trans hw342_2),((HB.out.cell (World.block_lt_of_cell? w _ hw342_3)).trans hw342_3),((HB.out.cell (World.block_lt_of_cell? w _ hw342_4)).trans hw342_4)⟩ (fun hHeld => ?_);refine with_tabW impl_areSets.tab4 impl_areSets.bits4 (fun HT_ HW_ => ?_)
         generalize w31.drew = w32 at BK340 HB hx342_0 hx342_1 hx342_2 hx342_3 hx342_4 hHeld ⊢
         refine tw_ 0 (some 12) HT_.out HW_.out hHeld rfl rfl (by rintro w' ⟨s0,s1,s2,s3,s4,s5,s6,s7,s8,s9⟩;go_simp;with_reducible rfl) ?_
         refine oz_ (i := 1) (N := some 13) HT_.out rfl rfl (by kernel_rfl) (by decide) (fun K hK => ?_)
         refine goes_ Try.func141 (by kernel_rfl) rfl #[.agg #[.int .i64 ((rd_T127 l0 x7_1).f0),.int .i64 ((rd_T127 l0 x7_1).f1),.int .i64 ((rd_T127 l0 x7_1).f2),.bool ((rd_T127 l0 x7_1).f3),.int .i64 ((rd_T127 l0 x7_1).f4)]] (by rfl) rfl rfl (by (try simp only [List.map_toArray,List.map_cons,List.map_nil]);first|done|rfl|(simp only [List.length_drop,List.length_take];rfl)) ?_
         with_reducible refine (impl_isSet.calls ((rd_T127 l0 x7_1).f0) ((rd_T127 l0 x7_1).f1) ((rd_T127 l0 x7_1).f2) ((rd_T127 l0 x7_1).f3) ((rd_T127 l0 x7_1).f4) true _ A5.out).mono ?_
         rintro e w33 ⟨rfl,hb⟩
         refine ⟨_,rfl,?_⟩
         replace BK340 := Aside0.mk (blk_below (kb_ BK340) hb)
         replace HB := Aside0.mk (below_step b_ hb)
         (try clear hb)
         (try clear hb2)
         (try clear hk)
         (try clear hi)
         refine hK.out _ _ ⟨(blk_cell BK340.out 0).trans rfl,(blk_cell BK340.out 1).trans rfl,(blk_cell BK340.out 2).trans rfl,(blk_cell BK340.out 3).trans rfl,(blk_cell BK340.out 4).trans rfl,((HB.out.cell (World.block_lt_of_cell? w _ hw342_0)).trans hw342_0),((HB.out.cell (World.block_lt_of_cell? w _ hw342_1)).trans hw342_1),((HB.out.cell (World.block_lt_of_cell? w _ hw342_2)).trans hw342_2),((HB.out.cell (World.block_lt_of_cell? w _ hw342_3)).trans hw342_3),((HB.out.cell (World.block_lt_of_cell? w _ hw342_4)).trans hw342_4)⟩ (fun hHeld => ?_)
         clear hK K
         refine nr_ (some 13) _ ?_
         refine pw_ 2 (some 14) HT_.out ?_
         refine pw_ 3 (some 15) HT_.out ?_
         refine pw_ 4 (some 16) HT_.out ?_
         refine pw_ 6 (some 18) HT_.out ?_
         refine pw_ 7 (some 19) HT_.out ?_
         refine pw_ 8 (some 20) HT_.out ?_
         refine tw_ 5 (some 17) HT_.out HW_.out hHeld rfl rfl (by rintro w' ⟨s0,s1,s2,s3,s4,s5,s6,s7,s8,s9⟩;go_simp;with_reducible rfl) ?_
         refine tw_ 9 (some 21) HT_.out HW_.out hHeld rfl rfl (by rintro w' ⟨s0,s1,s2,s3,s4,s5,s6,s7,s8,s9⟩;go_simp;with_reducible rfl) ?_
         refine pw_ 10 (some 22) HT_.out ?_
         refine pw_ 11 (some 23) HT_.out ?_
         refine pw_ 12 (some 24) HT_.out ?_
         refine pu_ 13 (some 25) HT_.out ?_
         refine pu_ 14 (some 26) HT_.out ?_
         refine pu_ 15 (some 27) HT_.out ?_
         refine pu_ 16 (some 28) HT_.out ?_
         refine pu_ 17 (some 29) HT_.out ?_
         refine pu_ 18 (some 30) HT_.out ?_
         refine pu_ 19 (some 31) HT_.out ?_
         refine pu_ 20 (some 32) HT_.out ?_
         refine pu_ 21 (some 33) HT_.out ?_
         refine pu_ 22 (some 34) HT_.out ?_
         refine pu_ 23 (some 35) HT_.out ?_
         refine pu_ 24 (some 36) HT_.out ?_
         refine pu_ 25 (some 37) HT_.out ?_
         refine pw_ 26 (some 38) HT_.out ?_
         refine done_ (done_of HT_.out (by kernel_rfl)) ?_
         try go_wp2
         go_ret
         exact ⟨by first|rfl|(simp [errW_none,errW_some] <;> rfl)|(simp [*,errW_none,errW_some] <;> rfl),b_⟩
       ·rw [if_neg c7] at H
        exact absurd H (by simp)
      ·replace c6 := Bool.eq_false_iff.mpr c6
       subst c6
       have H1 : (some false) = some r := by rw [if_neg (show ¬ (false = true) by decide)] at H;exact H
       clear H
       have H := H1
       clear H1
       obtain rfl := Option.some.inj H
       have p339 : 0 ≤ (x7_1 : Int) := of_decide_eq_true (by first|(with_reducible assumption)|assumption)
       have q339 : x7_1 < (l0.length : Int) := of_decide_eq_true (by first|(with_reducible assumption)|assumption)
       obtain ⟨ad339,e339,hx339_0,hx339_1,hx339_2,hx339_3,hx339_4⟩ := at_T127 HR0.out x7_1 p339 q339
       cases e339
       replace hx339_0 := (HB.out.cell (World.block_lt_of_cell? w _ hx339_0)).trans hx339_0
       replace hx339_1 := (HB.out.cell (World.block_lt_of_cell? w _ hx339_1)).trans hx339_1
       replace hx339_2 := (HB.out.cell (World.block_lt_of_cell? w _ hx339_2)).trans hx339_2
       replace hx339_3 := (HB.out.cell (World.block_lt_of_cell? w _ hx339_3)).trans hx339_3
       replace hx339_4 := (HB.out.cell (World.block_lt_of_cell? w _ hx339_4)).trans hx339_4
       replace p339 := eq_true p339
       replace q339 := eq_true q339
       try go_wp2_with (first|((with_reducible refine gate_dst (N := 4) rfl ?_);refine bx_ 4 #[.int .i64 0,.int .i64 0,.int .i64 0,.bool false,.int .i64 0] 127 ?_;intro gb340 hg w34 hbox hb;have BK340 := Aside0.mk (hbox);have GW340 := Aside0.mk ((gw_ (w := w) hg));have GE340 := Aside0.mk ((gw_ (w := w) hg));replace HB := Aside0.mk (below_step b_ hb);clear hb hbox hg;obtain ⟨⟨hcz35_0,hcz35_1,hcz35_2,hcz35_3,hcz35_4⟩,hfz35_0,hfz35_1,hfz35_2,hfz35_3,hfz35_4⟩ := cl5_ BK340.out))
       have n0_ : Aside0 ((((((w34.setCell ⟨gb340,0,none⟩ (.int .i64 ((rd_T127 l0 x7_1).f0))).setCell ⟨gb340,1,none⟩ (.int .i64 ((rd_T127 l0 x7_1).f1))).setCell ⟨gb340,2,none⟩ (.int .i64 ((rd_T127 l0 x7_1).f2))).setCell ⟨gb340,3,none⟩ (.bool ((rd_T127 l0 x7_1).f3))).setCell ⟨gb340,4,none⟩ (.int .i64 ((rd_T127 l0 x7_1).f4))).heap[gb340]? = some (.cells #[.int .i64 ((rd_T127 l0 x7_1).f0),.int .i64 ((rd_T127 l0 x7_1).f1),.int .i64 ((rd_T127 l0 x7_1).f2),.bool ((rd_T127 l0 x7_1).f3),.int .i64 ((rd_T127 l0 x7_1).f4)] 127 (0,0))) := ⟨by (with_reducible repeat (first|refine blk_drewN ?_ _|refine blk_drew ?_|refine blk_alloc ?_ _));refine blk_put (cs := #[.int .i64 ((rd_T127 l0 x7_1).f0),.int .i64 ((rd_T127 l0 x7_1).f1),.int .i64 ((rd_T127 l0 x7_1).f2),.bool ((rd_T127 l0 x7_1).f3),.int .i64 0]) ?_ 4 _ rfl;(with_reducible repeat (first|refine blk_drewN ?_ _|refine blk_drew ?_|refine blk_alloc ?_ _));refine blk_put (cs := #[.int .i64 ((rd_T127 l0 x7_1).f0),.int .i64 ((rd_T127 l0 x7_1).f1),.int .i64 ((rd_T127 l0 x7_1).f2),.bool false,.int .i64 0]) ?_ 3 _ rfl;(with_reducible repeat (first|refine blk_drewN ?_ _|refine blk_drew ?_|refine blk_alloc ?_ _));refine blk_put (cs := #[.int .i64 ((rd_T127 l0 x7_1).f0),.int .i64 ((rd_T127 l0 x7_1).f1),.int .i64 0,.bool false,.int .i64 0]) ?_ 2 _ rfl;(with_reducible repeat (first|refine blk_drewN ?_ _|refine blk_drew ?_|refine blk_alloc ?_ _));refine blk_put (cs := #[.int .i64 ((rd_T127 l0 x7_1).f0),.int .i64 0,.int .i64 0,.bool false,.int .i64 0]) ?_ 1 _ rfl;(with_reducible repeat (first|refine blk_drewN ?_ _|refine blk_drew ?_|refine blk_alloc ?_ _));refine blk_put (cs := #[.int .i64 0,.int .i64 0,.int .i64 0,.bool false,.int .i64 0]) ?_ 0 _ rfl;(with_reducible repeat (first|refine blk_drewN ?_ _|refine blk_drew ?_|refine blk_alloc ?_ _));exact BK340.out⟩
       have n1_ : Aside0 (Below w.heap.size w (((((w34.setCell ⟨gb340,0,none⟩ (.int .i64 ((rd_T127 l0 x7_1).f0))).setCell ⟨gb340,1,none⟩ (.int .i64 ((rd_T127 l0 x7_1).f1))).setCell ⟨gb340,2,none⟩ (.int .i64 ((rd_T127 l0 x7_1).f2))).setCell ⟨gb340,3,none⟩ (.bool ((rd_T127 l0 x7_1).f3))).setCell ⟨gb340,4,none⟩ (.int .i64 ((rd_T127 l0 x7_1).f4)))) := ⟨b_⟩
       (try clear BK340)
       (try clear HB)
       generalize (((((w34.setCell ⟨gb340,0,none⟩ (.int .i64 ((rd_T127 l0 x7_1).f0))).setCell ⟨gb340,1,none⟩ (.int .i64 ((rd_T127 l0 x7_1).f1))).setCell ⟨gb340,2,none⟩ (.int .i64 ((rd_T127 l0 x7_1).f2))).setCell ⟨gb340,3,none⟩ (.bool ((rd_T127 l0 x7_1).f3))).setCell ⟨gb340,4,none⟩ (.int .i64 ((rd_T127 l0 x7_1).f4))) = w36 at n0_ n1_ ⊢
       have BK340 := n0_
       have HB := n1_
       clear n0_ n1_
       replace BK340 := Aside0.mk (blk_drew BK340.out)
       replace HB := Aside0.mk (below_drew1 HB.out)
       refine start_ (n := 27) (S := fun w' => w'.cell? ⟨gb340,0,none⟩ = some (.int .i64 ((rd_T127 l0 x7_1).f0)) ∧ w'.cell? ⟨gb340,1,none⟩ = some (.int .i64 ((rd_T127 l0 x7_1).f1)) ∧ w'.cell? ⟨gb340,2,none⟩ = some (.int .i64 ((rd_T127 l0 x7_1).f2)) ∧ w'.cell? ⟨gb340,3,none⟩ = some (.bool ((rd_T127 l0 x7_1).f3)) ∧ w'.cell? ⟨gb340,4,none⟩ = some (.int .i64 ((rd_T127 l0 x7_1).f4))) (ds := []) #[false,false,false,false,false,false,false,false,false,false,false,false,false,false,false,false,false,false,false,false,false,false,false,false,false,false,false] (by kernel_rfl) rfl rfl ⟨(blk_cell BK340.out 0).trans rfl,(blk_cell BK340.out 1).trans rfl,(blk_cell BK340.out 2).trans rfl,(blk_cell BK340.out 3).trans rfl,(blk_cell BK340.out 4).trans rfl⟩ (fun hHeld => ?_);refine with_tabW impl_areSets.tab4 impl_areSets.bits4 (fun HT_ HW_ => ?_)
       generalize w36.drew = w37 at BK340 HB hHeld ⊢
       refine tw_ 0 (some 12) HT_.out HW_.out hHeld rfl rfl (by rintro w' ⟨s0,s1,s2,s3,s4⟩;go_simp;with_reducible rfl) ?_
       refine oz_ (i := 1) (N := some 13) HT_.out rfl rfl (by kernel_rfl) (by decide) (fun K hK => ?_)
       refine goes_ Try.func141 (by kernel_rfl) rfl #[.agg #[.int .i64 ((rd_T127 l0 x7_1).f0),.int .i64 ((rd_T127 l0 x7_1).f1),.int .i64 ((rd_T127 l0 x7_1).f2),.bool ((rd_T127 l0 x7_1).f3),.int .i64 ((rd_T127 l0 x7_1).f4)]] (by rfl) rfl rfl (by (try simp only [List.map_toArray,List.map_cons,List.map_nil]);first|done|rfl|(simp only [List.length_drop,List.length_take];rfl)) ?_
       with_reducible refine (impl_isSet.calls ((rd_T127 l0 x7_1).f0) ((rd_T127 l0 x7_1).f1) ((rd_T127 l0 x7_1).f2) ((rd_T127 l0 x7_1).f3) ((rd_T127 l0 x7_1).f4) false _ A5.out).mono ?_
       rintro e w38 ⟨rfl,hb⟩
       refine ⟨_,rfl,?_⟩
       replace BK340 := Aside0.mk (blk_below (kb_ BK340) hb)
       replace HB := Aside0.mk (below_step b_ hb)
       (try clear hb)
       (try clear hb2)
       (try clear hk)
       (try clear hi)
       refine hK.out _ _ ⟨(blk_cell BK340.out 0).trans rfl,(blk_cell BK340.out 1).trans rfl,(blk_cell BK340.out 2).trans rfl,(blk_cell BK340.out 3).trans rfl,(blk_cell BK340.out 4).trans rfl⟩ (fun hHeld => ?_)
       clear hK K
       refine nr_ (some 13) _ ?_
       refine pw_ 2 (some 14) HT_.out ?_
       refine pw_ 3 (some 15) HT_.out ?_
       refine pu_ 4 (some 16) HT_.out ?_
       refine pu_ 5 (some 17) HT_.out ?_
       refine pu_ 6 (some 18) HT_.out ?_
       refine pu_ 7 (some 19) HT_.out ?_
       refine pu_ 8 (some 20) HT_.out ?_
       refine pu_ 9 (some 21) HT_.out ?_
       refine pu_ 10 (some 22) HT_.out ?_
       refine pw_ 11 (some 23) HT_.out ?_
       refine pw_ 12 (some 24) HT_.out ?_
       refine pu_ 13 (some 25) HT_.out ?_
       refine pu_ 14 (some 26) HT_.out ?_
       refine pu_ 15 (some 27) HT_.out ?_
       refine pu_ 16 (some 28) HT_.out ?_
       refine pu_ 17 (some 29) HT_.out ?_
       refine pu_ 18 (some 30) HT_.out ?_
       refine pu_ 19 (some 31) HT_.out ?_
       refine pu_ 20 (some 32) HT_.out ?_
       refine pu_ 21 (some 33) HT_.out ?_
       refine pu_ 22 (some 34) HT_.out ?_
       refine pu_ 23 (some 35) HT_.out ?_
       refine pu_ 24 (some 36) HT_.out ?_
       refine pu_ 25 (some 37) HT_.out ?_
       refine pw_ 26 (some 38) HT_.out ?_
       refine done_ (done_of HT_.out (by kernel_rfl)) ?_
       try go_wp2
       go_ret
       exact ⟨by first|rfl|(simp [errW_none,errW_some] <;> rfl)|(simp [*,errW_none,errW_some] <;> rfl),b_⟩
     ·rw [if_neg c4] at H
      exact absurd H (by simp)
    ·rw [if_neg c3] at H
     exact absurd H (by simp)
   ·rw [if_neg c2] at H
    have c2b0 : decide (x7_1 < (l0.length : Int)) = false := decide_eq_false c2
    clear c2
    obtain rfl := Option.some.inj H
    go_wp2
    go_ret
    exact ⟨by first|rfl|(simp [errW_none,errW_some] <;> rfl)|(simp [*,errW_none,errW_some] <;> rfl),b_⟩

end Go.Proofs.Ythplaakckfhaaaa.XTu
