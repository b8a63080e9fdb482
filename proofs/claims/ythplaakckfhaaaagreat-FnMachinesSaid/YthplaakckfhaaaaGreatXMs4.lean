/- Proved: a call of each Go function here comes to what its Lean function tells. -/
import Derived.Test.YthplaakckfhaaaaGreatXMs0
import Derived.Test.YthplaakckfhaaaaGreatXMs3
namespace Go.Proofs.YthplaakckfhaaaaGreat.XMs
open Go.RowKit Go.Proofs.YthplaakckfhaaaaGreat.Aid Go.Proofs.YthplaakckfhaaaaGreatW.PrintWords Go.Proofs.YthplaakckfhaaaaGreatW.PrintLast Go.Proofs.YthplaakckfhaaaaGreatW.PrintMore
set_option linter.unusedVariables false
set_option linter.unusedSimpArgs false

/-! ### impl_areSets: function 112 -/
def impl_areSets.l0 : Nat → List (S119) → List (S119) → Int → Int → Option (Bool)
  | 0, _, _, _, _ => none
  | k + 1, x0, x5, x6, x7 => if x7 < x6 then (if 0 ≤ x7 then (if x7 < (x5.length : Int) then ((impl_isSet.f ((rd_T119 x5 x7).f0) ((rd_T119 x5 x7).f1) ((rd_T119 x5 x7).f2) ((rd_T119 x5 x7).f3) ((rd_T119 x5 x7).f4)).bind fun t117 => (if t117 = true then (if 0 < (x0.length : Int) then (if ((rd_T119 x5 x7).f0) = ((rd_T119 x0 0).f0) then (if x7 > 0 then (if 0 ≤ (wrap64 (x7 - 1)) then (if (wrap64 (x7 - 1)) < (x0.length : Int) then (if ((rd_T119 x0 (wrap64 (x7 - 1))).f1) ≥ ((rd_T119 x5 x7).f1) then (some false) else (impl_areSets.l0 k x0 x5 x6 (wrap64 (x7 + 1)))) else (none)) else (none)) else (impl_areSets.l0 k x0 x5 x6 (wrap64 (x7 + 1)))) else (some false)) else (none)) else (some false))) else (none)) else (none)) else (some true)
def impl_areSets.f (k : Nat) (l0 : List (S119)) : Option (Bool) := impl_areSets.l0 k l0 l0 (l0.length : Int) 0

def impl_areSets.T4 : Bool × List (List Nat × List Nat) := (true, [([], []), ([0], [0]), ([1], [1]), ([2, 1], [2]), ([3], [3]), ([4, 3], [3, 4]), ([3], [3]), ([6, 3], [3, 6]), ([7, 3], [3, 7]), ([8, 3], [3, 8]), ([5, 9, 3], [3, 5, 9]), ([3, 10], [3, 10]), ([11, 3], [11]), ([12], [12]), ([13, 12], [12, 13]), ([14, 12, 12], [12, 14]), ([15], [15]), ([15], [15]), ([17, 15], [15, 17]), ([16, 18, 15], [15, 16, 18]), ([19, 15], [15, 19]), ([20, 15], [15, 20]), ([15], [15]), ([22, 15], [15, 22]), ([21, 23, 15], [15, 21, 23]), ([15, 24, 12], [12, 15, 24]), ([12, 25], [12, 25])])
def impl_areSets.B4 : List Nat := [0, 1, 3, 7, 15, 31, 15, 79, 207, 463, 1023, 2047, 4095, 8191, 16383, 32767, 65535, 65535, 196607, 524287, 1048575, 2097151, 65535, 4259839, 16777215, 33554431, 67108863]
theorem impl_areSets.tab4 : rtab .any (opsOf Tryz.f112 4) = impl_areSets.T4 := by kernel_rfl
theorem impl_areSets.bits4 : waitsOk impl_areSets.T4.2 impl_areSets.B4 = true := by kernel_rfl
set_option maxHeartbeats 8000000 in
set_option maxRecDepth 100000 in
theorem impl_areSets.calls (k : Nat) (A0 : Option Addr) (c0 : Nat) (l0 : List (S119)) (r : Bool) (w : World) (hr0 : Kd.C k119 w A0 l0.length l0) (hc0 : l0.length ≤ c0) (h : impl_areSets.f k l0 = some r) :
    Calls Tryz.prog 112 #[.slice A0 l0.length c0] w fun e w' => e = .returned (.bool r) ∧ Below w.heap.size w w' := by
 have hu119 := Tryz.underlying119
 have HR0 := ak hr0
 have HC0 := ak hc0
 clear hr0 hc0
 have HB := ak (Below.refl w.heap.size w)
 have H : (impl_areSets.l0 k l0 l0 (l0.length : Int) 0) = some r := h
 clear h
 have H' := ak H
 clear H
 go_enter Tryz.func112,Tryz.ntmps112
 go_wp2
 go_loopg [7] k (fun kq v7 w' => ∃ (x7_1 : Int),v7 = .int .i64 x7_1 ∧ Aside0 (impl_areSets.l0 kq l0 l0 (l0.length : Int) x7_1 = some r) ∧ Aside0 (kq ≤ k) ∧ Aside0 (Below w.heap.size w w'))
 case atStart => exact ⟨(0),rs_,H',⟨Nat.le_refl _⟩,⟨b_⟩⟩
 case round =>
  clear H'
  try clear c1
  obtain ⟨x7_1,rfl,HA,HK1,HB⟩ := hrel
  cases gk with
    | zero => exact absurd HA.out (by simp [impl_areSets.l0])
    | succ k1 =>
   have H := HA.out
   clear HA
   simp only [impl_areSets.l0] at H
   by_cases c2 : x7_1 < (l0.length : Int)
   ·rw [if_pos c2] at H
    have c2b0 : decide (x7_1 < (l0.length : Int)) = true := decide_eq_true c2
    clear c2
    by_cases c3 : 0 ≤ x7_1
    ·rw [if_pos c3] at H
     have c3b0 : decide (0 ≤ x7_1) = true := decide_eq_true c3
     clear c3
     by_cases c4 : x7_1 < (l0.length : Int)
     ·rw [if_pos c4] at H
      have c4b0 : decide (x7_1 < (l0.length : Int)) = true := decide_eq_true c4
      clear c4
      replace H := bs_ H
      obtain ⟨t117,A5,H⟩ := H
      by_cases c6 : t117 = true
      ·subst c6
       replace H := it_ H
       by_cases c7 : 0 < (l0.length : Int)
       ·rw [if_pos c7] at H
        have c7b0 : decide (0 < (l0.length : Int)) = true := decide_eq_true c7
        have c7b1 : decide (0 < l0.length) = true := decide_eq_true (by omega)
        clear c7
        by_cases c8 : ((rd_T119 l0 x7_1).f0) = ((rd_T119 l0 0).f0)
        ·rw [if_pos c8] at H
         have c8b0 : (((rd_T119 l0 x7_1).f0) == ((rd_T119 l0 0).f0)) = true := beq_iff_eq.mpr c8
         have c8b1 : (((rd_T119 l0 x7_1).f0) != ((rd_T119 l0 0).f0)) = false := bne_eq_false_iff_eq.mpr c8
         clear c8
         by_cases c9 : x7_1 > 0
         ·rw [if_pos c9] at H
          have c9b0 : decide (0 < x7_1) = true := decide_eq_true c9
          clear c9
          obtain ⟨ji10,hji10⟩ : ∃ j_ : Int,(wrap64 (x7_1 - 1)) = j_ := ⟨_,rfl⟩
          replace H : (if 0 ≤ (ji10) then (if (ji10) < (l0.length : Int) then (if ((rd_T119 l0 (ji10)).f1) ≥ ((rd_T119 l0 x7_1).f1) then (some false) else (impl_areSets.l0 k1 l0 l0 (l0.length : Int) (wrap64 (x7_1 + 1)))) else (none)) else (none)) = some r := by first|(rw [hji10] at H;exact H)|(simp only [hji10] at H ⊢;exact H)
          (try rw [hji10] at A5)
          have hji10w : (IntKind.i64.wrap (x7_1 - 1)) = ji10 := (i64_w _).trans hji10
          by_cases c11 : 0 ≤ (ji10)
          ·rw [if_pos c11] at H
           have c11b0 : decide (0 ≤ (ji10)) = true := decide_eq_true c11
           clear c11
           by_cases c12 : (ji10) < (l0.length : Int)
           ·rw [if_pos c12] at H
            have c12b0 : decide ((ji10) < (l0.length : Int)) = true := decide_eq_true c12
            clear c12
            by_cases c13 : ((rd_T119 l0 (ji10)).f1) ≥ ((rd_T119 l0 x7_1).f1)
            ·rw [if_pos c13] at H
             have c13b0 : decide (((rd_T119 l0 x7_1).f1) ≤ ((rd_T119 l0 (ji10)).f1)) = true := decide_eq_true c13
             clear c13
             obtain rfl := Option.some.inj H
             have p115 : 0 ≤ (x7_1 : Int) := od_
             have q115 : x7_1 < (l0.length : Int) := od_
             obtain ⟨ad115,e115,hx115_0,hx115_1,hx115_2,hx115_3,hx115_4⟩ := at_T119 HR0.out x7_1 p115 q115
             cases e115
             replace hx115_0 := hx_ HB hx115_0
             replace hx115_1 := hx_ HB hx115_1
             replace hx115_2 := hx_ HB hx115_2
             replace hx115_3 := hx_ HB hx115_3
             replace hx115_4 := hx_ HB hx115_4
             replace p115 := eq_true p115
             replace q115 := eq_true q115
             try go_wp2_with (first|((with_reducible refine gate_dst (N := 4) rfl ?_);refine bx_ 4 #[.int .i64 0,.int .i64 0,.int .i64 0,.bool false,.int .i64 0] 119 ?_;intro gb116 hg w14 hbox hb;replace HB := nb_ hg hbox hb;obtain ⟨BK116,GW116,GE116,HB⟩ := HB;clear hb hbox hg;obtain ⟨⟨hcz15_0,hcz15_1,hcz15_2,hcz15_3,hcz15_4⟩,hfz15_0,hfz15_1,hfz15_2,hfz15_3,hfz15_4⟩ := cl5_ BK116.out))
             have n0_ : Aside0 ((((((w14.setCell ⟨gb116,0,none⟩ (.int .i64 ((rd_T119 l0 x7_1).f0))).setCell ⟨gb116,1,none⟩ (.int .i64 ((rd_T119 l0 x7_1).f1))).setCell ⟨gb116,2,none⟩ (.int .i64 ((rd_T119 l0 x7_1).f2))).setCell ⟨gb116,3,none⟩ (.bool ((rd_T119 l0 x7_1).f3))).setCell ⟨gb116,4,none⟩ (.int .i64 ((rd_T119 l0 x7_1).f4))).heap[gb116]? = some (.cells #[.int .i64 ((rd_T119 l0 x7_1).f0),.int .i64 ((rd_T119 l0 x7_1).f1),.int .i64 ((rd_T119 l0 x7_1).f2),.bool ((rd_T119 l0 x7_1).f3),.int .i64 ((rd_T119 l0 x7_1).f4)] 119 (0,0))) := ⟨pt5_ (kb_ BK116) _ _ _ _ _⟩
             have n1_ : Aside0 (Below w.heap.size w (((((w14.setCell ⟨gb116,0,none⟩ (.int .i64 ((rd_T119 l0 x7_1).f0))).setCell ⟨gb116,1,none⟩ (.int .i64 ((rd_T119 l0 x7_1).f1))).setCell ⟨gb116,2,none⟩ (.int .i64 ((rd_T119 l0 x7_1).f2))).setCell ⟨gb116,3,none⟩ (.bool ((rd_T119 l0 x7_1).f3))).setCell ⟨gb116,4,none⟩ (.int .i64 ((rd_T119 l0 x7_1).f4)))) := ⟨b_⟩
             (try clear BK116)
             (try clear HB)
             generalize (((((w14.setCell ⟨gb116,0,none⟩ (.int .i64 ((rd_T119 l0 x7_1).f0))).setCell ⟨gb116,1,none⟩ (.int .i64 ((rd_T119 l0 x7_1).f1))).setCell ⟨gb116,2,none⟩ (.int .i64 ((rd_T119 l0 x7_1).f2))).setCell ⟨gb116,3,none⟩ (.bool ((rd_T119 l0 x7_1).f3))).setCell ⟨gb116,4,none⟩ (.int .i64 ((rd_T119 l0 x7_1).f4))) = w16 at n0_ n1_ ⊢
             have BK116 := n0_
             have HB := n1_
             clear n0_ n1_
             replace BK116 := ak (blk_drew BK116.out)
             replace HB := ak (below_drew1 HB.out)
             have p118 : 0 ≤ (0 : Int) := (by omega)
             have q118 : 0 < (l0.length : Int) := od_
             obtain ⟨ad118,e118,hx118_0,hx118_1,hx118_2,hx118_3,hx118_4⟩ := at_T119 HR0.out 0 p118 q118
             have hw118_4 := hx118_4
             (try rw [show ((0 : Int)).toNat = 0 from rfl] at hw118_4)
             (try rw [show 0 * 5 = 0 from rfl] at hw118_4)
             (try rw [Addr.add_zero'] at hw118_4)
             have hw118_3 := hx118_3
             (try rw [show ((0 : Int)).toNat = 0 from rfl] at hw118_3)
             (try rw [show 0 * 5 = 0 from rfl] at hw118_3)
             (try rw [Addr.add_zero'] at hw118_3)
             have hw118_2 := hx118_2
             (try rw [show ((0 : Int)).toNat = 0 from rfl] at hw118_2)
             (try rw [show 0 * 5 = 0 from rfl] at hw118_2)
             (try rw [Addr.add_zero'] at hw118_2)
             have hw118_1 := hx118_1
             (try rw [show ((0 : Int)).toNat = 0 from rfl] at hw118_1)
             (try rw [show 0 * 5 = 0 from rfl] at hw118_1)
             (try rw [Addr.add_zero'] at hw118_1)
             have hw118_0 := hx118_0
             (try rw [show ((0 : Int)).toNat = 0 from rfl] at hw118_0)
             (try rw [show 0 * 5 = 0 from rfl] at hw118_0)
             (try rw [Addr.add_zero'] at hw118_0)
             obtain rfl : ad115 = ad118 := (by injection e118)
             have qi118 : (0 < l0.length) = True := eq_true (by omega)
             (try rw [show ((0 : Int)).toNat = 0 from rfl] at hx118_0)
             (try rw [show 0 * 5 = 0 from rfl] at hx118_0)
             (try rw [Addr.add_zero'] at hx118_0)
             (try rw [show ((0 : Int)).toNat = 0 from rfl] at hx118_1)
             (try rw [show 0 * 5 = 0 from rfl] at hx118_1)
             (try rw [Addr.add_zero'] at hx118_1)
             (try rw [show ((0 : Int)).toNat = 0 from rfl] at hx118_2)
             (try rw [show 0 * 5 = 0 from rfl] at hx118_2)
             (try rw [Addr.add_zero'] at hx118_2)
             (try rw [show ((0 : Int)).toNat = 0 from rfl] at hx118_3)
             (try rw [show 0 * 5 = 0 from rfl] at hx118_3)
             (try rw [Addr.add_zero'] at hx118_3)
             (try rw [show ((0 : Int)).toNat = 0 from rfl] at hx118_4)
             (try rw [show 0 * 5 = 0 from rfl] at hx118_4)
             (try rw [Addr.add_zero'] at hx118_4)
             replace hx118_0 := hx_ HB hx118_0
             replace hx118_1 := hx_ HB hx118_1
             replace hx118_2 := hx_ HB hx118_2
             replace hx118_3 := hx_ HB hx118_3
             replace hx118_4 := hx_ HB hx118_4
             replace p118 := eq_true p118
             replace q118 := eq_true q118
             have p119 : 0 ≤ ((ji10) : Int) := od_
             have q119 : (ji10) < (l0.length : Int) := od_
             obtain ⟨ad119,e119,hx119_0,hx119_1,hx119_2,hx119_3,hx119_4⟩ := at_T119 HR0.out (ji10) p119 q119
             have hw119_4 := hx119_4
             have hw119_3 := hx119_3
             have hw119_2 := hx119_2
             have hw119_1 := hx119_1
             have hw119_0 := hx119_0
             obtain rfl : ad115 = ad119 := (by injection e119)
             replace hx119_0 := hx_ HB hx119_0
             replace hx119_1 := hx_ HB hx119_1
             replace hx119_2 := hx_ HB hx119_2
             replace hx119_3 := hx_ HB hx119_3
             replace hx119_4 := hx_ HB hx119_4
             replace p119 := eq_true p119
             replace q119 := eq_true q119
             refine st_ 27 (S := fun w' => hc5 w' gb116 (.int .i64 ((rd_T119 l0 x7_1).f0)) (.int .i64 ((rd_T119 l0 x7_1).f1)) (.int .i64 ((rd_T119 l0 x7_1).f2)) (.bool ((rd_T119 l0 x7_1).f3)) (.int .i64 ((rd_T119 l0 x7_1).f4)) ((w'.cell? ad115 = some (.int .i64 ((rd_T119 l0 0).f0))) ∧ (w'.cell? ⟨ad115.block,ad115.off + 1,none⟩ = some (.int .i64 ((rd_T119 l0 0).f1))) ∧ (w'.cell? ⟨ad115.block,ad115.off + 2,none⟩ = some (.int .i64 ((rd_T119 l0 0).f2))) ∧ (w'.cell? ⟨ad115.block,ad115.off + 3,none⟩ = some (.bool ((rd_T119 l0 0).f3))) ∧ (w'.cell? ⟨ad115.block,ad115.off + 4,none⟩ = some (.int .i64 ((rd_T119 l0 0).f4))) ∧ hf5 w' (ad115.add (((ji10)).toNat * 5)) (.int .i64 ((rd_T119 l0 (ji10)).f0)) (.int .i64 ((rd_T119 l0 (ji10)).f1)) (.int .i64 ((rd_T119 l0 (ji10)).f2)) (.bool ((rd_T119 l0 (ji10)).f3)) (.int .i64 ((rd_T119 l0 (ji10)).f4)))) hh_ (fun hHeld => ?_);refine with_tabW impl_areSets.tab4 impl_areSets.bits4 (fun HT_ HW_ => ?_)
             generalize w16.drew = w17 at BK116 HB hx118_0 hx118_1 hx118_2 hx118_3 hx118_4 hx119_0 hx119_1 hx119_2 hx119_3 hx119_4 hHeld ⊢
             refine tx_ 0 12 hHeld ?_
             refine oy_ 1 13 (fun K hK => ?_)
             refine gs_ Tryz.func140 #[.agg #[.int .i64 ((rd_T119 l0 x7_1).f0),.int .i64 ((rd_T119 l0 x7_1).f1),.int .i64 ((rd_T119 l0 x7_1).f2),.bool ((rd_T119 l0 x7_1).f3),.int .i64 ((rd_T119 l0 x7_1).f4)]] ?_
             with_reducible refine (impl_isSet.calls ((rd_T119 l0 x7_1).f0) ((rd_T119 l0 x7_1).f1) ((rd_T119 l0 x7_1).f2) ((rd_T119 l0 x7_1).f3) ((rd_T119 l0 x7_1).f4) true _ A5.out).mono ?_
             rintro e w18 ⟨rfl,hb⟩
             refine ⟨_,rfl,?_⟩
             replace BK116 := ak (blk_below (kb_ BK116) hb)
             replace HB := ak (below_step b_ hb)
             (try clear hb)
             (try clear hb2)
             (try clear hk)
             (try clear hi)
             refine hK.out _ _ hh_ (fun hHeld => ?_)
             clear hK K
             refine nr_ (some 13) _ ?_
             refine pv_ 2 14 ?_
             refine pv_ 3 15 ?_
             refine pv_ 4 16 ?_
             refine pv_ 6 18 ?_
             refine pv_ 7 19 ?_
             refine pv_ 8 20 ?_
             refine tx_ 5 17 hHeld ?_
             refine tx_ 9 21 hHeld ?_
             refine pv_ 10 22 ?_
             refine pv_ 11 23 ?_
             refine pv_ 12 24 ?_
             refine pv_ 13 25 ?_
             refine pv_ 14 26 ?_
             refine pv_ 15 27 ?_
             refine pv_ 16 28 ?_
             refine pv_ 17 29 ?_
             refine pv_ 18 30 ?_
             refine pv_ 19 31 ?_
             refine pv_ 20 32 ?_
             refine pv_ 22 34 ?_
             refine tx_ 21 33 hHeld ?_
             refine tx_ 23 35 hHeld ?_
             refine pv_ 24 36 ?_
             refine pv_ 25 37 ?_
             refine pv_ 26 38 ?_
             refine done_ (done_of HT_.out (by kernel_rfl)) ?_
             try go_wp2
             go_ret
             exact ⟨by first|rfl|(simp [errW_none,errW_some] <;> rfl)|(simp only [← hji10];first|rfl|(simp [errW_none,errW_some] <;> rfl))|(simp [*,errW_none,errW_some] <;> rfl),b_⟩
            ·rw [if_neg c13] at H
             have c13b0 : decide (((rd_T119 l0 x7_1).f1) ≤ ((rd_T119 l0 (ji10)).f1)) = false := decide_eq_false c13
             clear c13
             have H' := ak H
             clear H
             have p115 : 0 ≤ (x7_1 : Int) := od_
             have q115 : x7_1 < (l0.length : Int) := od_
             obtain ⟨ad115,e115,hx115_0,hx115_1,hx115_2,hx115_3,hx115_4⟩ := at_T119 HR0.out x7_1 p115 q115
             cases e115
             replace hx115_0 := hx_ HB hx115_0
             replace hx115_1 := hx_ HB hx115_1
             replace hx115_2 := hx_ HB hx115_2
             replace hx115_3 := hx_ HB hx115_3
             replace hx115_4 := hx_ HB hx115_4
             replace p115 := eq_true p115
             replace q115 := eq_true q115
             try go_wp2_with (first|((with_reducible refine gate_dst (N := 4) rfl ?_);refine bx_ 4 #[.int .i64 0,.int .i64 0,.int .i64 0,.bool false,.int .i64 0] 119 ?_;intro gb116 hg w19 hbox hb;replace HB := nb_ hg hbox hb;obtain ⟨BK116,GW116,GE116,HB⟩ := HB;clear hb hbox hg;obtain ⟨⟨hcz20_0,hcz20_1,hcz20_2,hcz20_3,hcz20_4⟩,hfz20_0,hfz20_1,hfz20_2,hfz20_3,hfz20_4⟩ := cl5_ BK116.out))
             have n0_ : Aside0 ((((((w19.setCell ⟨gb116,0,none⟩ (.int .i64 ((rd_T119 l0 x7_1).f0))).setCell ⟨gb116,1,none⟩ (.int .i64 ((rd_T119 l0 x7_1).f1))).setCell ⟨gb116,2,none⟩ (.int .i64 ((rd_T119 l0 x7_1).f2))).setCell ⟨gb116,3,none⟩ (.bool ((rd_T119 l0 x7_1).f3))).setCell ⟨gb116,4,none⟩ (.int .i64 ((rd_T119 l0 x7_1).f4))).heap[gb116]? = some (.cells #[.int .i64 ((rd_T119 l0 x7_1).f0),.int .i64 ((rd_T119 l0 x7_1).f1),.int .i64 ((rd_T119 l0 x7_1).f2),.bool ((rd_T119 l0 x7_1).f3),.int .i64 ((rd_T119 l0 x7_1).f4)] 119 (0,0))) := ⟨pt5_ (kb_ BK116) _ _ _ _ _⟩
             have n1_ : Aside0 (Below w.heap.size w (((((w19.setCell ⟨gb116,0,none⟩ (.int .i64 ((rd_T119 l0 x7_1).f0))).setCell ⟨gb116,1,none⟩ (.int .i64 ((rd_T119 l0 x7_1).f1))).setCell ⟨gb116,2,none⟩ (.int .i64 ((rd_T119 l0 x7_1).f2))).setCell ⟨gb116,3,none⟩ (.bool ((rd_T119 l0 x7_1).f3))).setCell ⟨gb116,4,none⟩ (.int .i64 ((rd_T119 l0 x7_1).f4)))) := ⟨b_⟩
             (try clear BK116)
             (try clear HB)
             generalize (((((w19.setCell ⟨gb116,0,none⟩ (.int .i64 ((rd_T119 l0 x7_1).f0))).setCell ⟨gb116,1,none⟩ (.int .i64 ((rd_T119 l0 x7_1).f1))).setCell ⟨gb116,2,none⟩ (.int .i64 ((rd_T119 l0 x7_1).f2))).setCell ⟨gb116,3,none⟩ (.bool ((rd_T119 l0 x7_1).f3))).setCell ⟨gb116,4,none⟩ (.int .i64 ((rd_T119 l0 x7_1).f4))) = w21 at n0_ n1_ ⊢
             have BK116 := n0_
             have HB := n1_
             clear n0_ n1_
             replace BK116 := ak (blk_drew BK116.out)
             replace HB := ak (below_drew1 HB.out)
             have p118 : 0 ≤ (0 : Int) := (by omega)
             have q118 : 0 < (l0.length : Int) := od_
             obtain ⟨ad118,e118,hx118_0,hx118_1,hx118_2,hx118_3,hx118_4⟩ := at_T119 HR0.out 0 p118 q118
             have hw118_4 := hx118_4
             (try rw [show ((0 : Int)).toNat = 0 from rfl] at hw118_4)
             (try rw [show 0 * 5 = 0 from rfl] at hw118_4)
             (try rw [Addr.add_zero'] at hw118_4)
             have hw118_3 := hx118_3
             (try rw [show ((0 : Int)).toNat = 0 from rfl] at hw118_3)
             (try rw [show 0 * 5 = 0 from rfl] at hw118_3)
             (try rw [Addr.add_zero'] at hw118_3)
             have hw118_2 := hx118_2
             (try rw [show ((0 : Int)).toNat = 0 from rfl] at hw118_2)
             (try rw [show 0 * 5 = 0 from rfl] at hw118_2)
             (try rw [Addr.add_zero'] at hw118_2)
             have hw118_1 := hx118_1
             (try rw [show ((0 : Int)).toNat = 0 from rfl] at hw118_1)
             (try rw [show 0 * 5 = 0 from rfl] at hw118_1)
             (try rw [Addr.add_zero'] at hw118_1)
             have hw118_0 := hx118_0
             (try rw [show ((0 : Int)).toNat = 0 from rfl] at hw118_0)
             (try rw [show 0 * 5 = 0 from rfl] at hw118_0)
             (try rw [Addr.add_zero'] at hw118_0)
             obtain rfl : ad115 = ad118 := (by injection e118)
             have qi118 : (0 < l0.length) = True := eq_true (by omega)
             (try rw [show ((0 : Int)).toNat = 0 from rfl] at hx118_0)
             (try rw [show 0 * 5 = 0 from rfl] at hx118_0)
             (try rw [Addr.add_zero'] at hx118_0)
             (try rw [show ((0 : Int)).toNat = 0 from rfl] at hx118_1)
             (try rw [show 0 * 5 = 0 from rfl] at hx118_1)
             (try rw [Addr.add_zero'] at hx118_1)
             (try rw [show ((0 : Int)).toNat = 0 from rfl] at hx118_2)
             (try rw [show 0 * 5 = 0 from rfl] at hx118_2)
             (try rw [Addr.add_zero'] at hx118_2)
             (try rw [show ((0 : Int)).toNat = 0 from rfl] at hx118_3)
             (try rw [show 0 * 5 = 0 from rfl] at hx118_3)
             (try rw [Addr.add_zero'] at hx118_3)
             (try rw [show ((0 : Int)).toNat = 0 from rfl] at hx118_4)
             (try rw [show 0 * 5 = 0 from rfl] at hx118_4)
             (try rw [Addr.add_zero'] at hx118_4)
             replace hx118_0 := hx_ HB hx118_0
             replace hx118_1 := hx_ HB hx118_1
             replace hx118_2 := hx_ HB hx118_2
             replace hx118_3 := hx_ HB hx118_3
             replace hx118_4 := hx_ HB hx118_4
             replace p118 := eq_true p118
             replace q118 := eq_true q118
             have p119 : 0 ≤ ((ji10) : Int) := od_
             have q119 : (ji10) < (l0.length : Int) := od_
             obtain ⟨ad119,e119,hx119_0,hx119_1,hx119_2,hx119_3,hx119_4⟩ := at_T119 HR0.out (ji10) p119 q119
             have hw119_4 := hx119_4
             have hw119_3 := hx119_3
             have hw119_2 := hx119_2
             have hw119_1 := hx119_1
             have hw119_0 := hx119_0
             obtain rfl : ad115 = ad119 := (by injection e119)
             replace hx119_0 := hx_ HB hx119_0
             replace hx119_1 := hx_ HB hx119_1
             replace hx119_2 := hx_ HB hx119_2
             replace hx119_3 := hx_ HB hx119_3
             replace hx119_4 := hx_ HB hx119_4
             replace p119 := eq_true p119
             replace q119 := eq_true q119
             refine st_ 27 (S := fun w' => hc5 w' gb116 (.int .i64 ((rd_T119 l0 x7_1).f0)) (.int .i64 ((rd_T119 l0 x7_1).f1)) (.int .i64 ((rd_T119 l0 x7_1).f2)) (.bool ((rd_T119 l0 x7_1).f3)) (.int .i64 ((rd_T119 l0 x7_1).f4)) ((w'.cell? ad115 = some (.int .i64 ((rd_T119 l0 0).f0))) ∧ (w'.cell? ⟨ad115.block,ad115.off + 1,none⟩ = some (.int .i64 ((rd_T119 l0 0).f1))) ∧ (w'.cell? ⟨ad115.block,ad115.off + 2,none⟩ = some (.int .i64 ((rd_T119 l0 0).f2))) ∧ (w'.cell? ⟨ad115.block,ad115.off + 3,none⟩ = some (.bool ((rd_T119 l0 0).f3))) ∧ (w'.cell? ⟨ad115.block,ad115.off + 4,none⟩ = some (.int .i64 ((rd_T119 l0 0).f4))) ∧ hf5 w' (ad115.add (((ji10)).toNat * 5)) (.int .i64 ((rd_T119 l0 (ji10)).f0)) (.int .i64 ((rd_T119 l0 (ji10)).f1)) (.int .i64 ((rd_T119 l0 (ji10)).f2)) (.bool ((rd_T119 l0 (ji10)).f3)) (.int .i64 ((rd_T119 l0 (ji10)).f4)))) hh_ (fun hHeld => ?_);refine with_tabW impl_areSets.tab4 impl_areSets.bits4 (fun HT_ HW_ => ?_)
             generalize w21.drew = w22 at BK116 HB hx118_0 hx118_1 hx118_2 hx118_3 hx118_4 hx119_0 hx119_1 hx119_2 hx119_3 hx119_4 hHeld ⊢
             refine tx_ 0 12 hHeld ?_
             refine oy_ 1 13 (fun K hK => ?_)
             refine gs_ Tryz.func140 #[.agg #[.int .i64 ((rd_T119 l0 x7_1).f0),.int .i64 ((rd_T119 l0 x7_1).f1),.int .i64 ((rd_T119 l0 x7_1).f2),.bool ((rd_T119 l0 x7_1).f3),.int .i64 ((rd_T119 l0 x7_1).f4)]] ?_
             with_reducible refine (impl_isSet.calls ((rd_T119 l0 x7_1).f0) ((rd_T119 l0 x7_1).f1) ((rd_T119 l0 x7_1).f2) ((rd_T119 l0 x7_1).f3) ((rd_T119 l0 x7_1).f4) true _ A5.out).mono ?_
             rintro e w23 ⟨rfl,hb⟩
             refine ⟨_,rfl,?_⟩
             replace BK116 := ak (blk_below (kb_ BK116) hb)
             replace HB := ak (below_step b_ hb)
             (try clear hb)
             (try clear hb2)
             (try clear hk)
             (try clear hi)
             refine hK.out _ _ hh_ (fun hHeld => ?_)
             clear hK K
             refine nr_ (some 13) _ ?_
             refine pv_ 2 14 ?_
             refine pv_ 3 15 ?_
             refine pv_ 4 16 ?_
             refine pv_ 6 18 ?_
             refine pv_ 7 19 ?_
             refine pv_ 8 20 ?_
             refine tx_ 5 17 hHeld ?_
             refine tx_ 9 21 hHeld ?_
             refine pv_ 10 22 ?_
             refine pv_ 11 23 ?_
             refine pv_ 12 24 ?_
             refine pv_ 13 25 ?_
             refine pv_ 14 26 ?_
             refine pv_ 15 27 ?_
             refine pv_ 16 28 ?_
             refine pv_ 17 29 ?_
             refine pv_ 18 30 ?_
             refine pv_ 19 31 ?_
             refine pv_ 20 32 ?_
             refine pv_ 22 34 ?_
             refine tx_ 21 33 hHeld ?_
             refine tx_ 23 35 hHeld ?_
             refine pv_ 24 36 ?_
             refine pv_ 25 37 ?_
             refine pv_ 26 38 ?_
             refine done_ (done_of HT_.out (by kernel_rfl)) ?_
             try go_wp2
             go_roundg k1
             case measure => have := HK1.out;omega
             case rel => exact ⟨(wrap64 (x7_1 + 1)),rs_,H',⟨by have := HK1.out;omega⟩,⟨b_⟩⟩
           ·rw [if_neg c12] at H
            exact absurd H (by simp)
          ·rw [if_neg c11] at H
           exact absurd H (by simp)
         ·rw [if_neg c9] at H
          have c9b0 : decide (0 < x7_1) = false := decide_eq_false c9
          clear c9
          have H' := ak H
          clear H
          have p115 : 0 ≤ (x7_1 : Int) := od_
          have q115 : x7_1 < (l0.length : Int) := od_
          obtain ⟨ad115,e115,hx115_0,hx115_1,hx115_2,hx115_3,hx115_4⟩ := at_T119 HR0.out x7_1 p115 q115
          cases e115
          replace hx115_0 := hx_ HB hx115_0
          replace hx115_1 := hx_ HB hx115_1
          replace hx115_2 := hx_ HB hx115_2
          replace hx115_3 := hx_ HB hx115_3
          replace hx115_4 := hx_ HB hx115_4
          replace p115 := eq_true p115
          replace q115 := eq_true q115
          try go_wp2_with (first|((with_reducible refine gate_dst (N := 4) rfl ?_);refine bx_ 4 #[.int .i64 0,.int .i64 0,.int .i64 0,.bool false,.int .i64 0] 119 ?_;intro gb116 hg w24 hbox hb;replace HB := nb_ hg hbox hb;obtain ⟨BK116,GW116,GE116,HB⟩ := HB;clear hb hbox hg;obtain ⟨⟨hcz25_0,hcz25_1,hcz25_2,hcz25_3,hcz25_4⟩,hfz25_0,hfz25_1,hfz25_2,hfz25_3,hfz25_4⟩ := cl5_ BK116.out))
          have n0_ : Aside0 ((((((w24.setCell ⟨gb116,0,none⟩ (.int .i64 ((rd_T119 l0 x7_1).f0))).setCell ⟨gb116,1,none⟩ (.int .i64 ((rd_T119 l0 x7_1).f1))).setCell ⟨gb116,2,none⟩ (.int .i64 ((rd_T119 l0 x7_1).f2))).setCell ⟨gb116,3,none⟩ (.bool ((rd_T119 l0 x7_1).f3))).setCell ⟨gb116,4,none⟩ (.int .i64 ((rd_T119 l0 x7_1).f4))).heap[gb116]? = some (.cells #[.int .i64 ((rd_T119 l0 x7_1).f0),.int .i64 ((rd_T119 l0 x7_1).f1),.int .i64 ((rd_T119 l0 x7_1).f2),.bool ((rd_T119 l0 x7_1).f3),.int .i64 ((rd_T119 l0 x7_1).f4)] 119 (0,0))) := ⟨pt5_ (kb_ BK116) _ _ _ _ _⟩
          have n1_ : Aside0 (Below w.heap.size w (((((w24.setCell ⟨gb116,0,none⟩ (.int .i64 ((rd_T119 l0 x7_1).f0))).setCell ⟨gb116,1,none⟩ (.int .i64 ((rd_T119 l0 x7_1).f1))).setCell ⟨gb116,2,none⟩ (.int .i64 ((rd_T119 l0 x7_1).f2))).setCell ⟨gb116,3,none⟩ (.bool ((rd_T119 l0 x7_1).f3))).setCell ⟨gb116,4,none⟩ (.int .i64 ((rd_T119 l0 x7_1).f4)))) := ⟨b_⟩
          (try clear BK116)
          (try clear HB)
          generalize (((((w24.setCell ⟨gb116,0,none⟩ (.int .i64 ((rd_T119 l0 x7_1).f0))).setCell ⟨gb116,1,none⟩ (.int .i64 ((rd_T119 l0 x7_1).f1))).setCell ⟨gb116,2,none⟩ (.int .i64 ((rd_T119 l0 x7_1).f2))).setCell ⟨gb116,3,none⟩ (.bool ((rd_T119 l0 x7_1).f3))).setCell ⟨gb116,4,none⟩ (.int .i64 ((rd_T119 l0 x7_1).f4))) = w26 at n0_ n1_ ⊢
          have BK116 := n0_
          have HB := n1_
          clear n0_ n1_
          replace BK116 := ak (blk_drew BK116.out)
          replace HB := ak (below_drew1 HB.out)
          have p118 : 0 ≤ (0 : Int) := (by omega)
          have q118 : 0 < (l0.length : Int) := od_
          obtain ⟨ad118,e118,hx118_0,hx118_1,hx118_2,hx118_3,hx118_4⟩ := at_T119 HR0.out 0 p118 q118
          have hw118_4 := hx118_4
          (try rw [show ((0 : Int)).toNat = 0 from rfl] at hw118_4)
          (try rw [show 0 * 5 = 0 from rfl] at hw118_4)
          (try rw [Addr.add_zero'] at hw118_4)
          have hw118_3 := hx118_3
          (try rw [show ((0 : Int)).toNat = 0 from rfl] at hw118_3)
          (try rw [show 0 * 5 = 0 from rfl] at hw118_3)
          (try rw [Addr.add_zero'] at hw118_3)
          have hw118_2 := hx118_2
          (try rw [show ((0 : Int)).toNat = 0 from rfl] at hw118_2)
          (try rw [show 0 * 5 = 0 from rfl] at hw118_2)
          (try rw [Addr.add_zero'] at hw118_2)
          have hw118_1 := hx118_1
          (try rw [show ((0 : Int)).toNat = 0 from rfl] at hw118_1)
          (try rw [show 0 * 5 = 0 from rfl] at hw118_1)
          (try rw [Addr.add_zero'] at hw118_1)
          have hw118_0 := hx118_0
          (try rw [show ((0 : Int)).toNat = 0 from rfl] at hw118_0)
          (try rw [show 0 * 5 = 0 from rfl] at hw118_0)
          (try rw [Addr.add_zero'] at hw118_0)
          obtain rfl : ad115 = ad118 := (by injection e118)
          have qi118 : (0 < l0.length) = True := eq_true (by omega)
          (try rw [show ((0 : Int)).toNat = 0 from rfl] at hx118_0)
          (try rw [show 0 * 5 = 0 from rfl] at hx118_0)
          (try rw [Addr.add_zero'] at hx118_0)
          (try rw [show ((0 : Int)).toNat = 0 from rfl] at hx118_1)
          (try rw [show 0 * 5 = 0 from rfl] at hx118_1)
          (try rw [Addr.add_zero'] at hx118_1)
          (try rw [show ((0 : Int)).toNat = 0 from rfl] at hx118_2)
          (try rw [show 0 * 5 = 0 from rfl] at hx118_2)
          (try rw [Addr.add_zero'] at hx118_2)
          (try rw [show ((0 : Int)).toNat = 0 from rfl] at hx118_3)
          (try rw [show 0 * 5 = 0 from rfl] at hx118_3)
          (try rw [Addr.add_zero'] at hx118_3)
          (try rw [show ((0 : Int)).toNat = 0 from rfl] at hx118_4)
          (try rw [show 0 * 5 = 0 from rfl] at hx118_4)
          (try rw [Addr.add_zero'] at hx118_4)
          replace hx118_0 := hx_ HB hx118_0
          replace hx118_1 := hx_ HB hx118_1
          replace hx118_2 := hx_ HB hx118_2
          replace hx118_3 := hx_ HB hx118_3
          replace hx118_4 := hx_ HB hx118_4
          replace p118 := eq_true p118
          replace q118 := eq_true q118
          refine st_ 27 (S := fun w' => hc5 w' gb116 (.int .i64 ((rd_T119 l0 x7_1).f0)) (.int .i64 ((rd_T119 l0 x7_1).f1)) (.int .i64 ((rd_T119 l0 x7_1).f2)) (.bool ((rd_T119 l0 x7_1).f3)) (.int .i64 ((rd_T119 l0 x7_1).f4)) ((w'.cell? ad115 = some (.int .i64 ((rd_T119 l0 0).f0))) ∧ (w'.cell? ⟨ad115.block,ad115.off + 1,none⟩ = some (.int .i64 ((rd_T119 l0 0).f1))) ∧ (w'.cell? ⟨ad115.block,ad115.off + 2,none⟩ = some (.int .i64 ((rd_T119 l0 0).f2))) ∧ (w'.cell? ⟨ad115.block,ad115.off + 3,none⟩ = some (.bool ((rd_T119 l0 0).f3))) ∧ w'.cell? ⟨ad115.block,ad115.off + 4,none⟩ = some (.int .i64 ((rd_T119 l0 0).f4)))) hh_ (fun hHeld => ?_);refine with_tabW impl_areSets.tab4 impl_areSets.bits4 (fun HT_ HW_ => ?_)
          generalize w26.drew = w27 at BK116 HB hx118_0 hx118_1 hx118_2 hx118_3 hx118_4 hHeld ⊢
          refine tx_ 0 12 hHeld ?_
          refine oy_ 1 13 (fun K hK => ?_)
          refine gs_ Tryz.func140 #[.agg #[.int .i64 ((rd_T119 l0 x7_1).f0),.int .i64 ((rd_T119 l0 x7_1).f1),.int .i64 ((rd_T119 l0 x7_1).f2),.bool ((rd_T119 l0 x7_1).f3),.int .i64 ((rd_T119 l0 x7_1).f4)]] ?_
          with_reducible refine (impl_isSet.calls ((rd_T119 l0 x7_1).f0) ((rd_T119 l0 x7_1).f1) ((rd_T119 l0 x7_1).f2) ((rd_T119 l0 x7_1).f3) ((rd_T119 l0 x7_1).f4) true _ A5.out).mono ?_
          rintro e w28 ⟨rfl,hb⟩
          refine ⟨_,rfl,?_⟩
          replace BK116 := ak (blk_below (kb_ BK116) hb)
          replace HB := ak (below_step b_ hb)
          (try clear hb)
          (try clear hb2)
          (try clear hk)
          (try clear hi)
          refine hK.out _ _ hh_ (fun hHeld => ?_)
          clear hK K
          refine nr_ (some 13) _ ?_
          refine pv_ 2 14 ?_
          refine pv_ 3 15 ?_
          refine pv_ 4 16 ?_
          refine pv_ 6 18 ?_
          refine pv_ 7 19 ?_
          refine pv_ 8 20 ?_
          refine tx_ 5 17 hHeld ?_
          refine tx_ 9 21 hHeld ?_
          refine pv_ 10 22 ?_
          refine pv_ 11 23 ?_
          refine pv_ 12 24 ?_
          refine pv_ 13 25 ?_
          refine pv_ 14 26 ?_
          refine pv_ 15 27 ?_
          refine pn_ 16 28 ?_
          refine pn_ 17 29 ?_
          refine pn_ 18 30 ?_
          refine pn_ 19 31 ?_
          refine pn_ 20 32 ?_
          refine pn_ 21 33 ?_
          refine pn_ 22 34 ?_
          refine pn_ 23 35 ?_
          refine pn_ 24 36 ?_
          refine pv_ 25 37 ?_
          refine pv_ 26 38 ?_
          refine done_ (done_of HT_.out (by kernel_rfl)) ?_
          try go_wp2
          go_roundg k1
          case measure => have := HK1.out;omega
          case rel => exact ⟨(wrap64 (x7_1 + 1)),rs_,H',⟨by have := HK1.out;omega⟩,⟨b_⟩⟩
        ·rw [if_neg c8] at H
         have c8b0 : (((rd_T119 l0 x7_1).f0) == ((rd_T119 l0 0).f0)) = false := beq_eq_false_iff_ne.mpr c8
         have c8b1 : (((rd_T119 l0 x7_1).f0) != ((rd_T119 l0 0).f0)) = true := bne_iff_ne.mpr c8
         obtain rfl := Option.some.inj H
         have p115 : 0 ≤ (x7_1 : Int) := od_
         have q115 : x7_1 < (l0.length : Int) := od_
         obtain ⟨ad115,e115,hx115_0,hx115_1,hx115_2,hx115_3,hx115_4⟩ := at_T119 HR0.out x7_1 p115 q115
         cases e115
         replace hx115_0 := hx_ HB hx115_0
         replace hx115_1 := hx_ HB hx115_1
         replace hx115_2 := hx_ HB hx115_2
         replace hx115_3 := hx_ HB hx115_3
         replace hx115_4 := hx_ HB hx115_4
         replace p115 := eq_true p115
         replace q115 := eq_true q115
         try go_wp2_with (first|((with_reducible refine gate_dst (N := 4) rfl ?_);refine bx_ 4 #[.int .i64 0,.int .i64 0,.int .i64 0,.bool false,.int .i64 0] 119 ?_;intro gb116 hg w29 hbox hb;replace HB := nb_ hg hbox hb;obtain ⟨BK116,GW116,GE116,HB⟩ := HB;clear hb hbox hg;obtain ⟨⟨hcz30_0,hcz30_1,hcz30_2,hcz30_3,hcz30_4⟩,hfz30_0,hfz30_1,hfz30_2,hfz30_3,hfz30_4⟩ := cl5_ BK116.out))
         have n0_ : Aside0 ((((((w29.setCell ⟨gb116,0,none⟩ (.int .i64 ((rd_T119 l0 x7_1).f0))).setCell ⟨gb116,1,none⟩ (.int .i64 ((rd_T119 l0 x7_1).f1))).setCell ⟨gb116,2,none⟩ (.int .i64 ((rd_T119 l0 x7_1).f2))).setCell ⟨gb116,3,none⟩ (.bool ((rd_T119 l0 x7_1).f3))).setCell ⟨gb116,4,none⟩ (.int .i64 ((rd_T119 l0 x7_1).f4))).heap[gb116]? = some (.cells #[.int .i64 ((rd_T119 l0 x7_1).f0),.int .i64 ((rd_T119 l0 x7_1).f1),.int .i64 ((rd_T119 l0 x7_1).f2),.bool ((rd_T119 l0 x7_1).f3),.int .i64 ((rd_T119 l0 x7_1).f4)] 119 (0,0))) := ⟨pt5_ (kb_ BK116) _ _ _ _ _⟩
         have n1_ : Aside0 (Below w.heap.size w (((((w29.setCell ⟨gb116,0,none⟩ (.int .i64 ((rd_T119 l0 x7_1).f0))).setCell ⟨gb116,1,none⟩ (.int .i64 ((rd_T119 l0 x7_1).f1))).setCell ⟨gb116,2,none⟩ (.int .i64 ((rd_T119 l0 x7_1).f2))).setCell ⟨gb116,3,none⟩ (.bool ((rd_T119 l0 x7_1).f3))).setCell ⟨gb116,4,none⟩ (.int .i64 ((rd_T119 l0 x7_1).f4)))) := ⟨b_⟩
         (try clear BK116)
         (try clear HB)
         generalize (((((w29.setCell ⟨gb116,0,none⟩ (.int .i64 ((rd_T119 l0 x7_1).f0))).setCell ⟨gb116,1,none⟩ (.int .i64 ((rd_T119 l0 x7_1).f1))).setCell ⟨gb116,2,none⟩ (.int .i64 ((rd_T119 l0 x7_1).f2))).setCell ⟨gb116,3,none⟩ (.bool ((rd_T119 l0 x7_1).f3))).setCell ⟨gb116,4,none⟩ (.int .i64 ((rd_T119 l0 x7_1).f4))) = w31 at n0_ n1_ ⊢
         have BK116 := n0_
         have HB := n1_
         clear n0_ n1_
         replace BK116 := ak (blk_drew BK116.out)
         replace HB := ak (below_drew1 HB.out)
         have p118 : 0 ≤ (0 : Int) := (by omega)
         have q118 : 0 < (l0.length : Int) := od_
         obtain ⟨ad118,e118,hx118_0,hx118_1,hx118_2,hx118_3,hx118_4⟩ := at_T119 HR0.out 0 p118 q118
         have hw118_4 := hx118_4
         (try rw [show ((0 : Int)).toNat = 0 from rfl] at hw118_4)
         (try rw [show 0 * 5 = 0 from rfl] at hw118_4)
         (try rw [Addr.add_zero'] at hw118_4)
         have hw118_3 := hx118_3
         (try rw [show ((0 : Int)).toNat = 0 from rfl] at hw118_3)
         (try rw [show 0 * 5 = 0 from rfl] at hw118_3)
         (try rw [Addr.add_zero'] at hw118_3)
         have hw118_2 := hx118_2
         (try rw [show ((0 : Int)).toNat = 0 from rfl] at hw118_2)
         (try rw [show 0 * 5 = 0 from rfl] at hw118_2)
         (try rw [Addr.add_zero'] at hw118_2)
         have hw118_1 := hx118_1
         (try rw [show ((0 : Int)).toNat = 0 from rfl] at hw118_1)
         (try rw [show 0 * 5 = 0 from rfl] at hw118_1)
         (try rw [Addr.add_zero'] at hw118_1)
         have hw118_0 := hx118_0
         (try rw [show ((0 : Int)).toNat = 0 from rfl] at hw118_0)
         (try rw [show 0 * 5 = 0 from rfl] at hw118_0)
         (try rw [Addr.add_zero'] at hw118_0)
         obtain rfl : ad115 = ad118 := (by injection e118)
         have qi118 : (0 < l0.length) = True := eq_true (by omega)
         (try rw [show ((0 : Int)).toNat = 0 from rfl] at hx118_0)
         (try rw [show 0 * 5 = 0 from rfl] at hx118_0)
         (try rw [Addr.add_zero'] at hx118_0)
         (try rw [show ((0 : Int)).toNat = 0 from rfl] at hx118_1)
         (try rw [show 0 * 5 = 0 from rfl] at hx118_1)
         (try rw [Addr.add_zero'] at hx118_1)
         (try rw [show ((0 : Int)).toNat = 0 from rfl] at hx118_2)
         (try rw [show 0 * 5 = 0 from rfl] at hx118_2)
         (try rw [Addr.add_zero'] at hx118_2)
         (try rw [show ((0 : Int)).toNat = 0 from rfl] at hx118_3)
         (try rw [show 0 * 5 = 0 from rfl] at hx118_3)
         (try rw [Addr.add_zero'] at hx118_3)
         (try rw [show ((0 : Int)).toNat = 0 from rfl] at hx118_4)
         (try rw [show 0 * 5 = 0 from rfl] at hx118_4)
         (try rw [Addr.add_zero'] at hx118_4)
         replace hx118_0 := hx_ HB hx118_0
         replace hx118_1 := hx_ HB hx118_1
         replace hx118_2 := hx_ HB hx118_2
         replace hx118_3 := hx_ HB hx118_3
         replace hx118_4 := hx_ HB hx118_4
         replace p118 := eq_true p118
         replace q118 := eq_true q118
         refine st_ 27 (S := fun w' => hc5 w' gb116 (.int .i64 ((rd_T119 l0 x7_1).f0)) (.int .i64 ((rd_T119 l0 x7_1).f1)) (.int .i64 ((rd_T119 l0 x7_1).f2)) (.bool ((rd_T119 l0 x7_1).f3)) (.int .i64 ((rd_T119 l0 x7_1).f4)) ((w'.cell? ad115 = some (.int .i64 ((rd_T119 l0 0).f0))) ∧ (w'.cell? ⟨ad115.block,ad115.off + 1,none⟩ = some (.int .i64 ((rd_T119 l0 0).f1))) ∧ (w'.cell? ⟨ad115.block,ad115.off + 2,none⟩ = some (.int .i64 ((rd_T119 l0 0).f2))) ∧ (w'.cell? ⟨ad115.block,ad115.off + 3,none⟩ = some (.bool ((rd_T119 l0 0).f3))) ∧ w'.cell? ⟨ad115.block,ad115.off + 4,none⟩ = some (.int .i64 ((rd_T119 l0 0).f4)))) hh_ (fun hHeld => ?_);refine with_tabW impl_areSets.tab4 impl_areSets.bits4 (fun HT_ HW_ => ?_)
         generalize w31.drew = w32 at BK116 HB hx118_0 hx118_1 hx118_2 hx118_3 hx118_4 hHeld ⊢
         refine tx_ 0 12 hHeld ?_
         refine oy_ 1 13 (fun K hK => ?_)
         refine gs_ Tryz.func140 #[.agg #[.int .i64 ((rd_T119 l0 x7_1).f0),.int .i64 ((rd_T119 l0 x7_1).f1),.int .i64 ((rd_T119 l0 x7_1).f2),.bool ((rd_T119 l0 x7_1).f3),.int .i64 ((rd_T119 l0 x7_1).f4)]] ?_
         with_reducible refine (impl_isSet.calls ((rd_T119 l0 x7_1).f0) ((rd_T119 l0 x7_1).f1) ((rd_T119 l0 x7_1).f2) ((rd_T119 l0 x7_1).f3) ((rd_T119 l0 x7_1).f4) true _ A5.out).mono ?_
         rintro e w33 ⟨rfl,hb⟩
         refine ⟨_,rfl,?_⟩
         replace BK116 := ak (blk_below (kb_ BK116) hb)
         replace HB := ak (below_step b_ hb)
         (try clear hb)
         (try clear hb2)
         (try clear hk)
         (try clear hi)
         refine hK.out _ _ hh_ (fun hHeld => ?_)
         clear hK K
         refine nr_ (some 13) _ ?_
         refine pv_ 2 14 ?_
         refine pv_ 3 15 ?_
         refine pv_ 4 16 ?_
         refine pv_ 6 18 ?_
         refine pv_ 7 19 ?_
         refine pv_ 8 20 ?_
         refine tx_ 5 17 hHeld ?_
         refine tx_ 9 21 hHeld ?_
         refine pv_ 10 22 ?_
         refine pv_ 11 23 ?_
         refine pv_ 12 24 ?_
         refine pn_ 13 25 ?_
         refine pn_ 14 26 ?_
         refine pn_ 15 27 ?_
         refine pn_ 16 28 ?_
         refine pn_ 17 29 ?_
         refine pn_ 18 30 ?_
         refine pn_ 19 31 ?_
         refine pn_ 20 32 ?_
         refine pn_ 21 33 ?_
         refine pn_ 22 34 ?_
         refine pn_ 23 35 ?_
         refine pn_ 24 36 ?_
         refine pn_ 25 37 ?_
         refine pv_ 26 38 ?_
         refine done_ (done_of HT_.out (by kernel_rfl)) ?_
         try go_wp2
         go_ret
         exact ⟨rf_,b_⟩
       ·rw [if_neg c7] at H
        exact absurd H (by simp)
      ·replace c6 := Bool.eq_false_iff.mpr c6
       subst c6
       replace H := ie_ H
       obtain rfl := Option.some.inj H
       have p115 : 0 ≤ (x7_1 : Int) := od_
       have q115 : x7_1 < (l0.length : Int) := od_
       obtain ⟨ad115,e115,hx115_0,hx115_1,hx115_2,hx115_3,hx115_4⟩ := at_T119 HR0.out x7_1 p115 q115
       cases e115
       replace hx115_0 := hx_ HB hx115_0
       replace hx115_1 := hx_ HB hx115_1
       replace hx115_2 := hx_ HB hx115_2
       replace hx115_3 := hx_ HB hx115_3
       replace hx115_4 := hx_ HB hx115_4
       replace p115 := eq_true p115
       replace q115 := eq_true q115
       try go_wp2_with (first|((with_reducible refine gate_dst (N := 4) rfl ?_);refine bx_ 4 #[.int .i64 0,.int .i64 0,.int .i64 0,.bool false,.int .i64 0] 119 ?_;intro gb116 hg w34 hbox hb;replace HB := nb_ hg hbox hb;obtain ⟨BK116,GW116,GE116,HB⟩ := HB;clear hb hbox hg;obtain ⟨⟨hcz35_0,hcz35_1,hcz35_2,hcz35_3,hcz35_4⟩,hfz35_0,hfz35_1,hfz35_2,hfz35_3,hfz35_4⟩ := cl5_ BK116.out))
       have n0_ : Aside0 ((((((w34.setCell ⟨gb116,0,none⟩ (.int .i64 ((rd_T119 l0 x7_1).f0))).setCell ⟨gb116,1,none⟩ (.int .i64 ((rd_T119 l0 x7_1).f1))).setCell ⟨gb116,2,none⟩ (.int .i64 ((rd_T119 l0 x7_1).f2))).setCell ⟨gb116,3,none⟩ (.bool ((rd_T119 l0 x7_1).f3))).setCell ⟨gb116,4,none⟩ (.int .i64 ((rd_T119 l0 x7_1).f4))).heap[gb116]? = some (.cells #[.int .i64 ((rd_T119 l0 x7_1).f0),.int .i64 ((rd_T119 l0 x7_1).f1),.int .i64 ((rd_T119 l0 x7_1).f2),.bool ((rd_T119 l0 x7_1).f3),.int .i64 ((rd_T119 l0 x7_1).f4)] 119 (0,0))) := ⟨pt5_ (kb_ BK116) _ _ _ _ _⟩
       have n1_ : Aside0 (Below w.heap.size w (((((w34.setCell ⟨gb116,0,none⟩ (.int .i64 ((rd_T119 l0 x7_1).f0))).setCell ⟨gb116,1,none⟩ (.int .i64 ((rd_T119 l0 x7_1).f1))).setCell ⟨gb116,2,none⟩ (.int .i64 ((rd_T119 l0 x7_1).f2))).setCell ⟨gb116,3,none⟩ (.bool ((rd_T119 l0 x7_1).f3))).setCell ⟨gb116,4,none⟩ (.int .i64 ((rd_T119 l0 x7_1).f4)))) := ⟨b_⟩
       (try clear BK116)
       (try clear HB)
       generalize (((((w34.setCell ⟨gb116,0,none⟩ (.int .i64 ((rd_T119 l0 x7_1).f0))).setCell ⟨gb116,1,none⟩ (.int .i64 ((rd_T119 l0 x7_1).f1))).setCell ⟨gb116,2,none⟩ (.int .i64 ((rd_T119 l0 x7_1).f2))).setCell ⟨gb116,3,none⟩ (.bool ((rd_T119 l0 x7_1).f3))).setCell ⟨gb116,4,none⟩ (.int .i64 ((rd_T119 l0 x7_1).f4))) = w36 at n0_ n1_ ⊢
       have BK116 := n0_
       have HB := n1_
       clear n0_ n1_
       replace BK116 := ak (blk_drew BK116.out)
       replace HB := ak (below_drew1 HB.out)
       refine st_ 27 (S := fun w' => hd5 w' gb116 (.int .i64 ((rd_T119 l0 x7_1).f0)) (.int .i64 ((rd_T119 l0 x7_1).f1)) (.int .i64 ((rd_T119 l0 x7_1).f2)) (.bool ((rd_T119 l0 x7_1).f3)) (.int .i64 ((rd_T119 l0 x7_1).f4))) hh_ (fun hHeld => ?_);refine with_tabW impl_areSets.tab4 impl_areSets.bits4 (fun HT_ HW_ => ?_)
       generalize w36.drew = w37 at BK116 HB hHeld ⊢
       refine tx_ 0 12 hHeld ?_
       refine oy_ 1 13 (fun K hK => ?_)
       refine gs_ Tryz.func140 #[.agg #[.int .i64 ((rd_T119 l0 x7_1).f0),.int .i64 ((rd_T119 l0 x7_1).f1),.int .i64 ((rd_T119 l0 x7_1).f2),.bool ((rd_T119 l0 x7_1).f3),.int .i64 ((rd_T119 l0 x7_1).f4)]] ?_
       with_reducible refine (impl_isSet.calls ((rd_T119 l0 x7_1).f0) ((rd_T119 l0 x7_1).f1) ((rd_T119 l0 x7_1).f2) ((rd_T119 l0 x7_1).f3) ((rd_T119 l0 x7_1).f4) false _ A5.out).mono ?_
       rintro e w38 ⟨rfl,hb⟩
       refine ⟨_,rfl,?_⟩
       replace BK116 := ak (blk_below (kb_ BK116) hb)
       replace HB := ak (below_step b_ hb)
       (try clear hb)
       (try clear hb2)
       (try clear hk)
       (try clear hi)
       refine hK.out _ _ hh_ (fun hHeld => ?_)
       clear hK K
       refine nr_ (some 13) _ ?_
       refine pv_ 2 14 ?_
       refine pv_ 3 15 ?_
       refine pn_ 4 16 ?_
       refine pn_ 5 17 ?_
       refine pn_ 6 18 ?_
       refine pn_ 7 19 ?_
       refine pn_ 8 20 ?_
       refine pn_ 9 21 ?_
       refine pn_ 10 22 ?_
       refine pv_ 11 23 ?_
       refine pv_ 12 24 ?_
       refine pn_ 13 25 ?_
       refine pn_ 14 26 ?_
       refine pn_ 15 27 ?_
       refine pn_ 16 28 ?_
       refine pn_ 17 29 ?_
       refine pn_ 18 30 ?_
       refine pn_ 19 31 ?_
       refine pn_ 20 32 ?_
       refine pn_ 21 33 ?_
       refine pn_ 22 34 ?_
       refine pn_ 23 35 ?_
       refine pn_ 24 36 ?_
       refine pn_ 25 37 ?_
       refine pv_ 26 38 ?_
       refine done_ (done_of HT_.out (by kernel_rfl)) ?_
       try go_wp2
       go_ret
       exact ⟨rf_,b_⟩
     ·rw [if_neg c4] at H
      exact absurd H (by simp)
    ·rw [if_neg c3] at H
     exact absurd H (by simp)
   ·rw [if_neg c2] at H
    have c2b0 : decide (x7_1 < (l0.length : Int)) = false := decide_eq_false c2
    clear c2
    obtain rfl := Option.some.inj H
    go_wp2
    go_ret
    exact ⟨rf_,b_⟩

end Go.Proofs.YthplaakckfhaaaaGreat.XMs
