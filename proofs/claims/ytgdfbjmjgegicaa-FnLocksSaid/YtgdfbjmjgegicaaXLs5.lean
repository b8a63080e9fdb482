/- Proved: of each Go function here that a call comes to what the Lean function of its name tells. Written by a program of this session over the translation. No conditions beyond each theorem's own. -/
import Derived.Test.YtgdfbjmjgegicaaXLs0
import Derived.Test.YtgdfbjmjgegicaaXLs4
namespace Go.Proofs.Ytgdfbjmjgegicaa.XLs
open Go.RowKit Go.Proofs.Ytgdfbjmjgegicaa.Aid Go.Proofs.YtgdfbjmjgegicaaW.PrintWords Go.Proofs.YtgdfbjmjgegicaaW.PrintLast Go.Proofs.YtgdfbjmjgegicaaW.PrintMore
set_option linter.unusedVariables false
set_option linter.unusedSimpArgs false

/-! ### spec_l2Sets: function 76 -/
def spec_l2Sets.l0 : Nat → List (S59) → Int → Option (Bool)
  | 0, _, _ => none
  | k + 1, x0, x3 => if x3 < (x0.length : Int) then (if 0 ≤ x3 then ((spec_SetOk.f ((rd_T59 x0 x3).f0) ((rd_T59 x0 x3).f1) ((rd_T59 x0 x3).f2) ((rd_T59 x0 x3).f3) ((rd_T59 x0 x3).f4)).bind fun t159 => (if t159 = true then (if x3 > 0 then (if 0 ≤ (wrap64 (x3 - 1)) then (if (wrap64 (x3 - 1)) < (x0.length : Int) then (if ((rd_T59 x0 x3).f1) ≤ ((rd_T59 x0 (wrap64 (x3 - 1))).f1) then (some false) else (if 0 < (x0.length : Int) then (if ((rd_T59 x0 x3).f0) = ((rd_T59 x0 0).f0) then (spec_l2Sets.l0 k x0 (wrap64 (x3 + 1))) else (some false)) else (none))) else (none)) else (none)) else (spec_l2Sets.l0 k x0 (wrap64 (x3 + 1)))) else (some false))) else (none)) else (some true)
def spec_l2Sets.f (k : Nat) (l0 : List (S59)) : Option (Bool) := spec_l2Sets.l0 k l0 0

def spec_l2Sets.T4 : Bool × List (List Nat × List Nat) := (true, [([], []), ([], []), ([0, 1], [0, 1]), ([2], [2]), ([3], [3]), ([4], [4]), ([5, 4], [5]), ([6], [6]), ([7, 6], [6, 7]), ([8, 6, 6], [6, 8]), ([9], [9]), ([9], [9]), ([10, 11, 9], [9, 10, 11]), ([12, 9], [9, 12]), ([13, 9], [9, 13]), ([9], [9]), ([9], [9]), ([16, 9], [9, 16]), ([15, 17, 9], [9, 15, 17]), ([18, 9], [9, 18]), ([19, 9], [9, 19]), ([14, 20, 9], [9, 14, 20]), ([21, 9, 9], [9, 21]), ([22], [22]), ([22], [22]), ([23, 24, 22], [22, 23, 24]), ([25, 22], [22, 25]), ([26, 22], [22, 26]), ([22], [22]), ([28, 22], [22, 28]), ([29, 22], [22, 29]), ([30, 22], [22, 30]), ([27, 31, 22], [22, 27, 31]), ([22, 32, 9], [9, 22, 32]), ([9, 33, 6], [6, 9, 33]), ([6, 34], [6, 34])])
def spec_l2Sets.B4 : List Nat := [0, 0, 3, 7, 15, 31, 63, 127, 255, 511, 1023, 1023, 4095, 8191, 16383, 1023, 1023, 66559, 230399, 492543, 1016831, 2097151, 4194303, 8388607, 8388607, 33554431, 67108863, 134217727, 8388607, 276824063, 813694975, 1887436799, 4294967295, 8589934591, 17179869183, 34359738367]
theorem spec_l2Sets.tab4 : rtab .any (opsOf Try.f76 4) = spec_l2Sets.T4 := by kernel_rfl
theorem spec_l2Sets.bits4 : waitsOk spec_l2Sets.T4.2 spec_l2Sets.B4 = true := by kernel_rfl
set_option maxHeartbeats 8000000 in
set_option maxRecDepth 100000 in
theorem spec_l2Sets.calls (k : Nat) (A0 : Option Addr) (c0 : Nat) (l0 : List (S59)) (r : Bool) (w : World) (hr0 : Kd.C k59 w A0 l0.length l0) (hc0 : l0.length ≤ c0) (h : spec_l2Sets.f k l0 = some r) :
    Calls Try.prog 76 #[.slice A0 l0.length c0] w fun e w' => e = .returned (.bool r) ∧ Below w.heap.size w w' := by
 have hu59 := Try.underlying59
 have HR0 := Aside0.mk hr0
 have HC0 := Aside0.mk hc0
 clear hr0 hc0
 have HB := Aside0.mk (Below.refl w.heap.size w)
 have H : (spec_l2Sets.l0 k l0 0) = some r := h
 clear h
 have H' := Aside0.mk H
 clear H
 go_enter Try.func76,Try.ntmps76
 go_wp2
 go_loopg [3] k (fun kq v3 w' => ∃ (x3_1 : Int),v3 = .int .i64 x3_1 ∧ Aside0 (spec_l2Sets.l0 kq l0 x3_1 = some r) ∧ Aside0 (kq ≤ k) ∧ Aside0 (Below w.heap.size w w'))
 case atStart => exact ⟨(0),(by first|rfl|(simp;done)|(simp [*];done)),H',⟨Nat.le_refl _⟩,⟨by repeat (first|(with_reducible first|exact HB.out|apply below_alloc|apply pw_below_drewN|apply below_drew1)|exact HB.out)⟩⟩
 case round =>
  clear H'
  obtain ⟨x3_1,rfl,HA,HK1,HB⟩ := hrel
  cases gk with
    | zero => exact absurd HA.out (by simp [spec_l2Sets.l0])
    | succ k1 =>
   have H := HA.out
   clear HA
   simp only [spec_l2Sets.l0] at H
   by_cases c2 : x3_1 < (l0.length : Int)
   ·rw [if_pos c2] at H
    have c2b0 : decide (x3_1 < (l0.length : Int)) = true := decide_eq_true c2
    clear c2
    by_cases c3 : 0 ≤ x3_1
    ·rw [if_pos c3] at H
     have c3b0 : decide (0 ≤ x3_1) = true := decide_eq_true c3
     clear c3
     replace H := Option.bind_eq_some_iff.mp H
     obtain ⟨t159,A40,H⟩ := H
     replace H : (if t159 = true then (if x3_1 > 0 then (if 0 ≤ (wrap64 (x3_1 - 1)) then (if (wrap64 (x3_1 - 1)) < (l0.length : Int) then (if ((rd_T59 l0 x3_1).f1) ≤ ((rd_T59 l0 (wrap64 (x3_1 - 1))).f1) then (some false) else (if 0 < (l0.length : Int) then (if ((rd_T59 l0 x3_1).f0) = ((rd_T59 l0 0).f0) then (spec_l2Sets.l0 k1 l0 (wrap64 (x3_1 + 1))) else (some false)) else (none))) else (none)) else (none)) else (spec_l2Sets.l0 k1 l0 (wrap64 (x3_1 + 1)))) else (some false)) = some r := H
     have A4 := Aside0.mk A40
     clear A40
     by_cases c5 : t159 = true
     ·subst c5
      have H1 : (if x3_1 > 0 then (if 0 ≤ (wrap64 (x3_1 - 1)) then (if (wrap64 (x3_1 - 1)) < (l0.length : Int) then (if ((rd_T59 l0 x3_1).f1) ≤ ((rd_T59 l0 (wrap64 (x3_1 - 1))).f1) then (some false) else (if 0 < (l0.length : Int) then (if ((rd_T59 l0 x3_1).f0) = ((rd_T59 l0 0).f0) then (spec_l2Sets.l0 k1 l0 (wrap64 (x3_1 + 1))) else (some false)) else (none))) else (none)) else (none)) else (spec_l2Sets.l0 k1 l0 (wrap64 (x3_1 + 1)))) = some r := by rw [if_pos rfl] at H;exact H
      clear H
      have H := H1
      clear H1
      by_cases c6 : x3_1 > 0
      ·rw [if_pos c6] at H
       have c6b0 : decide (0 < x3_1) = true := decide_eq_true c6
       clear c6
       obtain ⟨ji7,hji7⟩ : ∃ j_ : Int,(wrap64 (x3_1 - 1)) = j_ := ⟨_,rfl⟩
       replace H : (if 0 ≤ (ji7) then (if (ji7) < (l0.length : Int) then (if ((rd_T59 l0 x3_1).f1) ≤ ((rd_T59 l0 (ji7)).f1) then (some false) else (if 0 < (l0.length : Int) then (if ((rd_T59 l0 x3_1).f0) = ((rd_T59 l0 0).f0) then (spec_l2Sets.l0 k1 l0 (wrap64 (x3_1 + 1))) else (some false)) else (none))) else (none)) else (none)) = some r := by first|(rw [hji7] at H;exact H)|(simp only [hji7] at H ⊢;exact H)
       (try rw [hji7] at A4)
       have hji7w : (IntKind.i64.wrap (x3_1 - 1)) = ji7 := (i64_w _).trans hji7
       by_cases c8 : 0 ≤ (ji7)
       ·rw [if_pos c8] at H
        have c8b0 : decide (0 ≤ (ji7)) = true := decide_eq_true c8
        clear c8
        by_cases c9 : (ji7) < (l0.length : Int)
        ·rw [if_pos c9] at H
         have c9b0 : decide ((ji7) < (l0.length : Int)) = true := decide_eq_true c9
         clear c9
         by_cases c10 : ((rd_T59 l0 x3_1).f1) ≤ ((rd_T59 l0 (ji7)).f1)
         ·rw [if_pos c10] at H
          have c10b0 : decide (((rd_T59 l0 x3_1).f1) ≤ ((rd_T59 l0 (ji7)).f1)) = true := decide_eq_true c10
          clear c10
          obtain rfl := Option.some.inj H
          try go_wp2
          have n0_ := Aside0.mk (below_drew1 HB.out)
          clear HB
          have HB := n0_
          clear n0_
          have p158 : 0 ≤ (x3_1 : Int) := of_decide_eq_true (by first|(with_reducible assumption)|assumption)
          have q158 : x3_1 < (l0.length : Int) := of_decide_eq_true (by first|(with_reducible assumption)|assumption)
          obtain ⟨ad158,e158,hx158_0,hx158_1,hx158_2,hx158_3,hx158_4⟩ := at_T59 HR0.out x3_1 p158 q158
          have hw158_4 := hx158_4
          have hw158_3 := hx158_3
          have hw158_2 := hx158_2
          have hw158_1 := hx158_1
          have hw158_0 := hx158_0
          cases e158
          replace hx158_0 := (HB.out.cell (World.block_lt_of_cell? w _ hx158_0)).trans hx158_0
          replace hx158_1 := (HB.out.cell (World.block_lt_of_cell? w _ hx158_1)).trans hx158_1
          replace hx158_2 := (HB.out.cell (World.block_lt_of_cell? w _ hx158_2)).trans hx158_2
          replace hx158_3 := (HB.out.cell (World.block_lt_of_cell? w _ hx158_3)).trans hx158_3
          replace hx158_4 := (HB.out.cell (World.block_lt_of_cell? w _ hx158_4)).trans hx158_4
          replace p158 := eq_true p158
          replace q158 := eq_true q158
          have p160 : 0 ≤ (x3_1 : Int) := of_decide_eq_true (by first|(with_reducible assumption)|assumption)
          have q160 : x3_1 < (l0.length : Int) := of_decide_eq_true (by first|(with_reducible assumption)|assumption)
          obtain ⟨ad160,e160,hx160_0,hx160_1,hx160_2,hx160_3,hx160_4⟩ := at_T59 HR0.out x3_1 p160 q160
          have hw160_4 := hx160_4
          have hw160_3 := hx160_3
          have hw160_2 := hx160_2
          have hw160_1 := hx160_1
          have hw160_0 := hx160_0
          obtain rfl : ad158 = ad160 := (by injection e160)
          replace hx160_0 := (HB.out.cell (World.block_lt_of_cell? w _ hx160_0)).trans hx160_0
          replace hx160_1 := (HB.out.cell (World.block_lt_of_cell? w _ hx160_1)).trans hx160_1
          replace hx160_2 := (HB.out.cell (World.block_lt_of_cell? w _ hx160_2)).trans hx160_2
          replace hx160_3 := (HB.out.cell (World.block_lt_of_cell? w _ hx160_3)).trans hx160_3
          replace hx160_4 := (HB.out.cell (World.block_lt_of_cell? w _ hx160_4)).trans hx160_4
          replace p160 := eq_true p160
          replace q160 := eq_true q160
          have p161 : 0 ≤ ((ji7) : Int) := of_decide_eq_true (by first|(with_reducible assumption)|assumption)
          have q161 : (ji7) < (l0.length : Int) := of_decide_eq_true (by first|(with_reducible assumption)|assumption)
          obtain ⟨ad161,e161,hx161_0,hx161_1,hx161_2,hx161_3,hx161_4⟩ := at_T59 HR0.out (ji7) p161 q161
          have hw161_4 := hx161_4
          have hw161_3 := hx161_3
          have hw161_2 := hx161_2
          have hw161_1 := hx161_1
          have hw161_0 := hx161_0
          obtain rfl : ad158 = ad161 := (by injection e161)
          replace hx161_0 := (HB.out.cell (World.block_lt_of_cell? w _ hx161_0)).trans hx161_0
          replace hx161_1 := (HB.out.cell (World.block_lt_of_cell? w _ hx161_1)).trans hx161_1
          replace hx161_2 := (HB.out.cell (World.block_lt_of_cell? w _ hx161_2)).trans hx161_2
          replace hx161_3 := (HB.out.cell (World.block_lt_of_cell? w _ hx161_3)).trans hx161_3
          replace hx161_4 := (HB.out.cell (World.block_lt_of_cell? w _ hx161_4)).trans hx161_4
          replace p161 := eq_true p161
          replace q161 := eq_true q161
          refine start_ (n := 36) (S := fun w' => w'.cell? (ad158.add ((x3_1).toNat * 5)) = some (.int .i64 ((rd_T59 l0 x3_1).f0)) ∧ w'.cell? ⟨(ad158.add ((x3_1).toNat * 5)).block,(ad158.add ((x3_1).toNat * 5)).off + 1,none⟩ = some (.int .i64 ((rd_T59 l0 x3_1).f1)) ∧ w'.cell? ⟨(ad158.add ((x3_1).toNat * 5)).block,(ad158.add ((x3_1).toNat * 5)).off + 2,none⟩ = some (.int .i64 ((rd_T59 l0 x3_1).f2)) ∧ w'.cell? ⟨(ad158.add ((x3_1).toNat * 5)).block,(ad158.add ((x3_1).toNat * 5)).off + 3,none⟩ = some (.bool ((rd_T59 l0 x3_1).f3)) ∧ w'.cell? ⟨(ad158.add ((x3_1).toNat * 5)).block,(ad158.add ((x3_1).toNat * 5)).off + 4,none⟩ = some (.int .i64 ((rd_T59 l0 x3_1).f4)) ∧ w'.cell? (ad158.add ((x3_1).toNat * 5)) = some (.int .i64 ((rd_T59 l0 x3_1).f0)) ∧ w'.cell? ⟨(ad158.add ((x3_1).toNat * 5)).block,(ad158.add ((x3_1).toNat * 5)).off + 1,none⟩ = some (.int .i64 ((rd_T59 l0 x3_1).f1)) ∧ w'.cell? ⟨(ad158.add ((x3_1).toNat * 5)).block,(ad158.add ((x3_1).toNat * 5)).off + 2,none⟩ = some (.int .i64 ((rd_T59 l0 x3_1).f2)) ∧ w'.cell? ⟨(ad158.add ((x3_1).toNat * 5)).block,(ad158.add ((x3_1).toNat * 5)).off + 3,none⟩ = some (.bool ((rd_T59 l0 x3_1).f3)) ∧ w'.cell? ⟨(ad158.add ((x3_1).toNat * 5)).block,(ad158.add ((x3_1).toNat * 5)).off + 4,none⟩ = some (.int .i64 ((rd_T59 l0 x3_1).f4)) ∧ w'.cell? (ad158.add (((ji7)).toNat * 5)) = some (.int .i64 ((rd_T59 l0 (ji7)).f0)) ∧ w'.cell? ⟨(ad158.add (((ji7)).toNat * 5)).block,(ad158.add (((ji7)).toNat * 5)).off + 1,none⟩ = some (.int .i64 ((rd_T59 l0 (ji7)).f1)) ∧ w'.cell? ⟨(ad158.add (((ji7)).toNat * 5)).block,(ad158.add (((ji7)).toNat * 5)).off + 2,none⟩ = some (.int .i64 ((rd_T59 l0 (ji7)).f2)) ∧ w'.cell? ⟨(ad158.add (((ji7)).toNat * 5)).block,(ad158.add (((ji7)).toNat * 5)).off + 3,none⟩ = some (.bool ((rd_T59 l0 (ji7)).f3)) ∧ w'.cell? ⟨(ad158.add (((ji7)).toNat * 5)).block,(ad158.add (((ji7)).toNat * 5)).off + 4,none⟩ = some (.int .i64 ((rd_T59 l0 (ji7)).f4))) (ds := []) #[false,false,false,false,false,false,false,false,false,false,false,false,false,false,false,false,false,false,false,false,false,false,false,false,false,false,false,false,false,false,false,false,false,false,false,false] (by kernel_rfl) rfl rfl ⟨((HB.out.cell (World.block_lt_of_cell? w _ hw158_0)).trans hw158_0),((HB.out.cell (World.block_lt_of_cell? w _ hw158_1)).trans hw158_1),((HB.out.cell (World.block_lt_of_cell? w _ hw158_2)).trans hw158_2),((HB.out.cell (World.block_lt_of_cell? w _ hw158_3)).trans hw158_3),((HB.out.cell (World.block_lt_of_cell? w _ hw158_4)).trans hw158_4),((HB.out.cell (World.block_lt_of_cell? w _ hw160_0)).trans hw160_0),((HB.out.cell (World.block_lt_of_cell? w _ hw160_1)).trans hw160_1),((HB.out.cell (World.block_lt_of_cell? w _ hw160_2)).trans hw160_2),((HB.out.cell (World.block_lt_of_cell? w _ hw160_3)).trans hw160_3),((HB.out.cell (World.block_lt_of_cell? w _ hw160_4)).trans hw160_4),((HB.out.cell (World.block_lt_of_cell? w _ hw161_0)).trans hw161_0),((HB.out.cell (World.block_lt_of_cell? w _ hw161_1)).trans hw161_1),((HB.out.cell (World.block_lt_of_cell? w _ hw161_2)).trans hw161_2),((HB.out.cell (World.block_lt_of_cell? w _ hw161_3)).trans hw161_3),((HB.out.cell (World.block_lt_of_cell? w _ hw161_4)).trans hw161_4)⟩ (fun hHeld => ?_);refine with_tabW spec_l2Sets.tab4 spec_l2Sets.bits4 (fun HT_ HW_ => ?_)
          generalize wr.drew = w11 at HB hx158_0 hx158_1 hx158_2 hx158_3 hx158_4 hx160_0 hx160_1 hx160_2 hx160_3 hx160_4 hx161_0 hx161_1 hx161_2 hx161_3 hx161_4 hHeld ⊢
          refine pw_ 0 (some 10) HT_.out ?_
          refine pw_ 1 (some 11) HT_.out ?_
          refine pw_ 2 (some 12) HT_.out ?_
          refine tw_ 3 (some 13) HT_.out HW_.out hHeld rfl rfl (by rintro w' ⟨s0,s1,s2,s3,s4,s5,s6,s7,s8,s9,s10,s11,s12,s13,s14⟩;go_simp;with_reducible rfl) ?_
          refine oz_ (i := 4) (N := some 14) HT_.out rfl rfl (by kernel_rfl) (by decide) (fun K hK => ?_)
          refine goes_ Try.func112 (by kernel_rfl) rfl #[.agg #[.int .i64 ((rd_T59 l0 x3_1).f0),.int .i64 ((rd_T59 l0 x3_1).f1),.int .i64 ((rd_T59 l0 x3_1).f2),.bool ((rd_T59 l0 x3_1).f3),.int .i64 ((rd_T59 l0 x3_1).f4)]] (by rfl) rfl rfl (by (try simp only [List.map_toArray,List.map_cons,List.map_nil]);first|done|rfl|(simp only [List.length_drop,List.length_take];rfl)) ?_
          with_reducible refine (spec_SetOk.calls ((rd_T59 l0 x3_1).f0) ((rd_T59 l0 x3_1).f1) ((rd_T59 l0 x3_1).f2) ((rd_T59 l0 x3_1).f3) ((rd_T59 l0 x3_1).f4) true _ A4.out).mono ?_
          rintro e w12 ⟨rfl,hb⟩
          refine ⟨_,rfl,?_⟩
          have n0_ := Aside0.mk (below_step (by repeat (first|(with_reducible first|exact HB.out|apply below_alloc|apply pw_below_drewN|apply below_drew1)|exact HB.out)) hb)
          clear HB
          have HB := n0_
          clear n0_
          (try clear hb)
          (try clear hb2)
          (try clear hk)
          (try clear hi)
          refine hK.out _ _ ⟨((HB.out.cell (World.block_lt_of_cell? w _ hw158_0)).trans hw158_0),((HB.out.cell (World.block_lt_of_cell? w _ hw158_1)).trans hw158_1),((HB.out.cell (World.block_lt_of_cell? w _ hw158_2)).trans hw158_2),((HB.out.cell (World.block_lt_of_cell? w _ hw158_3)).trans hw158_3),((HB.out.cell (World.block_lt_of_cell? w _ hw158_4)).trans hw158_4),((HB.out.cell (World.block_lt_of_cell? w _ hw160_0)).trans hw160_0),((HB.out.cell (World.block_lt_of_cell? w _ hw160_1)).trans hw160_1),((HB.out.cell (World.block_lt_of_cell? w _ hw160_2)).trans hw160_2),((HB.out.cell (World.block_lt_of_cell? w _ hw160_3)).trans hw160_3),((HB.out.cell (World.block_lt_of_cell? w _ hw160_4)).trans hw160_4),((HB.out.cell (World.block_lt_of_cell? w _ hw161_0)).trans hw161_0),((HB.out.cell (World.block_lt_of_cell? w _ hw161_1)).trans hw161_1),((HB.out.cell (World.block_lt_of_cell? w _ hw161_2)).trans hw161_2),((HB.out.cell (World.block_lt_of_cell? w _ hw161_3)).trans hw161_3),((HB.out.cell (World.block_lt_of_cell? w _ hw161_4)).trans hw161_4)⟩ (fun hHeld => ?_)
          clear hK K
          refine norm_ (a' := ?_) ?_ ?_
          rotate_left
          ·show Act.put _ (some 14) _ = _
           simp only [Act.put,q1,q2,q3,i64_w,i32_w]
           rfl
          refine pw_ 5 (some 15) HT_.out ?_
          refine pw_ 6 (some 16) HT_.out ?_
          refine pw_ 7 (some 17) HT_.out ?_
          refine pw_ 8 (some 18) HT_.out ?_
          refine pw_ 9 (some 19) HT_.out ?_
          refine pw_ 10 (some 20) HT_.out ?_
          refine pw_ 11 (some 21) HT_.out ?_
          refine pw_ 12 (some 22) HT_.out ?_
          refine pw_ 13 (some 23) HT_.out ?_
          refine pw_ 15 (some 25) HT_.out ?_
          refine pw_ 16 (some 26) HT_.out ?_
          refine pw_ 17 (some 27) HT_.out ?_
          refine pw_ 18 (some 28) HT_.out ?_
          refine pw_ 19 (some 29) HT_.out ?_
          refine tw_ 14 (some 24) HT_.out HW_.out hHeld rfl rfl (by rintro w' ⟨s0,s1,s2,s3,s4,s5,s6,s7,s8,s9,s10,s11,s12,s13,s14⟩;go_simp;with_reducible rfl) ?_
          refine tw_ 20 (some 30) HT_.out HW_.out hHeld rfl rfl (by rintro w' ⟨s0,s1,s2,s3,s4,s5,s6,s7,s8,s9,s10,s11,s12,s13,s14⟩;go_simp;with_reducible rfl) ?_
          refine pw_ 21 (some 31) HT_.out ?_
          refine pw_ 22 (some 32) HT_.out ?_
          refine pu_ 23 (some 33) HT_.out ?_
          refine pu_ 24 (some 34) HT_.out ?_
          refine pu_ 25 (some 35) HT_.out ?_
          refine pu_ 26 (some 36) HT_.out ?_
          refine pu_ 27 (some 37) HT_.out ?_
          refine pu_ 28 (some 38) HT_.out ?_
          refine pu_ 29 (some 39) HT_.out ?_
          refine pu_ 30 (some 40) HT_.out ?_
          refine pu_ 31 (some 41) HT_.out ?_
          refine pu_ 32 (some 42) HT_.out ?_
          refine pw_ 33 (some 43) HT_.out ?_
          refine pw_ 34 (some 44) HT_.out ?_
          refine pw_ 35 (some 45) HT_.out ?_
          refine done_ (done_of HT_.out (by kernel_rfl)) ?_
          try go_wp2
          go_ret
          exact ⟨by first|rfl|(simp [errW_none,errW_some] <;> rfl)|(simp only [← hji7];first|rfl|(simp [errW_none,errW_some] <;> rfl))|(simp [*,errW_none,errW_some] <;> rfl),by repeat (first|(with_reducible first|exact HB.out|apply below_alloc|apply pw_below_drewN|apply below_drew1)|exact HB.out)⟩
         ·rw [if_neg c10] at H
          have c10b0 : decide (((rd_T59 l0 x3_1).f1) ≤ ((rd_T59 l0 (ji7)).f1)) = false := decide_eq_false c10
          clear c10
          by_cases c13 : 0 < (l0.length : Int)
          ·rw [if_pos c13] at H
           have c13b0 : decide (0 < (l0.length : Int)) = true := decide_eq_true c13
           have c13b1 : decide (0 < l0.length) = true := decide_eq_true (by omega)
           clear c13
           by_cases c14 : ((rd_T59 l0 x3_1).f0) = ((rd_T59 l0 0).f0)
           ·rw [if_pos c14] at H
            have c14b0 : (((rd_T59 l0 x3_1).f0) == ((rd_T59 l0 0).f0)) = true := beq_iff_eq.mpr c14
            have c14b1 : (((rd_T59 l0 x3_1).f0) != ((rd_T59 l0 0).f0)) = false := bne_eq_false_iff_eq.mpr c14
            clear c14
            have H' := Aside0.mk H
            clear H
            try go_wp2
            have n0_ := Aside0.mk (below_drew1 HB.out)
            clear HB
            have HB := n0_
            clear n0_
            have p158 : 0 ≤ (x3_1 : Int) := of_decide_eq_true (by first|(with_reducible assumption)|assumption)
            have q158 : x3_1 < (l0.length : Int) := of_decide_eq_true (by first|(with_reducible assumption)|assumption)
            obtain ⟨ad158,e158,hx158_0,hx158_1,hx158_2,hx158_3,hx158_4⟩ := at_T59 HR0.out x3_1 p158 q158
            have hw158_4 := hx158_4
            have hw158_3 := hx158_3
            have hw158_2 := hx158_2
            have hw158_1 := hx158_1
            have hw158_0 := hx158_0
            cases e158
            replace hx158_0 := (HB.out.cell (World.block_lt_of_cell? w _ hx158_0)).trans hx158_0
            replace hx158_1 := (HB.out.cell (World.block_lt_of_cell? w _ hx158_1)).trans hx158_1
            replace hx158_2 := (HB.out.cell (World.block_lt_of_cell? w _ hx158_2)).trans hx158_2
            replace hx158_3 := (HB.out.cell (World.block_lt_of_cell? w _ hx158_3)).trans hx158_3
            replace hx158_4 := (HB.out.cell (World.block_lt_of_cell? w _ hx158_4)).trans hx158_4
            replace p158 := eq_true p158
            replace q158 := eq_true q158
            have p160 : 0 ≤ (x3_1 : Int) := of_decide_eq_true (by first|(with_reducible assumption)|assumption)
            have q160 : x3_1 < (l0.length : Int) := of_decide_eq_true (by first|(with_reducible assumption)|assumption)
            obtain ⟨ad160,e160,hx160_0,hx160_1,hx160_2,hx160_3,hx160_4⟩ := at_T59 HR0.out x3_1 p160 q160
            have hw160_4 := hx160_4
            have hw160_3 := hx160_3
            have hw160_2 := hx160_2
            have hw160_1 := hx160_1
            have hw160_0 := hx160_0
            obtain rfl : ad158 = ad160 := (by injection e160)
            replace hx160_0 := (HB.out.cell (World.block_lt_of_cell? w _ hx160_0)).trans hx160_0
            replace hx160_1 := (HB.out.cell (World.block_lt_of_cell? w _ hx160_1)).trans hx160_1
            replace hx160_2 := (HB.out.cell (World.block_lt_of_cell? w _ hx160_2)).trans hx160_2
            replace hx160_3 := (HB.out.cell (World.block_lt_of_cell? w _ hx160_3)).trans hx160_3
            replace hx160_4 := (HB.out.cell (World.block_lt_of_cell? w _ hx160_4)).trans hx160_4
            replace p160 := eq_true p160
            replace q160 := eq_true q160
            have p161 : 0 ≤ ((ji7) : Int) := of_decide_eq_true (by first|(with_reducible assumption)|assumption)
            have q161 : (ji7) < (l0.length : Int) := of_decide_eq_true (by first|(with_reducible assumption)|assumption)
            obtain ⟨ad161,e161,hx161_0,hx161_1,hx161_2,hx161_3,hx161_4⟩ := at_T59 HR0.out (ji7) p161 q161
            have hw161_4 := hx161_4
            have hw161_3 := hx161_3
            have hw161_2 := hx161_2
            have hw161_1 := hx161_1
            have hw161_0 := hx161_0
            obtain rfl : ad158 = ad161 := (by injection e161)
            replace hx161_0 := (HB.out.cell (World.block_lt_of_cell? w _ hx161_0)).trans hx161_0
            replace hx161_1 := (HB.out.cell (World.block_lt_of_cell? w _ hx161_1)).trans hx161_1
            replace hx161_2 := (HB.out.cell (World.block_lt_of_cell? w _ hx161_2)).trans hx161_2
            replace hx161_3 := (HB.out.cell (World.block_lt_of_cell? w _ hx161_3)).trans hx161_3
            replace hx161_4 := (HB.out.cell (World.block_lt_of_cell? w _ hx161_4)).trans hx161_4
            replace p161 := eq_true p161
            replace q161 := eq_true q161
            have p162 : 0 ≤ (x3_1 : Int) := of_decide_eq_true (by first|(with_reducible assumption)|assumption)
            have q162 : x3_1 < (l0.length : Int) := of_decide_eq_true (by first|(with_reducible assumption)|assumption)
            obtain ⟨ad162,e162,hx162_0,hx162_1,hx162_2,hx162_3,hx162_4⟩ := at_T59 HR0.out x3_1 p162 q162
            have hw162_4 := hx162_4
            have hw162_3 := hx162_3
            have hw162_2 := hx162_2
            have hw162_1 := hx162_1
            have hw162_0 := hx162_0
            obtain rfl : ad158 = ad162 := (by injection e162)
            replace hx162_0 := (HB.out.cell (World.block_lt_of_cell? w _ hx162_0)).trans hx162_0
            replace hx162_1 := (HB.out.cell (World.block_lt_of_cell? w _ hx162_1)).trans hx162_1
            replace hx162_2 := (HB.out.cell (World.block_lt_of_cell? w _ hx162_2)).trans hx162_2
            replace hx162_3 := (HB.out.cell (World.block_lt_of_cell? w _ hx162_3)).trans hx162_3
            replace hx162_4 := (HB.out.cell (World.block_lt_of_cell? w _ hx162_4)).trans hx162_4
            replace p162 := eq_true p162
            replace q162 := eq_true q162
            have p163 : 0 ≤ (0 : Int) := (by omega)
            have q163 : 0 < (l0.length : Int) := of_decide_eq_true (by first|(with_reducible assumption)|assumption)
            obtain ⟨ad163,e163,hx163_0,hx163_1,hx163_2,hx163_3,hx163_4⟩ := at_T59 HR0.out 0 p163 q163
            have hw163_4 := hx163_4
            (try rw [show ((0 : Int)).toNat = 0 from rfl] at hw163_4)
            (try rw [show 0 * 5 = 0 from rfl] at hw163_4)
            (try rw [Addr.add_zero'] at hw163_4)
            have hw163_3 := hx163_3
            (try rw [show ((0 : Int)).toNat = 0 from rfl] at hw163_3)
            (try rw [show 0 * 5 = 0 from rfl] at hw163_3)
            (try rw [Addr.add_zero'] at hw163_3)
            have hw163_2 := hx163_2
            (try rw [show ((0 : Int)).toNat = 0 from rfl] at hw163_2)
            (try rw [show 0 * 5 = 0 from rfl] at hw163_2)
            (try rw [Addr.add_zero'] at hw163_2)
            have hw163_1 := hx163_1
            (try rw [show ((0 : Int)).toNat = 0 from rfl] at hw163_1)
            (try rw [show 0 * 5 = 0 from rfl] at hw163_1)
            (try rw [Addr.add_zero'] at hw163_1)
            have hw163_0 := hx163_0
            (try rw [show ((0 : Int)).toNat = 0 from rfl] at hw163_0)
            (try rw [show 0 * 5 = 0 from rfl] at hw163_0)
            (try rw [Addr.add_zero'] at hw163_0)
            obtain rfl : ad158 = ad163 := (by injection e163)
            have qi163 : (0 < l0.length) = True := eq_true (by omega)
            (try rw [show ((0 : Int)).toNat = 0 from rfl] at hx163_0)
            (try rw [show 0 * 5 = 0 from rfl] at hx163_0)
            (try rw [Addr.add_zero'] at hx163_0)
            (try rw [show ((0 : Int)).toNat = 0 from rfl] at hx163_1)
            (try rw [show 0 * 5 = 0 from rfl] at hx163_1)
            (try rw [Addr.add_zero'] at hx163_1)
            (try rw [show ((0 : Int)).toNat = 0 from rfl] at hx163_2)
            (try rw [show 0 * 5 = 0 from rfl] at hx163_2)
            (try rw [Addr.add_zero'] at hx163_2)
            (try rw [show ((0 : Int)).toNat = 0 from rfl] at hx163_3)
            (try rw [show 0 * 5 = 0 from rfl] at hx163_3)
            (try rw [Addr.add_zero'] at hx163_3)
            (try rw [show ((0 : Int)).toNat = 0 from rfl] at hx163_4)
            (try rw [show 0 * 5 = 0 from rfl] at hx163_4)
            (try rw [Addr.add_zero'] at hx163_4)
            replace hx163_0 := (HB.out.cell (World.block_lt_of_cell? w _ hx163_0)).trans hx163_0
            replace hx163_1 := (HB.out.cell (World.block_lt_of_cell? w _ hx163_1)).trans hx163_1
            replace hx163_2 := (HB.out.cell (World.block_lt_of_cell? w _ hx163_2)).trans hx163_2
            replace hx163_3 := (HB.out.cell (World.block_lt_of_cell? w _ hx163_3)).trans hx163_3
            replace hx163_4 := (HB.out.cell (World.block_lt_of_cell? w _ hx163_4)).trans hx163_4
            replace p163 := eq_true p163
            replace q163 := eq_true q163
            refine start_ (n := 36) (S := fun w' => w'.cell? (ad158.add ((x3_1).toNat * 5)) = some (.int .i64 ((rd_T59 l0 x3_1).f0)) ∧ w'.cell? ⟨(ad158.add ((x3_1).toNat * 5)).block,(ad158.add ((x3_1).toNat * 5)).off + 1,none⟩ = some (.int .i64 ((rd_T59 l0 x3_1).f1)) ∧ w'.cell? ⟨(ad158.add ((x3_1).toNat * 5)).block,(ad158.add ((x3_1).toNat * 5)).off + 2,none⟩ = some (.int .i64 ((rd_T59 l0 x3_1).f2)) ∧ w'.cell? ⟨(ad158.add ((x3_1).toNat * 5)).block,(ad158.add ((x3_1).toNat * 5)).off + 3,none⟩ = some (.bool ((rd_T59 l0 x3_1).f3)) ∧ w'.cell? ⟨(ad158.add ((x3_1).toNat * 5)).block,(ad158.add ((x3_1).toNat * 5)).off + 4,none⟩ = some (.int .i64 ((rd_T59 l0 x3_1).f4)) ∧ w'.cell? (ad158.add ((x3_1).toNat * 5)) = some (.int .i64 ((rd_T59 l0 x3_1).f0)) ∧ w'.cell? ⟨(ad158.add ((x3_1).toNat * 5)).block,(ad158.add ((x3_1).toNat * 5)).off + 1,none⟩ = some (.int .i64 ((rd_T59 l0 x3_1).f1)) ∧ w'.cell? ⟨(ad158.add ((x3_1).toNat * 5)).block,(ad158.add ((x3_1).toNat * 5)).off + 2,none⟩ = some (.int .i64 ((rd_T59 l0 x3_1).f2)) ∧ w'.cell? ⟨(ad158.add ((x3_1).toNat * 5)).block,(ad158.add ((x3_1).toNat * 5)).off + 3,none⟩ = some (.bool ((rd_T59 l0 x3_1).f3)) ∧ w'.cell? ⟨(ad158.add ((x3_1).toNat * 5)).block,(ad158.add ((x3_1).toNat * 5)).off + 4,none⟩ = some (.int .i64 ((rd_T59 l0 x3_1).f4)) ∧ w'.cell? (ad158.add (((ji7)).toNat * 5)) = some (.int .i64 ((rd_T59 l0 (ji7)).f0)) ∧ w'.cell? ⟨(ad158.add (((ji7)).toNat * 5)).block,(ad158.add (((ji7)).toNat * 5)).off + 1,none⟩ = some (.int .i64 ((rd_T59 l0 (ji7)).f1)) ∧ w'.cell? ⟨(ad158.add (((ji7)).toNat * 5)).block,(ad158.add (((ji7)).toNat * 5)).off + 2,none⟩ = some (.int .i64 ((rd_T59 l0 (ji7)).f2)) ∧ w'.cell? ⟨(ad158.add (((ji7)).toNat * 5)).block,(ad158.add (((ji7)).toNat * 5)).off + 3,none⟩ = some (.bool ((rd_T59 l0 (ji7)).f3)) ∧ w'.cell? ⟨(ad158.add (((ji7)).toNat * 5)).block,(ad158.add (((ji7)).toNat * 5)).off + 4,none⟩ = some (.int .i64 ((rd_T59 l0 (ji7)).f4)) ∧ w'.cell? (ad158.add ((x3_1).toNat * 5)) = some (.int .i64 ((rd_T59 l0 x3_1).f0)) ∧ w'.cell? ⟨(ad158.add ((x3_1).toNat * 5)).block,(ad158.add ((x3_1).toNat * 5)).off + 1,none⟩ = some (.int .i64 ((rd_T59 l0 x3_1).f1)) ∧ w'.cell? ⟨(ad158.add ((x3_1).toNat * 5)).block,(ad158.add ((x3_1).toNat * 5)).off + 2,none⟩ = some (.int .i64 ((rd_T59 l0 x3_1).f2)) ∧ w'.cell? ⟨(ad158.add ((x3_1).toNat * 5)).block,(ad158.add ((x3_1).toNat * 5)).off + 3,none⟩ = some (.bool ((rd_T59 l0 x3_1).f3)) ∧ w'.cell? ⟨(ad158.add ((x3_1).toNat * 5)).block,(ad158.add ((x3_1).toNat * 5)).off + 4,none⟩ = some (.int .i64 ((rd_T59 l0 x3_1).f4)) ∧ w'.cell? ad158 = some (.int .i64 ((rd_T59 l0 0).f0)) ∧ w'.cell? ⟨ad158.block,ad158.off + 1,none⟩ = some (.int .i64 ((rd_T59 l0 0).f1)) ∧ w'.cell? ⟨ad158.block,ad158.off + 2,none⟩ = some (.int .i64 ((rd_T59 l0 0).f2)) ∧ w'.cell? ⟨ad158.block,ad158.off + 3,none⟩ = some (.bool ((rd_T59 l0 0).f3)) ∧ w'.cell? ⟨ad158.block,ad158.off + 4,none⟩ = some (.int .i64 ((rd_T59 l0 0).f4))) (ds := []) #[false,false,false,false,false,false,false,false,false,false,false,false,false,false,false,false,false,false,false,false,false,false,false,false,false,false,false,false,false,false,false,false,false,false,false,false] (by kernel_rfl) rfl rfl ⟨((HB.out.cell (World.block_lt_of_cell? w _ hw158_0)).trans hw158_0),((HB.out.cell (World.block_lt_of_cell? w _ hw158_1)).trans hw158_1),((HB.out.cell (World.block_lt_of_cell? w _ hw158_2)).trans hw158_2),((HB.out.cell (World.block_lt_of_cell? w _ hw158_3)).trans hw158_3),((HB.out.cell (World.block_lt_of_cell? w _ hw158_4)).trans hw158_4),((HB.out.cell (World.block_lt_of_cell? w _ hw160_0)).trans hw160_0),((HB.out.cell (World.block_lt_of_cell? w _ hw160_1)).trans hw160_1),((HB.out.cell (World.block_lt_of_cell? w _ hw160_2)).trans hw160_2),((HB.out.cell (World.block_lt_of_cell? w _ hw160_3)).trans hw160_3),((HB.out.cell (World.block_lt_of_cell? w _ hw160_4)).trans hw160_4),((HB.out.cell (World.block_lt_of_cell? w _ hw161_0)).trans hw161_0),((HB.out.cell (World.block_lt_of_cell? w _ hw161_1)).trans hw161_1),((HB.out.cell (World.block_lt_of_cell? w _ hw161_2)).trans hw161_2),((HB.out.cell (World.block_lt_of_cell? w _ hw161_3)).trans hw161_3),((HB.out.cell (World.block_lt_of_cell? w _ hw161_4)).trans hw161_4),((HB.out.cell (World.block_lt_of_cell? w _ hw162_0)).trans hw162_0),((HB.out.cell (World.block_lt_of_cell? w _ hw162_1)).trans hw162_1),((HB.out.cell (World.block_lt_of_cell? w _ hw162_2)).trans hw162_2),((HB.out.cell (World.block_lt_of_cell? w _ hw162_3)).trans hw162_3),((HB.out.cell (World.block_lt_of_cell? w _ hw162_4)).trans hw162_4),((HB.out.cell (World.block_lt_of_cell? w _ hw163_0)).trans hw163_0),((HB.out.cell (World.block_lt_of_cell? w _ hw163_1)).trans hw163_1),((HB.out.cell (World.block_lt_of_cell? w _ hw163_2)).trans hw163_2),((HB.out.cell (World.block_lt_of_cell? w _ hw163_3)).trans hw163_3),((HB.out.cell (World.block_lt_of_cell? w _ hw163_4)).trans hw163_4)⟩ (fun hHeld => ?_);refine with_tabW spec_l2Sets.tab4 spec_l2Sets.bits4 (fun HT_ HW_ => ?_)
            generalize wr.drew = w15 at HB hx158_0 hx158_1 hx158_2 hx158_3 hx158_4 hx160_0 hx160_1 hx160_2 hx160_3 hx160_4 hx161_0 hx161_1 hx161_2 hx161_3 hx161_4 hx162_0 hx162_1 hx162_2 hx162_3 hx162_4 hx163_0 hx163_1 hx163_2 hx163_3 hx163_4 hHeld ⊢
            refine pw_ 0 (some 10) HT_.out ?_
            refine pw_ 1 (some 11) HT_.out ?_
            refine pw_ 2 (some 12) HT_.out ?_
            refine tw_ 3 (some 13) HT_.out HW_.out hHeld rfl rfl (by rintro w' ⟨s0,s1,s2,s3,s4,s5,s6,s7,s8,s9,s10,s11,s12,s13,s14,s15,s16,s17,s18,s19,s20,s21,s22,s23,s24⟩;go_simp;with_reducible rfl) ?_
            refine oz_ (i := 4) (N := some 14) HT_.out rfl rfl (by kernel_rfl) (by decide) (fun K hK => ?_)
            refine goes_ Try.func112 (by kernel_rfl) rfl #[.agg #[.int .i64 ((rd_T59 l0 x3_1).f0),.int .i64 ((rd_T59 l0 x3_1).f1),.int .i64 ((rd_T59 l0 x3_1).f2),.bool ((rd_T59 l0 x3_1).f3),.int .i64 ((rd_T59 l0 x3_1).f4)]] (by rfl) rfl rfl (by (try simp only [List.map_toArray,List.map_cons,List.map_nil]);first|done|rfl|(simp only [List.length_drop,List.length_take];rfl)) ?_
            with_reducible refine (spec_SetOk.calls ((rd_T59 l0 x3_1).f0) ((rd_T59 l0 x3_1).f1) ((rd_T59 l0 x3_1).f2) ((rd_T59 l0 x3_1).f3) ((rd_T59 l0 x3_1).f4) true _ A4.out).mono ?_
            rintro e w16 ⟨rfl,hb⟩
            refine ⟨_,rfl,?_⟩
            have n0_ := Aside0.mk (below_step (by repeat (first|(with_reducible first|exact HB.out|apply below_alloc|apply pw_below_drewN|apply below_drew1)|exact HB.out)) hb)
            clear HB
            have HB := n0_
            clear n0_
            (try clear hb)
            (try clear hb2)
            (try clear hk)
            (try clear hi)
            refine hK.out _ _ ⟨((HB.out.cell (World.block_lt_of_cell? w _ hw158_0)).trans hw158_0),((HB.out.cell (World.block_lt_of_cell? w _ hw158_1)).trans hw158_1),((HB.out.cell (World.block_lt_of_cell? w _ hw158_2)).trans hw158_2),((HB.out.cell (World.block_lt_of_cell? w _ hw158_3)).trans hw158_3),((HB.out.cell (World.block_lt_of_cell? w _ hw158_4)).trans hw158_4),((HB.out.cell (World.block_lt_of_cell? w _ hw160_0)).trans hw160_0),((HB.out.cell (World.block_lt_of_cell? w _ hw160_1)).trans hw160_1),((HB.out.cell (World.block_lt_of_cell? w _ hw160_2)).trans hw160_2),((HB.out.cell (World.block_lt_of_cell? w _ hw160_3)).trans hw160_3),((HB.out.cell (World.block_lt_of_cell? w _ hw160_4)).trans hw160_4),((HB.out.cell (World.block_lt_of_cell? w _ hw161_0)).trans hw161_0),((HB.out.cell (World.block_lt_of_cell? w _ hw161_1)).trans hw161_1),((HB.out.cell (World.block_lt_of_cell? w _ hw161_2)).trans hw161_2),((HB.out.cell (World.block_lt_of_cell? w _ hw161_3)).trans hw161_3),((HB.out.cell (World.block_lt_of_cell? w _ hw161_4)).trans hw161_4),((HB.out.cell (World.block_lt_of_cell? w _ hw162_0)).trans hw162_0),((HB.out.cell (World.block_lt_of_cell? w _ hw162_1)).trans hw162_1),((HB.out.cell (World.block_lt_of_cell? w _ hw162_2)).trans hw162_2),((HB.out.cell (World.block_lt_of_cell? w _ hw162_3)).trans hw162_3),((HB.out.cell (World.block_lt_of_cell? w _ hw162_4)).trans hw162_4),((HB.out.cell (World.block_lt_of_cell? w _ hw163_0)).trans hw163_0),((HB.out.cell (World.block_lt_of_cell? w _ hw163_1)).trans hw163_1),((HB.out.cell (World.block_lt_of_cell? w _ hw163_2)).trans hw163_2),((HB.out.cell (World.block_lt_of_cell? w _ hw163_3)).trans hw163_3),((HB.out.cell (World.block_lt_of_cell? w _ hw163_4)).trans hw163_4)⟩ (fun hHeld => ?_)
            clear hK K
            refine norm_ (a' := ?_) ?_ ?_
            rotate_left
            ·show Act.put _ (some 14) _ = _
             simp only [Act.put,q1,q2,q3,i64_w,i32_w]
             rfl
            refine pw_ 5 (some 15) HT_.out ?_
            refine pw_ 6 (some 16) HT_.out ?_
            refine pw_ 7 (some 17) HT_.out ?_
            refine pw_ 8 (some 18) HT_.out ?_
            refine pw_ 9 (some 19) HT_.out ?_
            refine pw_ 10 (some 20) HT_.out ?_
            refine pw_ 11 (some 21) HT_.out ?_
            refine pw_ 12 (some 22) HT_.out ?_
            refine pw_ 13 (some 23) HT_.out ?_
            refine pw_ 15 (some 25) HT_.out ?_
            refine pw_ 16 (some 26) HT_.out ?_
            refine pw_ 17 (some 27) HT_.out ?_
            refine pw_ 18 (some 28) HT_.out ?_
            refine pw_ 19 (some 29) HT_.out ?_
            refine tw_ 14 (some 24) HT_.out HW_.out hHeld rfl rfl (by rintro w' ⟨s0,s1,s2,s3,s4,s5,s6,s7,s8,s9,s10,s11,s12,s13,s14,s15,s16,s17,s18,s19,s20,s21,s22,s23,s24⟩;go_simp;with_reducible rfl) ?_
            refine tw_ 20 (some 30) HT_.out HW_.out hHeld rfl rfl (by rintro w' ⟨s0,s1,s2,s3,s4,s5,s6,s7,s8,s9,s10,s11,s12,s13,s14,s15,s16,s17,s18,s19,s20,s21,s22,s23,s24⟩;go_simp;with_reducible rfl) ?_
            refine pw_ 21 (some 31) HT_.out ?_
            refine pw_ 22 (some 32) HT_.out ?_
            refine pw_ 23 (some 33) HT_.out ?_
            refine pw_ 24 (some 34) HT_.out ?_
            refine pw_ 25 (some 35) HT_.out ?_
            refine pw_ 26 (some 36) HT_.out ?_
            refine pw_ 28 (some 38) HT_.out ?_
            refine pw_ 29 (some 39) HT_.out ?_
            refine pw_ 30 (some 40) HT_.out ?_
            refine tw_ 27 (some 37) HT_.out HW_.out hHeld rfl rfl (by rintro w' ⟨s0,s1,s2,s3,s4,s5,s6,s7,s8,s9,s10,s11,s12,s13,s14,s15,s16,s17,s18,s19,s20,s21,s22,s23,s24⟩;go_simp;with_reducible rfl) ?_
            refine tw_ 31 (some 41) HT_.out HW_.out hHeld rfl rfl (by rintro w' ⟨s0,s1,s2,s3,s4,s5,s6,s7,s8,s9,s10,s11,s12,s13,s14,s15,s16,s17,s18,s19,s20,s21,s22,s23,s24⟩;go_simp;with_reducible rfl) ?_
            refine pw_ 32 (some 42) HT_.out ?_
            refine pw_ 33 (some 43) HT_.out ?_
            refine pw_ 34 (some 44) HT_.out ?_
            refine pw_ 35 (some 45) HT_.out ?_
            refine done_ (done_of HT_.out (by kernel_rfl)) ?_
            try go_wp2
            go_roundg k1
            case measure => have := HK1.out;omega
            case rel => exact ⟨(wrap64 (x3_1 + 1)),(by first|rfl|(simp;done)|(simp [*];done)),H',⟨by have := HK1.out;omega⟩,⟨by repeat (first|(with_reducible first|exact HB.out|apply below_alloc|apply pw_below_drewN|apply below_drew1)|exact HB.out)⟩⟩
           ·rw [if_neg c14] at H
            have c14b0 : (((rd_T59 l0 x3_1).f0) == ((rd_T59 l0 0).f0)) = false := beq_eq_false_iff_ne.mpr c14
            have c14b1 : (((rd_T59 l0 x3_1).f0) != ((rd_T59 l0 0).f0)) = true := bne_iff_ne.mpr c14
            obtain rfl := Option.some.inj H
            try go_wp2
            have n0_ := Aside0.mk (below_drew1 HB.out)
            clear HB
            have HB := n0_
            clear n0_
            have p158 : 0 ≤ (x3_1 : Int) := of_decide_eq_true (by first|(with_reducible assumption)|assumption)
            have q158 : x3_1 < (l0.length : Int) := of_decide_eq_true (by first|(with_reducible assumption)|assumption)
            obtain ⟨ad158,e158,hx158_0,hx158_1,hx158_2,hx158_3,hx158_4⟩ := at_T59 HR0.out x3_1 p158 q158
            have hw158_4 := hx158_4
            have hw158_3 := hx158_3
            have hw158_2 := hx158_2
            have hw158_1 := hx158_1
            have hw158_0 := hx158_0
            cases e158
            replace hx158_0 := (HB.out.cell (World.block_lt_of_cell? w _ hx158_0)).trans hx158_0
            replace hx158_1 := (HB.out.cell (World.block_lt_of_cell? w _ hx158_1)).trans hx158_1
            replace hx158_2 := (HB.out.cell (World.block_lt_of_cell? w _ hx158_2)).trans hx158_2
            replace hx158_3 := (HB.out.cell (World.block_lt_of_cell? w _ hx158_3)).trans hx158_3
            replace hx158_4 := (HB.out.cell (World.block_lt_of_cell? w _ hx158_4)).trans hx158_4
            replace p158 := eq_true p158
            replace q158 := eq_true q158
            have p160 : 0 ≤ (x3_1 : Int) := of_decide_eq_true (by first|(with_reducible assumption)|assumption)
            have q160 : x3_1 < (l0.length : Int) := of_decide_eq_true (by first|(with_reducible assumption)|assumption)
            obtain ⟨ad160,e160,hx160_0,hx160_1,hx160_2,hx160_3,hx160_4⟩ := at_T59 HR0.out x3_1 p160 q160
            have hw160_4 := hx160_4
            have hw160_3 := hx160_3
            have hw160_2 := hx160_2
            have hw160_1 := hx160_1
            have hw160_0 := hx160_0
            obtain rfl : ad158 = ad160 := (by injection e160)
            replace hx160_0 := (HB.out.cell (World.block_lt_of_cell? w _ hx160_0)).trans hx160_0
            replace hx160_1 := (HB.out.cell (World.block_lt_of_cell? w _ hx160_1)).trans hx160_1
            replace hx160_2 := (HB.out.cell (World.block_lt_of_cell? w _ hx160_2)).trans hx160_2
            replace hx160_3 := (HB.out.cell (World.block_lt_of_cell? w _ hx160_3)).trans hx160_3
            replace hx160_4 := (HB.out.cell (World.block_lt_of_cell? w _ hx160_4)).trans hx160_4
            replace p160 := eq_true p160
            replace q160 := eq_true q160
            have p161 : 0 ≤ ((ji7) : Int) := of_decide_eq_true (by first|(with_reducible assumption)|assumption)
            have q161 : (ji7) < (l0.length : Int) := of_decide_eq_true (by first|(with_reducible assumption)|assumption)
            obtain ⟨ad161,e161,hx161_0,hx161_1,hx161_2,hx161_3,hx161_4⟩ := at_T59 HR0.out (ji7) p161 q161
            have hw161_4 := hx161_4
            have hw161_3 := hx161_3
            have hw161_2 := hx161_2
            have hw161_1 := hx161_1
            have hw161_0 := hx161_0
            obtain rfl : ad158 = ad161 := (by injection e161)
            replace hx161_0 := (HB.out.cell (World.block_lt_of_cell? w _ hx161_0)).trans hx161_0
            replace hx161_1 := (HB.out.cell (World.block_lt_of_cell? w _ hx161_1)).trans hx161_1
            replace hx161_2 := (HB.out.cell (World.block_lt_of_cell? w _ hx161_2)).trans hx161_2
            replace hx161_3 := (HB.out.cell (World.block_lt_of_cell? w _ hx161_3)).trans hx161_3
            replace hx161_4 := (HB.out.cell (World.block_lt_of_cell? w _ hx161_4)).trans hx161_4
            replace p161 := eq_true p161
            replace q161 := eq_true q161
            have p162 : 0 ≤ (x3_1 : Int) := of_decide_eq_true (by first|(with_reducible assumption)|assumption)
            have q162 : x3_1 < (l0.length : Int) := of_decide_eq_true (by first|(with_reducible assumption)|assumption)
            obtain ⟨ad162,e162,hx162_0,hx162_1,hx162_2,hx162_3,hx162_4⟩ := at_T59 HR0.out x3_1 p162 q162
            have hw162_4 := hx162_4
            have hw162_3 := hx162_3
            have hw162_2 := hx162_2
            have hw162_1 := hx162_1
            have hw162_0 := hx162_0
            obtain rfl : ad158 = ad162 := (by injection e162)
            replace hx162_0 := (HB.out.cell (World.block_lt_of_cell? w _ hx162_0)).trans hx162_0
            replace hx162_1 := (HB.out.cell (World.block_lt_of_cell? w _ hx162_1)).trans hx162_1
            replace hx162_2 := (HB.out.cell (World.block_lt_of_cell? w _ hx162_2)).trans hx162_2
            replace hx162_3 := (HB.out.cell (World.block_lt_of_cell? w _ hx162_3)).trans hx162_3
            replace hx162_4 := (HB.out.cell (World.block_lt_of_cell? w _ hx162_4)).trans hx162_4
            replace p162 := eq_true p162
            replace q162 := eq_true q162
            have p163 : 0 ≤ (0 : Int) := (by omega)
            have q163 : 0 < (l0.length : Int) := of_decide_eq_true (by first|(with_reducible assumption)|assumption)
            obtain ⟨ad163,e163,hx163_0,hx163_1,hx163_2,hx163_3,hx163_4⟩ := at_T59 HR0.out 0 p163 q163
            have hw163_4 := hx163_4
            (try rw [show ((0 : Int)).toNat = 0 from rfl] at hw163_4)
            (try rw [show 0 * 5 = 0 from rfl] at hw163_4)
            (try rw [Addr.add_zero'] at hw163_4)
            have hw163_3 := hx163_3
            (try rw [show ((0 : Int)).toNat = 0 from rfl] at hw163_3)
            (try rw [show 0 * 5 = 0 from rfl] at hw163_3)
            (try rw [Addr.add_zero'] at hw163_3)
            have hw163_2 := hx163_2
            (try rw [show ((0 : Int)).toNat = 0 from rfl] at hw163_2)
            (try rw [show 0 * 5 = 0 from rfl] at hw163_2)
            (try rw [Addr.add_zero'] at hw163_2)
            have hw163_1 := hx163_1
            (try rw [show ((0 : Int)).toNat = 0 from rfl] at hw163_1)
            (try rw [show 0 * 5 = 0 from rfl] at hw163_1)
            (try rw [Addr.add_zero'] at hw163_1)
            have hw163_0 := hx163_0
            (try rw [show ((0 : Int)).toNat = 0 from rfl] at hw163_0)
            (try rw [show 0 * 5 = 0 from rfl] at hw163_0)
            (try rw [Addr.add_zero'] at hw163_0)
            obtain rfl : ad158 = ad163 := (by injection e163)
            have qi163 : (0 < l0.length) = True := eq_true (by omega)
            (try rw [show ((0 : Int)).toNat = 0 from rfl] at hx163_0)
            (try rw [show 0 * 5 = 0 from rfl] at hx163_0)
            (try rw [Addr.add_zero'] at hx163_0)
            (try rw [show ((0 : Int)).toNat = 0 from rfl] at hx163_1)
            (try rw [show 0 * 5 = 0 from rfl] at hx163_1)
            (try rw [Addr.add_zero'] at hx163_1)
            (try rw [show ((0 : Int)).toNat = 0 from rfl] at hx163_2)
            (try rw [show 0 * 5 = 0 from rfl] at hx163_2)
            (try rw [Addr.add_zero'] at hx163_2)
            (try rw [show ((0 : Int)).toNat = 0 from rfl] at hx163_3)
            (try rw [show 0 * 5 = 0 from rfl] at hx163_3)
            (try rw [Addr.add_zero'] at hx163_3)
            (try rw [show ((0 : Int)).toNat = 0 from rfl] at hx163_4)
            (try rw [show 0 * 5 = 0 from rfl] at hx163_4)
            (try rw [Addr.add_zero'] at hx163_4)
            replace hx163_0 := (HB.out.cell (World.block_lt_of_cell? w _ hx163_0)).trans hx163_0
            replace hx163_1 := (HB.out.cell (World.block_lt_of_cell? w _ hx163_1)).trans hx163_1
            replace hx163_2 := (HB.out.cell (World.block_lt_of_cell? w _ hx163_2)).trans hx163_2
            replace hx163_3 := (HB.out.cell (World.block_lt_of_cell? w _ hx163_3)).trans hx163_3
            replace hx163_4 := (HB.out.cell (World.block_lt_of_cell? w _ hx163_4)).trans hx163_4
            replace p163 := eq_true p163
            replace q163 := eq_true q163
            refine start_ (n := 36) (S := fun w' => w'.cell? (ad158.add ((x3_1).toNat * 5)) = some (.int .i64 ((rd_T59 l0 x3_1).f0)) ∧ w'.cell? ⟨(ad158.add ((x3_1).toNat * 5)).block,(ad158.add ((x3_1).toNat * 5)).off + 1,none⟩ = some (.int .i64 ((rd_T59 l0 x3_1).f1)) ∧ w'.cell? ⟨(ad158.add ((x3_1).toNat * 5)).block,(ad158.add ((x3_1).toNat * 5)).off + 2,none⟩ = some (.int .i64 ((rd_T59 l0 x3_1).f2)) ∧ w'.cell? ⟨(ad158.add ((x3_1).toNat * 5)).block,(ad158.add ((x3_1).toNat * 5)).off + 3,none⟩ = some (.bool ((rd_T59 l0 x3_1).f3)) ∧ w'.cell? ⟨(ad158.add ((x3_1).toNat * 5)).block,(ad158.add ((x3_1).toNat * 5)).off + 4,none⟩ = some (.int .i64 ((rd_T59 l0 x3_1).f4)) ∧ w'.cell? (ad158.add ((x3_1).toNat * 5)) = some (.int .i64 ((rd_T59 l0 x3_1).f0)) ∧ w'.cell? ⟨(ad158.add ((x3_1).toNat * 5)).block,(ad158.add ((x3_1).toNat * 5)).off + 1,none⟩ = some (.int .i64 ((rd_T59 l0 x3_1).f1)) ∧ w'.cell? ⟨(ad158.add ((x3_1).toNat * 5)).block,(ad158.add ((x3_1).toNat * 5)).off + 2,none⟩ = some (.int .i64 ((rd_T59 l0 x3_1).f2)) ∧ w'.cell? ⟨(ad158.add ((x3_1).toNat * 5)).block,(ad158.add ((x3_1).toNat * 5)).off + 3,none⟩ = some (.bool ((rd_T59 l0 x3_1).f3)) ∧ w'.cell? ⟨(ad158.add ((x3_1).toNat * 5)).block,(ad158.add ((x3_1).toNat * 5)).off + 4,none⟩ = some (.int .i64 ((rd_T59 l0 x3_1).f4)) ∧ w'.cell? (ad158.add (((ji7)).toNat * 5)) = some (.int .i64 ((rd_T59 l0 (ji7)).f0)) ∧ w'.cell? ⟨(ad158.add (((ji7)).toNat * 5)).block,(ad158.add (((ji7)).toNat * 5)).off + 1,none⟩ = some (.int .i64 ((rd_T59 l0 (ji7)).f1)) ∧ w'.cell? ⟨(ad158.add (((ji7)).toNat * 5)).block,(ad158.add (((ji7)).toNat * 5)).off + 2,none⟩ = some (.int .i64 ((rd_T59 l0 (ji7)).f2)) ∧ w'.cell? ⟨(ad158.add (((ji7)).toNat * 5)).block,(ad158.add (((ji7)).toNat * 5)).off + 3,none⟩ = some (.bool ((rd_T59 l0 (ji7)).f3)) ∧ w'.cell? ⟨(ad158.add (((ji7)).toNat * 5)).block,(ad158.add (((ji7)).toNat * 5)).off + 4,none⟩ = some (.int .i64 ((rd_T59 l0 (ji7)).f4)) ∧ w'.cell? (ad158.add ((x3_1).toNat * 5)) = some (.int .i64 ((rd_T59 l0 x3_1).f0)) ∧ w'.cell? ⟨(ad158.add ((x3_1).toNat * 5)).block,(ad158.add ((x3_1).toNat * 5)).off + 1,none⟩ = some (.int .i64 ((rd_T59 l0 x3_1).f1)) ∧ w'.cell? ⟨(ad158.add ((x3_1).toNat * 5)).block,(ad158.add ((x3_1).toNat * 5)).off + 2,none⟩ = some (.int .i64 ((rd_T59 l0 x3_1).f2)) ∧ w'.cell? ⟨(ad158.add ((x3_1).toNat * 5)).block,(ad158.add ((x3_1).toNat * 5)).off + 3,none⟩ = some (.bool ((rd_T59 l0 x3_1).f3)) ∧ w'.cell? ⟨(ad158.add ((x3_1).toNat * 5)).block,(ad158.add ((x3_1).toNat * 5)).off + 4,none⟩ = some (.int .i64 ((rd_T59 l0 x3_1).f4)) ∧ w'.cell? ad158 = some (.int .i64 ((rd_T59 l0 0).f0)) ∧ w'.cell? ⟨ad158.block,ad158.off + 1,none⟩ = some (.int .i64 ((rd_T59 l0 0).f1)) ∧ w'.cell? ⟨ad158.block,ad158.off + 2,none⟩ = some (.int .i64 ((rd_T59 l0 0).f2)) ∧ w'.cell? ⟨ad158.block,ad158.off + 3,none⟩ = some (.bool ((rd_T59 l0 0).f3)) ∧ w'.cell? ⟨ad158.block,ad158.off + 4,none⟩ = some (.int .i64 ((rd_T59 l0 0).f4))) (ds := []) #[false,false,false,false,false,false,false,false,false,false,false,false,false,false,false,false,false,false,false,false,false,false,false,false,false,false,false,false,false,false,false,false,false,false,false,false] (by kernel_rfl) rfl rfl ⟨((HB.out.cell (World.block_lt_of_cell? w _ hw158_0)).trans hw158_0),((HB.out.cell (World.block_lt_of_cell? w _ hw158_1)).trans hw158_1),((HB.out.cell (World.block_lt_of_cell? w _ hw158_2)).trans hw158_2),((HB.out.cell (World.block_lt_of_cell? w _ hw158_3)).trans hw158_3),((HB.out.cell (World.block_lt_of_cell? w _ hw158_4)).trans hw158_4),((HB.out.cell (World.block_lt_of_cell? w _ hw160_0)).trans hw160_0),((HB.out.cell (World.block_lt_of_cell? w _ hw160_1)).trans hw160_1),((HB.out.cell (World.block_lt_of_cell? w _ hw160_2)).trans hw160_2),((HB.out.cell (World.block_lt_of_cell? w _ hw160_3)).trans hw160_3),((HB.out.cell (World.block_lt_of_cell? w _ hw160_4)).trans hw160_4),((HB.out.cell (World.block_lt_of_cell? w _ hw161_0)).trans hw161_0),((HB.out.cell (World.block_lt_of_cell? w _ hw161_1)).trans hw161_1),((HB.out.cell (World.block_lt_of_cell? w _ hw161_2)).trans hw161_2),((HB.out.cell (World.block_lt_of_cell? w _ hw161_3)).trans hw161_3),((HB.out.cell (World.block_lt_of_cell? w _ hw161_4)).trans hw161_4),((HB.out.cell (World.block_lt_of_cell? w _ hw162_0)).trans hw162_0),((HB.out.cell (World.block_lt_of_cell? w _ hw162_1)).trans hw162_1),((HB.out.cell (World.block_lt_of_cell? w _ hw162_2)).trans hw162_2),((HB.out.cell (World.block_lt_of_cell? w _ hw162_3)).trans hw162_3),((HB.out.cell (World.block_lt_of_cell? w _ hw162_4)).trans hw162_4),((HB.out.cell (World.block_lt_of_cell? w _ hw163_0)).trans hw163_0),((HB.out.cell (World.block_lt_of_cell? w _ hw163_1)).trans hw163_1),((HB.out.cell (World.block_lt_of_cell? w _ hw163_2)).trans hw163_2),((HB.out.cell (World.block_lt_of_cell? w _ hw163_3)).trans hw163_3),((HB.out.cell (World.block_lt_of_cell? w _ hw163_4)).trans hw163_4)⟩ (fun hHeld => ?_);refine with_tabW spec_l2Sets.tab4 spec_l2Sets.bits4 (fun HT_ HW_ => ?_)
            generalize wr.drew = w17 at HB hx158_0 hx158_1 hx158_2 hx158_3 hx158_4 hx160_0 hx160_1 hx160_2 hx160_3 hx160_4 hx161_0 hx161_1 hx161_2 hx161_3 hx161_4 hx162_0 hx162_1 hx162_2 hx162_3 hx162_4 hx163_0 hx163_1 hx163_2 hx163_3 hx163_4 hHeld ⊢
            refine pw_ 0 (some 10) HT_.out ?_
            refine pw_ 1 (some 11) HT_.out ?_
            refine pw_ 2 (some 12) HT_.out ?_
            refine tw_ 3 (some 13) HT_.out HW_.out hHeld rfl rfl (by rintro w' ⟨s0,s1,s2,s3,s4,s5,s6,s7,s8,s9,s10,s11,s12,s13,s14,s15,s16,s17,s18,s19,s20,s21,s22,s23,s24⟩;go_simp;with_reducible rfl) ?_
            refine oz_ (i := 4) (N := some 14) HT_.out rfl rfl (by kernel_rfl) (by decide) (fun K hK => ?_)
            refine goes_ Try.func112 (by kernel_rfl) rfl #[.agg #[.int .i64 ((rd_T59 l0 x3_1).f0),.int .i64 ((rd_T59 l0 x3_1).f1),.int .i64 ((rd_T59 l0 x3_1).f2),.bool ((rd_T59 l0 x3_1).f3),.int .i64 ((rd_T59 l0 x3_1).f4)]] (by rfl) rfl rfl (by (try simp only [List.map_toArray,List.map_cons,List.map_nil]);first|done|rfl|(simp only [List.length_drop,List.length_take];rfl)) ?_
            with_reducible refine (spec_SetOk.calls ((rd_T59 l0 x3_1).f0) ((rd_T59 l0 x3_1).f1) ((rd_T59 l0 x3_1).f2) ((rd_T59 l0 x3_1).f3) ((rd_T59 l0 x3_1).f4) true _ A4.out).mono ?_
            rintro e w18 ⟨rfl,hb⟩
            refine ⟨_,rfl,?_⟩
            have n0_ := Aside0.mk (below_step (by repeat (first|(with_reducible first|exact HB.out|apply below_alloc|apply pw_below_drewN|apply below_drew1)|exact HB.out)) hb)
            clear HB
            have HB := n0_
            clear n0_
            (try clear hb)
            (try clear hb2)
            (try clear hk)
            (try clear hi)
            refine hK.out _ _ ⟨((HB.out.cell (World.block_lt_of_cell? w _ hw158_0)).trans hw158_0),((HB.out.cell (World.block_lt_of_cell? w _ hw158_1)).trans hw158_1),((HB.out.cell (World.block_lt_of_cell? w _ hw158_2)).trans hw158_2),((HB.out.cell (World.block_lt_of_cell? w _ hw158_3)).trans hw158_3),((HB.out.cell (World.block_lt_of_cell? w _ hw158_4)).trans hw158_4),((HB.out.cell (World.block_lt_of_cell? w _ hw160_0)).trans hw160_0),((HB.out.cell (World.block_lt_of_cell? w _ hw160_1)).trans hw160_1),((HB.out.cell (World.block_lt_of_cell? w _ hw160_2)).trans hw160_2),((HB.out.cell (World.block_lt_of_cell? w _ hw160_3)).trans hw160_3),((HB.out.cell (World.block_lt_of_cell? w _ hw160_4)).trans hw160_4),((HB.out.cell (World.block_lt_of_cell? w _ hw161_0)).trans hw161_0),((HB.out.cell (World.block_lt_of_cell? w _ hw161_1)).trans hw161_1),((HB.out.cell (World.block_lt_of_cell? w _ hw161_2)).trans hw161_2),((HB.out.cell (World.block_lt_of_cell? w _ hw161_3)).trans hw161_3),((HB.out.cell (World.block_lt_of_cell? w _ hw161_4)).trans hw161_4),((HB.out.cell (World.block_lt_of_cell? w _ hw162_0)).trans hw162_0),((HB.out.cell (World.block_lt_of_cell? w _ hw162_1)).trans hw162_1),((HB.out.cell (World.block_lt_of_cell? w _ hw162_2)).trans hw162_2),((HB.out.cell (World.block_lt_of_cell? w _ hw162_3)).trans hw162_3),((HB.out.cell (World.block_lt_of_cell? w _ hw162_4)).trans hw162_4),((HB.out.cell (World.block_lt_of_cell? w _ hw163_0)).trans hw163_0),((HB.out.cell (World.block_lt_of_cell? w _ hw163_1)).trans hw163_1),((HB.out.cell (World.block_lt_of_cell? w _ hw163_2)).trans hw163_2),((HB.out.cell (World.block_lt_of_cell? w _ hw163_3)).trans hw163_3),((HB.out.cell (World.block_lt_of_cell? w _ hw163_4)).trans hw163_4)⟩ (fun hHeld => ?_)
            clear hK K
            refine norm_ (a' := ?_) ?_ ?_
            rotate_left
            ·show Act.put _ (some 14) _ = _
             simp only [Act.put,q1,q2,q3,i64_w,i32_w]
             rfl
            refine pw_ 5 (some 15) HT_.out ?_
            refine pw_ 6 (some 16) HT_.out ?_
            refine pw_ 7 (some 17) HT_.out ?_
            refine pw_ 8 (some 18) HT_.out ?_
            refine pw_ 9 (some 19) HT_.out ?_
            refine pw_ 10 (some 20) HT_.out ?_
            refine pw_ 11 (some 21) HT_.out ?_
            refine pw_ 12 (some 22) HT_.out ?_
            refine pw_ 13 (some 23) HT_.out ?_
            refine pw_ 15 (some 25) HT_.out ?_
            refine pw_ 16 (some 26) HT_.out ?_
            refine pw_ 17 (some 27) HT_.out ?_
            refine pw_ 18 (some 28) HT_.out ?_
            refine pw_ 19 (some 29) HT_.out ?_
            refine tw_ 14 (some 24) HT_.out HW_.out hHeld rfl rfl (by rintro w' ⟨s0,s1,s2,s3,s4,s5,s6,s7,s8,s9,s10,s11,s12,s13,s14,s15,s16,s17,s18,s19,s20,s21,s22,s23,s24⟩;go_simp;with_reducible rfl) ?_
            refine tw_ 20 (some 30) HT_.out HW_.out hHeld rfl rfl (by rintro w' ⟨s0,s1,s2,s3,s4,s5,s6,s7,s8,s9,s10,s11,s12,s13,s14,s15,s16,s17,s18,s19,s20,s21,s22,s23,s24⟩;go_simp;with_reducible rfl) ?_
            refine pw_ 21 (some 31) HT_.out ?_
            refine pw_ 22 (some 32) HT_.out ?_
            refine pw_ 23 (some 33) HT_.out ?_
            refine pw_ 24 (some 34) HT_.out ?_
            refine pw_ 25 (some 35) HT_.out ?_
            refine pw_ 26 (some 36) HT_.out ?_
            refine pw_ 28 (some 38) HT_.out ?_
            refine pw_ 29 (some 39) HT_.out ?_
            refine pw_ 30 (some 40) HT_.out ?_
            refine tw_ 27 (some 37) HT_.out HW_.out hHeld rfl rfl (by rintro w' ⟨s0,s1,s2,s3,s4,s5,s6,s7,s8,s9,s10,s11,s12,s13,s14,s15,s16,s17,s18,s19,s20,s21,s22,s23,s24⟩;go_simp;with_reducible rfl) ?_
            refine tw_ 31 (some 41) HT_.out HW_.out hHeld rfl rfl (by rintro w' ⟨s0,s1,s2,s3,s4,s5,s6,s7,s8,s9,s10,s11,s12,s13,s14,s15,s16,s17,s18,s19,s20,s21,s22,s23,s24⟩;go_simp;with_reducible rfl) ?_
            refine pw_ 32 (some 42) HT_.out ?_
            refine pw_ 33 (some 43) HT_.out ?_
            refine pw_ 34 (some 44) HT_.out ?_
            refine pw_ 35 (some 45) HT_.out ?_
            refine done_ (done_of HT_.out (by kernel_rfl)) ?_
            try go_wp2
            go_ret
            exact ⟨by first|rfl|(simp [errW_none,errW_some] <;> rfl)|(simp only [← hji7];first|rfl|(simp [errW_none,errW_some] <;> rfl))|(simp [*,errW_none,errW_some] <;> rfl),by repeat (first|(with_reducible first|exact HB.out|apply below_alloc|apply pw_below_drewN|apply below_drew1)|exact HB.out)⟩
          ·rw [if_neg c13] at H
           exact absurd H (by simp)
        ·rw [if_neg c9] at H
         exact absurd H (by simp)
       ·rw [if_neg c8] at H
        exact absurd H (by simp)
      ·rw [if_neg c6] at H
       have c6b0 : decide (0 < x3_1) = false := decide_eq_false c6
       clear c6
       have H' := Aside0.mk H
       clear H
       try go_wp2
       have n0_ := Aside0.mk (below_drew1 HB.out)
       clear HB
       have HB := n0_
       clear n0_
       have p158 : 0 ≤ (x3_1 : Int) := of_decide_eq_true (by first|(with_reducible assumption)|assumption)
       have q158 : x3_1 < (l0.length : Int) := of_decide_eq_true (by first|(with_reducible assumption)|assumption)
       obtain ⟨ad158,e158,hx158_0,hx158_1,hx158_2,hx158_3,hx158_4⟩ := at_T59 HR0.out x3_1 p158 q158
       have hw158_4 := hx158_4
       have hw158_3 := hx158_3
       have hw158_2 := hx158_2
       have hw158_1 := hx158_1
       have hw158_0 := hx158_0
       cases e158
       replace hx158_0 := (HB.out.cell (World.block_lt_of_cell? w _ hx158_0)).trans hx158_0
       replace hx158_1 := (HB.out.cell (World.block_lt_of_cell? w _ hx158_1)).trans hx158_1
       replace hx158_2 := (HB.out.cell (World.block_lt_of_cell? w _ hx158_2)).trans hx158_2
       replace hx158_3 := (HB.out.cell (World.block_lt_of_cell? w _ hx158_3)).trans hx158_3
       replace hx158_4 := (HB.out.cell (World.block_lt_of_cell? w _ hx158_4)).trans hx158_4
       replace p158 := eq_true p158
       replace q158 := eq_true q158
       refine start_ (n := 36) (S := fun w' => w'.cell? (ad158.add ((x3_1).toNat * 5)) = some (.int .i64 ((rd_T59 l0 x3_1).f0)) ∧ w'.cell? ⟨(ad158.add ((x3_1).toNat * 5)).block,(ad158.add ((x3_1).toNat * 5)).off + 1,none⟩ = some (.int .i64 ((rd_T59 l0 x3_1).f1)) ∧ w'.cell? ⟨(ad158.add ((x3_1).toNat * 5)).block,(ad158.add ((x3_1).toNat * 5)).off + 2,none⟩ = some (.int .i64 ((rd_T59 l0 x3_1).f2)) ∧ w'.cell? ⟨(ad158.add ((x3_1).toNat * 5)).block,(ad158.add ((x3_1).toNat * 5)).off + 3,none⟩ = some (.bool ((rd_T59 l0 x3_1).f3)) ∧ w'.cell? ⟨(ad158.add ((x3_1).toNat * 5)).block,(ad158.add ((x3_1).toNat * 5)).off + 4,none⟩ = some (.int .i64 ((rd_T59 l0 x3_1).f4))) (ds := []) #[false,false,false,false,false,false,false,false,false,false,false,false,false,false,false,false,false,false,false,false,false,false,false,false,false,false,false,false,false,false,false,false,false,false,false,false] (by kernel_rfl) rfl rfl ⟨((HB.out.cell (World.block_lt_of_cell? w _ hw158_0)).trans hw158_0),((HB.out.cell (World.block_lt_of_cell? w _ hw158_1)).trans hw158_1),((HB.out.cell (World.block_lt_of_cell? w _ hw158_2)).trans hw158_2),((HB.out.cell (World.block_lt_of_cell? w _ hw158_3)).trans hw158_3),((HB.out.cell (World.block_lt_of_cell? w _ hw158_4)).trans hw158_4)⟩ (fun hHeld => ?_);refine with_tabW spec_l2Sets.tab4 spec_l2Sets.bits4 (fun HT_ HW_ => ?_)
       generalize wr.drew = w19 at HB hx158_0 hx158_1 hx158_2 hx158_3 hx158_4 hHeld ⊢
       refine pw_ 0 (some 10) HT_.out ?_
       refine pw_ 1 (some 11) HT_.out ?_
       refine pw_ 2 (some 12) HT_.out ?_
       refine tw_ 3 (some 13) HT_.out HW_.out hHeld rfl rfl (by rintro w' ⟨s0,s1,s2,s3,s4⟩;go_simp;with_reducible rfl) ?_
       refine oz_ (i := 4) (N := some 14) HT_.out rfl rfl (by kernel_rfl) (by decide) (fun K hK => ?_)
       refine goes_ Try.func112 (by kernel_rfl) rfl #[.agg #[.int .i64 ((rd_T59 l0 x3_1).f0),.int .i64 ((rd_T59 l0 x3_1).f1),.int .i64 ((rd_T59 l0 x3_1).f2),.bool ((rd_T59 l0 x3_1).f3),.int .i64 ((rd_T59 l0 x3_1).f4)]] (by rfl) rfl rfl (by (try simp only [List.map_toArray,List.map_cons,List.map_nil]);first|done|rfl|(simp only [List.length_drop,List.length_take];rfl)) ?_
       with_reducible refine (spec_SetOk.calls ((rd_T59 l0 x3_1).f0) ((rd_T59 l0 x3_1).f1) ((rd_T59 l0 x3_1).f2) ((rd_T59 l0 x3_1).f3) ((rd_T59 l0 x3_1).f4) true _ A4.out).mono ?_
       rintro e w20 ⟨rfl,hb⟩
       refine ⟨_,rfl,?_⟩
       have n0_ := Aside0.mk (below_step (by repeat (first|(with_reducible first|exact HB.out|apply below_alloc|apply pw_below_drewN|apply below_drew1)|exact HB.out)) hb)
       clear HB
       have HB := n0_
       clear n0_
       (try clear hb)
       (try clear hb2)
       (try clear hk)
       (try clear hi)
       refine hK.out _ _ ⟨((HB.out.cell (World.block_lt_of_cell? w _ hw158_0)).trans hw158_0),((HB.out.cell (World.block_lt_of_cell? w _ hw158_1)).trans hw158_1),((HB.out.cell (World.block_lt_of_cell? w _ hw158_2)).trans hw158_2),((HB.out.cell (World.block_lt_of_cell? w _ hw158_3)).trans hw158_3),((HB.out.cell (World.block_lt_of_cell? w _ hw158_4)).trans hw158_4)⟩ (fun hHeld => ?_)
       clear hK K
       refine norm_ (a' := ?_) ?_ ?_
       rotate_left
       ·show Act.put _ (some 14) _ = _
        simp only [Act.put,q1,q2,q3,i64_w,i32_w]
        rfl
       refine pw_ 5 (some 15) HT_.out ?_
       refine pw_ 6 (some 16) HT_.out ?_
       refine pw_ 7 (some 17) HT_.out ?_
       refine pw_ 8 (some 18) HT_.out ?_
       refine pw_ 9 (some 19) HT_.out ?_
       refine pu_ 10 (some 20) HT_.out ?_
       refine pu_ 11 (some 21) HT_.out ?_
       refine pu_ 12 (some 22) HT_.out ?_
       refine pu_ 13 (some 23) HT_.out ?_
       refine pu_ 14 (some 24) HT_.out ?_
       refine pu_ 15 (some 25) HT_.out ?_
       refine pu_ 16 (some 26) HT_.out ?_
       refine pu_ 17 (some 27) HT_.out ?_
       refine pu_ 18 (some 28) HT_.out ?_
       refine pu_ 19 (some 29) HT_.out ?_
       refine pu_ 20 (some 30) HT_.out ?_
       refine pu_ 21 (some 31) HT_.out ?_
       refine pu_ 22 (some 32) HT_.out ?_
       refine pu_ 23 (some 33) HT_.out ?_
       refine pu_ 24 (some 34) HT_.out ?_
       refine pu_ 25 (some 35) HT_.out ?_
       refine pu_ 26 (some 36) HT_.out ?_
       refine pu_ 27 (some 37) HT_.out ?_
       refine pu_ 28 (some 38) HT_.out ?_
       refine pu_ 29 (some 39) HT_.out ?_
       refine pu_ 30 (some 40) HT_.out ?_
       refine pu_ 31 (some 41) HT_.out ?_
       refine pu_ 32 (some 42) HT_.out ?_
       refine pu_ 33 (some 43) HT_.out ?_
       refine pw_ 34 (some 44) HT_.out ?_
       refine pw_ 35 (some 45) HT_.out ?_
       refine done_ (done_of HT_.out (by kernel_rfl)) ?_
       try go_wp2
       go_roundg k1
       case measure => have := HK1.out;omega
       case rel => exact ⟨(wrap64 (x3_1 + 1)),(by first|rfl|(simp;done)|(simp [*];done)),H',⟨by have := HK1.out;omega⟩,⟨by repeat (first|(with_reducible first|exact HB.out|apply below_alloc|apply pw_below_drewN|apply below_drew1)|exact HB.out)⟩⟩
     ·replace c5 := Bool.eq_false_iff.mpr c5
      subst c5
      have H1 : (some false) = some r := by rw [if_neg (show ¬ (false = true) by decide)] at H;exact H
      clear H
      have H := H1
      clear H1
      obtain rfl := Option.some.inj H
      try go_wp2
      have n0_ := Aside0.mk (below_drew1 HB.out)
      clear HB
      have HB := n0_
      clear n0_
      have p158 : 0 ≤ (x3_1 : Int) := of_decide_eq_true (by first|(with_reducible assumption)|assumption)
      have q158 : x3_1 < (l0.length : Int) := of_decide_eq_true (by first|(with_reducible assumption)|assumption)
      obtain ⟨ad158,e158,hx158_0,hx158_1,hx158_2,hx158_3,hx158_4⟩ := at_T59 HR0.out x3_1 p158 q158
      have hw158_4 := hx158_4
      have hw158_3 := hx158_3
      have hw158_2 := hx158_2
      have hw158_1 := hx158_1
      have hw158_0 := hx158_0
      cases e158
      replace hx158_0 := (HB.out.cell (World.block_lt_of_cell? w _ hx158_0)).trans hx158_0
      replace hx158_1 := (HB.out.cell (World.block_lt_of_cell? w _ hx158_1)).trans hx158_1
      replace hx158_2 := (HB.out.cell (World.block_lt_of_cell? w _ hx158_2)).trans hx158_2
      replace hx158_3 := (HB.out.cell (World.block_lt_of_cell? w _ hx158_3)).trans hx158_3
      replace hx158_4 := (HB.out.cell (World.block_lt_of_cell? w _ hx158_4)).trans hx158_4
      replace p158 := eq_true p158
      replace q158 := eq_true q158
      refine start_ (n := 36) (S := fun w' => w'.cell? (ad158.add ((x3_1).toNat * 5)) = some (.int .i64 ((rd_T59 l0 x3_1).f0)) ∧ w'.cell? ⟨(ad158.add ((x3_1).toNat * 5)).block,(ad158.add ((x3_1).toNat * 5)).off + 1,none⟩ = some (.int .i64 ((rd_T59 l0 x3_1).f1)) ∧ w'.cell? ⟨(ad158.add ((x3_1).toNat * 5)).block,(ad158.add ((x3_1).toNat * 5)).off + 2,none⟩ = some (.int .i64 ((rd_T59 l0 x3_1).f2)) ∧ w'.cell? ⟨(ad158.add ((x3_1).toNat * 5)).block,(ad158.add ((x3_1).toNat * 5)).off + 3,none⟩ = some (.bool ((rd_T59 l0 x3_1).f3)) ∧ w'.cell? ⟨(ad158.add ((x3_1).toNat * 5)).block,(ad158.add ((x3_1).toNat * 5)).off + 4,none⟩ = some (.int .i64 ((rd_T59 l0 x3_1).f4))) (ds := []) #[false,false,false,false,false,false,false,false,false,false,false,false,false,false,false,false,false,false,false,false,false,false,false,false,false,false,false,false,false,false,false,false,false,false,false,false] (by kernel_rfl) rfl rfl ⟨((HB.out.cell (World.block_lt_of_cell? w _ hw158_0)).trans hw158_0),((HB.out.cell (World.block_lt_of_cell? w _ hw158_1)).trans hw158_1),((HB.out.cell (World.block_lt_of_cell? w _ hw158_2)).trans hw158_2),((HB.out.cell (World.block_lt_of_cell? w _ hw158_3)).trans hw158_3),((HB.out.cell (World.block_lt_of_cell? w _ hw158_4)).trans hw158_4)⟩ (fun hHeld => ?_);refine with_tabW spec_l2Sets.tab4 spec_l2Sets.bits4 (fun HT_ HW_ => ?_)
      generalize wr.drew = w21 at HB hx158_0 hx158_1 hx158_2 hx158_3 hx158_4 hHeld ⊢
      refine pw_ 0 (some 10) HT_.out ?_
      refine pw_ 1 (some 11) HT_.out ?_
      refine pw_ 2 (some 12) HT_.out ?_
      refine tw_ 3 (some 13) HT_.out HW_.out hHeld rfl rfl (by rintro w' ⟨s0,s1,s2,s3,s4⟩;go_simp;with_reducible rfl) ?_
      refine oz_ (i := 4) (N := some 14) HT_.out rfl rfl (by kernel_rfl) (by decide) (fun K hK => ?_)
      refine goes_ Try.func112 (by kernel_rfl) rfl #[.agg #[.int .i64 ((rd_T59 l0 x3_1).f0),.int .i64 ((rd_T59 l0 x3_1).f1),.int .i64 ((rd_T59 l0 x3_1).f2),.bool ((rd_T59 l0 x3_1).f3),.int .i64 ((rd_T59 l0 x3_1).f4)]] (by rfl) rfl rfl (by (try simp only [List.map_toArray,List.map_cons,List.map_nil]);first|done|rfl|(simp only [List.length_drop,List.length_take];rfl)) ?_
      with_reducible refine (spec_SetOk.calls ((rd_T59 l0 x3_1).f0) ((rd_T59 l0 x3_1).f1) ((rd_T59 l0 x3_1).f2) ((rd_T59 l0 x3_1).f3) ((rd_T59 l0 x3_1).f4) false _ A4.out).mono ?_
      rintro e w22 ⟨rfl,hb⟩
      refine ⟨_,rfl,?_⟩
      have n0_ := Aside0.mk (below_step (by repeat (first|(with_reducible first|exact HB.out|apply below_alloc|apply pw_below_drewN|apply below_drew1)|exact HB.out)) hb)
      clear HB
      have HB := n0_
      clear n0_
      (try clear hb)
      (try clear hb2)
      (try clear hk)
      (try clear hi)
      refine hK.out _ _ ⟨((HB.out.cell (World.block_lt_of_cell? w _ hw158_0)).trans hw158_0),((HB.out.cell (World.block_lt_of_cell? w _ hw158_1)).trans hw158_1),((HB.out.cell (World.block_lt_of_cell? w _ hw158_2)).trans hw158_2),((HB.out.cell (World.block_lt_of_cell? w _ hw158_3)).trans hw158_3),((HB.out.cell (World.block_lt_of_cell? w _ hw158_4)).trans hw158_4)⟩ (fun hHeld => ?_)
      clear hK K
      refine norm_ (a' := ?_) ?_ ?_
      rotate_left
      ·show Act.put _ (some 14) _ = _
       simp only [Act.put,q1,q2,q3,i64_w,i32_w]
       rfl
      refine pw_ 5 (some 15) HT_.out ?_
      refine pw_ 6 (some 16) HT_.out ?_
      refine pu_ 7 (some 17) HT_.out ?_
      refine pu_ 8 (some 18) HT_.out ?_
      refine pu_ 9 (some 19) HT_.out ?_
      refine pu_ 10 (some 20) HT_.out ?_
      refine pu_ 11 (some 21) HT_.out ?_
      refine pu_ 12 (some 22) HT_.out ?_
      refine pu_ 13 (some 23) HT_.out ?_
      refine pu_ 14 (some 24) HT_.out ?_
      refine pu_ 15 (some 25) HT_.out ?_
      refine pu_ 16 (some 26) HT_.out ?_
      refine pu_ 17 (some 27) HT_.out ?_
      refine pu_ 18 (some 28) HT_.out ?_
      refine pu_ 19 (some 29) HT_.out ?_
      refine pu_ 20 (some 30) HT_.out ?_
      refine pu_ 21 (some 31) HT_.out ?_
      refine pu_ 22 (some 32) HT_.out ?_
      refine pu_ 23 (some 33) HT_.out ?_
      refine pu_ 24 (some 34) HT_.out ?_
      refine pu_ 25 (some 35) HT_.out ?_
      refine pu_ 26 (some 36) HT_.out ?_
      refine pu_ 27 (some 37) HT_.out ?_
      refine pu_ 28 (some 38) HT_.out ?_
      refine pu_ 29 (some 39) HT_.out ?_
      refine pu_ 30 (some 40) HT_.out ?_
      refine pu_ 31 (some 41) HT_.out ?_
      refine pu_ 32 (some 42) HT_.out ?_
      refine pu_ 33 (some 43) HT_.out ?_
      refine pu_ 34 (some 44) HT_.out ?_
      refine pw_ 35 (some 45) HT_.out ?_
      refine done_ (done_of HT_.out (by kernel_rfl)) ?_
      try go_wp2
      go_ret
      exact ⟨by first|rfl|(simp [errW_none,errW_some] <;> rfl)|(simp [*,errW_none,errW_some] <;> rfl),by repeat (first|(with_reducible first|exact HB.out|apply below_alloc|apply pw_below_drewN|apply below_drew1)|exact HB.out)⟩
    ·rw [if_neg c3] at H
     exact absurd H (by simp)
   ·rw [if_neg c2] at H
    have c2b0 : decide (x3_1 < (l0.length : Int)) = false := decide_eq_false c2
    clear c2
    obtain rfl := Option.some.inj H
    go_wp2
    go_ret
    exact ⟨by first|rfl|(simp [errW_none,errW_some] <;> rfl)|(simp [*,errW_none,errW_some] <;> rfl),by repeat (first|(with_reducible first|exact HB.out|apply below_alloc|apply pw_below_drewN|apply below_drew1)|exact HB.out)⟩

end Go.Proofs.Ytgdfbjmjgegicaa.XLs
