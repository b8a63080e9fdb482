/- Proved: of each Go function here that a call comes to what the Lean function of its name tells. Written by a program of this session over the translation. No conditions beyond each theorem's own. -/
import Derived.Test.YtgdfbjmjgegicaaXIs0
import Derived.Test.YtgdfbjmjgegicaaXIs2
namespace Go.Proofs.Ytgdfbjmjgegicaa.XIs
open Go.RowKit Go.Proofs.Ytgdfbjmjgegicaa.Aid Go.Proofs.YtgdfbjmjgegicaaW.PrintWords Go.Proofs.YtgdfbjmjgegicaaW.PrintLast Go.Proofs.YtgdfbjmjgegicaaW.PrintMore
set_option linter.unusedVariables false
set_option linter.unusedSimpArgs false

/-! ### spec_l2Sets: function 76 -/
def spec_l2Sets.l0 : Nat → List (S59) → Int → Option (Bool)
  | 0, _, _ => none
  | k + 1, x0, x3 => if x3 < (x0.length : Int) then (if 0 ≤ x3 then ((spec_SetOk.f ((rd_T59 x0 x3).f0) ((rd_T59 x0 x3).f1) ((rd_T59 x0 x3).f2) ((rd_T59 x0 x3).f3) ((rd_T59 x0 x3).f4)).bind fun t126 => (if t126 = true then (if x3 > 0 then (if 0 ≤ (wrap64 (x3 - 1)) then (if (wrap64 (x3 - 1)) < (x0.length : Int) then (if ((rd_T59 x0 x3).f1) ≤ ((rd_T59 x0 (wrap64 (x3 - 1))).f1) then (some false) else (if 0 < (x0.length : Int) then (if ((rd_T59 x0 x3).f0) = ((rd_T59 x0 0).f0) then (spec_l2Sets.l0 k x0 (wrap64 (x3 + 1))) else (some false)) else (none))) else (none)) else (none)) else (spec_l2Sets.l0 k x0 (wrap64 (x3 + 1)))) else (some false))) else (none)) else (some true)
def spec_l2Sets.f (k : Nat) (l0 : List (S59)) : Option (Bool) := spec_l2Sets.l0 k l0 0

def spec_l2Sets.T4 : Bool × List (List Nat × List Nat) := (true, [([], []), ([], []), ([0, 1], [0, 1]), ([2], [2]), ([3], [3]), ([4], [4]), ([5, 4], [5]), ([6], [6]), ([7, 6], [6, 7]), ([8, 6, 6], [6, 8]), ([9], [9]), ([9], [9]), ([10, 11, 9], [9, 10, 11]), ([12, 9], [9, 12]), ([13, 9], [9, 13]), ([9], [9]), ([9], [9]), ([16, 9], [9, 16]), ([15, 17, 9], [9, 15, 17]), ([18, 9], [9, 18]), ([19, 9], [9, 19]), ([14, 20, 9], [9, 14, 20]), ([21, 9, 9], [9, 21]), ([22], [22]), ([22], [22]), ([23, 24, 22], [22, 23, 24]), ([25, 22], [22, 25]), ([26, 22], [22, 26]), ([22], [22]), ([28, 22], [22, 28]), ([29, 22], [22, 29]), ([30, 22], [22, 30]), ([27, 31, 22], [22, 27, 31]), ([22, 32, 9], [9, 22, 32]), ([9, 33, 6], [6, 9, 33]), ([6, 34], [6, 34])])
def spec_l2Sets.B4 : List Nat := [0, 0, 3, 7, 15, 31, 63, 127, 255, 511, 1023, 1023, 4095, 8191, 16383, 1023, 1023, 66559, 230399, 492543, 1016831, 2097151, 4194303, 8388607, 8388607, 33554431, 67108863, 134217727, 8388607, 276824063, 813694975, 1887436799, 4294967295, 8589934591, 17179869183, 34359738367]
theorem spec_l2Sets.tab4 : rtab .any (opsOf Try.f76 4) = spec_l2Sets.T4 := by kernel_rfl
theorem spec_l2Sets.bits4 : waitsOk spec_l2Sets.T4.2 spec_l2Sets.B4 = true := by kernel_rfl
set_option maxHeartbeats 8000000 in
set_option maxRecDepth 100000 in
theorem spec_l2Sets.calls (k : Nat) (A0 : Option Addr) (c0 : Nat) (l0 : List (S59)) (r : Bool) (w : World) (hr0 : Kd.C k59 w A0 l0.length l0) (hc0 : l0.length ≤ c0) (h : spec_l2Sets.f k l0 = some r) :
    Calls Try.prog 76 #[.slice A0 l0.length c0] w fun e w' => e = .returned (.bool r) ∧ Below w.heap.size w w' := by
 have hu59 := Try.underlying59
 have HR0 := Aside0.mk hr0
 have HC0 := Aside0.mk hc0
 clear hr0 hc0
 have HB := Aside0.mk (Below.refl w.heap.size w)
 have H : (spec_l2Sets.l0 k l0 0) = some r := h
 clear h
 have H' := Aside0.mk H
 clear H
 go_enter Try.func76,Try.ntmps76
 go_wp2
 go_loopg [3] k (fun kq v3 w' => ∃ (x3_1 : Int),v3 = .int .i64 x3_1 ∧ Aside0 (spec_l2Sets.l0 kq l0 x3_1 = some r) ∧ Aside0 (kq ≤ k) ∧ Aside0 (Below w.heap.size w w'))
 case atStart => exact ⟨(0),(by first|rfl|(simp;done)|(simp [*];done)),H',⟨Nat.le_refl _⟩,⟨by repeat (first|(with_reducible first|exact HB.out|apply below_alloc|apply pw_below_drewN|apply below_drew1)|exact HB.out)⟩⟩
 case round =>
  clear H'
  obtain ⟨x3_1,rfl,HA,HK1,HB⟩ := hrel
  cases gk with
    | zero => exact absurd HA.out (by simp [spec_l2Sets.l0])
    | succ k1 =>
   have H := HA.out
   clear HA
   simp only [spec_l2Sets.l0] at H
   by_cases c2 : x3_1 < (l0.length : Int)
   ·rw [if_pos c2] at H
    have c2b0 : decide (x3_1 < (l0.length : Int)) = true := decide_eq_true c2
    clear c2
    by_cases c3 : 0 ≤ x3_1
    ·rw [if_pos c3] at H
     have c3b0 : decide (0 ≤ x3_1) = true := decide_eq_true c3
     clear c3
     replace H := Option.bind_eq_some_iff.mp H
     obtain ⟨t126,A40,H⟩ := H
     replace H : (if t126 = true then (if x3_1 > 0 then (if 0 ≤ (wrap64 (x3_1 - 1)) then (if (wrap64 (x3_1 - 1)) < (l0.length : Int) then (if ((rd_T59 l0 x3_1).f1) ≤ ((rd_T59 l0 (wrap64 (x3_1 - 1))).f1) then (some false) else (if 0 < (l0.length : Int) then (if ((rd_T59 l0 x3_1).f0) = ((rd_T59 l0 0).f0) then (spec_l2Sets.l0 k1 l0 (wrap64 (x3_1 + 1))) else (some false)) else (none))) else (none)) else (none)) else (spec_l2Sets.l0 k1 l0 (wrap64 (x3_1 + 1)))) else (some false)) = some r := H
     have A4 := Aside0.mk A40
     clear A40
     by_cases c5 : t126 = true
     ·subst c5
      have H1 : (if x3_1 > 0 then (if 0 ≤ (wrap64 (x3_1 - 1)) then (if (wrap64 (x3_1 - 1)) < (l0.length : Int) then (if ((rd_T59 l0 x3_1).f1) ≤ ((rd_T59 l0 (wrap64 (x3_1 - 1))).f1) then (some false) else (if 0 < (l0.length : Int) then (if ((rd_T59 l0 x3_1).f0) = ((rd_T59 l0 0).f0) then (spec_l2Sets.l0 k1 l0 (wrap64 (x3_1 + 1))) else (some false)) else (none))) else (none)) else (none)) else (spec_l2Sets.l0 k1 l0 (wrap64 (x3_1 + 1)))) = some r := by rw [if_pos rfl] at H;exact H
      clear H
      have H := H1
      clear H1
      by_cases c6 : x3_1 > 0
      ·rw [if_pos c6] at H
       have c6b0 : decide (0 < x3_1) = true := decide_eq_true c6
       clear c6
       obtain ⟨ji7,hji7⟩ : ∃ j_ : Int,(wrap64 (x3_1 - 1)) = j_ := ⟨_,rfl⟩
       replace H : (if 0 ≤ (ji7) then (if (ji7) < (l0.length : Int) then (if ((rd_T59 l0 x3_1).f1) ≤ ((rd_T59 l0 (ji7)).f1) then (some false) else (if 0 < (l0.length : Int) then (if ((rd_T59 l0 x3_1).f0) = ((rd_T59 l0 0).f0) then (spec_l2Sets.l0 k1 l0 (wrap64 (x3_1 + 1))) else (some false)) else (none))) else (none)) else (none)) = some r := by first|(rw [hji7] at H;exact H)|(simp only [hji7] at H ⊢;exact H)
       (try rw [hji7] at A4)
       have hji7w : (IntKind.i64.wrap (x3_1 - 1)) = ji7 := (i64_w _).trans hji7
       by_cases c8 : 0 ≤ (ji7)
       ·rw [if_pos c8] at H
        have c8b0 : decide (0 ≤ (ji7)) = true := decide_eq_true c8
        clear c8
        by_cases c9 : (ji7) < (l0.length : Int)
        ·rw [if_pos c9] at H
         have c9b0 : decide ((ji7) < (l0.length : Int)) = true := decide_eq_true c9
         clear c9
         by_cases c10 : ((rd_T59 l0 x3_1).f1) ≤ ((rd_T59 l0 (ji7)).f1)
         ·rw [if_pos c10] at H
          have c10b0 : decide (((rd_T59 l0 x3_1).f1) ≤ ((rd_T59 l0 (ji7)).f1)) = true := decide_eq_true c10
          clear c10
          obtain rfl := Option.some.inj H
          try go_wp2
          have n0_ := Aside0.mk (below_drew1 HB.out)
          clear HB
          have HB := n0_
          clear n0_
          have p125 : 0 ≤ (x3_1 : Int) := of_decide_eq_true (by first|(with_reducible assumption)|assumption)
          have q125 : x3_1 < (l0.length : Int) := of_decide_eq_true (by first|(with_reducible assumption)|assumption)
          obtain ⟨ad125,e125,hx125_0,hx125_1,hx125_2,hx125_3,hx125_4⟩ := at_T59 HR0.out x3_1 p125 q125
          have hw125_4 := hx125_4
          have hw125_3 := hx125_3
          have hw125_2 := hx125_2
          have hw125_1 := hx125_1
          have hw125_0 := hx125_0
          cases e125
          replace hx125_0 := (HB.out.cell (World.block_lt_of_cell? w _ hx125_0)).trans hx125_0
          replace hx125_1 := (HB.out.cell (World.block_lt_of_cell? w _ hx125_1)).trans hx125_1
          replace hx125_2 := (HB.out.cell (World.block_lt_of_cell? w _ hx125_2)).trans hx125_2
          replace hx125_3 := (HB.out.cell (World.block_lt_of_cell? w _ hx125_3)).trans hx125_3
          replace hx125_4 := (HB.out.cell (World.block_lt_of_cell? w _ hx125_4)).trans hx125_4
          replace p125 := eq_true p125
          replace q125 := eq_true q125
          have p127 : 0 ≤ (x3_1 : Int) := of_decide_eq_true (by first|(with_reducible assumption)|assumption)
          have q127 : x3_1 < (l0.length : Int) := of_decide_eq_true (by first|(with_reducible assumption)|assumption)
          obtain ⟨ad127,e127,hx127_0,hx127_1,hx127_2,hx127_3,hx127_4⟩ := at_T59 HR0.out x3_1 p127 q127
          have hw127_4 := hx127_4
          have hw127_3 := hx127_3
          have hw127_2 := hx127_2
          have hw127_1 := hx127_1
          have hw127_0 := hx127_0
          obtain rfl : ad125 = ad127 := (by injection e127)
          replace hx127_0 := (HB.out.cell (World.block_lt_of_cell? w _ hx127_0)).trans hx127_0
          replace hx127_1 := (HB.out.cell (World.block_lt_of_cell? w _ hx127_1)).trans hx127_1
          replace hx127_2 := (HB.out.cell (World.block_lt_of_cell? w _ hx127_2)).trans hx127_2
          replace hx127_3 := (HB.out.cell (World.block_lt_of_cell? w _ hx127_3)).trans hx127_3
          replace hx127_4 := (HB.out.cell (World.block_lt_of_cell? w _ hx127_4)).trans hx127_4
          replace p127 := eq_true p127
          replace q127 := eq_true q127
          have p128 : 0 ≤ ((ji7) : Int) := of_decide_eq_true (by first|(with_reducible assumption)|assumption)
          have q128 : (ji7) < (l0.length : Int) := of_decide_eq_true (by first|(with_reducible assumption)|assumption)
          obtain ⟨ad128,e128,hx128_0,hx128_1,hx128_2,hx128_3,hx128_4⟩ := at_T59 HR0.out (ji7) p128 q128
          have hw128_4 := hx128_4
          have hw128_3 := hx128_3
          have hw128_2 := hx128_2
          have hw128_1 := hx128_1
          have hw128_0 := hx128_0
          obtain rfl : ad125 = ad128 := (by injection e128)
          replace hx128_0 := (HB.out.cell (World.block_lt_of_cell? w _ hx128_0)).trans hx128_0
          replace hx128_1 := (HB.out.cell (World.block_lt_of_cell? w _ hx128_1)).trans hx128_1
          replace hx128_2 := (HB.out.cell (World.block_lt_of_cell? w _ hx128_2)).trans hx128_2
          replace hx128_3 := (HB.out.cell (World.block_lt_of_cell? w _ hx128_3)).trans hx128_3
          replace hx128_4 := (HB.out.cell (World.block_lt_of_cell? w _ hx128_4)).trans hx128_4
          replace p128 := eq_true p128
          replace q128 := eq_true q128
          refine start_ (n := 36) (S := fun w' => w'.cell? (ad125.add ((x3_1).toNat * 5)) = some (.int .i64 ((rd_T59 l0 x3_1).f0)) ∧ w'.cell? ⟨(ad125.add ((x3_1).toNat * 5)).block,(ad125.add ((x3_1).toNat * 5)).off + 1,none⟩ = some (.int .i64 ((rd_T59 l0 x3_1).f1)) ∧ w'.cell? ⟨(ad125.add ((x3_1).toNat * 5)).block,(ad125.add ((x3_1).toNat * 5)).off + 2,none⟩ = some (.int .i64 ((rd_T59 l0 x3_1).f2)) ∧ w'.cell? ⟨(ad125.add ((x3_1).toNat * 5)).block,(ad125.add ((x3_1).toNat * 5)).off + 3,none⟩ = some (.bool ((rd_T59 l0 x3_1).f3)) ∧ w'.cell? ⟨(ad125.add ((x3_1).toNat * 5)).block,(ad125.add ((x3_1).toNat * 5)).off + 4,none⟩ = some (.int .i64 ((rd_T59 l0 x3_1).f4)) ∧ w'.cell? (ad125.add ((x3_1).toNat * 5)) = some (.int .i64 ((rd_T59 l0 x3_1).f0)) ∧ w'.cell? ⟨(ad125.add ((x3_1).toNat * 5)).block,(ad125.add ((x3_1).toNat * 5)).off + 1,none⟩ = some (.int .i64 ((rd_T59 l0 x3_1).f1)) ∧ w'.cell? ⟨(ad125.add ((x3_1).toNat * 5)).block,(ad125.add ((x3_1).toNat * 5)).off + 2,none⟩ = some (.int .i64 ((rd_T59 l0 x3_1).f2)) ∧ w'.cell? ⟨(ad125.add ((x3_1).toNat * 5)).block,(ad125.add ((x3_1).toNat * 5)).off + 3,none⟩ = some (.bool ((rd_T59 l0 x3_1).f3)) ∧ w'.cell? ⟨(ad125.add ((x3_1).toNat * 5)).block,(ad125.add ((x3_1).toNat * 5)).off + 4,none⟩ = some (.int .i64 ((rd_T59 l0 x3_1).f4)) ∧ w'.cell? (ad125.add (((ji7)).toNat * 5)) = some (.int .i64 ((rd_T59 l0 (ji7)).f0)) ∧ w'.cell? ⟨(ad125.add (((ji7)).toNat * 5)).block,(ad125.add (((ji7)).toNat * 5)).off + 1,none⟩ = some (.int .i64 ((rd_T59 l0 (ji7)).f1)) ∧ w'.cell? ⟨(ad125.add (((ji7)).toNat * 5)).block,(ad125.add (((ji7)).toNat * 5)).off + 2,none⟩ = some (.int .i64 ((rd_T59 l0 (ji7)).f2)) ∧ w'.cell? ⟨(ad125.add (((ji7)).toNat * 5)).block,(ad125.add (((ji7)).toNat * 5)).off + 3,none⟩ = some (.bool ((rd_T59 l0 (ji7)).f3)) ∧ w'.cell? ⟨(ad125.add (((ji7)).toNat * 5)).block,(ad125.add (((ji7)).toNat * 5)).off + 4,none⟩ = some (.int .i64 ((rd_T59 l0 (ji7)).f4))) (ds := []) #[false,false,false,false,false,false,false,false,false,false,false,false,false,false,false,false,false,false,false,false,false,false,false,false,false,false,false,false,false,false,false,false,false,false,false,false] (by kernel_rfl) rfl rfl ⟨((HB.out.cell (World.block_lt_of_cell? w _ hw125_0)).trans hw125_0),((HB.out.cell (World.block_lt_of_cell? w _ hw125_1)).trans hw125_1),((HB.out.cell (World.block_lt_of_cell? w _ hw125_2)).trans hw125_2),((HB.out.cell (World.block_lt_of_cell? w _ hw125_3)).trans hw125_3),((HB.out.cell (World.block_lt_of_cell? w _ hw125_4)).trans hw125_4),((HB.out.cell (World.block_lt_of_cell? w _ hw127_0)).trans hw127_0),((HB.out.cell (World.block_lt_of_cell? w _ hw127_1)).trans hw127_1),((HB.out.cell (World.block_lt_of_cell? w _ hw127_2)).trans hw127_2),((HB.out.cell (World.block_lt_of_cell? w _ hw127_3)).trans hw127_3),((HB.out.cell (World.block_lt_of_cell? w _ hw127_4)).trans hw127_4),((HB.out.cell (World.block_lt_of_cell? w _ hw128_0)).trans hw128_0),((HB.out.cell (World.block_lt_of_cell? w _ hw128_1)).trans hw128_1),((HB.out.cell (World.block_lt_of_cell? w _ hw128_2)).trans hw128_2),((HB.out.cell (World.block_lt_of_cell? w _ hw128_3)).trans hw128_3),((HB.out.cell (World.block_lt_of_cell? w _ hw128_4)).trans hw128_4)⟩ (fun hHeld => ?_);refine with_tabW spec_l2Sets.tab4 spec_l2Sets.bits4 (fun HT_ HW_ => ?_)
          generalize wr.drew = w11 at HB hx125_0 hx125_1 hx125_2 hx125_3 hx125_4 hx127_0 hx127_1 hx127_2 hx127_3 hx127_4 hx128_0 hx128_1 hx128_2 hx128_3 hx128_4 hHeld ⊢
          refine pw_ 0 (some 10) HT_.out ?_
          refine pw_ 1 (some 11) HT_.out ?_
          refine pw_ 2 (some 12) HT_.out ?_
          refine tw_ 3 (some 13) HT_.out HW_.out hHeld rfl rfl (by rintro w' ⟨s0,s1,s2,s3,s4,s5,s6,s7,s8,s9,s10,s11,s12,s13,s14⟩;go_simp;with_reducible rfl) ?_
          refine oz_ (i := 4) (N := some 14) HT_.out rfl rfl (by kernel_rfl) (by decide) (fun K hK => ?_)
          refine goes_ Try.func112 (by kernel_rfl) rfl #[.agg #[.int .i64 ((rd_T59 l0 x3_1).f0),.int .i64 ((rd_T59 l0 x3_1).f1),.int .i64 ((rd_T59 l0 x3_1).f2),.bool ((rd_T59 l0 x3_1).f3),.int .i64 ((rd_T59 l0 x3_1).f4)]] (by rfl) rfl rfl (by (try simp only [List.map_toArray,List.map_cons,List.map_nil]);first|done|rfl|(simp only [List.length_drop,List.length_take];rfl)) ?_
          with_reducible refine (spec_SetOk.calls ((rd_T59 l0 x3_1).f0) ((rd_T59 l0 x3_1).f1) ((rd_T59 l0 x3_1).f2) ((rd_T59 l0 x3_1).f3) ((rd_T59 l0 x3_1).f4) true _ A4.out).mono ?_
          rintro e w12 ⟨rfl,hb⟩
          refine ⟨_,rfl,?_⟩
          have n0_ := Aside0.mk (below_step (by repeat (first|(with_reducible first|exact HB.out|apply below_alloc|apply pw_below_drewN|apply below_drew1)|exact HB.out)) hb)
          clear HB
          have HB := n0_
          clear n0_
          (try clear hb)
          (try clear hb2)
          (try clear hk)
          (try clear hi)
          refine hK.out _ _ ⟨((HB.out.cell (World.block_lt_of_cell? w _ hw125_0)).trans hw125_0),((HB.out.cell (World.block_lt_of_cell? w _ hw125_1)).trans hw125_1),((HB.out.cell (World.block_lt_of_cell? w _ hw125_2)).trans hw125_2),((HB.out.cell (World.block_lt_of_cell? w _ hw125_3)).trans hw125_3),((HB.out.cell (World.block_lt_of_cell? w _ hw125_4)).trans hw125_4),((HB.out.cell (World.block_lt_of_cell? w _ hw127_0)).trans hw127_0),((HB.out.cell (World.block_lt_of_cell? w _ hw127_1)).trans hw127_1),((HB.out.cell (World.block_lt_of_cell? w _ hw127_2)).trans hw127_2),((HB.out.cell (World.block_lt_of_cell? w _ hw127_3)).trans hw127_3),((HB.out.cell (World.block_lt_of_cell? w _ hw127_4)).trans hw127_4),((HB.out.cell (World.block_lt_of_cell? w _ hw128_0)).trans hw128_0),((HB.out.cell (World.block_lt_of_cell? w _ hw128_1)).trans hw128_1),((HB.out.cell (World.block_lt_of_cell? w _ hw128_2)).trans hw128_2),((HB.out.cell (World.block_lt_of_cell? w _ hw128_3)).trans hw128_3),((HB.out.cell (World.block_lt_of_cell? w _ hw128_4)).trans hw128_4)⟩ (fun hHeld => ?_)
          clear hK K
          refine norm_ (a' := ?_) ?_ ?_
          rotate_left
          ·show Act.put _ (some 14) _ = _
           simp only [Act.put,q1,q2,q3,i64_w,i32_w]
           rfl
          refine pw_ 5 (some 15) HT_.out ?_
          refine pw_ 6 (some 16) HT_.out ?_
          refine pw_ 7 (some 17) HT_.out ?_
          refine pw_ 8 (some 18) HT_.out ?_
          refine pw_ 9 (some 19) HT_.out ?_
          refine pw_ 10 (some 20) HT_.out ?_
          refine pw_ 11 (some 21) HT_.out ?_
          refine pw_ 12 (some 22) HT_.out ?_
          refine pw_ 13 (some 23) HT_.out ?_
          refine pw_ 15 (some 25) HT_.out ?_
          refine pw_ 16 (some 26) HT_.out ?_
          refine pw_ 17 (some 27) HT_.out ?_
          refine pw_ 18 (some 28) HT_.out ?_
          refine pw_ 19 (some 29) HT_.out ?_
          refine tw_ 14 (some 24) HT_.out HW_.out hHeld rfl rfl (by rintro w' ⟨s0,s1,s2,s3,s4,s5,s6,s7,s8,s9,s10,s11,s12,s13,s14⟩;go_simp;with_reducible rfl) ?_
          refine tw_ 20 (some 30) HT_.out HW_.out hHeld rfl rfl (by rintro w' ⟨s0,s1,s2,s3,s4,s5,s6,s7,s8,s9,s10,s11,s12,s13,s14⟩;go_simp;with_reducible rfl) ?_
          refine pw_ 21 (some 31) HT_.out ?_
          refine pw_ 22 (some 32) HT_.out ?_
          refine pu_ 23 (some 33) HT_.out ?_
          refine pu_ 24 (some 34) HT_.out ?_
          refine pu_ 25 (some 35) HT_.out ?_
          refine pu_ 26 (some 36) HT_.out ?_
          refine pu_ 27 (some 37) HT_.out ?_
          refine pu_ 28 (some 38) HT_.out ?_
          refine pu_ 29 (some 39) HT_.out ?_
          refine pu_ 30 (some 40) HT_.out ?_
          refine pu_ 31 (some 41) HT_.out ?_
          refine pu_ 32 (some 42) HT_.out ?_
          refine pw_ 33 (some 43) HT_.out ?_
          refine pw_ 34 (some 44) HT_.out ?_
          refine pw_ 35 (some 45) HT_.out ?_
          refine done_ (done_of HT_.out (by kernel_rfl)) ?_
          try go_wp2
          go_ret
          exact ⟨by first|rfl|(simp [errW_none,errW_some] <;> rfl)|(simp only [← hji7];first|rfl|(simp [errW_none,errW_some] <;> rfl))|(simp [*,errW_none,errW_some] <;> rfl),by repeat (first|(with_reducible first|exact HB.out|apply below_alloc|apply pw_below_drewN|apply below_drew1)|exact HB.out)⟩
         ·rw [if_neg c10] at H
          have c10b0 : decide (((rd_T59 l0 x3_1).f1) ≤ ((rd_T59 l0 (ji7)).f1)) = false := decide_eq_false c10
          clear c10
          by_cases c13 : 0 < (l0.length : Int)
          ·rw [if_pos c13] at H
           have c13b0 : decide (0 < (l0.length : Int)) = true := decide_eq_true c13
           have c13b1 : decide (0 < l0.length) = true := decide_eq_true (by omega)
           clear c13
           by_cases c14 : ((rd_T59 l0 x3_1).f0) = ((rd_T59 l0 0).f0)
           ·rw [if_pos c14] at H
            have c14b0 : (((rd_T59 l0 x3_1).f0) == ((rd_T59 l0 0).f0)) = true := beq_iff_eq.mpr c14
            have c14b1 : (((rd_T59 l0 x3_1).f0) != ((rd_T59 l0 0).f0)) = false := bne_eq_false_iff_eq.mpr c14
            clear c14
            have H' := Aside0.mk H
            clear H
            try go_wp2
            have n0_ := Aside0.mk (below_drew1 HB.out)
            clear HB
            have HB := n0_
            clear n0_
            have p125 : 0 ≤ (x3_1 : Int) := of_decide_eq_true (by first|(with_reducible assumption)|assumption)
            have q125 : x3_1 < (l0.length : Int) := of_decide_eq_true (by first|(with_reducible assumption)|assumption)
            obtain ⟨ad125,e125,hx125_0,hx125_1,hx125_2,hx125_3,hx125_4⟩ := at_T59 HR0.out x3_1 p125 q125
            have hw125_4 := hx125_4
            have hw125_3 := hx125_3
            have hw125_2 := hx125_2
            have hw125_1 := hx125_1
            have hw125_0 := hx125_0
            cases e125
            replace hx125_0 := (HB.out.cell (World.block_lt_of_cell? w _ hx125_0)).trans hx125_0
            replace hx125_1 := (HB.out.cell (World.block_lt_of_cell? w _ hx125_1)).trans hx125_1
            replace hx125_2 := (HB.out.cell (World.block_lt_of_cell? w _ hx125_2)).trans hx125_2
            replace hx125_3 := (HB.out.cell (World.block_lt_of_cell? w _ hx125_3)).trans hx125_3
            replace hx125_4 := (HB.out.cell (World.block_lt_of_cell? w _ hx125_4)).trans hx125_4
            replace p125 := eq_true p125
            replace q125 := eq_true q125
            have p127 : 0 ≤ (x3_1 : Int) := of_decide_eq_true (by first|(with_reducible assumption)|assumption)
            have q127 : x3_1 < (l0.length : Int) := of_decide_eq_true (by first|(with_reducible assumption)|assumption)
            obtain ⟨ad127,e127,hx127_0,hx127_1,hx127_2,hx127_3,hx127_4⟩ := at_T59 HR0.out x3_1 p127 q127
            have hw127_4 := hx127_4
            have hw127_3 := hx127_3
            have hw127_2 := hx127_2
            have hw127_1 := hx127_1
            have hw127_0 := hx127_0
            obtain rfl : ad125 = ad127 := (by injection e127)
            replace hx127_0 := (HB.out.cell (World.block_lt_of_cell? w _ hx127_0)).trans hx127_0
            replace hx127_1 := (HB.out.cell (World.block_lt_of_cell? w _ hx127_1)).trans hx127_1
            replace hx127_2 := (HB.out.cell (World.block_lt_of_cell? w _ hx127_2)).trans hx127_2
            replace hx127_3 := (HB.out.cell (World.block_lt_of_cell? w _ hx127_3)).trans hx127_3
            replace hx127_4 := (HB.out.cell (World.block_lt_of_cell? w _ hx127_4)).trans hx127_4
            replace p127 := eq_true p127
            replace q127 := eq_true q127
            have p128 : 0 ≤ ((ji7) : Int) := of_decide_eq_true (by first|(with_reducible assumption)|assumption)
            have q128 : (ji7) < (l0.length : Int) := of_decide_eq_true (by first|(with_reducible assumption)|assumption)
            obtain ⟨ad128,e128,hx128_0,hx128_1,hx128_2,hx128_3,hx128_4⟩ := at_T59 HR0.out (ji7) p128 q128
            have hw128_4 := hx128_4
            have hw128_3 := hx128_3
            have hw128_2 := hx128_2
            have hw128_1 := hx128_1
            have hw128_0 := hx128_0
            obtain rfl : ad125 = ad128 := (by injection e128)
            replace hx128_0 := (HB.out.cell (World.block_lt_of_cell? w _ hx128_0)).trans hx128_0
            replace hx128_1 := (HB.out.cell (World.block_lt_of_cell? w _ hx128_1)).trans hx128_1
            replace hx128_2 := (HB.out.cell (World.block_lt_of_cell? w _ hx128_2)).trans hx128_2
            replace hx128_3 := (HB.out.cell (World.block_lt_of_cell? w _ hx128_3)).trans hx128_3
            replace hx128_4 := (HB.out.cell (World.block_lt_of_cell? w _ hx128_4)).trans hx128_4
            replace p128 := eq_true p128
            replace q128 := eq_true q128
            have p129 : 0 ≤ (x3_1 : Int) := of_decide_eq_true (by first|(with_reducible assumption)|assumption)
            have q129 : x3_1 < (l0.length : Int) := of_decide_eq_true (by first|(with_reducible assumption)|assumption)
            obtain ⟨ad129,e129,hx129_0,hx129_1,hx129_2,hx129_3,hx129_4⟩ := at_T59 HR0.out x3_1 p129 q129
            have hw129_4 := hx129_4
            have hw129_3 := hx129_3
            have hw129_2 := hx129_2
            have hw129_1 := hx129_1
            have hw129_0 := hx129_0
            obtain rfl : ad125 = ad129 := (by injection e129)
            replace hx129_0 := (HB.out.cell (World.block_lt_of_cell? w _ hx129_0)).trans hx129_0
            replace hx129_1 := (HB.out.cell (World.block_lt_of_cell? w _ hx129_1)).trans hx129_1
            replace hx129_2 := (HB.out.cell (World.block_lt_of_cell? w _ hx129_2)).trans hx129_2
            replace hx129_3 := (HB.out.cell (World.block_lt_of_cell? w _ hx129_3)).trans hx129_3
            replace hx129_4 := (HB.out.cell (World.block_lt_of_cell? w _ hx129_4)).trans hx129_4
            replace p129 := eq_true p129
            replace q129 := eq_true q129
            have p130 : 0 ≤ (0 : Int) := (by omega)
            have q130 : 0 < (l0.length : Int) := of_decide_eq_true (by first|(with_reducible assumption)|assumption)
            obtain ⟨ad130,e130,hx130_0,hx130_1,hx130_2,hx130_3,hx130_4⟩ := at_T59 HR0.out 0 p130 q130
            have hw130_4 := hx130_4
            (try rw [show ((0 : Int)).toNat = 0 from rfl] at hw130_4)
            (try rw [show 0 * 5 = 0 from rfl] at hw130_4)
            (try rw [Addr.add_zero'] at hw130_4)
            have hw130_3 := hx130_3
            (try rw [show ((0 : Int)).toNat = 0 from rfl] at hw130_3)
            (try rw [show 0 * 5 = 0 from rfl] at hw130_3)
            (try rw [Addr.add_zero'] at hw130_3)
            have hw130_2 := hx130_2
            (try rw [show ((0 : Int)).toNat = 0 from rfl] at hw130_2)
            (try rw [show 0 * 5 = 0 from rfl] at hw130_2)
            (try rw [Addr.add_zero'] at hw130_2)
            have hw130_1 := hx130_1
            (try rw [show ((0 : Int)).toNat = 0 from rfl] at hw130_1)
            (try rw [show 0 * 5 = 0 from rfl] at hw130_1)
            (try rw [Addr.add_zero'] at hw130_1)
            have hw130_0 := hx130_0
            (try rw [show ((0 : Int)).toNat = 0 from rfl] at hw130_0)
            (try rw [show 0 * 5 = 0 from rfl] at hw130_0)
            (try rw [Addr.add_zero'] at hw130_0)
            obtain rfl : ad125 = ad130 := (by injection e130)
            have qi130 : (0 < l0.length) = True := eq_true (by omega)
            (try rw [show ((0 : Int)).toNat = 0 from rfl] at hx130_0)
            (try rw [show 0 * 5 = 0 from rfl] at hx130_0)
            (try rw [Addr.add_zero'] at hx130_0)
            (try rw [show ((0 : Int)).toNat = 0 from rfl] at hx130_1)
            (try rw [show 0 * 5 = 0 from rfl] at hx130_1)
            (try rw [Addr.add_zero'] at hx130_1)
            (try rw [show ((0 : Int)).toNat = 0 from rfl] at hx130_2)
            (try rw [show 0 * 5 = 0 from rfl] at hx130_2)
            (try rw [Addr.add_zero'] at hx130_2)
            (try rw [show ((0 : Int)).toNat = 0 from rfl] at hx130_3)
            (try rw [show 0 * 5 = 0 from rfl] at hx130_3)
            (try rw [Addr.add_zero'] at hx130_3)
            (try rw [show ((0 : Int)).toNat = 0 from rfl] at hx130_4)
            (try rw [show 0 * 5 = 0 from rfl] at hx130_4)
            (try rw [Addr.add_zero'] at hx130_4)
            replace hx130_0 := (HB.out.cell (World.block_lt_of_cell? w _ hx130_0)).trans hx130_0
            replace hx130_1 := (HB.out.cell (World.block_lt_of_cell? w _ hx130_1)).trans hx130_1
            replace hx130_2 := (HB.out.cell (World.block_lt_of_cell? w _ hx130_2)).trans hx130_2
            replace hx130_3 := (HB.out.cell (World.block_lt_of_cell? w _ hx130_3)).trans hx130_3
            replace hx130_4 := (HB.out.cell (World.block_lt_of_cell? w _ hx130_4)).trans hx130_4
            replace p130 := eq_true p130
            replace q130 := eq_true q130
            refine start_ (n := 36) (S := fun w' => w'.cell? (ad125.add ((x3_1).toNat * 5)) = some (.int .i64 ((rd_T59 l0 x3_1).f0)) ∧ w'.cell? ⟨(ad125.add ((x3_1).toNat * 5)).block,(ad125.add ((x3_1).toNat * 5)).off + 1,none⟩ = some (.int .i64 ((rd_T59 l0 x3_1).f1)) ∧ w'.cell? ⟨(ad125.add ((x3_1).toNat * 5)).block,(ad125.add ((x3_1).toNat * 5)).off + 2,none⟩ = some (.int .i64 ((rd_T59 l0 x3_1).f2)) ∧ w'.cell? ⟨(ad125.add ((x3_1).toNat * 5)).block,(ad125.add ((x3_1).toNat * 5)).off + 3,none⟩ = some (.bool ((rd_T59 l0 x3_1).f3)) ∧ w'.cell? ⟨(ad125.add ((x3_1).toNat * 5)).block,(ad125.add ((x3_1).toNat * 5)).off + 4,none⟩ = some (.int .i64 ((rd_T59 l0 x3_1).f4)) ∧ w'.cell? (ad125.add ((x3_1).toNat * 5)) = some (.int .i64 ((rd_T59 l0 x3_1).f0)) ∧ w'.cell? ⟨(ad125.add ((x3_1).toNat * 5)).block,(ad125.add ((x3_1).toNat * 5)).off + 1,none⟩ = some (.int .i64 ((rd_T59 l0 x3_1).f1)) ∧ w'.cell? ⟨(ad125.add ((x3_1).toNat * 5)).block,(ad125.add ((x3_1).toNat * 5)).off + 2,none⟩ = some (.int .i64 ((rd_T59 l0 x3_1).f2)) ∧ w'.cell? ⟨(ad125.add ((x3_1).toNat * 5)).block,(ad125.add ((x3_1).toNat * 5)).off + 3,none⟩ = some (.bool ((rd_T59 l0 x3_1).f3)) ∧ w'.cell? ⟨(ad125.add ((x3_1).toNat * 5)).block,(ad125.add ((x3_1).toNat * 5)).off + 4,none⟩ = some (.int .i64 ((rd_T59 l0 x3_1).f4)) ∧ w'.cell? (ad125.add (((ji7)).toNat * 5)) = some (.int .i64 ((rd_T59 l0 (ji7)).f0)) ∧ w'.cell? ⟨(ad125.add (((ji7)).toNat * 5)).block,(ad125.add (((ji7)).toNat * 5)).off + 1,none⟩ = some (.int .i64 ((rd_T59 l0 (ji7)).f1)) ∧ w'.cell? ⟨(ad125.add (((ji7)).toNat * 5)).block,(ad125.add (((ji7)).toNat * 5)).off + 2,none⟩ = some (.int .i64 ((rd_T59 l0 (ji7)).f2)) ∧ w'.cell? ⟨(ad125.add (((ji7)).toNat * 5)).block,(ad125.add (((ji7)).toNat * 5)).off + 3,none⟩ = some (.bool ((rd_T59 l0 (ji7)).f3)) ∧ w'.cell? ⟨(ad125.add (((ji7)).toNat * 5)).block,(ad125.add (((ji7)).toNat * 5)).off + 4,none⟩ = some (.int .i64 ((rd_T59 l0 (ji7)).f4)) ∧ w'.cell? (ad125.add ((x3_1).toNat * 5)) = some (.int .i64 ((rd_T59 l0 x3_1).f0)) ∧ w'.cell? ⟨(ad125.add ((x3_1).toNat * 5)).block,(ad125.add ((x3_1).toNat * 5)).off + 1,none⟩ = some (.int .i64 ((rd_T59 l0 x3_1).f1)) ∧ w'.cell? ⟨(ad125.add ((x3_1).toNat * 5)).block,(ad125.add ((x3_1).toNat * 5)).off + 2,none⟩ = some (.int .i64 ((rd_T59 l0 x3_1).f2)) ∧ w'.cell? ⟨(ad125.add ((x3_1).toNat * 5)).block,(ad125.add ((x3_1).toNat * 5)).off + 3,none⟩ = some (.bool ((rd_T59 l0 x3_1).f3)) ∧ w'.cell? ⟨(ad125.add ((x3_1).toNat * 5)).block,(ad125.add ((x3_1).toNat * 5)).off + 4,none⟩ = some (.int .i64 ((rd_T59 l0 x3_1).f4)) ∧ w'.cell? ad125 = some (.int .i64 ((rd_T59 l0 0).f0)) ∧ w'.cell? ⟨ad125.block,ad125.off + 1,none⟩ = some (.int .i64 ((rd_T59 l0 0).f1)) ∧ w'.cell? ⟨ad125.block,ad125.off + 2,none⟩ = some (.int .i64 ((rd_T59 l0 0).f2)) ∧ w'.cell? ⟨ad125.block,ad125.off + 3,none⟩ = some (.bool ((rd_T59 l0 0).f3)) ∧ w'.cell? ⟨ad125.block,ad125.off + 4,none⟩ = some (.int .i64 ((rd_T59 l0 0).f4))) (ds := []) #[false,false,false,false,false,false,false,false,false,false,false,false,false,false,false,false,false,false,false,false,false,false,false,false,false,false,false,false,false,false,false,false,false,false,false,false] (by kernel_rfl) rfl rfl ⟨((HB.out.cell (World.block_lt_of_cell? w _ hw125_0)).trans hw125_0),((HB.out.cell (World.block_lt_of_cell? w _ hw125_1)).trans hw125_1),((HB.out.cell (World.block_lt_of_cell? w _ hw125_2)).trans hw125_2),((HB.out.cell (World.block_lt_of_cell? w _ hw125_3)).trans hw125_3),((HB.out.cell (World.block_lt_of_cell? w _ hw125_4)).trans hw125_4),((HB.out.cell (World.block_lt_of_cell? w _ hw127_0)).trans hw127_0),((HB.out.cell (World.block_lt_of_cell? w _ hw127_1)).trans hw127_1),((HB.out.cell (World.block_lt_of_cell? w _ hw127_2)).trans hw127_2),((HB.out.cell (World.block_lt_of_cell? w _ hw127_3)).trans hw127_3),((HB.out.cell (World.block_lt_of_cell? w _ hw127_4)).trans hw127_4),((HB.out.cell (World.block_lt_of_cell? w _ hw128_0)).trans hw128_0),((HB.out.cell (World.block_lt_of_cell? w _ hw128_1)).trans hw128_1),((HB.out.cell (World.block_lt_of_cell? w _ hw128_2)).trans hw128_2),((HB.out.cell (World.block_lt_of_cell? w _ hw128_3)).trans hw128_3),((HB.out.cell (World.block_lt_of_cell? w _ hw128_4)).trans hw128_4),((HB.out.cell (World.block_lt_of_cell? w _ hw129_0)).trans hw129_0),((HB.out.cell (World.block_lt_of_cell? w _ hw129_1)).trans hw129_1),((HB.out.cell (World.block_lt_of_cell? w _ hw129_2)).trans hw129_2),((HB.out.cell (World.block_lt_of_cell? w _ hw129_3)).trans hw129_3),((HB.out.cell (World.block_lt_of_cell? w _ hw129_4)).trans hw129_4),((HB.out.cell (World.block_lt_of_cell? w _ hw130_0)).trans hw130_0),((HB.out.cell (World.block_lt_of_cell? w _ hw130_1)).trans hw130_1),((HB.out.cell (World.block_lt_of_cell? w _ hw130_2)).trans hw130_2),((HB.out.cell (World.block_lt_of_cell? w _ hw130_3)).trans hw130_3),((HB.out.cell (World.block_lt_of_cell? w _ hw130_4)).trans hw130_4)⟩ (fun hHeld => ?_);refine with_tabW spec_l2Sets.tab4 spec_l2Sets.bits4 (fun HT_ HW_ => ?_)
            generalize wr.drew = w15 at HB hx125_0 hx125_1 hx125_2 hx125_3 hx125_4 hx127_0 hx127_1 hx127_2 hx127_3 hx127_4 hx128_0 hx128_1 hx128_2 hx128_3 hx128_4 hx129_0 hx129_1 hx129_2 hx129_3 hx129_4 hx130_0 hx130_1 hx130_2 hx130_3 hx130_4 hHeld ⊢
            refine pw_ 0 (some 10) HT_.out ?_
            refine pw_ 1 (some 11) HT_.out ?_
            refine pw_ 2 (some 12) HT_.out ?_
            refine tw_ 3 (some 13) HT_.out HW_.out hHeld rfl rfl (by rintro w' ⟨s0,s1,s2,s3,s4,s5,s6,s7,s8,s9,s10,s11,s12,s13,s14,s15,s16,s17,s18,s19,s20,s21,s22,s23,s24⟩;go_simp;with_reducible rfl) ?_
            refine oz_ (i := 4) (N := some 14) HT_.out rfl rfl (by kernel_rfl) (by decide) (fun K hK => ?_)
            refine goes_ Try.func112 (by kernel_rfl) rfl #[.agg #[.int .i64 ((rd_T59 l0 x3_1).f0),.int .i64 ((rd_T59 l0 x3_1).f1),.int .i64 ((rd_T59 l0 x3_1).f2),.bool ((rd_T59 l0 x3_1).f3),.int .i64 ((rd_T59 l0 x3_1).f4)]] (by rfl) rfl rfl (by (try simp only [List.map_toArray,List.map_cons,List.map_nil]);first|done|rfl|(simp only [List.length_drop,List.length_take];rfl)) ?_
            with_reducible refine (spec_SetOk.calls ((rd_T59 l0 x3_1).f0) ((rd_T59 l0 x3_1).f1) ((rd_T59 l0 x3_1).f2) ((rd_T59 l0 x3_1).f3) ((rd_T59 l0 x3_1).f4) true _ A4.out).mono ?_
            rintro e w16 ⟨rfl,hb⟩
            refine ⟨_,rfl,?_⟩
            have n0_ := Aside0.mk (below_step (by repeat (first|(with_reducible first|exact HB.out|apply below_alloc|apply pw_below_drewN|apply below_drew1)|exact HB.out)) hb)
            clear HB
            have HB := n0_
            clear n0_
            (try clear hb)
            (try clear hb2)
            (try clear hk)
            (try clear hi)
            refine hK.out _ _ ⟨((HB.out.cell (World.block_lt_of_cell? w _ hw125_0)).trans hw125_0),((HB.out.cell (World.block_lt_of_cell? w _ hw125_1)).trans hw125_1),((HB.out.cell (World.block_lt_of_cell? w _ hw125_2)).trans hw125_2),((HB.out.cell (World.block_lt_of_cell? w _ hw125_3)).trans hw125_3),((HB.out.cell (World.block_lt_of_cell? w _ hw125_4)).trans hw125_4),((HB.out.cell (World.block_lt_of_cell? w _ hw127_0)).trans hw127_0),((HB.out.cell (World.block_lt_of_cell? w _ hw127_1)).trans hw127_1),((HB.out.cell (World.block_lt_of_cell? w _ hw127_2)).trans hw127_2),((HB.out.cell (World.block_lt_of_cell? w _ hw127_3)).trans hw127_3),((HB.out.cell (World.block_lt_of_cell? w _ hw127_4)).trans hw127_4),((HB.out.cell (World.block_lt_of_cell? w _ hw128_0)).trans hw128_0),((HB.out.cell (World.block_lt_of_cell? w _ hw128_1)).trans hw128_1),((HB.out.cell (World.block_lt_of_cell? w _ hw128_2)).trans hw128_2),((HB.out.cell (World.block_lt_of_cell? w _ hw128_3)).trans hw128_3),((HB.out.cell (World.block_lt_of_cell? w _ hw128_4)).trans hw128_4),((HB.out.cell (World.block_lt_of_cell? w _ hw129_0)).trans hw129_0),((HB.out.cell (World.block_lt_of_cell? w _ hw129_1)).trans hw129_1),((HB.out.cell (World.block_lt_of_cell? w _ hw129_2)).trans hw129_2),((HB.out.cell (World.block_lt_of_cell? w _ hw129_3)).trans hw129_3),((HB.out.cell (World.block_lt_of_cell? w _ hw129_4)).trans hw129_4),((HB.out.cell (World.block_lt_of_cell? w _ hw130_0)).trans hw130_0),((HB.out.cell (World.block_lt_of_cell? w _ hw130_1)).trans hw130_1),((HB.out.cell (World.block_lt_of_cell? w _ hw130_2)).trans hw130_2),((HB.out.cell (World.block_lt_of_cell? w _ hw130_3)).trans hw130_3),((HB.out.cell (World.block_lt_of_cell? w _ hw130_4)).trans hw130_4)⟩ (fun hHeld => ?_)
            clear hK K
            refine norm_ (a' := ?_) ?_ ?_
            rotate_left
            ·show Act.put _ (some 14) _ = _
             simp only [Act.put,q1,q2,q3,i64_w,i32_w]
             rfl
            refine pw_ 5 (some 15) HT_.out ?_
            refine pw_ 6 (some 16) HT_.out ?_
            refine pw_ 7 (some 17) HT_.out ?_
            refine pw_ 8 (some 18) HT_.out ?_
            refine pw_ 9 (some 19) HT_.out ?_
            refine pw_ 10 (some 20) HT_.out ?_
            refine pw_ 11 (some 21) HT_.out ?_
            refine pw_ 12 (some 22) HT_.out ?_
            refine pw_ 13 (some 23) HT_.out ?_
            refine pw_ 15 (some 25) HT_.out ?_
            refine pw_ 16 (some 26) HT_.out ?_
            refine pw_ 17 (some 27) HT_.out ?_
            refine pw_ 18 (some 28) HT_.out ?_
            refine pw_ 19 (some 29) HT_.out ?_
            refine tw_ 14 (some 24) HT_.out HW_.out hHeld rfl rfl (by rintro w' ⟨s0,s1,s2,s3,s4,s5,s6,s7,s8,s9,s10,s11,s12,s13,s14,s15,s16,s17,s18,s19,s20,s21,s22,s23,s24⟩;go_simp;with_reducible rfl) ?_
            refine tw_ 20 (some 30) HT_.out HW_.out hHeld rfl rfl (by rintro w' ⟨s0,s1,s2,s3,s4,s5,s6,s7,s8,s9,s10,s11,s12,s13,s14,s15,s16,s17,s18,s19,s20,s21,s22,s23,s24⟩;go_simp;with_reducible rfl) ?_
            refine pw_ 21 (some 31) HT_.out ?_
            refine pw_ 22 (some 32) HT_.out ?_
            refine pw_ 23 (some 33) HT_.out ?_
            refine pw_ 24 (some 34) HT_.out ?_
            refine pw_ 25 (some 35) HT_.out ?_
            refine pw_ 26 (some 36) HT_.out ?_
            refine pw_ 28 (some 38) HT_.out ?_
            refine pw_ 29 (some 39) HT_.out ?_
            refine pw_ 30 (some 40) HT_.out ?_
            refine tw_ 27 (some 37) HT_.out HW_.out hHeld rfl rfl (by rintro w' ⟨s0,s1,s2,s3,s4,s5,s6,s7,s8,s9,s10,s11,s12,s13,s14,s15,s16,s17,s18,s19,s20,s21,s22,s23,s24⟩;go_simp;with_reducible rfl) ?_
            refine tw_ 31 (some 41) HT_.out HW_.out hHeld rfl rfl (by rintro w' ⟨s0,s1,s2,s3,s4,s5,s6,s7,s8,s9,s10,s11,s12,s13,s14,s15,s16,s17,s18,s19,s20,s21,s22,s23,s24⟩;go_simp;with_reducible rfl) ?_
            refine pw_ 32 (some 42) HT_.out ?_
            refine pw_ 33 (some 43) HT_.out ?_
            refine pw_ 34 (some 44) HT_.out ?_
            refine pw_ 35 (some 45) HT_.out ?_
            refine done_ (done_of HT_.out (by kernel_rfl)) ?_
            try go_wp2
            go_roundg k1
            case measure => have := HK1.out;omega
            case rel => exact ⟨(wrap64 (x3_1 + 1)),(by first|rfl|(simp;done)|(simp [*];done)),H',⟨by have := HK1.out;omega⟩,⟨by repeat (first|(with_reducible first|exact HB.out|apply below_alloc|apply pw_below_drewN|apply below_drew1)|exact HB.out)⟩⟩
           ·rw [if_neg c14] at H
            have c14b0 : (((rd_T59 l0 x3_1).f0) == ((rd_T59 l0 0).f0)) = false := beq_eq_false_iff_ne.mpr c14
            have c14b1 : (((rd_T59 l0 x3_1).f0) != ((rd_T59 l0 0).f0)) = true := bne_iff_ne.mpr c14
            obtain rfl := Option.some.inj H
            try go_wp2
            have n0_ := Aside0.mk (below_drew1 HB.out)
            clear HB
            have HB := n0_
            clear n0_
            have p125 : 0 ≤ (x3_1 : Int) := of_decide_eq_true (by first|(with_reducible assumption)|assumption)
            have q125 : x3_1 < (l0.length : Int) := of_decide_eq_true (by first|(with_reducible assumption)|assumption)
            obtain ⟨ad125,e125,hx125_0,hx125_1,hx125_2,hx125_3,hx125_4⟩ := at_T59 HR0.out x3_1 p125 q125
            have hw125_4 := hx125_4
            have hw125_3 := hx125_3
            have hw125_2 := hx125_2
            have hw125_1 := hx125_1
            have hw125_0 := hx125_0
            cases e125
            replace hx125_0 := (HB.out.cell (World.block_lt_of_cell? w _ hx125_0)).trans hx125_0
            replace hx125_1 := (HB.out.cell (World.block_lt_of_cell? w _ hx125_1)).trans hx125_1
            replace hx125_2 := (HB.out.cell (World.block_lt_of_cell? w _ hx125_2)).trans hx125_2
            replace hx125_3 := (HB.out.cell (World.block_lt_of_cell? w _ hx125_3)).trans hx125_3
            replace hx125_4 := (HB.out.cell (World.block_lt_of_cell? w _ hx125_4)).trans hx125_4
            replace p125 := eq_true p125
            replace q125 := eq_true q125
            have p127 : 0 ≤ (x3_1 : Int) := of_decide_eq_true (by first|(with_reducible assumption)|assumption)
            have q127 : x3_1 < (l0.length : Int) := of_decide_eq_true (by first|(with_reducible assumption)|assumption)
            obtain ⟨ad127,e127,hx127_0,hx127_1,hx127_2,hx127_3,hx127_4⟩ := at_T59 HR0.out x3_1 p127 q127
            have hw127_4 := hx127_4
            have hw127_3 := hx127_3
            have hw127_2 := hx127_2
            have hw127_1 := hx127_1
            have hw127_0 := hx127_0
            obtain rfl : ad125 = ad127 := (by injection e127)
            replace hx127_0 := (HB.out.cell (World.block_lt_of_cell? w _ hx127_0)).trans hx127_0
            replace hx127_1 := (HB.out.cell (World.block_lt_of_cell? w _ hx127_1)).trans hx127_1
            replace hx127_2 := (HB.out.cell (World.block_lt_of_cell? w _ hx127_2)).trans hx127_2
            replace hx127_3 := (HB.out.cell (World.block_lt_of_cell? w _ hx127_3)).trans hx127_3
            replace hx127_4 := (HB.out.cell (World.block_lt_of_cell? w _ hx127_4)).trans hx127_4
            replace p127 := eq_true p127
            replace q127 := eq_true q127
            have p128 : 0 ≤ ((ji7) : Int) := of_decide_eq_true (by first|(with_reducible assumption)|assumption)
            have q128 : (ji7) < (l0.length : Int) := of_decide_eq_true (by first|(with_reducible assumption)|assumption)
            obtain ⟨ad128,e128,hx128_0,hx128_1,hx128_2,hx128_3,hx128_4⟩ := at_T59 HR0.out (ji7) p128 q128
            have hw128_4 := hx128_4
            have hw128_3 := hx128_3
            have hw128_2 := hx128_2
            have hw128_1 := hx128_1
            have hw128_0 := hx128_0
            obtain rfl : ad125 = ad128 := (by injection e128)
            replace hx128_0 := (HB.out.cell (World.block_lt_of_cell? w _ hx128_0)).trans hx128_0
            replace hx128_1 := (HB.out.cell (World.block_lt_of_cell? w _ hx128_1)).trans hx128_1
            replace hx128_2 := (HB.out.cell (World.block_lt_of_cell? w _ hx128_2)).trans hx128_2
            replace hx128_3 := (HB.out.cell (World.block_lt_of_cell? w _ hx128_3)).trans hx128_3
            replace hx128_4 := (HB.out.cell (World.block_lt_of_cell? w _ hx128_4)).trans hx128_4
            replace p128 := eq_true p128
            replace q128 := eq_true q128
            have p129 : 0 ≤ (x3_1 : Int) := of_decide_eq_true (by first|(with_reducible assumption)|assumption)
            have q129 : x3_1 < (l0.length : Int) := of_decide_eq_true (by first|(with_reducible assumption)|assumption)
            obtain ⟨ad129,e129,hx129_0,hx129_1,hx129_2,hx129_3,hx129_4⟩ := at_T59 HR0.out x3_1 p129 q129
            have hw129_4 := hx129_4
            have hw129_3 := hx129_3
            have hw129_2 := hx129_2
            have hw129_1 := hx129_1
            have hw129_0 := hx129_0
            obtain rfl : ad125 = ad129 := (by injection e129)
            replace hx129_0 := (HB.out.cell (World.block_lt_of_cell? w _ hx129_0)).trans hx129_0
            replace hx129_1 := (HB.out.cell (World.block_lt_of_cell? w _ hx129_1)).trans hx129_1
            replace hx129_2 := (HB.out.cell (World.block_lt_of_cell? w _ hx129_2)).trans hx129_2
            replace hx129_3 := (HB.out.cell (World.block_lt_of_cell? w _ hx129_3)).trans hx129_3
            replace hx129_4 := (HB.out.cell (World.block_lt_of_cell? w _ hx129_4)).trans hx129_4
            replace p129 := eq_true p129
            replace q129 := eq_true q129
            have p130 : 0 ≤ (0 : Int) := (by omega)
            have q130 : 0 < (l0.length : Int) := of_decide_eq_true (by first|(with_reducible assumption)|assumption)
            obtain ⟨ad130,e130,hx130_0,hx130_1,hx130_2,hx130_3,hx130_4⟩ := at_T59 HR0.out 0 p130 q130
            have hw130_4 := hx130_4
            (try rw [show ((0 : Int)).toNat = 0 from rfl] at hw130_4)
            (try rw [show 0 * 5 = 0 from rfl] at hw130_4)
            (try rw [Addr.add_zero'] at hw130_4)
            have hw130_3 := hx130_3
            (try rw [show ((0 : Int)).toNat = 0 from rfl] at hw130_3)
            (try rw [show 0 * 5 = 0 from rfl] at hw130_3)
            (try rw [Addr.add_zero'] at hw130_3)
            have hw130_2 := hx130_2
            (try rw [show ((0 : Int)).toNat = 0 from rfl] at hw130_2)
            (try rw [show 0 * 5 = 0 from rfl] at hw130_2)
            (try rw [Addr.add_zero'] at hw130_2)
            have hw130_1 := hx130_1
            (try rw [show ((0 : Int)).toNat = 0 from rfl] at hw130_1)
            (try rw [show 0 * 5 = 0 from rfl] at hw130_1)
            (try rw [Addr.add_zero'] at hw130_1)
            have hw130_0 := hx130_0
            (try rw [show ((0 : Int)).toNat = 0 from rfl] at hw130_0)
            (try rw [show 0 * 5 = 0 from rfl] at hw130_0)
            (try rw [Addr.add_zero'] at hw130_0)
            obtain rfl : ad125 = ad130 := (by injection e130)
            have qi130 : (0 < l0.length) = True := eq_true (by omega)
            (try rw [show ((0 : Int)).toNat = 0 from rfl] at hx130_0)
            (try rw [show 0 * 5 = 0 from rfl] at hx130_0)
            (try rw [Addr.add_zero'] at hx130_0)
            (try rw [show ((0 : Int)).toNat = 0 from rfl] at hx130_1)
            (try rw [show 0 * 5 = 0 from rfl] at hx130_1)
            (try rw [Addr.add_zero'] at hx130_1)
            (try rw [show ((0 : Int)).toNat = 0 from rfl] at hx130_2)
            (try rw [show 0 * 5 = 0 from rfl] at hx130_2)
            (try rw [Addr.add_zero'] at hx130_2)
            (try rw [show ((0 : Int)).toNat = 0 from rfl] at hx130_3)
            (try rw [show 0 * 5 = 0 from rfl] at hx130_3)
            (try rw [Addr.add_zero'] at hx130_3)
            (try rw [show ((0 : Int)).toNat = 0 from rfl] at hx130_4)
            (try rw [show 0 * 5 = 0 from rfl] at hx130_4)
            (try rw [Addr.add_zero'] at hx130_4)
            replace hx130_0 := (HB.out.cell (World.block_lt_of_cell? w _ hx130_0)).trans hx130_0
            replace hx130_1 := (HB.out.cell (World.block_lt_of_cell? w _ hx130_1)).trans hx130_1
            replace hx130_2 := (HB.out.cell (World.block_lt_of_cell? w _ hx130_2)).trans hx130_2
            replace hx130_3 := (HB.out.cell (World.block_lt_of_cell? w _ hx130_3)).trans hx130_3
            replace hx130_4 := (HB.out.cell (World.block_lt_of_cell? w _ hx130_4)).trans hx130_4
            replace p130 := eq_true p130
            replace q130 := eq_true q130
            refine start_ (n := 36) (S := fun w' => w'.cell? (ad125.add ((x3_1).toNat * 5)) = some (.int .i64 ((rd_T59 l0 x3_1).f0)) ∧ w'.cell? ⟨(ad125.add ((x3_1).toNat * 5)).block,(ad125.add ((x3_1).toNat * 5)).off + 1,none⟩ = some (.int .i64 ((rd_T59 l0 x3_1).f1)) ∧ w'.cell? ⟨(ad125.add ((x3_1).toNat * 5)).block,(ad125.add ((x3_1).toNat * 5)).off + 2,none⟩ = some (.int .i64 ((rd_T59 l0 x3_1).f2)) ∧ w'.cell? ⟨(ad125.add ((x3_1).toNat * 5)).block,(ad125.add ((x3_1).toNat * 5)).off + 3,none⟩ = some (.bool ((rd_T59 l0 x3_1).f3)) ∧ w'.cell? ⟨(ad125.add ((x3_1).toNat * 5)).block,(ad125.add ((x3_1).toNat * 5)).off + 4,none⟩ = some (.int .i64 ((rd_T59 l0 x3_1).f4)) ∧ w'.cell? (ad125.add ((x3_1).toNat * 5)) = some (.int .i64 ((rd_T59 l0 x3_1).f0)) ∧ w'.cell? ⟨(ad125.add ((x3_1).toNat * 5)).block,(ad125.add ((x3_1).toNat * 5)).off + 1,none⟩ = some (.int .i64 ((rd_T59 l0 x3_1).f1)) ∧ w'.cell? ⟨(ad125.add ((x3_1).toNat * 5)).block,(ad125.add ((x3_1).toNat * 5)).off + 2,none⟩ = some (.int .i64 ((rd_T59 l0 x3_1).f2)) ∧ w'.cell? ⟨(ad125.add ((x3_1).toNat * 5)).block,(ad125.add ((x3_1).toNat * 5)).off + 3,none⟩ = some (.bool ((rd_T59 l0 x3_1).f3)) ∧ w'.cell? ⟨(ad125.add ((x3_1).toNat * 5)).block,(ad125.add ((x3_1).toNat * 5)).off + 4,none⟩ = some (.int .i64 ((rd_T59 l0 x3_1).f4)) ∧ w'.cell? (ad125.add (((ji7)).toNat * 5)) = some (.int .i64 ((rd_T59 l0 (ji7)).f0)) ∧ w'.cell? ⟨(ad125.add (((ji7)).toNat * 5)).block,(ad125.add (((ji7)).toNat * 5)).off + 1,none⟩ = some (.int .i64 ((rd_T59 l0 (ji7)).f1)) ∧ w'.cell? ⟨(ad125.add (((ji7)).toNat * 5)).block,(ad125.add (((ji7)).toNat * 5)).off + 2,none⟩ = some (.int .i64 ((rd_T59 l0 (ji7)).f2)) ∧ w'.cell? ⟨(ad125.add (((ji7)).toNat * 5)).block,(ad125.add (((ji7)).toNat * 5)).off + 3,none⟩ = some (.bool ((rd_T59 l0 (ji7)).f3)) ∧ w'.cell? ⟨(ad125.add (((ji7)).toNat * 5)).block,(ad125.add (((ji7)).toNat * 5)).off + 4,none⟩ = some (.int .i64 ((rd_T59 l0 (ji7)).f4)) ∧ w'.cell? (ad125.add ((x3_1).toNat * 5)) = some (.int .i64 ((rd_T59 l0 x3_1).f0)) ∧ w'.cell? ⟨(ad125.add ((x3_1).toNat * 5)).block,(ad125.add ((x3_1).toNat * 5)).off + 1,none⟩ = some (.int .i64 ((rd_T59 l0 x3_1).f1)) ∧ w'.cell? ⟨(ad125.add ((x3_1).toNat * 5)).block,(ad125.add ((x3_1).toNat * 5)).off + 2,none⟩ = some (.int .i64 ((rd_T59 l0 x3_1).f2)) ∧ w'.cell? ⟨(ad125.add ((x3_1).toNat * 5)).block,(ad125.add ((x3_1).toNat * 5)).off + 3,none⟩ = some (.bool ((rd_T59 l0 x3_1).f3)) ∧ w'.cell? ⟨(ad125.add ((x3_1).toNat * 5)).block,(ad125.add ((x3_1).toNat * 5)).off + 4,none⟩ = some (.int .i64 ((rd_T59 l0 x3_1).f4)) ∧ w'.cell? ad125 = some (.int .i64 ((rd_T59 l0 0).f0)) ∧ w'.cell? ⟨ad125.block,ad125.off + 1,none⟩ = some (.int .i64 ((rd_T59 l0 0).f1)) ∧ w'.cell? ⟨ad125.block,ad125.off + 2,none⟩ = some (.int .i64 ((rd_T59 l0 0).f2)) ∧ w'.cell? ⟨ad125.block,ad125.off + 3,none⟩ = some (.bool ((rd_T59 l0 0).f3)) ∧ w'.cell? ⟨ad125.block,ad125.off + 4,none⟩ = some (.int .i64 ((rd_T59 l0 0).f4))) (ds := []) #[false,false,false,false,false,false,false,false,false,false,false,false,false,false,false,false,false,false,false,false,false,false,false,false,false,false,false,false,false,false,false,false,false,false,false,false] (by kernel_rfl) rfl rfl ⟨((HB.out.cell (World.block_lt_of_cell? w _ hw125_0)).trans hw125_0),((HB.out.cell (World.block_lt_of_cell? w _ hw125_1)).trans hw125_1),((HB.out.cell (World.block_lt_of_cell? w _ hw125_2)).trans hw125_2),((HB.out.cell (World.block_lt_of_cell? w _ hw125_3)).trans hw125_3),((HB.out.cell (World.block_lt_of_cell? w _ hw125_4)).trans hw125_4),((HB.out.cell (World.block_lt_of_cell? w _ hw127_0)).trans hw127_0),((HB.out.cell (World.block_lt_of_cell? w _ hw127_1)).trans hw127_1),((HB.out.cell (World.block_lt_of_cell? w _ hw127_2)).trans hw127_2),((HB.out.cell (World.block_lt_of_cell? w _ hw127_3)).trans hw127_3),((HB.out.cell (World.block_lt_of_cell? w _ hw127_4)).trans hw127_4),((HB.out.cell (World.block_lt_of_cell? w _ hw128_0)).trans hw128_0),((HB.out.cell (World.block_lt_of_cell? w _ hw128_1)).trans hw128_1),((HB.out.cell (World.block_lt_of_cell? w _ hw128_2)).trans hw128_2),((HB.out.cell (World.block_lt_of_cell? w _ hw128_3)).trans hw128_3),((HB.out.cell (World.block_lt_of_cell? w _ hw128_4)).trans hw128_4),((HB.out.cell (World.block_lt_of_cell? w _ hw129_0)).trans hw129_0),((HB.out.cell (World.block_lt_of_cell? w _ hw129_1)).trans hw129_1),((HB.out.cell (World.block_lt_of_cell? w _ hw129_2)).trans hw129_2),((HB.out.cell (World.block_lt_of_cell? w _ hw129_3)).trans hw129_3),((HB.out.cell (World.block_lt_of_cell? w _ hw129_4)).trans hw129_4),((HB.out.cell (World.block_lt_of_cell? w _ hw130_0)).trans hw130_0),((HB.out.cell (World.block_lt_of_cell? w _ hw130_1)).trans hw130_1),((HB.out.cell (World.block_lt_of_cell? w _ hw130_2)).trans hw130_2),((HB.out.cell (World.block_lt_of_cell? w _ hw130_3)).trans hw130_3),((HB.out.cell (World.block_lt_of_cell? w _ hw130_4)).trans hw130_4)⟩ (fun hHeld => ?_);refine with_tabW spec_l2Sets.tab4 spec_l2Sets.bits4 (fun HT_ HW_ => ?_)
            generalize wr.drew = w17 at HB hx125_0 hx125_1 hx125_2 hx125_3 hx125_4 hx127_0 hx127_1 hx127_2 hx127_3 hx127_4 hx128_0 hx128_1 hx128_2 hx128_3 hx128_4 hx129_0 hx129_1 hx129_2 hx129_3 hx129_4 hx130_0 hx130_1 hx130_2 hx130_3 hx130_4 hHeld ⊢
            refine pw_ 0 (some 10) HT_.out ?_
            refine pw_ 1 (some 11) HT_.out ?_
            refine pw_ 2 (some 12) HT_.out ?_
            refine tw_ 3 (some 13) HT_.out HW_.out hHeld rfl rfl (by rintro w' ⟨s0,s1,s2,s3,s4,s5,s6,s7,s8,s9,s10,s11,s12,s13,s14,s15,s16,s17,s18,s19,s20,s21,s22,s23,s24⟩;go_simp;with_reducible rfl) ?_
            refine oz_ (i := 4) (N := some 14) HT_.out rfl rfl (by kernel_rfl) (by decide) (fun K hK => ?_)
            refine goes_ Try.func112 (by kernel_rfl) rfl #[.agg #[.int .i64 ((rd_T59 l0 x3_1).f0),.int .i64 ((rd_T59 l0 x3_1).f1),.int .i64 ((rd_T59 l0 x3_1).f2),.bool ((rd_T59 l0 x3_1).f3),.int .i64 ((rd_T59 l0 x3_1).f4)]] (by rfl) rfl rfl (by (try simp only [List.map_toArray,List.map_cons,List.map_nil]);first|done|rfl|(simp only [List.length_drop,List.length_take];rfl)) ?_
            with_reducible refine (spec_SetOk.calls ((rd_T59 l0 x3_1).f0) ((rd_T59 l0 x3_1).f1) ((rd_T59 l0 x3_1).f2) ((rd_T59 l0 x3_1).f3) ((rd_T59 l0 x3_1).f4) true _ A4.out).mono ?_
            rintro e w18 ⟨rfl,hb⟩
            refine ⟨_,rfl,?_⟩
            have n0_ := Aside0.mk (below_step (by repeat (first|(with_reducible first|exact HB.out|apply below_alloc|apply pw_below_drewN|apply below_drew1)|exact HB.out)) hb)
            clear HB
            have HB := n0_
            clear n0_
            (try clear hb)
            (try clear hb2)
            (try clear hk)
            (try clear hi)
            refine hK.out _ _ ⟨((HB.out.cell (World.block_lt_of_cell? w _ hw125_0)).trans hw125_0),((HB.out.cell (World.block_lt_of_cell? w _ hw125_1)).trans hw125_1),((HB.out.cell (World.block_lt_of_cell? w _ hw125_2)).trans hw125_2),((HB.out.cell (World.block_lt_of_cell? w _ hw125_3)).trans hw125_3),((HB.out.cell (World.block_lt_of_cell? w _ hw125_4)).trans hw125_4),((HB.out.cell (World.block_lt_of_cell? w _ hw127_0)).trans hw127_0),((HB.out.cell (World.block_lt_of_cell? w _ hw127_1)).trans hw127_1),((HB.out.cell (World.block_lt_of_cell? w _ hw127_2)).trans hw127_2),((HB.out.cell (World.block_lt_of_cell? w _ hw127_3)).trans hw127_3),((HB.out.cell (World.block_lt_of_cell? w _ hw127_4)).trans hw127_4),((HB.out.cell (World.block_lt_of_cell? w _ hw128_0)).trans hw128_0),((HB.out.cell (World.block_lt_of_cell? w _ hw128_1)).trans hw128_1),((HB.out.cell (World.block_lt_of_cell? w _ hw128_2)).trans hw128_2),((HB.out.cell (World.block_lt_of_cell? w _ hw128_3)).trans hw128_3),((HB.out.cell (World.block_lt_of_cell? w _ hw128_4)).trans hw128_4),((HB.out.cell (World.block_lt_of_cell? w _ hw129_0)).trans hw129_0),((HB.out.cell (World.block_lt_of_cell? w _ hw129_1)).trans hw129_1),((HB.out.cell (World.block_lt_of_cell? w _ hw129_2)).trans hw129_2),((HB.out.cell (World.block_lt_of_cell? w _ hw129_3)).trans hw129_3),((HB.out.cell (World.block_lt_of_cell? w _ hw129_4)).trans hw129_4),((HB.out.cell (World.block_lt_of_cell? w _ hw130_0)).trans hw130_0),((HB.out.cell (World.block_lt_of_cell? w _ hw130_1)).trans hw130_1),((HB.out.cell (World.block_lt_of_cell? w _ hw130_2)).trans hw130_2),((HB.out.cell (World.block_lt_of_cell? w _ hw130_3)).trans hw130_3),((HB.out.cell (World.block_lt_of_cell? w _ hw130_4)).trans hw130_4)⟩ (fun hHeld => ?_)
            clear hK K
            refine norm_ (a' := ?_) ?_ ?_
            rotate_left
            ·show Act.put _ (some 14) _ = _
             simp only [Act.put,q1,q2,q3,i64_w,i32_w]
             rfl
            refine pw_ 5 (some 15) HT_.out ?_
            refine pw_ 6 (some 16) HT_.out ?_
            refine pw_ 7 (some 17) HT_.out ?_
            refine pw_ 8 (some 18) HT_.out ?_
            refine pw_ 9 (some 19) HT_.out ?_
            refine pw_ 10 (some 20) HT_.out ?_
            refine pw_ 11 (some 21) HT_.out ?_
            refine pw_ 12 (some 22) HT_.out ?_
            refine pw_ 13 (some 23) HT_.out ?_
            refine pw_ 15 (some 25) HT_.out ?_
            refine pw_ 16 (some 26) HT_.out ?_
            refine pw_ 17 (some 27) HT_.out ?_
            refine pw_ 18 (some 28) HT_.out ?_
            refine pw_ 19 (some 29) HT_.out ?_
            refine tw_ 14 (some 24) HT_.out HW_.out hHeld rfl rfl (by rintro w' ⟨s0,s1,s2,s3,s4,s5,s6,s7,s8,s9,s10,s11,s12,s13,s14,s15,s16,s17,s18,s19,s20,s21,s22,s23,s24⟩;go_simp;with_reducible rfl) ?_
            refine tw_ 20 (some 30) HT_.out HW_.out hHeld rfl rfl (by rintro w' ⟨s0,s1,s2,s3,s4,s5,s6,s7,s8,s9,s10,s11,s12,s13,s14,s15,s16,s17,s18,s19,s20,s21,s22,s23,s24⟩;go_simp;with_reducible rfl) ?_
            refine pw_ 21 (some 31) HT_.out ?_
            refine pw_ 22 (some 32) HT_.out ?_
            refine pw_ 23 (some 33) HT_.out ?_
            refine pw_ 24 (some 34) HT_.out ?_
            refine pw_ 25 (some 35) HT_.out ?_
            refine pw_ 26 (some 36) HT_.out ?_
            refine pw_ 28 (some 38) HT_.out ?_
            refine pw_ 29 (some 39) HT_.out ?_
            refine pw_ 30 (some 40) HT_.out ?_
            refine tw_ 27 (some 37) HT_.out HW_.out hHeld rfl rfl (by rintro w' ⟨s0,s1,s2,s3,s4,s5,s6,s7,s8,s9,s10,s11,s12,s13,s14,s15,s16,s17,s18,s19,s20,s21,s22,s23,s24⟩;go_simp;with_reducible rfl) ?_
            refine tw_ 31 (some 41) HT_.out HW_.out hHeld rfl rfl (by rintro w' ⟨s0,s1,s2,s3,s4,s5,s6,s7,s8,s9,s10,s11,s12,s13,s14,s15,s16,s17,s18,s19,s20,s21,s22,s23,s24⟩;go_simp;with_reducible rfl) ?_
            refine pw_ 32 (some 42) HT_.out ?_
            refine pw_ 33 (some 43) HT_.out ?_
            refine pw_ 34 (some 44) HT_.out ?_
            refine pw_ 35 (some 45) HT_.out ?_
            refine done_ (done_of HT_.out (by kernel_rfl)) ?_
            try go_wp2
            go_ret
            exact ⟨by first|rfl|(simp [errW_none,errW_some] <;> rfl)|(simp only [← hji7];first|rfl|(simp [errW_none,errW_some] <;> rfl))|(simp [*,errW_none,errW_some] <;> rfl),by repeat (first|(with_reducible first|exact HB.out|apply below_alloc|apply pw_below_drewN|apply below_drew1)|exact HB.out)⟩
          ·rw [if_neg c13] at H
           exact absurd H (by simp)
        ·rw [if_neg c9] at H
         exact absurd H (by simp)
       ·rw [if_neg c8] at H
        exact absurd H (by simp)
      ·rw [if_neg c6] at H
       have c6b0 : decide (0 < x3_1) = false := decide_eq_false c6
       clear c6
       have H' := Aside0.mk H
       clear H
       try go_wp2
       have n0_ := Aside0.mk (below_drew1 HB.out)
       clear HB
       have HB := n0_
       clear n0_
       have p125 : 0 ≤ (x3_1 : Int) := of_decide_eq_true (by first|(with_reducible assumption)|assumption)
       have q125 : x3_1 < (l0.length : Int) := of_decide_eq_true (by first|(with_reducible assumption)|assumption)
       obtain ⟨ad125,e125,hx125_0,hx125_1,hx125_2,hx125_3,hx125_4⟩ := at_T59 HR0.out x3_1 p125 q125
       have hw125_4 := hx125_4
       have hw125_3 := hx125_3
       have hw125_2 := hx125_2
       have hw125_1 := hx125_1
       have hw125_0 := hx125_0
       cases e125
       replace hx125_0 := (HB.out.cell (World.block_lt_of_cell? w _ hx125_0)).trans hx125_0
       replace hx125_1 := (HB.out.cell (World.block_lt_of_cell? w _ hx125_1)).trans hx125_1
       replace hx125_2 := (HB.out.cell (World.block_lt_of_cell? w _ hx125_2)).trans hx125_2
       replace hx125_3 := (HB.out.cell (World.block_lt_of_cell? w _ hx125_3)).trans hx125_3
       replace hx125_4 := (HB.out.cell (World.block_lt_of_cell? w _ hx125_4)).trans hx125_4
       replace p125 := eq_true p125
       replace q125 := eq_true q125
       refine start_ (n := 36) (S := fun w' => w'.cell? (ad125.add ((x3_1).toNat * 5)) = some (.int .i64 ((rd_T59 l0 x3_1).f0)) ∧ w'.cell? ⟨(ad125.add ((x3_1).toNat * 5)).block,(ad125.add ((x3_1).toNat * 5)).off + 1,none⟩ = some (.int .i64 ((rd_T59 l0 x3_1).f1)) ∧ w'.cell? ⟨(ad125.add ((x3_1).toNat * 5)).block,(ad125.add ((x3_1).toNat * 5)).off + 2,none⟩ = some (.int .i64 ((rd_T59 l0 x3_1).f2)) ∧ w'.cell? ⟨(ad125.add ((x3_1).toNat * 5)).block,(ad125.add ((x3_1).toNat * 5)).off + 3,none⟩ = some (.bool ((rd_T59 l0 x3_1).f3)) ∧ w'.cell? ⟨(ad125.add ((x3_1).toNat * 5)).block,(ad125.add ((x3_1).toNat * 5)).off + 4,none⟩ = some (.int .i64 ((rd_T59 l0 x3_1).f4))) (ds := []) #[false,false,false,false,false,false,false,false,false,false,false,false,false,false,false,false,false,false,false,false,false,false,false,false,false,false,false,false,false,false,false,false,false,false,false,false] (by kernel_rfl) rfl rfl ⟨((HB.out.cell (World.block_lt_of_cell? w _ hw125_0)).trans hw125_0),((HB.out.cell (World.block_lt_of_cell? w _ hw125_1)).trans hw125_1),((HB.out.cell (World.block_lt_of_cell? w _ hw125_2)).trans hw125_2),((HB.out.cell (World.block_lt_of_cell? w _ hw125_3)).trans hw125_3),((HB.out.cell (World.block_lt_of_cell? w _ hw125_4)).trans hw125_4)⟩ (fun hHeld => ?_);refine with_tabW spec_l2Sets.tab4 spec_l2Sets.bits4 (fun HT_ HW_ => ?_)
       generalize wr.drew = w19 at HB hx125_0 hx125_1 hx125_2 hx125_3 hx125_4 hHeld ⊢
       refine pw_ 0 (some 10) HT_.out ?_
       refine pw_ 1 (some 11) HT_.out ?_
       refine pw_ 2 (some 12) HT_.out ?_
       refine tw_ 3 (some 13) HT_.out HW_.out hHeld rfl rfl (by rintro w' ⟨s0,s1,s2,s3,s4⟩;go_simp;with_reducible rfl) ?_
       refine oz_ (i := 4) (N := some 14) HT_.out rfl rfl (by kernel_rfl) (by decide) (fun K hK => ?_)
       refine goes_ Try.func112 (by kernel_rfl) rfl #[.agg #[.int .i64 ((rd_T59 l0 x3_1).f0),.int .i64 ((rd_T59 l0 x3_1).f1),.int .i64 ((rd_T59 l0 x3_1).f2),.bool ((rd_T59 l0 x3_1).f3),.int .i64 ((rd_T59 l0 x3_1).f4)]] (by rfl) rfl rfl (by (try simp only [List.map_toArray,List.map_cons,List.map_nil]);first|done|rfl|(simp only [List.length_drop,List.length_take];rfl)) ?_
       with_reducible refine (spec_SetOk.calls ((rd_T59 l0 x3_1).f0) ((rd_T59 l0 x3_1).f1) ((rd_T59 l0 x3_1).f2) ((rd_T59 l0 x3_1).f3) ((rd_T59 l0 x3_1).f4) true _ A4.out).mono ?_
       rintro e w20 ⟨rfl,hb⟩
       refine ⟨_,rfl,?_⟩
       have n0_ := Aside0.mk (below_step (by repeat (first|(with_reducible first|exact HB.out|apply below_alloc|apply pw_below_drewN|apply below_drew1)|exact HB.out)) hb)
       clear HB
       have HB := n0_
       clear n0_
       (try clear hb)
       (try clear hb2)
       (try clear hk)
       (try clear hi)
       refine hK.out _ _ ⟨((HB.out.cell (World.block_lt_of_cell? w _ hw125_0)).trans hw125_0),((HB.out.cell (World.block_lt_of_cell? w _ hw125_1)).trans hw125_1),((HB.out.cell (World.block_lt_of_cell? w _ hw125_2)).trans hw125_2),((HB.out.cell (World.block_lt_of_cell? w _ hw125_3)).trans hw125_3),((HB.out.cell (World.block_lt_of_cell? w _ hw125_4)).trans hw125_4)⟩ (fun hHeld => ?_)
       clear hK K
       refine norm_ (a' := ?_) ?_ ?_
       rotate_left
       ·show Act.put _ (some 14) _ = _
        simp only [Act.put,q1,q2,q3,i64_w,i32_w]
        rfl
       refine pw_ 5 (some 15) HT_.out ?_
       refine pw_ 6 (some 16) HT_.out ?_
       refine pw_ 7 (some 17) HT_.out ?_
       refine pw_ 8 (some 18) HT_.out ?_
       refine pw_ 9 (some 19) HT_.out ?_
       refine pu_ 10 (some 20) HT_.out ?_
       refine pu_ 11 (some 21) HT_.out ?_
       refine pu_ 12 (some 22) HT_.out ?_
       refine pu_ 13 (some 23) HT_.out ?_
       refine pu_ 14 (some 24) HT_.out ?_
       refine pu_ 15 (some 25) HT_.out ?_
       refine pu_ 16 (some 26) HT_.out ?_
       refine pu_ 17 (some 27) HT_.out ?_
       refine pu_ 18 (some 28) HT_.out ?_
       refine pu_ 19 (some 29) HT_.out ?_
       refine pu_ 20 (some 30) HT_.out ?_
       refine pu_ 21 (some 31) HT_.out ?_
       refine pu_ 22 (some 32) HT_.out ?_
       refine pu_ 23 (some 33) HT_.out ?_
       refine pu_ 24 (some 34) HT_.out ?_
       refine pu_ 25 (some 35) HT_.out ?_
       refine pu_ 26 (some 36) HT_.out ?_
       refine pu_ 27 (some 37) HT_.out ?_
       refine pu_ 28 (some 38) HT_.out ?_
       refine pu_ 29 (some 39) HT_.out ?_
       refine pu_ 30 (some 40) HT_.out ?_
       refine pu_ 31 (some 41) HT_.out ?_
       refine pu_ 32 (some 42) HT_.out ?_
       refine pu_ 33 (some 43) HT_.out ?_
       refine pw_ 34 (some 44) HT_.out ?_
       refine pw_ 35 (some 45) HT_.out ?_
       refine done_ (done_of HT_.out (by kernel_rfl)) ?_
       try go_wp2
       go_roundg k1
       case measure => have := HK1.out;omega
       case rel => exact ⟨(wrap64 (x3_1 + 1)),(by first|rfl|(simp;done)|(simp [*];done)),H',⟨by have := HK1.out;omega⟩,⟨by repeat (first|(with_reducible first|exact HB.out|apply below_alloc|apply pw_below_drewN|apply below_drew1)|exact HB.out)⟩⟩
     ·replace c5 := Bool.eq_false_iff.mpr c5
      subst c5
      have H1 : (some false) = some r := by rw [if_neg (show ¬ (false = true) by decide)] at H;exact H
      clear H
      have H := H1
      clear H1
      obtain rfl := Option.some.inj H
      try go_wp2
      have n0_ := Aside0.mk (below_drew1 HB.out)
      clear HB
      have HB := n0_
      clear n0_
      have p125 : 0 ≤ (x3_1 : Int) := of_decide_eq_true (by first|(with_reducible assumption)|assumption)
      have q125 : x3_1 < (l0.length : Int) := of_decide_eq_true (by first|(with_reducible assumption)|assumption)
      obtain ⟨ad125,e125,hx125_0,hx125_1,hx125_2,hx125_3,hx125_4⟩ := at_T59 HR0.out x3_1 p125 q125
      have hw125_4 := hx125_4
      have hw125_3 := hx125_3
      have hw125_2 := hx125_2
      have hw125_1 := hx125_1
      have hw125_0 := hx125_0
      cases e125
      replace hx125_0 := (HB.out.cell (World.block_lt_of_cell? w _ hx125_0)).trans hx125_0
      replace hx125_1 := (HB.out.cell (World.block_lt_of_cell? w _ hx125_1)).trans hx125_1
      replace hx125_2 := (HB.out.cell (World.block_lt_of_cell? w _ hx125_2)).trans hx125_2
      replace hx125_3 := (HB.out.cell (World.block_lt_of_cell? w _ hx125_3)).trans hx125_3
      replace hx125_4 := (HB.out.cell (World.block_lt_of_cell? w _ hx125_4)).trans hx125_4
      replace p125 := eq_true p125
      replace q125 := eq_true q125
      refine start_ (n := 36) (S := fun w' => w'.cell? (ad125.add ((x3_1).toNat * 5)) = some (.int .i64 ((rd_T59 l0 x3_1).f0)) ∧ w'.cell? ⟨(ad125.add ((x3_1).toNat * 5)).block,(ad125.add ((x3_1).toNat * 5)).off + 1,none⟩ = some (.int .i64 ((rd_T59 l0 x3_1).f1)) ∧ w'.cell? ⟨(ad125.add ((x3_1).toNat * 5)).block,(ad125.add ((x3_1).toNat * 5)).off + 2,none⟩ = some (.int .i64 ((rd_T59 l0 x3_1).f2)) ∧ w'.cell? ⟨(ad125.add ((x3_1).toNat * 5)).block,(ad125.add ((x3_1).toNat * 5)).off + 3,none⟩ = some (.bool ((rd_T59 l0 x3_1).f3)) ∧ w'.cell? ⟨(ad125.add ((x3_1).toNat * 5)).block,(ad125.add ((x3_1).toNat * 5)).off + 4,none⟩ = some (.int .i64 ((rd_T59 l0 x3_1).f4))) (ds := []) #[false,false,false,false,false,false,false,false,false,false,false,false,false,false,false,false,false,false,false,false,false,false,false,false,false,false,false,false,false,false,false,false,false,false,false,false] (by kernel_rfl) rfl rfl ⟨((HB.out.cell (World.block_lt_of_cell? w _ hw125_0)).trans hw125_0),((HB.out.cell (World.block_lt_of_cell? w _ hw125_1)).trans hw125_1),((HB.out.cell (World.block_lt_of_cell? w _ hw125_2)).trans hw125_2),((HB.out.cell (World.block_lt_of_cell? w _ hw125_3)).trans hw125_3),((HB.out.cell (World.block_lt_of_cell? w _ hw125_4)).trans hw125_4)⟩ (fun hHeld => ?_);refine with_tabW spec_l2Sets.tab4 spec_l2Sets.bits4 (fun HT_ HW_ => ?_)
      generalize wr.drew = w21 at HB hx125_0 hx125_1 hx125_2 hx125_3 hx125_4 hHeld ⊢
      refine pw_ 0 (some 10) HT_.out ?_
      refine pw_ 1 (some 11) HT_.out ?_
      refine pw_ 2 (some 12) HT_.out ?_
      refine tw_ 3 (some 13) HT_.out HW_.out hHeld rfl rfl (by rintro w' ⟨s0,s1,s2,s3,s4⟩;go_simp;with_reducible rfl) ?_
      refine oz_ (i := 4) (N := some 14) HT_.out rfl rfl (by kernel_rfl) (by decide) (fun K hK => ?_)
      refine goes_ Try.func112 (by kernel_rfl) rfl #[.agg #[.int .i64 ((rd_T59 l0 x3_1).f0),.int .i64 ((rd_T59 l0 x3_1).f1),.int .i64 ((rd_T59 l0 x3_1).f2),.bool ((rd_T59 l0 x3_1).f3),.int .i64 ((rd_T59 l0 x3_1).f4)]] (by rfl) rfl rfl (by (try simp only [List.map_toArray,List.map_cons,List.map_nil]);first|done|rfl|(simp only [List.length_drop,List.length_take];rfl)) ?_
      with_reducible refine (spec_SetOk.calls ((rd_T59 l0 x3_1).f0) ((rd_T59 l0 x3_1).f1) ((rd_T59 l0 x3_1).f2) ((rd_T59 l0 x3_1).f3) ((rd_T59 l0 x3_1).f4) false _ A4.out).mono ?_
      rintro e w22 ⟨rfl,hb⟩
      refine ⟨_,rfl,?_⟩
      have n0_ := Aside0.mk (below_step (by repeat (first|(with_reducible first|exact HB.out|apply below_alloc|apply pw_below_drewN|apply below_drew1)|exact HB.out)) hb)
      clear HB
      have HB := n0_
      clear n0_
      (try clear hb)
      (try clear hb2)
      (try clear hk)
      (try clear hi)
      refine hK.out _ _ ⟨((HB.out.cell (World.block_lt_of_cell? w _ hw125_0)).trans hw125_0),((HB.out.cell (World.block_lt_of_cell? w _ hw125_1)).trans hw125_1),((HB.out.cell (World.block_lt_of_cell? w _ hw125_2)).trans hw125_2),((HB.out.cell (World.block_lt_of_cell? w _ hw125_3)).trans hw125_3),((HB.out.cell (World.block_lt_of_cell? w _ hw125_4)).trans hw125_4)⟩ (fun hHeld => ?_)
      clear hK K
      refine norm_ (a' := ?_) ?_ ?_
      rotate_left
      ·show Act.put _ (some 14) _ = _
       simp only [Act.put,q1,q2,q3,i64_w,i32_w]
       rfl
      refine pw_ 5 (some 15) HT_.out ?_
      refine pw_ 6 (some 16) HT_.out ?_
      refine pu_ 7 (some 17) HT_.out ?_
      refine pu_ 8 (some 18) HT_.out ?_
      refine pu_ 9 (some 19) HT_.out ?_
      refine pu_ 10 (some 20) HT_.out ?_
      refine pu_ 11 (some 21) HT_.out ?_
      refine pu_ 12 (some 22) HT_.out ?_
      refine pu_ 13 (some 23) HT_.out ?_
      refine pu_ 14 (some 24) HT_.out ?_
      refine pu_ 15 (some 25) HT_.out ?_
      refine pu_ 16 (some 26) HT_.out ?_
      refine pu_ 17 (some 27) HT_.out ?_
      refine pu_ 18 (some 28) HT_.out ?_
      refine pu_ 19 (some 29) HT_.out ?_
      refine pu_ 20 (some 30) HT_.out ?_
      refine pu_ 21 (some 31) HT_.out ?_
      refine pu_ 22 (some 32) HT_.out ?_
      refine pu_ 23 (some 33) HT_.out ?_
      refine pu_ 24 (some 34) HT_.out ?_
      refine pu_ 25 (some 35) HT_.out ?_
      refine pu_ 26 (some 36) HT_.out ?_
      refine pu_ 27 (some 37) HT_.out ?_
      refine pu_ 28 (some 38) HT_.out ?_
      refine pu_ 29 (some 39) HT_.out ?_
      refine pu_ 30 (some 40) HT_.out ?_
      refine pu_ 31 (some 41) HT_.out ?_
      refine pu_ 32 (some 42) HT_.out ?_
      refine pu_ 33 (some 43) HT_.out ?_
      refine pu_ 34 (some 44) HT_.out ?_
      refine pw_ 35 (some 45) HT_.out ?_
      refine done_ (done_of HT_.out (by kernel_rfl)) ?_
      try go_wp2
      go_ret
      exact ⟨by first|rfl|(simp [errW_none,errW_some] <;> rfl)|(simp [*,errW_none,errW_some] <;> rfl),by repeat (first|(with_reducible first|exact HB.out|apply below_alloc|apply pw_below_drewN|apply below_drew1)|exact HB.out)⟩
    ·rw [if_neg c3] at H
     exact absurd H (by simp)
   ·rw [if_neg c2] at H
    have c2b0 : decide (x3_1 < (l0.length : Int)) = false := decide_eq_false c2
    clear c2
    obtain rfl := Option.some.inj H
    go_wp2
    go_ret
    exact ⟨by first|rfl|(simp [errW_none,errW_some] <;> rfl)|(simp [*,errW_none,errW_some] <;> rfl),by repeat (first|(with_reducible first|exact HB.out|apply below_alloc|apply pw_below_drewN|apply below_drew1)|exact HB.out)⟩

end Go.Proofs.Ytgdfbjmjgegicaa.XIs
