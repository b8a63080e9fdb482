/- Proved: of each Go function here that a call comes to what the Lean function of its name tells. Written by a program of this session over the translation. No conditions beyond each theorem's own. -/
import Derived.Test.YthplaakckfhaaaaXCp0
import Derived.Test.YthplaakckfhaaaaXCp6
namespace Go.Proofs.Ythplaakckfhaaaa.XCp
open Go.RowKit Go.Proofs.Ythplaakckfhaaaa.Aid Go.Proofs.YthplaakckfhaaaaW.PrintWords Go.Proofs.YthplaakckfhaaaaW.PrintLast Go.Proofs.YthplaakckfhaaaaW.PrintMore
set_option linter.unusedVariables false
set_option linter.unusedSimpArgs false

/-! ### spec_l2Sets: function 106 -/
def spec_l2Sets.l0 : Nat → List (S127) → Int → Option (Bool)
  | 0, _, _ => none
  | k + 1, x0, x3 => if x3 < (x0.length : Int) then (if 0 ≤ x3 then ((spec_SetOk.f ((rd_T127 x0 x3).f0) ((rd_T127 x0 x3).f1) ((rd_T127 x0 x3).f2) ((rd_T127 x0 x3).f3) ((rd_T127 x0 x3).f4)).bind fun t235 => (if t235 = true then (if x3 > 0 then (if 0 ≤ (wrap64 (x3 - 1)) then (if (wrap64 (x3 - 1)) < (x0.length : Int) then (if ((rd_T127 x0 x3).f1) ≤ ((rd_T127 x0 (wrap64 (x3 - 1))).f1) then (some false) else (if 0 < (x0.length : Int) then (if ((rd_T127 x0 x3).f0) = ((rd_T127 x0 0).f0) then (spec_l2Sets.l0 k x0 (wrap64 (x3 + 1))) else (some false)) else (none))) else (none)) else (none)) else (spec_l2Sets.l0 k x0 (wrap64 (x3 + 1)))) else (some false))) else (none)) else (some true)
def spec_l2Sets.f (k : Nat) (l0 : List (S127)) : Option (Bool) := spec_l2Sets.l0 k l0 0

def spec_l2Sets.T4 : Bool × List (List Nat × List Nat) := (true, [([], []), ([], []), ([0, 1], [0, 1]), ([2], [2]), ([3], [3]), ([4], [4]), ([5, 4], [5]), ([6], [6]), ([7, 6], [6, 7]), ([8, 6, 6], [6, 8]), ([9], [9]), ([9], [9]), ([10, 11, 9], [9, 10, 11]), ([12, 9], [9, 12]), ([13, 9], [9, 13]), ([9], [9]), ([9], [9]), ([16, 9], [9, 16]), ([15, 17, 9], [9, 15, 17]), ([18, 9], [9, 18]), ([19, 9], [9, 19]), ([14, 20, 9], [9, 14, 20]), ([21, 9, 9], [9, 21]), ([22], [22]), ([22], [22]), ([23, 24, 22], [22, 23, 24]), ([25, 22], [22, 25]), ([26, 22], [22, 26]), ([22], [22]), ([28, 22], [22, 28]), ([29, 22], [22, 29]), ([30, 22], [22, 30]), ([27, 31, 22], [22, 27, 31]), ([22, 32, 9], [9, 22, 32]), ([9, 33, 6], [6, 9, 33]), ([6, 34], [6, 34])])
def spec_l2Sets.B4 : List Nat := [0, 0, 3, 7, 15, 31, 63, 127, 255, 511, 1023, 1023, 4095, 8191, 16383, 1023, 1023, 66559, 230399, 492543, 1016831, 2097151, 4194303, 8388607, 8388607, 33554431, 67108863, 134217727, 8388607, 276824063, 813694975, 1887436799, 4294967295, 8589934591, 17179869183, 34359738367]
theorem spec_l2Sets.tab4 : rtab .any (opsOf Try.f106 4) = spec_l2Sets.T4 := by kernel_rfl
theorem spec_l2Sets.bits4 : waitsOk spec_l2Sets.T4.2 spec_l2Sets.B4 = true := by kernel_rfl
set_option maxHeartbeats 8000000 in
set_option maxRecDepth 100000 in
theorem spec_l2Sets.calls (k : Nat) (A0 : Option Addr) (c0 : Nat) (l0 : List (S127)) (r : Bool) (w : World) (hr0 : Kd.C k127 w A0 l0.length l0) (hc0 : l0.length ≤ c0) (h : spec_l2Sets.f k l0 = some r) :
    Calls Try.prog 106 #[.slice A0 l0.length c0] w fun e w' => e = .returned (.bool r) ∧ Below w.heap.size w w' := by
 have hu127 := Try.underlying127
 have HR0 := Aside0.mk hr0
 have HC0 := Aside0.mk hc0
 clear hr0 hc0
 have HB := Aside0.mk (Below.refl w.heap.size w)
 have H : (spec_l2Sets.l0 k l0 0) = some r := h
 clear h
 have H' := Aside0.mk H
 clear H
 go_enter Try.func106,Try.ntmps106
 go_wp2
 go_loopg [3] k (fun kq v3 w' => ∃ (x3_1 : Int),v3 = .int .i64 x3_1 ∧ Aside0 (spec_l2Sets.l0 kq l0 x3_1 = some r) ∧ Aside0 (kq ≤ k) ∧ Aside0 (Below w.heap.size w w'))
 case atStart => exact ⟨(0),(by first|rfl|(simp;done)|(simp [*];done)),H',⟨Nat.le_refl _⟩,⟨by repeat (first|(with_reducible first|exact HB.out|apply below_alloc|apply pw_below_drewN|apply below_drew1)|exact HB.out)⟩⟩
 case round =>
  clear H'
  try clear c1
  obtain ⟨x3_1,rfl,HA,HK1,HB⟩ := hrel
  cases gk with
    | zero => exact absurd HA.out (by simp [spec_l2Sets.l0])
    | succ k1 =>
   have H := HA.out
   clear HA
   simp only [spec_l2Sets.l0] at H
   by_cases c2 : x3_1 < (l0.length : Int)
   ·rw [if_pos c2] at H
    have c2b0 : decide (x3_1 < (l0.length : Int)) = true := decide_eq_true c2
    clear c2
    by_cases c3 : 0 ≤ x3_1
    ·rw [if_pos c3] at H
     have c3b0 : decide (0 ≤ x3_1) = true := decide_eq_true c3
     clear c3
     replace H := Option.bind_eq_some_iff.mp H
     obtain ⟨t235,A40,H⟩ := H
     replace H : (if t235 = true then (if x3_1 > 0 then (if 0 ≤ (wrap64 (x3_1 - 1)) then (if (wrap64 (x3_1 - 1)) < (l0.length : Int) then (if ((rd_T127 l0 x3_1).f1) ≤ ((rd_T127 l0 (wrap64 (x3_1 - 1))).f1) then (some false) else (if 0 < (l0.length : Int) then (if ((rd_T127 l0 x3_1).f0) = ((rd_T127 l0 0).f0) then (spec_l2Sets.l0 k1 l0 (wrap64 (x3_1 + 1))) else (some false)) else (none))) else (none)) else (none)) else (spec_l2Sets.l0 k1 l0 (wrap64 (x3_1 + 1)))) else (some false)) = some r := H
     have A4 := Aside0.mk A40
     clear A40
     by_cases c5 : t235 = true
     ·subst c5
      have H1 : (if x3_1 > 0 then (if 0 ≤ (wrap64 (x3_1 - 1)) then (if (wrap64 (x3_1 - 1)) < (l0.length : Int) then (if ((rd_T127 l0 x3_1).f1) ≤ ((rd_T127 l0 (wrap64 (x3_1 - 1))).f1) then (some false) else (if 0 < (l0.length : Int) then (if ((rd_T127 l0 x3_1).f0) = ((rd_T127 l0 0).f0) then (spec_l2Sets.l0 k1 l0 (wrap64 (x3_1 + 1))) else (some false)) else (none))) else (none)) else (none)) else (spec_l2Sets.l0 k1 l0 (wrap64 (x3_1 + 1)))) = some r := by rw [if_pos rfl] at H;exact H
      clear H
      have H := H1
      clear H1
      by_cases c6 : x3_1 > 0
      ·rw [if_pos c6] at H
       have c6b0 : decide (0 < x3_1) = true := decide_eq_true c6
       clear c6
       obtain ⟨ji7,hji7⟩ : ∃ j_ : Int,(wrap64 (x3_1 - 1)) = j_ := ⟨_,rfl⟩
       replace H : (if 0 ≤ (ji7) then (if (ji7) < (l0.length : Int) then (if ((rd_T127 l0 x3_1).f1) ≤ ((rd_T127 l0 (ji7)).f1) then (some false) else (if 0 < (l0.length : Int) then (if ((rd_T127 l0 x3_1).f0) = ((rd_T127 l0 0).f0) then (spec_l2Sets.l0 k1 l0 (wrap64 (x3_1 + 1))) else (some false)) else (none))) else (none)) else (none)) = some r := by first|(rw [hji7] at H;exact H)|(simp only [hji7] at H ⊢;exact H)
       (try rw [hji7] at A4)
       have hji7w : (IntKind.i64.wrap (x3_1 - 1)) = ji7 := (i64_w _).trans hji7
       by_cases c8 : 0 ≤ (ji7)
       ·rw [if_pos c8] at H
        have c8b0 : decide (0 ≤ (ji7)) = true := decide_eq_true c8
        clear c8
        by_cases c9 : (ji7) < (l0.length : Int)
        ·rw [if_pos c9] at H
         have c9b0 : decide ((ji7) < (l0.length : Int)) = true := decide_eq_true c9
         clear c9
         by_cases c10 : ((rd_T127 l0 x3_1).f1) ≤ ((rd_T127 l0 (ji7)).f1)
         ·rw [if_pos c10] at H
          have c10b0 : decide (((rd_T127 l0 x3_1).f1) ≤ ((rd_T127 l0 (ji7)).f1)) = true := decide_eq_true c10
          clear c10
          obtain rfl := Option.some.inj H
          try go_wp2
          have n0_ := Aside0.mk (below_drew1 HB.out)
          clear HB
          have HB := n0_
          clear n0_
          have p234 : 0 ≤ (x3_1 : Int) := of_decide_eq_true (by first|(with_reducible assumption)|assumption)
          have q234 : x3_1 < (l0.length : Int) := of_decide_eq_true (by first|(with_reducible assumption)|assumption)
          obtain ⟨ad234,e234,hx234_0,hx234_1,hx234_2,hx234_3,hx234_4⟩ := at_T127 HR0.out x3_1 p234 q234
          have hw234_4 := hx234_4
          have hw234_3 := hx234_3
          have hw234_2 := hx234_2
          have hw234_1 := hx234_1
          have hw234_0 := hx234_0
          cases e234
          replace hx234_0 := (HB.out.cell (World.block_lt_of_cell? w _ hx234_0)).trans hx234_0
          replace hx234_1 := (HB.out.cell (World.block_lt_of_cell? w _ hx234_1)).trans hx234_1
          replace hx234_2 := (HB.out.cell (World.block_lt_of_cell? w _ hx234_2)).trans hx234_2
          replace hx234_3 := (HB.out.cell (World.block_lt_of_cell? w _ hx234_3)).trans hx234_3
          replace hx234_4 := (HB.out.cell (World.block_lt_of_cell? w _ hx234_4)).trans hx234_4
          replace p234 := eq_true p234
          replace q234 := eq_true q234
          have p236 : 0 ≤ (x3_1 : Int) := of_decide_eq_true (by first|(with_reducible assumption)|assumption)
          have q236 : x3_1 < (l0.length : Int) := of_decide_eq_true (by first|(with_reducible assumption)|assumption)
          obtain ⟨ad236,e236,hx236_0,hx236_1,hx236_2,hx236_3,hx236_4⟩ := at_T127 HR0.out x3_1 p236 q236
          have hw236_4 := hx236_4
          have hw236_3 := hx236_3
          have hw236_2 := hx236_2
          have hw236_1 := hx236_1
          have hw236_0 := hx236_0
          obtain rfl : ad234 = ad236 := (by injection e236)
          replace hx236_0 := (HB.out.cell (World.block_lt_of_cell? w _ hx236_0)).trans hx236_0
          replace hx236_1 := (HB.out.cell (World.block_lt_of_cell? w _ hx236_1)).trans hx236_1
          replace hx236_2 := (HB.out.cell (World.block_lt_of_cell? w _ hx236_2)).trans hx236_2
          replace hx236_3 := (HB.out.cell (World.block_lt_of_cell? w _ hx236_3)).trans hx236_3
          replace hx236_4 := (HB.out.cell (World.block_lt_of_cell? w _ hx236_4)).trans hx236_4
          replace p236 := eq_true p236
          replace q236 := eq_true q236
          have p237 : 0 ≤ ((ji7) : Int) := of_decide_eq_true (by first|(with_reducible assumption)|assumption)
          have q237 : (ji7) < (l0.length : Int) := of_decide_eq_true (by first|(with_reducible assumption)|assumption)
          obtain ⟨ad237,e237,hx237_0,hx237_1,hx237_2,hx237_3,hx237_4⟩ := at_T127 HR0.out (ji7) p237 q237
          have hw237_4 := hx237_4
          have hw237_3 := hx237_3
          have hw237_2 := hx237_2
          have hw237_1 := hx237_1
          have hw237_0 := hx237_0
          obtain rfl : ad234 = ad237 := (by injection e237)
          replace hx237_0 := (HB.out.cell (World.block_lt_of_cell? w _ hx237_0)).trans hx237_0
          replace hx237_1 := (HB.out.cell (World.block_lt_of_cell? w _ hx237_1)).trans hx237_1
          replace hx237_2 := (HB.out.cell (World.block_lt_of_cell? w _ hx237_2)).trans hx237_2
          replace hx237_3 := (HB.out.cell (World.block_lt_of_cell? w _ hx237_3)).trans hx237_3
          replace hx237_4 := (HB.out.cell (World.block_lt_of_cell? w _ hx237_4)).trans hx237_4
          replace p237 := eq_true p237
          replace q237 := eq_true q237
          refine start_ (n := 36) (S := fun w' => w'.cell? (ad234.add ((x3_1).toNat * 5)) = some (.int .i64 ((rd_T127 l0 x3_1).f0)) ∧ w'.cell? ⟨(ad234.add ((x3_1).toNat * 5)).block,(ad234.add ((x3_1).toNat * 5)).off + 1,none⟩ = some (.int .i64 ((rd_T127 l0 x3_1).f1)) ∧ w'.cell? ⟨(ad234.add ((x3_1).toNat * 5)).block,(ad234.add ((x3_1).toNat * 5)).off + 2,none⟩ = some (.int .i64 ((rd_T127 l0 x3_1).f2)) ∧ w'.cell? ⟨(ad234.add ((x3_1).toNat * 5)).block,(ad234.add ((x3_1).toNat * 5)).off + 3,none⟩ = some (.bool ((rd_T127 l0 x3_1).f3)) ∧ w'.cell? ⟨(ad234.add ((x3_1).toNat * 5)).block,(ad234.add ((x3_1).toNat * 5)).off + 4,none⟩ = some (.int .i64 ((rd_T127 l0 x3_1).f4)) ∧ w'.cell? (ad234.add ((x3_1).toNat * 5)) = some (.int .i64 ((rd_T127 l0 x3_1).f0)) ∧ w'.cell? ⟨(ad234.add ((x3_1).toNat * 5)).block,(ad234.add ((x3_1).toNat * 5)).off + 1,none⟩ = some (.int .i64 ((rd_T127 l0 x3_1).f1)) ∧ w'.cell? ⟨(ad234.add ((x3_1).toNat * 5)).block,(ad234.add ((x3_1).toNat * 5)).off + 2,none⟩ = some (.int .i64 ((rd_T127 l0 x3_1).f2)) ∧ w'.cell? ⟨(ad234.add ((x3_1).toNat * 5)).block,(ad234.add ((x3_1).toNat * 5)).off + 3,none⟩ = some (.bool ((rd_T127 l0 x3_1).f3)) ∧ w'.cell? ⟨(ad234.add ((x3_1).toNat * 5)).block,(ad234.add ((x3_1).toNat * 5)).off + 4,none⟩ = some (.int .i64 ((rd_T127 l0 x3_1).f4)) ∧ w'.cell? (ad234.add (((ji7)).toNat * 5)) = some (.int .i64 ((rd_T127 l0 (ji7)).f0)) ∧ w'.cell? ⟨(ad234.add (((ji7)).toNat * 5)).block,(ad234.add (((ji7)).toNat * 5)).off + 1,none⟩ = some (.int .i64 ((rd_T127 l0 (ji7)).f1)) ∧ w'.cell? ⟨(ad234.add (((ji7)).toNat * 5)).block,(ad234.add (((ji7)).toNat * 5)).off + 2,none⟩ = some (.int .i64 ((rd_T127 l0 (ji7)).f2)) ∧ w'.cell? ⟨(ad234.add (((ji7)).toNat * 5)).block,(ad234.add (((ji7)).toNat * 5)).off + 3,none⟩ = some (.bool ((rd_T127 l0 (ji7)).f3)) ∧ w'.cell? ⟨(ad234.add (((ji7)).toNat * 5)).block,(ad234.add (((ji7)).toNat * 5)).off + 4,none⟩ = some (.int .i64 ((rd_T127 l0 (ji7)).f4))) (ds := []) #[false,false,false,false,false,false,false,false,false,false,false,false,false,false,false,false,false,false,false,false,false,false,false,false,false,false,false,false,false,false,false,false,false,false,false,false] (by kernel_rfl) rfl rfl ⟨((HB.out.cell (World.block_lt_of_cell? w _ hw234_0)).trans hw234_0),((HB.out.cell (World.block_lt_of_cell? w _ hw234_1)).trans hw234_1),((HB.out.cell (World.block_lt_of_cell? w _ hw234_2)).trans hw234_2),((HB.out.cell (World.block_lt_of_cell? w _ hw234_3)).trans hw234_3),((HB.out.cell (World.block_lt_of_cell? w _ hw234_4)).trans hw234_4),((HB.out.cell (World.block_lt_of_cell? w _ hw236_0)).trans hw236_0),((HB.out.cell (World.block_lt_of_cell? w _ hw236_1)).trans hw236_1),((HB.out.cell (World.block_lt_of_cell? w _ hw236_2)).trans hw236_2),((HB.out.cell (World.block_lt_of_cell? w _ hw236_3)).trans hw236_3),((HB.out.cell (World.block_lt_of_cell? w _ hw236_4)).trans hw236_4),((HB.out.cell (World.block_lt_of_cell? w _ hw237_0)).trans hw237_0),((HB.out.cell (World.block_lt_of_cell? w _ hw237_1)).trans hw237_1),((HB.out.cell (World.block_lt_of_cell? w _ hw237_2)).trans hw237_2),((HB.out.cell (World.block_lt_of_cell? w _ hw237_3)).trans hw237_3),((HB.out.cell (World.block_lt_of_cell? w _ hw237_4)).trans hw237_4)⟩ (fun hHeld => ?_);refine with_tabW spec_l2Sets.tab4 spec_l2Sets.bits4 (fun HT_ HW_ => ?_)
          generalize wr.drew = w11 at HB hx234_0 hx234_1 hx234_2 hx234_3 hx234_4 hx236_0 hx236_1 hx236_2 hx236_3 hx236_4 hx237_0 hx237_1 hx237_2 hx237_3 hx237_4 hHeld ⊢
          refine pw_ 0 (some 10) HT_.out ?_
          refine pw_ 1 (some 11) HT_.out ?_
          refine pw_ 2 (some 12) HT_.out ?_
          refine tw_ 3 (some 13) HT_.out HW_.out hHeld rfl rfl (by rintro w' ⟨s0,s1,s2,s3,s4,s5,s6,s7,s8,s9,s10,s11,s12,s13,s14⟩;go_simp;with_reducible rfl) ?_
          refine oz_ (i := 4) (N := some 14) HT_.out rfl rfl (by kernel_rfl) (by decide) (fun K hK => ?_)
          refine goes_ Try.func140 (by kernel_rfl) rfl #[.agg #[.int .i64 ((rd_T127 l0 x3_1).f0),.int .i64 ((rd_T127 l0 x3_1).f1),.int .i64 ((rd_T127 l0 x3_1).f2),.bool ((rd_T127 l0 x3_1).f3),.int .i64 ((rd_T127 l0 x3_1).f4)]] (by rfl) rfl rfl (by (try simp only [List.map_toArray,List.map_cons,List.map_nil]);first|done|rfl|(simp only [List.length_drop,List.length_take];rfl)) ?_
          with_reducible refine (spec_SetOk.calls ((rd_T127 l0 x3_1).f0) ((rd_T127 l0 x3_1).f1) ((rd_T127 l0 x3_1).f2) ((rd_T127 l0 x3_1).f3) ((rd_T127 l0 x3_1).f4) true _ A4.out).mono ?_
          rintro e w12 ⟨rfl,hb⟩
          refine ⟨_,rfl,?_⟩
          have n0_ := Aside0.mk (below_step (by repeat (first|(with_reducible first|exact HB.out|apply below_alloc|apply pw_below_drewN|apply below_drew1)|exact HB.out)) hb)
          clear HB
          have HB := n0_
          clear n0_
          (try clear hb)
          (try clear hb2)
          (try clear hk)
          (try clear hi)
          refine hK.out _ _ ⟨((HB.out.cell (World.block_lt_of_cell? w _ hw234_0)).trans hw234_0),((HB.out.cell (World.block_lt_of_cell? w _ hw234_1)).trans hw234_1),((HB.out.cell (World.block_lt_of_cell? w _ hw234_2)).trans hw234_2),((HB.out.cell (World.block_lt_of_cell? w _ hw234_3)).trans hw234_3),((HB.out.cell (World.block_lt_of_cell? w _ hw234_4)).trans hw234_4),((HB.out.cell (World.block_lt_of_cell? w _ hw236_0)).trans hw236_0),((HB.out.cell (World.block_lt_of_cell? w _ hw236_1)).trans hw236_1),((HB.out.cell (World.block_lt_of_cell? w _ hw236_2)).trans hw236_2),((HB.out.cell (World.block_lt_of_cell? w _ hw236_3)).trans hw236_3),((HB.out.cell (World.block_lt_of_cell? w _ hw236_4)).trans hw236_4),((HB.out.cell (World.block_lt_of_cell? w _ hw237_0)).trans hw237_0),((HB.out.cell (World.block_lt_of_cell? w _ hw237_1)).trans hw237_1),((HB.out.cell (World.block_lt_of_cell? w _ hw237_2)).trans hw237_2),((HB.out.cell (World.block_lt_of_cell? w _ hw237_3)).trans hw237_3),((HB.out.cell (World.block_lt_of_cell? w _ hw237_4)).trans hw237_4)⟩ (fun hHeld => ?_)
          clear hK K
          refine norm_ (a' := ?_) ?_ ?_
          rotate_left
          ·show Act.put _ (some 14) _ = _
           simp only [Act.put,q1,q2,q3,i64_w,i32_w]
           rfl
          refine pw_ 5 (some 15) HT_.out ?_
          refine pw_ 6 (some 16) HT_.out ?_
          refine pw_ 7 (some 17) HT_.out ?_
          refine pw_ 8 (some 18) HT_.out ?_
          refine pw_ 9 (some 19) HT_.out ?_
          refine pw_ 10 (some 20) HT_.out ?_
          refine pw_ 11 (some 21) HT_.out ?_
          refine pw_ 12 (some 22) HT_.out ?_
          refine pw_ 13 (some 23) HT_.out ?_
          refine pw_ 15 (some 25) HT_.out ?_
          refine pw_ 16 (some 26) HT_.out ?_
          refine pw_ 17 (some 27) HT_.out ?_
          refine pw_ 18 (some 28) HT_.out ?_
          refine pw_ 19 (some 29) HT_.out ?_
          refine tw_ 14 (some 24) HT_.out HW_.out hHeld rfl rfl (by rintro w' ⟨s0,s1,s2,s3,s4,s5,s6,s7,s8,s9,s10,s11,s12,s13,s14⟩;go_simp;with_reducible rfl) ?_
          refine tw_ 20 (some 30) HT_.out HW_.out hHeld rfl rfl (by rintro w' ⟨s0,s1,s2,s3,s4,s5,s6,s7,s8,s9,s10,s11,s12,s13,s14⟩;go_simp;with_reducible rfl) ?_
          refine pw_ 21 (some 31) HT_.out ?_
          refine pw_ 22 (some 32) HT_.out ?_
          refine pu_ 23 (some 33) HT_.out ?_
          refine pu_ 24 (some 34) HT_.out ?_
          refine pu_ 25 (some 35) HT_.out ?_
          refine pu_ 26 (some 36) HT_.out ?_
          refine pu_ 27 (some 37) HT_.out ?_
          refine pu_ 28 (some 38) HT_.out ?_
          refine pu_ 29 (some 39) HT_.out ?_
          refine pu_ 30 (some 40) HT_.out ?_
          refine pu_ 31 (some 41) HT_.out ?_
          refine pu_ 32 (some 42) HT_.out ?_
          refine pw_ 33 (some 43) HT_.out ?_
          refine pw_ 34 (some 44) HT_.out ?_
          refine pw_ 35 (some 45) HT_.out ?_
          refine done_ (done_of HT_.out (by kernel_rfl)) ?_
          try go_wp2
          go_ret
          exact ⟨by first|rfl|(simp [errW_none,errW_some] <;> rfl)|(simp only [← hji7];first|rfl|(simp [errW_none,errW_some] <;> rfl))|(simp [*,errW_none,errW_some] <;> rfl),by repeat (first|(with_reducible first|exact HB.out|apply below_alloc|apply pw_below_drewN|apply below_drew1)|exact HB.out)⟩
         ·rw [if_neg c10] at H
          have c10b0 : decide (((rd_T127 l0 x3_1).f1) ≤ ((rd_T127 l0 (ji7)).f1)) = false := decide_eq_false c10
          clear c10
          by_cases c13 : 0 < (l0.length : Int)
          ·rw [if_pos c13] at H
           have c13b0 : decide (0 < (l0.length : Int)) = true := decide_eq_true c13
           have c13b1 : decide (0 < l0.length) = true := decide_eq_true (by omega)
           clear c13
           by_cases c14 : ((rd_T127 l0 x3_1).f0) = ((rd_T127 l0 0).f0)
           ·rw [if_pos c14] at H
            have c14b0 : (((rd_T127 l0 x3_1).f0) == ((rd_T127 l0 0).f0)) = true := beq_iff_eq.mpr c14
            have c14b1 : (((rd_T127 l0 x3_1).f0) != ((rd_T127 l0 0).f0)) = false := bne_eq_false_iff_eq.mpr c14
            clear c14
            have H' := Aside0.mk H
            clear H
            try go_wp2
            have n0_ := Aside0.mk (below_drew1 HB.out)
            clear HB
            have HB := n0_
            clear n0_
            have p234 : 0 ≤ (x3_1 : Int) := of_decide_eq_true (by first|(with_reducible assumption)|assumption)
            have q234 : x3_1 < (l0.length : Int) := of_decide_eq_true (by first|(with_reducible assumption)|assumption)
            obtain ⟨ad234,e234,hx234_0,hx234_1,hx234_2,hx234_3,hx234_4⟩ := at_T127 HR0.out x3_1 p234 q234
            have hw234_4 := hx234_4
            have hw234_3 := hx234_3
            have hw234_2 := hx234_2
            have hw234_1 := hx234_1
            have hw234_0 := hx234_0
            cases e234
            replace hx234_0 := (HB.out.cell (World.block_lt_of_cell? w _ hx234_0)).trans hx234_0
            replace hx234_1 := (HB.out.cell (World.block_lt_of_cell? w _ hx234_1)).trans hx234_1
            replace hx234_2 := (HB.out.cell (World.block_lt_of_cell? w _ hx234_2)).trans hx234_2
            replace hx234_3 := (HB.out.cell (World.block_lt_of_cell? w _ hx234_3)).trans hx234_3
            replace hx234_4 := (HB.out.cell (World.block_lt_of_cell? w _ hx234_4)).trans hx234_4
            replace p234 := eq_true p234
            replace q234 := eq_true q234
            have p236 : 0 ≤ (x3_1 : Int) := of_decide_eq_true (by first|(with_reducible assumption)|assumption)
            have q236 : x3_1 < (l0.length : Int) := of_decide_eq_true (by first|(with_reducible assumption)|assumption)
            obtain ⟨ad236,e236,hx236_0,hx236_1,hx236_2,hx236_3,hx236_4⟩ := at_T127 HR0.out x3_1 p236 q236
            have hw236_4 := hx236_4
            have hw236_3 := hx236_3
            have hw236_2 := hx236_2
            have hw236_1 := hx236_1
            have hw236_0 := hx236_0
            obtain rfl : ad234 = ad236 := (by injection e236)
            replace hx236_0 := (HB.out.cell (World.block_lt_of_cell? w _ hx236_0)).trans hx236_0
            replace hx236_1 := (HB.out.cell (World.block_lt_of_cell? w _ hx236_1)).trans hx236_1
            replace hx236_2 := (HB.out.cell (World.block_lt_of_cell? w _ hx236_2)).trans hx236_2
            replace hx236_3 := (HB.out.cell (World.block_lt_of_cell? w _ hx236_3)).trans hx236_3
            replace hx236_4 := (HB.out.cell (World.block_lt_of_cell? w _ hx236_4)).trans hx236_4
            replace p236 := eq_true p236
            replace q236 := eq_true q236
            have p237 : 0 ≤ ((ji7) : Int) := of_decide_eq_true (by first|(with_reducible assumption)|assumption)
            have q237 : (ji7) < (l0.length : Int) := of_decide_eq_true (by first|(with_reducible assumption)|assumption)
            obtain ⟨ad237,e237,hx237_0,hx237_1,hx237_2,hx237_3,hx237_4⟩ := at_T127 HR0.out (ji7) p237 q237
            have hw237_4 := hx237_4
            have hw237_3 := hx237_3
            have hw237_2 := hx237_2
            have hw237_1 := hx237_1
            have hw237_0 := hx237_0
            obtain rfl : ad234 = ad237 := (by injection e237)
            replace hx237_0 := (HB.out.cell (World.block_lt_of_cell? w _ hx237_0)).trans hx237_0
            replace hx237_1 := (HB.out.cell (World.block_lt_of_cell? w _ hx237_1)).trans hx237_1
            replace hx237_2 := (HB.out.cell (World.block_lt_of_cell? w _ hx237_2)).trans hx237_2
            replace hx237_3 := (HB.out.cell (World.block_lt_of_cell? w _ hx237_3)).trans hx237_3
            replace hx237_4 := (HB.out.cell (World.block_lt_of_cell? w _ hx237_4)).trans hx237_4
            replace p237 := eq_true p237
            replace q237 := eq_true q237
            have p238 : 0 ≤ (x3_1 : Int) := of_decide_eq_true (by first|(with_reducible assumption)|assumption)
            have q238 : x3_1 < (l0.length : Int) := of_decide_eq_true (by first|(with_reducible assumption)|assumption)
            obtain ⟨ad238,e238,hx238_0,hx238_1,hx238_2,hx238_3,hx238_4⟩ := at_T127 HR0.out x3_1 p238 q238
            have hw238_4 := hx238_4
            have hw238_3 := hx238_3
            have hw238_2 := hx238_2
            have hw238_1 := hx238_1
            have hw238_0 := hx238_0
            obtain rfl : ad234 = ad238 := (by injection e238)
            replace hx238_0 := (HB.out.cell (World.block_lt_of_cell? w _ hx238_0)).trans hx238_0
            replace hx238_1 := (HB.out.cell (World.block_lt_of_cell? w _ hx238_1)).trans hx238_1
            replace hx238_2 := (HB.out.cell (World.block_lt_of_cell? w _ hx238_2)).trans hx238_2
            replace hx238_3 := (HB.out.cell (World.block_lt_of_cell? w _ hx238_3)).trans hx238_3
            replace hx238_4 := (HB.out.cell (World.block_lt_of_cell? w _ hx238_4)).trans hx238_4
            replace p238 := eq_true p238
            replace q238 := eq_true q238
            have p239 : 0 ≤ (0 : Int) := (by omega)
            have q239 : 0 < (l0.length : Int) := of_decide_eq_true (by first|(with_reducible assumption)|assumption)
            obtain ⟨ad239,e239,hx239_0,hx239_1,hx239_2,hx239_3,hx239_4⟩ := at_T127 HR0.out 0 p239 q239
            have hw239_4 := hx239_4
            (try rw [show ((0 : Int)).toNat = 0 from rfl] at hw239_4)
            (try rw [show 0 * 5 = 0 from rfl] at hw239_4)
            (try rw [Addr.add_zero'] at hw239_4)
            have hw239_3 := hx239_3
            (try rw [show ((0 : Int)).toNat = 0 from rfl] at hw239_3)
            (try rw [show 0 * 5 = 0 from rfl] at hw239_3)
            (try rw [Addr.add_zero'] at hw239_3)
            have hw239_2 := hx239_2
            (try rw [show ((0 : Int)).toNat = 0 from rfl] at hw239_2)
            (try rw [show 0 * 5 = 0 from rfl] at hw239_2)
            (try rw [Addr.add_zero'] at hw239_2)
            have hw239_1 := hx239_1
            (try rw [show ((0 : Int)).toNat = 0 from rfl] at hw239_1)
            (try rw [show 0 * 5 = 0 from rfl] at hw239_1)
            (try rw [Addr.add_zero'] at hw239_1)
            have hw239_0 := hx239_0
            (try rw [show ((0 : Int)).toNat = 0 from rfl] at hw239_0)
            (try rw [show 0 * 5 = 0 from rfl] at hw239_0)
            (try rw [Addr.add_zero'] at hw239_0)
            obtain rfl : ad234 = ad239 := (by injection e239)
            have qi239 : (0 < l0.length) = True := eq_true (by omega)
            (try rw [show ((0 : Int)).toNat = 0 from rfl] at hx239_0)
            (try rw [show 0 * 5 = 0 from rfl] at hx239_0)
            (try rw [Addr.add_zero'] at hx239_0)
            (try rw [show ((0 : Int)).toNat = 0 from rfl] at hx239_1)
            (try rw [show 0 * 5 = 0 from rfl] at hx239_1)
            (try rw [Addr.add_zero'] at hx239_1)
            (try rw [show ((0 : Int)).toNat = 0 from rfl] at hx239_2)
            (try rw [show 0 * 5 = 0 from rfl] at hx239_2)
            (try rw [Addr.add_zero'] at hx239_2)
            (try rw [show ((0 : Int)).toNat = 0 from rfl] at hx239_3)
            (try rw [show 0 * 5 = 0 from rfl] at hx239_3)
            (try rw [Addr.add_zero'] at hx239_3)
            (try rw [show ((0 : Int)).toNat = 0 from rfl] at hx239_4)
            (try rw [show 0 * 5 = 0 from rfl] at hx239_4)
            (try rw [Addr.add_zero'] at hx239_4)
            replace hx239_0 := (HB.out.cell (World.block_lt_of_cell? w _ hx239_0)).trans hx239_0
            replace hx239_1 := (HB.out.cell (World.block_lt_of_cell? w _ hx239_1)).trans hx239_1
            replace hx239_2 := (HB.out.cell (World.block_lt_of_cell? w _ hx239_2)).trans hx239_2
            replace hx239_3 := (HB.out.cell (World.block_lt_of_cell? w _ hx239_3)).trans hx239_3
            replace hx239_4 := (HB.out.cell (World.block_lt_of_cell? w _ hx239_4)).trans hx239_4
            replace p239 := eq_true p239
            replace q239 := eq_true q239
            refine start_ (n := 36) (S := fun w' => w'.cell? (ad234.add ((x3_1).toNat * 5)) = some (.int .i64 ((rd_T127 l0 x3_1).f0)) ∧ w'.cell? ⟨(ad234.add ((x3_1).toNat * 5)).block,(ad234.add ((x3_1).toNat * 5)).off + 1,none⟩ = some (.int .i64 ((rd_T127 l0 x3_1).f1)) ∧ w'.cell? ⟨(ad234.add ((x3_1).toNat * 5)).block,(ad234.add ((x3_1).toNat * 5)).off + 2,none⟩ = some (.int .i64 ((rd_T127 l0 x3_1).f2)) ∧ w'.cell? ⟨(ad234.add ((x3_1).toNat * 5)).block,(ad234.add ((x3_1).toNat * 5)).off + 3,none⟩ = some (.bool ((rd_T127 l0 x3_1).f3)) ∧ w'.cell? ⟨(ad234.add ((x3_1).toNat * 5)).block,(ad234.add ((x3_1).toNat * 5)).off + 4,none⟩ = some (.int .i64 ((rd_T127 l0 x3_1).f4)) ∧ w'.cell? (ad234.add ((x3_1).toNat * 5)) = some (.int .i64 ((rd_T127 l0 x3_1).f0)) ∧ w'.cell? ⟨(ad234.add ((x3_1).toNat * 5)).block,(ad234.add ((x3_1).toNat * 5)).off + 1,none⟩ = some (.int .i64 ((rd_T127 l0 x3_1).f1)) ∧ w'.cell? ⟨(ad234.add ((x3_1).toNat * 5)).block,(ad234.add ((x3_1).toNat * 5)).off + 2,none⟩ = some (.int .i64 ((rd_T127 l0 x3_1).f2)) ∧ w'.cell? ⟨(ad234.add ((x3_1).toNat * 5)).block,(ad234.add ((x3_1).toNat * 5)).off + 3,none⟩ = some (.bool ((rd_T127 l0 x3_1).f3)) ∧ w'.cell? ⟨(ad234.add ((x3_1).toNat * 5)).block,(ad234.add ((x3_1).toNat * 5)).off + 4,none⟩ = some (.int .i64 ((rd_T127 l0 x3_1).f4)) ∧ w'.cell? (ad234.add (((ji7)).toNat * 5)) = some (.int .i64 ((rd_T127 l0 (ji7)).f0)) ∧ w'.cell? ⟨(ad234.add (((ji7)).toNat * 5)).block,(ad234.add (((ji7)).toNat * 5)).off + 1,none⟩ = some (.int .i64 ((rd_T127 l0 (ji7)).f1)) ∧ w'.cell? ⟨(ad234.add (((ji7)).toNat * 5)).block,(ad234.add (((ji7)).toNat * 5)).off + 2,none⟩ = some (.int .i64 ((rd_T127 l0 (ji7)).f2)) ∧ w'.cell? ⟨(ad234.add (((ji7)).toNat * 5)).block,(ad234.add (((ji7)).toNat * 5)).off + 3,none⟩ = some (.bool ((rd_T127 l0 (ji7)).f3)) ∧ w'.cell? ⟨(ad234.add (((ji7)).toNat * 5)).block,(ad234.add (((ji7)).toNat * 5)).off + 4,none⟩ = some (.int .i64 ((rd_T127 l0 (ji7)).f4)) ∧ w'.cell? (ad234.add ((x3_1).toNat * 5)) = some (.int .i64 ((rd_T127 l0 x3_1).f0)) ∧ w'.cell? ⟨(ad234.add ((x3_1).toNat * 5)).block,(ad234.add ((x3_1).toNat * 5)).off + 1,none⟩ = some (.int .i64 ((rd_T127 l0 x3_1).f1)) ∧ w'.cell? ⟨(ad234.add ((x3_1).toNat * 5)).block,(ad234.add ((x3_1).toNat * 5)).off + 2,none⟩ = some (.int .i64 ((rd_T127 l0 x3_1).f2)) ∧ w'.cell? ⟨(ad234.add ((x3_1).toNat * 5)).block,(ad234.add ((x3_1).toNat * 5)).off + 3,none⟩ = some (.bool ((rd_T127 l0 x3_1).f3)) ∧ w'.cell? ⟨(ad234.add ((x3_1).toNat * 5)).block,(ad234.add ((x3_1).toNat * 5)).off + 4,none⟩ = some (.int .i64 ((rd_T127 l0 x3_1).f4)) ∧ w'.cell? ad234 = some (.int .i64 ((rd_T127 l0 0).f0)) ∧ w'.cell? ⟨ad234.block,ad234.off + 1,none⟩ = some (.int .i64 ((rd_T127 l0 0).f1)) ∧ w'.cell? ⟨ad234.block,ad234.off + 2,none⟩ = some (.int .i64 ((rd_T127 l0 0).f2)) ∧ w'.cell? ⟨ad234.block,ad234.off + 3,none⟩ = some (.bool ((rd_T127 l0 0).f3)) ∧ w'.cell? ⟨ad234.block,ad234.off + 4,none⟩ = some (.int .i64 ((rd_T127 l0 0).f4))) (ds := []) #[false,false,false,false,false,false,false,false,false,false,false,false,false,false,false,false,false,false,false,false,false,false,false,false,false,false,false,false,false,false,false,false,false,false,false,false] (by kernel_rfl) rfl rfl ⟨((HB.out.cell (World.block_lt_of_cell? w _ hw234_0)).trans hw234_0),((HB.out.cell (World.block_lt_of_cell? w _ hw234_1)).trans hw234_1),((HB.out.cell (World.block_lt_of_cell? w _ hw234_2)).trans hw234_2),((HB.out.cell (World.block_lt_of_cell? w _ hw234_3)).trans hw234_3),((HB.out.cell (World.block_lt_of_cell? w _ hw234_4)).trans hw234_4),((HB.out.cell (World.block_lt_of_cell? w _ hw236_0)).trans hw236_0),((HB.out.cell (World.block_lt_of_cell? w _ hw236_1)).trans hw236_1),((HB.out.cell (World.block_lt_of_cell? w _ hw236_2)).trans hw236_2),((HB.out.cell (World.block_lt_of_cell? w _ hw236_3)).trans hw236_3),((HB.out.cell (World.block_lt_of_cell? w _ hw236_4)).trans hw236_4),((HB.out.cell (World.block_lt_of_cell? w _ hw237_0)).trans hw237_0),((HB.out.cell (World.block_lt_of_cell? w _ hw237_1)).trans hw237_1),((HB.out.cell (World.block_lt_of_cell? w _ hw237_2)).trans hw237_2),((HB.out.cell (World.block_lt_of_cell? w _ hw237_3)).trans hw237_3),((HB.out.cell (World.block_lt_of_cell? w _ hw237_4)).trans hw237_4),((HB.out.cell (World.block_lt_of_cell? w _ hw238_0)).trans hw238_0),((HB.out.cell (World.block_lt_of_cell? w _ hw238_1)).trans hw238_1),((HB.out.cell (World.block_lt_of_cell? w _ hw238_2)).trans hw238_2),((HB.out.cell (World.block_lt_of_cell? w _ hw238_3)).trans hw238_3),((HB.out.cell (World.block_lt_of_cell? w _ hw238_4)).trans hw238_4),((HB.out.cell (World.block_lt_of_cell? w _ hw239_0)).trans hw239_0),((HB.out.cell (World.block_lt_of_cell? w _ hw239_1)).trans hw239_1),((HB.out.cell (World.block_lt_of_cell? w _ hw239_2)).trans hw239_2),((HB.out.cell (World.block_lt_of_cell? w _ hw239_3)).trans hw239_3),((HB.out.cell (World.block_lt_of_cell? w _ hw239_4)).trans hw239_4)⟩ (fun hHeld => ?_);refine with_tabW spec_l2Sets.tab4 spec_l2Sets.bits4 (fun HT_ HW_ => ?_)
            generalize wr.drew = w15 at HB hx234_0 hx234_1 hx234_2 hx234_3 hx234_4 hx236_0 hx236_1 hx236_2 hx236_3 hx236_4 hx237_0 hx237_1 hx237_2 hx237_3 hx237_4 hx238_0 hx238_1 hx238_2 hx238_3 hx238_4 hx239_0 hx239_1 hx239_2 hx239_3 hx239_4 hHeld ⊢
            refine pw_ 0 (some 10) HT_.out ?_
            refine pw_ 1 (some 11) HT_.out ?_
            refine pw_ 2 (some 12) HT_.out ?_
            refine tw_ 3 (some 13) HT_.out HW_.out hHeld rfl rfl (by rintro w' ⟨s0,s1,s2,s3,s4,s5,s6,s7,s8,s9,s10,s11,s12,s13,s14,s15,s16,s17,s18,s19,s20,s21,s22,s23,s24⟩;go_simp;with_reducible rfl) ?_
            refine oz_ (i := 4) (N := some 14) HT_.out rfl rfl (by kernel_rfl) (by decide) (fun K hK => ?_)
            refine goes_ Try.func140 (by kernel_rfl) rfl #[.agg #[.int .i64 ((rd_T127 l0 x3_1).f0),.int .i64 ((rd_T127 l0 x3_1).f1),.int .i64 ((rd_T127 l0 x3_1).f2),.bool ((rd_T127 l0 x3_1).f3),.int .i64 ((rd_T127 l0 x3_1).f4)]] (by rfl) rfl rfl (by (try simp only [List.map_toArray,List.map_cons,List.map_nil]);first|done|rfl|(simp only [List.length_drop,List.length_take];rfl)) ?_
            with_reducible refine (spec_SetOk.calls ((rd_T127 l0 x3_1).f0) ((rd_T127 l0 x3_1).f1) ((rd_T127 l0 x3_1).f2) ((rd_T127 l0 x3_1).f3) ((rd_T127 l0 x3_1).f4) true _ A4.out).mono ?_
            rintro e w16 ⟨rfl,hb⟩
            refine ⟨_,rfl,?_⟩
            have n0_ := Aside0.mk (below_step (by repeat (first|(with_reducible first|exact HB.out|apply below_alloc|apply pw_below_drewN|apply below_drew1)|exact HB.out)) hb)
            clear HB
            have HB := n0_
            clear n0_
            (try clear hb)
            (try clear hb2)
            (try clear hk)
            (try clear hi)
            refine hK.out _ _ ⟨((HB.out.cell (World.block_lt_of_cell? w _ hw234_0)).trans hw234_0),((HB.out.cell (World.block_lt_of_cell? w _ hw234_1)).trans hw234_1),((HB.out.cell (World.block_lt_of_cell? w _ hw234_2)).trans hw234_2),((HB.out.cell (World.block_lt_of_cell? w _ hw234_3)).trans hw234_3),((HB.out.cell (World.block_lt_of_cell? w _ hw234_4)).trans hw234_4),((HB.out.cell (World.block_lt_of_cell? w _ hw236_0)).trans hw236_0),((HB.out.cell (World.block_lt_of_cell? w _ hw236_1)).trans hw236_1),((HB.out.cell (World.block_lt_of_cell? w _ hw236_2)).trans hw236_2),((HB.out.cell (World.block_lt_of_cell? w _ hw236_3)).trans hw236_3),((HB.out.cell (World.block_lt_of_cell? w _ hw236_4)).trans hw236_4),((HB.out.cell (World.block_lt_of_cell? w _ hw237_0)).trans hw237_0),((HB.out.cell (World.block_lt_of_cell? w _ hw237_1)).trans hw237_1),((HB.out.cell (World.block_lt_of_cell? w _ hw237_2)).trans hw237_2),((HB.out.cell (World.block_lt_of_cell? w _ hw237_3)).trans hw237_3),((HB.out.cell (World.block_lt_of_cell? w _ hw237_4)).trans hw237_4),((HB.out.cell (World.block_lt_of_cell? w _ hw238_0)).trans hw238_0),((HB.out.cell (World.block_lt_of_cell? w _ hw238_1)).trans hw238_1),((HB.out.cell (World.block_lt_of_cell? w _ hw238_2)).trans hw238_2),((HB.out.cell (World.block_lt_of_cell? w _ hw238_3)).trans hw238_3),((HB.out.cell (World.block_lt_of_cell? w _ hw238_4)).trans hw238_4),((HB.out.cell (World.block_lt_of_cell? w _ hw239_0)).trans hw239_0),((HB.out.cell (World.block_lt_of_cell? w _ hw239_1)).trans hw239_1),((HB.out.cell (World.block_lt_of_cell? w _ hw239_2)).trans hw239_2),((HB.out.cell (World.block_lt_of_cell? w _ hw239_3)).trans hw239_3),((HB.out.cell (World.block_lt_of_cell? w _ hw239_4)).trans hw239_4)⟩ (fun hHeld => ?_)
            clear hK K
            refine norm_ (a' := ?_) ?_ ?_
            rotate_left
            ·show Act.put _ (some 14) _ = _
             simp only [Act.put,q1,q2,q3,i64_w,i32_w]
             rfl
            refine pw_ 5 (some 15) HT_.out ?_
            refine pw_ 6 (some 16) HT_.out ?_
            refine pw_ 7 (some 17) HT_.out ?_
            refine pw_ 8 (some 18) HT_.out ?_
            refine pw_ 9 (some 19) HT_.out ?_
            refine pw_ 10 (some 20) HT_.out ?_
            refine pw_ 11 (some 21) HT_.out ?_
            refine pw_ 12 (some 22) HT_.out ?_
            refine pw_ 13 (some 23) HT_.out ?_
            refine pw_ 15 (some 25) HT_.out ?_
            refine pw_ 16 (some 26) HT_.out ?_
            refine pw_ 17 (some 27) HT_.out ?_
            refine pw_ 18 (some 28) HT_.out ?_
            refine pw_ 19 (some 29) HT_.out ?_
            refine tw_ 14 (some 24) HT_.out HW_.out hHeld rfl rfl (by rintro w' ⟨s0,s1,s2,s3,s4,s5,s6,s7,s8,s9,s10,s11,s12,s13,s14,s15,s16,s17,s18,s19,s20,s21,s22,s23,s24⟩;go_simp;with_reducible rfl) ?_
            refine tw_ 20 (some 30) HT_.out HW_.out hHeld rfl rfl (by rintro w' ⟨s0,s1,s2,s3,s4,s5,s6,s7,s8,s9,s10,s11,s12,s13,s14,s15,s16,s17,s18,s19,s20,s21,s22,s23,s24⟩;go_simp;with_reducible rfl) ?_
            refine pw_ 21 (some 31) HT_.out ?_
            refine pw_ 22 (some 32) HT_.out ?_
            refine pw_ 23 (some 33) HT_.out ?_
            refine pw_ 24 (some 34) HT_.out ?_
            refine pw_ 25 (some 35) HT_.out ?_
            refine pw_ 26 (some 36) HT_.out ?_
            refine pw_ 28 (some 38) HT_.out ?_
            refine pw_ 29 (some 39) HT_.out ?_
            refine pw_ 30 (some 40) HT_.out ?_
            refine tw_ 27 (some 37) HT_.out HW_.out hHeld rfl rfl (by rintro w' ⟨s0,s1,s2,s3,s4,s5,s6,s7,s8,s9,s10,s11,s12,s13,s14,s15,s16,s17,s18,s19,s20,s21,s22,s23,s24⟩;go_simp;with_reducible rfl) ?_
            refine tw_ 31 (some 41) HT_.out HW_.out hHeld rfl rfl (by rintro w' ⟨s0,s1,s2,s3,s4,s5,s6,s7,s8,s9,s10,s11,s12,s13,s14,s15,s16,s17,s18,s19,s20,s21,s22,s23,s24⟩;go_simp;with_reducible rfl) ?_
            refine pw_ 32 (some 42) HT_.out ?_
            refine pw_ 33 (some 43) HT_.out ?_
            refine pw_ 34 (some 44) HT_.out ?_
            refine pw_ 35 (some 45) HT_.out ?_
            refine done_ (done_of HT_.out (by kernel_rfl)) ?_
            try go_wp2
            go_roundg k1
            case measure => have := HK1.out;omega
            case rel => exact ⟨(wrap64 (x3_1 + 1)),(by first|rfl|(simp;done)|(simp [*];done)),H',⟨by have := HK1.out;omega⟩,⟨by repeat (first|(with_reducible first|exact HB.out|apply below_alloc|apply pw_below_drewN|apply below_drew1)|exact HB.out)⟩⟩
           ·rw [if_neg c14] at H
            have c14b0 : (((rd_T127 l0 x3_1).f0) == ((rd_T127 l0 0).f0)) = false := beq_eq_false_iff_ne.mpr c14
            have c14b1 : (((rd_T127 l0 x3_1).f0) != ((rd_T127 l0 0).f0)) = true := bne_iff_ne.mpr c14
            obtain rfl := Option.some.inj H
            try go_wp2
            have n0_ := Aside0.mk (below_drew1 HB.out)
            clear HB
            have HB := n0_
            clear n0_
            have p234 : 0 ≤ (x3_1 : Int) := of_decide_eq_true (by first|(with_reducible assumption)|assumption)
            have q234 : x3_1 < (l0.length : Int) := of_decide_eq_true (by first|(with_reducible assumption)|assumption)
            obtain ⟨ad234,e234,hx234_0,hx234_1,hx234_2,hx234_3,hx234_4⟩ := at_T127 HR0.out x3_1 p234 q234
            have hw234_4 := hx234_4
            have hw234_3 := hx234_3
            have hw234_2 := hx234_2
            have hw234_1 := hx234_1
            have hw234_0 := hx234_0
            cases e234
            replace hx234_0 := (HB.out.cell (World.block_lt_of_cell? w _ hx234_0)).trans hx234_0
            replace hx234_1 := (HB.out.cell (World.block_lt_of_cell? w _ hx234_1)).trans hx234_1
            replace hx234_2 := (HB.out.cell (World.block_lt_of_cell? w _ hx234_2)).trans hx234_2
            replace hx234_3 := (HB.out.cell (World.block_lt_of_cell? w _ hx234_3)).trans hx234_3
            replace hx234_4 := (HB.out.cell (World.block_lt_of_cell? w _ hx234_4)).trans hx234_4
            replace p234 := eq_true p234
            replace q234 := eq_true q234
            have p236 : 0 ≤ (x3_1 : Int) := of_decide_eq_true (by first|(with_reducible assumption)|assumption)
            have q236 : x3_1 < (l0.length : Int) := of_decide_eq_true (by first|(with_reducible assumption)|assumption)
            obtain ⟨ad236,e236,hx236_0,hx236_1,hx236_2,hx236_3,hx236_4⟩ := at_T127 HR0.out x3_1 p236 q236
            have hw236_4 := hx236_4
            have hw236_3 := hx236_3
            have hw236_2 := hx236_2
            have hw236_1 := hx236_1
            have hw236_0 := hx236_0
            obtain rfl : ad234 = ad236 := (by injection e236)
            replace hx236_0 := (HB.out.cell (World.block_lt_of_cell? w _ hx236_0)).trans hx236_0
            replace hx236_1 := (HB.out.cell (World.block_lt_of_cell? w _ hx236_1)).trans hx236_1
            replace hx236_2 := (HB.out.cell (World.block_lt_of_cell? w _ hx236_2)).trans hx236_2
            replace hx236_3 := (HB.out.cell (World.block_lt_of_cell? w _ hx236_3)).trans hx236_3
            replace hx236_4 := (HB.out.cell (World.block_lt_of_cell? w _ hx236_4)).trans hx236_4
            replace p236 := eq_true p236
            replace q236 := eq_true q236
            have p237 : 0 ≤ ((ji7) : Int) := of_decide_eq_true (by first|(with_reducible assumption)|assumption)
            have q237 : (ji7) < (l0.length : Int) := of_decide_eq_true (by first|(with_reducible assumption)|assumption)
            obtain ⟨ad237,e237,hx237_0,hx237_1,hx237_2,hx237_3,hx237_4⟩ := at_T127 HR0.out (ji7) p237 q237
            have hw237_4 := hx237_4
            have hw237_3 := hx237_3
            have hw237_2 := hx237_2
            have hw237_1 := hx237_1
            have hw237_0 := hx237_0
            obtain rfl : ad234 = ad237 := (by injection e237)
            replace hx237_0 := (HB.out.cell (World.block_lt_of_cell? w _ hx237_0)).trans hx237_0
            replace hx237_1 := (HB.out.cell (World.block_lt_of_cell? w _ hx237_1)).trans hx237_1
            replace hx237_2 := (HB.out.cell (World.block_lt_of_cell? w _ hx237_2)).trans hx237_2
            replace hx237_3 := (HB.out.cell (World.block_lt_of_cell? w _ hx237_3)).trans hx237_3
            replace hx237_4 := (HB.out.cell (World.block_lt_of_cell? w _ hx237_4)).trans hx237_4
            replace p237 := eq_true p237
            replace q237 := eq_true q237
            have p238 : 0 ≤ (x3_1 : Int) := of_decide_eq_true (by first|(with_reducible assumption)|assumption)
            have q238 : x3_1 < (l0.length : Int) := of_decide_eq_true (by first|(with_reducible assumption)|assumption)
            obtain ⟨ad238,e238,hx238_0,hx238_1,hx238_2,hx238_3,hx238_4⟩ := at_T127 HR0.out x3_1 p238 q238
            have hw238_4 := hx238_4
            have hw238_3 := hx238_3
            have hw238_2 := hx238_2
            have hw238_1 := hx238_1
            have hw238_0 := hx238_0
            obtain rfl : ad234 = ad238 := (by injection e238)
            replace hx238_0 := (HB.out.cell (World.block_lt_of_cell? w _ hx238_0)).trans hx238_0
            replace hx238_1 := (HB.out.cell (World.block_lt_of_cell? w _ hx238_1)).trans hx238_1
            replace hx238_2 := (HB.out.cell (World.block_lt_of_cell? w _ hx238_2)).trans hx238_2
            replace hx238_3 := (HB.out.cell (World.block_lt_of_cell? w _ hx238_3)).trans hx238_3
            replace hx238_4 := (HB.out.cell (World.block_lt_of_cell? w _ hx238_4)).trans hx238_4
            replace p238 := eq_true p238
            replace q238 := eq_true q238
            have p239 : 0 ≤ (0 : Int) := (by omega)
            have q239 : 0 < (l0.length : Int) := of_decide_eq_true (by first|(with_reducible assumption)|assumption)
            obtain ⟨ad239,e239,hx239_0,hx239_1,hx239_2,hx239_3,hx239_4⟩ := at_T127 HR0.out 0 p239 q239
            have hw239_4 := hx239_4
            (try rw [show ((0 : Int)).toNat = 0 from rfl] at hw239_4)
            (try rw [show 0 * 5 = 0 from rfl] at hw239_4)
            (try rw [Addr.add_zero'] at hw239_4)
            have hw239_3 := hx239_3
            (try rw [show ((0 : Int)).toNat = 0 from rfl] at hw239_3)
            (try rw [show 0 * 5 = 0 from rfl] at hw239_3)
            (try rw [Addr.add_zero'] at hw239_3)
            have hw239_2 := hx239_2
            (try rw [show ((0 : Int)).toNat = 0 from rfl] at hw239_2)
            (try rw [show 0 * 5 = 0 from rfl] at hw239_2)
            (try rw [Addr.add_zero'] at hw239_2)
            have hw239_1 := hx239_1
            (try rw [show ((0 : Int)).toNat = 0 from rfl] at hw239_1)
            (try rw [show 0 * 5 = 0 from rfl] at hw239_1)
            (try rw [Addr.add_zero'] at hw239_1)
            have hw239_0 := hx239_0
            (try rw [show ((0 : Int)).toNat = 0 from rfl] at hw239_0)
            (try rw [show 0 * 5 = 0 from rfl] at hw239_0)
            (try rw [Addr.add_zero'] at hw239_0)
            obtain rfl : ad234 = ad239 := (by injection e239)
            have qi239 : (0 < l0.length) = True := eq_true (by omega)
            (try rw [show ((0 : Int)).toNat = 0 from rfl] at hx239_0)
            (try rw [show 0 * 5 = 0 from rfl] at hx239_0)
            (try rw [Addr.add_zero'] at hx239_0)
            (try rw [show ((0 : Int)).toNat = 0 from rfl] at hx239_1)
            (try rw [show 0 * 5 = 0 from rfl] at hx239_1)
            (try rw [Addr.add_zero'] at hx239_1)
            (try rw [show ((0 : Int)).toNat = 0 from rfl] at hx239_2)
            (try rw [show 0 * 5 = 0 from rfl] at hx239_2)
            (try rw [Addr.add_zero'] at hx239_2)
            (try rw [show ((0 : Int)).toNat = 0 from rfl] at hx239_3)
            (try rw [show 0 * 5 = 0 from rfl] at hx239_3)
            (try rw [Addr.add_zero'] at hx239_3)
            (try rw [show ((0 : Int)).toNat = 0 from rfl] at hx239_4)
            (try rw [show 0 * 5 = 0 from rfl] at hx239_4)
            (try rw [Addr.add_zero'] at hx239_4)
            replace hx239_0 := (HB.out.cell (World.block_lt_of_cell? w _ hx239_0)).trans hx239_0
            replace hx239_1 := (HB.out.cell (World.block_lt_of_cell? w _ hx239_1)).trans hx239_1
            replace hx239_2 := (HB.out.cell (World.block_lt_of_cell? w _ hx239_2)).trans hx239_2
            replace hx239_3 := (HB.out.cell (World.block_lt_of_cell? w _ hx239_3)).trans hx239_3
            replace hx239_4 := (HB.out.cell (World.block_lt_of_cell? w _ hx239_4)).trans hx239_4
            replace p239 := eq_true p239
            replace q239 := eq_true q239
            refine start_ (n := 36) (S := fun w' => w'.cell? (ad234.add ((x3_1).toNat * 5)) = some (.int .i64 ((rd_T127 l0 x3_1).f0)) ∧ w'.cell? ⟨(ad234.add ((x3_1).toNat * 5)).block,(ad234.add ((x3_1).toNat * 5)).off + 1,none⟩ = some (.int .i64 ((rd_T127 l0 x3_1).f1)) ∧ w'.cell? ⟨(ad234.add ((x3_1).toNat * 5)).block,(ad234.add ((x3_1).toNat * 5)).off + 2,none⟩ = some (.int .i64 ((rd_T127 l0 x3_1).f2)) ∧ w'.cell? ⟨(ad234.add ((x3_1).toNat * 5)).block,(ad234.add ((x3_1).toNat * 5)).off + 3,none⟩ = some (.bool ((rd_T127 l0 x3_1).f3)) ∧ w'.cell? ⟨(ad234.add ((x3_1).toNat * 5)).block,(ad234.add ((x3_1).toNat * 5)).off + 4,none⟩ = some (.int .i64 ((rd_T127 l0 x3_1).f4)) ∧ w'.cell? (ad234.add ((x3_1).toNat * 5)) = some (.int .i64 ((rd_T127 l0 x3_1).f0)) ∧ w'.cell? ⟨(ad234.add ((x3_1).toNat * 5)).block,(ad234.add ((x3_1).toNat * 5)).off + 1,none⟩ = some (.int .i64 ((rd_T127 l0 x3_1).f1)) ∧ w'.cell? ⟨(ad234.add ((x3_1).toNat * 5)).block,(ad234.add ((x3_1).toNat * 5)).off + 2,none⟩ = some (.int .i64 ((rd_T127 l0 x3_1).f2)) ∧ w'.cell? ⟨(ad234.add ((x3_1).toNat * 5)).block,(ad234.add ((x3_1).toNat * 5)).off + 3,none⟩ = some (.bool ((rd_T127 l0 x3_1).f3)) ∧ w'.cell? ⟨(ad234.add ((x3_1).toNat * 5)).block,(ad234.add ((x3_1).toNat * 5)).off + 4,none⟩ = some (.int .i64 ((rd_T127 l0 x3_1).f4)) ∧ w'.cell? (ad234.add (((ji7)).toNat * 5)) = some (.int .i64 ((rd_T127 l0 (ji7)).f0)) ∧ w'.cell? ⟨(ad234.add (((ji7)).toNat * 5)).block,(ad234.add (((ji7)).toNat * 5)).off + 1,none⟩ = some (.int .i64 ((rd_T127 l0 (ji7)).f1)) ∧ w'.cell? ⟨(ad234.add (((ji7)).toNat * 5)).block,(ad234.add (((ji7)).toNat * 5)).off + 2,none⟩ = some (.int .i64 ((rd_T127 l0 (ji7)).f2)) ∧ w'.cell? ⟨(ad234.add (((ji7)).toNat * 5)).block,(ad234.add (((ji7)).toNat * 5)).off + 3,none⟩ = some (.bool ((rd_T127 l0 (ji7)).f3)) ∧ w'.cell? ⟨(ad234.add (((ji7)).toNat * 5)).block,(ad234.add (((ji7)).toNat * 5)).off + 4,none⟩ = some (.int .i64 ((rd_T127 l0 (ji7)).f4)) ∧ w'.cell? (ad234.add ((x3_1).toNat * 5)) = some (.int .i64 ((rd_T127 l0 x3_1).f0)) ∧ w'.cell? ⟨(ad234.add ((x3_1).toNat * 5)).block,(ad234.add ((x3_1).toNat * 5)).off + 1,none⟩ = some (.int .i64 ((rd_T127 l0 x3_1).f1)) ∧ w'.cell? ⟨(ad234.add ((x3_1).toNat * 5)).block,(ad234.add ((x3_1).toNat * 5)).off + 2,none⟩ = some (.int .i64 ((rd_T127 l0 x3_1).f2)) ∧ w'.cell? ⟨(ad234.add ((x3_1).toNat * 5)).block,(ad234.add ((x3_1).toNat * 5)).off + 3,none⟩ = some (.bool ((rd_T127 l0 x3_1).f3)) ∧ w'.cell? ⟨(ad234.add ((x3_1).toNat * 5)).block,(ad234.add ((x3_1).toNat * 5)).off + 4,none⟩ = some (.int .i64 ((rd_T127 l0 x3_1).f4)) ∧ w'.cell? ad234 = some (.int .i64 ((rd_T127 l0 0).f0)) ∧ w'.cell? ⟨ad234.block,ad234.off + 1,none⟩ = some (.int .i64 ((rd_T127 l0 0).f1)) ∧ w'.cell? ⟨ad234.block,ad234.off + 2,none⟩ = some (.int .i64 ((rd_T127 l0 0).f2)) ∧ w'.cell? ⟨ad234.block,ad234.off + 3,none⟩ = some (.bool ((rd_T127 l0 0).f3)) ∧ w'.cell? ⟨ad234.block,ad234.off + 4,none⟩ = some (.int .i64 ((rd_T127 l0 0).f4))) (ds := []) #[false,false,false,false,false,false,false,false,false,false,false,false,false,false,false,false,false,false,false,false,false,false,false,false,false,false,false,false,false,false,false,false,false,false,false,false] (by kernel_rfl) rfl rfl ⟨((HB.out.cell (World.block_lt_of_cell? w _ hw234_0)).trans hw234_0),((HB.out.cell (World.block_lt_of_cell? w _ hw234_1)).trans hw234_1),((HB.out.cell (World.block_lt_of_cell? w _ hw234_2)).trans hw234_2),((HB.out.cell (World.block_lt_of_cell? w _ hw234_3)).trans hw234_3),((HB.out.cell (World.block_lt_of_cell? w _ hw234_4)).trans hw234_4),((HB.out.cell (World.block_lt_of_cell? w _ hw236_0)).trans hw236_0),((HB.out.cell (World.block_lt_of_cell? w _ hw236_1)).trans hw236_1),((HB.out.cell (World.block_lt_of_cell? w _ hw236_2)).trans hw236_2),((HB.out.cell (World.block_lt_of_cell? w _ hw236_3)).trans hw236_3),((HB.out.cell (World.block_lt_of_cell? w _ hw236_4)).trans hw236_4),((HB.out.cell (World.block_lt_of_cell? w _ hw237_0)).trans hw237_0),((HB.out.cell (World.block_lt_of_cell? w _ hw237_1)).trans hw237_1),((HB.out.cell (World.block_lt_of_cell? w _ hw237_2)).trans hw237_2),((HB.out.cell (World.block_lt_of_cell? w _ hw237_3)).trans hw237_3),((HB.out.cell (World.block_lt_of_cell? w _ hw237_4)).trans hw237_4),((HB.out.cell (World.block_lt_of_cell? w _ hw238_0)).trans hw238_0),((HB.out.cell (World.block_lt_of_cell? w _ hw238_1)).trans hw238_1),((HB.out.cell (World.block_lt_of_cell? w _ hw238_2)).trans hw238_2),((HB.out.cell (World.block_lt_of_cell? w _ hw238_3)).trans hw238_3),((HB.out.cell (World.block_lt_of_cell? w _ hw238_4)).trans hw238_4),((HB.out.cell (World.block_lt_of_cell? w _ hw239_0)).trans hw239_0),((HB.out.cell (World.block_lt_of_cell? w _ hw239_1)).trans hw239_1),((HB.out.cell (World.block_lt_of_cell? w _ hw239_2)).trans hw239_2),((HB.out.cell (World.block_lt_of_cell? w _ hw239_3)).trans hw239_3),((HB.out.cell (World.block_lt_of_cell? w _ hw239_4)).trans hw239_4)⟩ (fun hHeld => ?_);refine with_tabW spec_l2Sets.tab4 spec_l2Sets.bits4 (fun HT_ HW_ => ?_)
            generalize wr.drew = w17 at HB hx234_0 hx234_1 hx234_2 hx234_3 hx234_4 hx236_0 hx236_1 hx236_2 hx236_3 hx236_4 hx237_0 hx237_1 hx237_2 hx237_3 hx237_4 hx238_0 hx238_1 hx238_2 hx238_3 hx238_4 hx239_0 hx239_1 hx239_2 hx239_3 hx239_4 hHeld ⊢
            refine pw_ 0 (some 10) HT_.out ?_
            refine pw_ 1 (some 11) HT_.out ?_
            refine pw_ 2 (some 12) HT_.out ?_
            refine tw_ 3 (some 13) HT_.out HW_.out hHeld rfl rfl (by rintro w' ⟨s0,s1,s2,s3,s4,s5,s6,s7,s8,s9,s10,s11,s12,s13,s14,s15,s16,s17,s18,s19,s20,s21,s22,s23,s24⟩;go_simp;with_reducible rfl) ?_
            refine oz_ (i := 4) (N := some 14) HT_.out rfl rfl (by kernel_rfl) (by decide) (fun K hK => ?_)
            refine goes_ Try.func140 (by kernel_rfl) rfl #[.agg #[.int .i64 ((rd_T127 l0 x3_1).f0),.int .i64 ((rd_T127 l0 x3_1).f1),.int .i64 ((rd_T127 l0 x3_1).f2),.bool ((rd_T127 l0 x3_1).f3),.int .i64 ((rd_T127 l0 x3_1).f4)]] (by rfl) rfl rfl (by (try simp only [List.map_toArray,List.map_cons,List.map_nil]);first|done|rfl|(simp only [List.length_drop,List.length_take];rfl)) ?_
            with_reducible refine (spec_SetOk.calls ((rd_T127 l0 x3_1).f0) ((rd_T127 l0 x3_1).f1) ((rd_T127 l0 x3_1).f2) ((rd_T127 l0 x3_1).f3) ((rd_T127 l0 x3_1).f4) true _ A4.out).mono ?_
            rintro e w18 ⟨rfl,hb⟩
            refine ⟨_,rfl,?_⟩
            have n0_ := Aside0.mk (below_step (by repeat (first|(with_reducible first|exact HB.out|apply below_alloc|apply pw_below_drewN|apply below_drew1)|exact HB.out)) hb)
            clear HB
            have HB := n0_
            clear n0_
            (try clear hb)
            (try clear hb2)
            (try clear hk)
            (try clear hi)
            refine hK.out _ _ ⟨((HB.out.cell (World.block_lt_of_cell? w _ hw234_0)).trans hw234_0),((HB.out.cell (World.block_lt_of_cell? w _ hw234_1)).trans hw234_1),((HB.out.cell (World.block_lt_of_cell? w _ hw234_2)).trans hw234_2),((HB.out.cell (World.block_lt_of_cell? w _ hw234_3)).trans hw234_3),((HB.out.cell (World.block_lt_of_cell? w _ hw234_4)).trans hw234_4),((HB.out.cell (World.block_lt_of_cell? w _ hw236_0)).trans hw236_0),((HB.out.cell (World.block_lt_of_cell? w _ hw236_1)).trans hw236_1),((HB.out.cell (World.block_lt_of_cell? w _ hw236_2)).trans hw236_2),((HB.out.cell (World.block_lt_of_cell? w _ hw236_3)).trans hw236_3),((HB.out.cell (World.block_lt_of_cell? w _ hw236_4)).trans hw236_4),((HB.out.cell (World.block_lt_of_cell? w _ hw237_0)).trans hw237_0),((HB.out.cell (World.block_lt_of_cell? w _ hw237_1)).trans hw237_1),((HB.out.cell (World.block_lt_of_cell? w _ hw237_2)).trans hw237_2),((HB.out.cell (World.block_lt_of_cell? w _ hw237_3)).trans hw237_3),((HB.out.cell (World.block_lt_of_cell? w _ hw237_4)).trans hw237_4),((HB.out.cell (World.block_lt_of_cell? w _ hw238_0)).trans hw238_0),((HB.out.cell (World.block_lt_of_cell? w _ hw238_1)).trans hw238_1),((HB.out.cell (World.block_lt_of_cell? w _ hw238_2)).trans hw238_2),((HB.out.cell (World.block_lt_of_cell? w _ hw238_3)).trans hw238_3),((HB.out.cell (World.block_lt_of_cell? w _ hw238_4)).trans hw238_4),((HB.out.cell (World.block_lt_of_cell? w _ hw239_0)).trans hw239_0),((HB.out.cell (World.block_lt_of_cell? w _ hw239_1)).trans hw239_1),((HB.out.cell (World.block_lt_of_cell? w _ hw239_2)).trans hw239_2),((HB.out.cell (World.block_lt_of_cell? w _ hw239_3)).trans hw239_3),((HB.out.cell (World.block_lt_of_cell? w _ hw239_4)).trans hw239_4)⟩ (fun hHeld => ?_)
            clear hK K
            refine norm_ (a' := ?_) ?_ ?_
            rotate_left
            ·show Act.put _ (some 14) _ = _
             simp only [Act.put,q1,q2,q3,i64_w,i32_w]
             rfl
            refine pw_ 5 (some 15) HT_.out ?_
            refine pw_ 6 (some 16) HT_.out ?_
            refine pw_ 7 (some 17) HT_.out ?_
            refine pw_ 8 (some 18) HT_.out ?_
            refine pw_ 9 (some 19) HT_.out ?_
            refine pw_ 10 (some 20) HT_.out ?_
            refine pw_ 11 (some 21) HT_.out ?_
            refine pw_ 12 (some 22) HT_.out ?_
            refine pw_ 13 (some 23) HT_.out ?_
            refine pw_ 15 (some 25) HT_.out ?_
            refine pw_ 16 (some 26) HT_.out ?_
            refine pw_ 17 (some 27) HT_.out ?_
            refine pw_ 18 (some 28) HT_.out ?_
            refine pw_ 19 (some 29) HT_.out ?_
            refine tw_ 14 (some 24) HT_.out HW_.out hHeld rfl rfl (by rintro w' ⟨s0,s1,s2,s3,s4,s5,s6,s7,s8,s9,s10,s11,s12,s13,s14,s15,s16,s17,s18,s19,s20,s21,s22,s23,s24⟩;go_simp;with_reducible rfl) ?_
            refine tw_ 20 (some 30) HT_.out HW_.out hHeld rfl rfl (by rintro w' ⟨s0,s1,s2,s3,s4,s5,s6,s7,s8,s9,s10,s11,s12,s13,s14,s15,s16,s17,s18,s19,s20,s21,s22,s23,s24⟩;go_simp;with_reducible rfl) ?_
            refine pw_ 21 (some 31) HT_.out ?_
            refine pw_ 22 (some 32) HT_.out ?_
            refine pw_ 23 (some 33) HT_.out ?_
            refine pw_ 24 (some 34) HT_.out ?_
            refine pw_ 25 (some 35) HT_.out ?_
            refine pw_ 26 (some 36) HT_.out ?_
            refine pw_ 28 (some 38) HT_.out ?_
            refine pw_ 29 (some 39) HT_.out ?_
            refine pw_ 30 (some 40) HT_.out ?_
            refine tw_ 27 (some 37) HT_.out HW_.out hHeld rfl rfl (by rintro w' ⟨s0,s1,s2,s3,s4,s5,s6,s7,s8,s9,s10,s11,s12,s13,s14,s15,s16,s17,s18,s19,s20,s21,s22,s23,s24⟩;go_simp;with_reducible rfl) ?_
            refine tw_ 31 (some 41) HT_.out HW_.out hHeld rfl rfl (by rintro w' ⟨s0,s1,s2,s3,s4,s5,s6,s7,s8,s9,s10,s11,s12,s13,s14,s15,s16,s17,s18,s19,s20,s21,s22,s23,s24⟩;go_simp;with_reducible rfl) ?_
            refine pw_ 32 (some 42) HT_.out ?_
            refine pw_ 33 (some 43) HT_.out ?_
            refine pw_ 34 (some 44) HT_.out ?_
            refine pw_ 35 (some 45) HT_.out ?_
            refine done_ (done_of HT_.out (by kernel_rfl)) ?_
            try go_wp2
            go_ret
            exact ⟨by first|rfl|(simp [errW_none,errW_some] <;> rfl)|(simp only [← hji7];first|rfl|(simp [errW_none,errW_some] <;> rfl))|(simp [*,errW_none,errW_some] <;> rfl),by repeat (first|(with_reducible first|exact HB.out|apply below_alloc|apply pw_below_drewN|apply below_drew1)|exact HB.out)⟩
          ·rw [if_neg c13] at H
           exact absurd H (by simp)
        ·rw [if_neg c9] at H
         exact absurd H (by simp)
       ·rw [if_neg c8] at H
        exact absurd H (by simp)
      ·rw [if_neg c6] at H
       have c6b0 : decide (0 < x3_1) = false := decide_eq_false c6
       clear c6
       have H' := Aside0.mk H
       clear H
       try go_wp2
       have n0_ := Aside0.mk (below_drew1 HB.out)
       clear HB
       have HB := n0_
       clear n0_
       have p234 : 0 ≤ (x3_1 : Int) := of_decide_eq_true (by first|(with_reducible assumption)|assumption)
       have q234 : x3_1 < (l0.length : Int) := of_decide_eq_true (by first|(with_reducible assumption)|assumption)
       obtain ⟨ad234,e234,hx234_0,hx234_1,hx234_2,hx234_3,hx234_4⟩ := at_T127 HR0.out x3_1 p234 q234
       have hw234_4 := hx234_4
       have hw234_3 := hx234_3
       have hw234_2 := hx234_2
       have hw234_1 := hx234_1
       have hw234_0 := hx234_0
       cases e234
       replace hx234_0 := (HB.out.cell (World.block_lt_of_cell? w _ hx234_0)).trans hx234_0
       replace hx234_1 := (HB.out.cell (World.block_lt_of_cell? w _ hx234_1)).trans hx234_1
       replace hx234_2 := (HB.out.cell (World.block_lt_of_cell? w _ hx234_2)).trans hx234_2
       replace hx234_3 := (HB.out.cell (World.block_lt_of_cell? w _ hx234_3)).trans hx234_3
       replace hx234_4 := (HB.out.cell (World.block_lt_of_cell? w _ hx234_4)).trans hx234_4
       replace p234 := eq_true p234
       replace q234 := eq_true q234
       refine start_ (n := 36) (S := fun w' => w'.cell? (ad234.add ((x3_1).toNat * 5)) = some (.int .i64 ((rd_T127 l0 x3_1).f0)) ∧ w'.cell? ⟨(ad234.add ((x3_1).toNat * 5)).block,(ad234.add ((x3_1).toNat * 5)).off + 1,none⟩ = some (.int .i64 ((rd_T127 l0 x3_1).f1)) ∧ w'.cell? ⟨(ad234.add ((x3_1).toNat * 5)).block,(ad234.add ((x3_1).toNat * 5)).off + 2,none⟩ = some (.int .i64 ((rd_T127 l0 x3_1).f2)) ∧ w'.cell? ⟨(ad234.add ((x3_1).toNat * 5)).block,(ad234.add ((x3_1).toNat * 5)).off + 3,none⟩ = some (.bool ((rd_T127 l0 x3_1).f3)) ∧ w'.cell? ⟨(ad234.add ((x3_1).toNat * 5)).block,(ad234.add ((x3_1).toNat * 5)).off + 4,none⟩ = some (.int .i64 ((rd_T127 l0 x3_1).f4))) (ds := []) #[false,false,false,false,false,false,false,false,false,false,false,false,false,false,false,false,false,false,false,false,false,false,false,false,false,false,false,false,false,false,false,false,false,false,false,false] (by kernel_rfl) rfl rfl ⟨((HB.out.cell (World.block_lt_of_cell? w _ hw234_0)).trans hw234_0),((HB.out.cell (World.block_lt_of_cell? w _ hw234_1)).trans hw234_1),((HB.out.cell (World.block_lt_of_cell? w _ hw234_2)).trans hw234_2),((HB.out.cell (World.block_lt_of_cell? w _ hw234_3)).trans hw234_3),((HB.out.cell (World.block_lt_of_cell? w _ hw234_4)).trans hw234_4)⟩ (fun hHeld => ?_);refine with_tabW spec_l2Sets.tab4 spec_l2Sets.bits4 (fun HT_ HW_ => ?_)
       generalize wr.drew = w19 at HB hx234_0 hx234_1 hx234_2 hx234_3 hx234_4 hHeld ⊢
       refine pw_ 0 (some 10) HT_.out ?_
       refine pw_ 1 (some 11) HT_.out ?_
       refine pw_ 2 (some 12) HT_.out ?_
       refine tw_ 3 (some 13) HT_.out HW_.out hHeld rfl rfl (by rintro w' ⟨s0,s1,s2,s3,s4⟩;go_simp;with_reducible rfl) ?_
       refine oz_ (i := 4) (N := some 14) HT_.out rfl rfl (by kernel_rfl) (by decide) (fun K hK => ?_)
       refine goes_ Try.func140 (by kernel_rfl) rfl #[.agg #[.int .i64 ((rd_T127 l0 x3_1).f0),.int .i64 ((rd_T127 l0 x3_1).f1),.int .i64 ((rd_T127 l0 x3_1).f2),.bool ((rd_T127 l0 x3_1).f3),.int .i64 ((rd_T127 l0 x3_1).f4)]] (by rfl) rfl rfl (by (try simp only [List.map_toArray,List.map_cons,List.map_nil]);first|done|rfl|(simp only [List.length_drop,List.length_take];rfl)) ?_
       with_reducible refine (spec_SetOk.calls ((rd_T127 l0 x3_1).f0) ((rd_T127 l0 x3_1).f1) ((rd_T127 l0 x3_1).f2) ((rd_T127 l0 x3_1).f3) ((rd_T127 l0 x3_1).f4) true _ A4.out).mono ?_
       rintro e w20 ⟨rfl,hb⟩
       refine ⟨_,rfl,?_⟩
       have n0_ := Aside0.mk (below_step (by repeat (first|(with_reducible first|exact HB.out|apply below_alloc|apply pw_below_drewN|apply below_drew1)|exact HB.out)) hb)
       clear HB
       have HB := n0_
       clear n0_
       (try clear hb)
       (try clear hb2)
       (try clear hk)
       (try clear hi)
       refine hK.out _ _ ⟨((HB.out.cell (World.block_lt_of_cell? w _ hw234_0)).trans hw234_0),((HB.out.cell (World.block_lt_of_cell? w _ hw234_1)).trans hw234_1),((HB.out.cell (World.block_lt_of_cell? w _ hw234_2)).trans hw234_2),((HB.out.cell (World.block_lt_of_cell? w _ hw234_3)).trans hw234_3),((HB.out.cell (World.block_lt_of_cell? w _ hw234_4)).trans hw234_4)⟩ (fun hHeld => ?_)
       clear hK K
       refine norm_ (a' := ?_) ?_ ?_
       rotate_left
       ·show Act.put _ (some 14) _ = _
        simp only [Act.put,q1,q2,q3,i64_w,i32_w]
        rfl
       refine pw_ 5 (some 15) HT_.out ?_
       refine pw_ 6 (some 16) HT_.out ?_
       refine pw_ 7 (some 17) HT_.out ?_
       refine pw_ 8 (some 18) HT_.out ?_
       refine pw_ 9 (some 19) HT_.out ?_
       refine pu_ 10 (some 20) HT_.out ?_
       refine pu_ 11 (some 21) HT_.out ?_
       refine pu_ 12 (some 22) HT_.out ?_
       refine pu_ 13 (some 23) HT_.out ?_
       refine pu_ 14 (some 24) HT_.out ?_
       refine pu_ 15 (some 25) HT_.out ?_
       refine pu_ 16 (some 26) HT_.out ?_
       refine pu_ 17 (some 27) HT_.out ?_
       refine pu_ 18 (some 28) HT_.out ?_
       refine pu_ 19 (some 29) HT_.out ?_
       refine pu_ 20 (some 30) HT_.out ?_
       refine pu_ 21 (some 31) HT_.out ?_
       refine pu_ 22 (some 32) HT_.out ?_
       refine pu_ 23 (some 33) HT_.out ?_
       refine pu_ 24 (some 34) HT_.out ?_
       refine pu_ 25 (some 35) HT_.out ?_
       refine pu_ 26 (some 36) HT_.out ?_
       refine pu_ 27 (some 37) HT_.out ?_
       refine pu_ 28 (some 38) HT_.out ?_
       refine pu_ 29 (some 39) HT_.out ?_
       refine pu_ 30 (some 40) HT_.out ?_
       refine pu_ 31 (some 41) HT_.out ?_
       refine pu_ 32 (some 42) HT_.out ?_
       refine pu_ 33 (some 43) HT_.out ?_
       refine pw_ 34 (some 44) HT_.out ?_
       refine pw_ 35 (some 45) HT_.out ?_
       refine done_ (done_of HT_.out (by kernel_rfl)) ?_
       try go_wp2
       go_roundg k1
       case measure => have := HK1.out;omega
       case rel => exact ⟨(wrap64 (x3_1 + 1)),(by first|rfl|(simp;done)|(simp [*];done)),H',⟨by have := HK1.out;omega⟩,⟨by repeat (first|(with_reducible first|exact HB.out|apply below_alloc|apply pw_below_drewN|apply below_drew1)|exact HB.out)⟩⟩
     ·replace c5 := Bool.eq_false_iff.mpr c5
      subst c5
      have H1 : (some false) = some r := by rw [if_neg (show ¬ (false = true) by decide)] at H;exact H
      clear H
      have H := H1
      clear H1
      obtain rfl := Option.some.inj H
      try go_wp2
      have n0_ := Aside0.mk (below_drew1 HB.out)
      clear HB
      have HB := n0_
      clear n0_
      have p234 : 0 ≤ (x3_1 : Int) := of_decide_eq_true (by first|(with_reducible assumption)|assumption)
      have q234 : x3_1 < (l0.length : Int) := of_decide_eq_true (by first|(with_reducible assumption)|assumption)
      obtain ⟨ad234,e234,hx234_0,hx234_1,hx234_2,hx234_3,hx234_4⟩ := at_T127 HR0.out x3_1 p234 q234
      have hw234_4 := hx234_4
      have hw234_3 := hx234_3
      have hw234_2 := hx234_2
      have hw234_1 := hx234_1
      have hw234_0 := hx234_0
      cases e234
      replace hx234_0 := (HB.out.cell (World.block_lt_of_cell? w _ hx234_0)).trans hx234_0
      replace hx234_1 := (HB.out.cell (World.block_lt_of_cell? w _ hx234_1)).trans hx234_1
      replace hx234_2 := (HB.out.cell (World.block_lt_of_cell? w _ hx234_2)).trans hx234_2
      replace hx234_3 := (HB.out.cell (World.block_lt_of_cell? w _ hx234_3)).trans hx234_3
      replace hx234_4 := (HB.out.cell (World.block_lt_of_cell? w _ hx234_4)).trans hx234_4
      replace p234 := eq_true p234
      replace q234 := eq_true q234
      refine start_ (n := 36) (S := fun w' => w'.cell? (ad234.add ((x3_1).toNat * 5)) = some (.int .i64 ((rd_T127 l0 x3_1).f0)) ∧ w'.cell? ⟨(ad234.add ((x3_1).toNat * 5)).block,(ad234.add ((x3_1).toNat * 5)).off + 1,none⟩ = some (.int .i64 ((rd_T127 l0 x3_1).f1)) ∧ w'.cell? ⟨(ad234.add ((x3_1).toNat * 5)).block,(ad234.add ((x3_1).toNat * 5)).off + 2,none⟩ = some (.int .i64 ((rd_T127 l0 x3_1).f2)) ∧ w'.cell? ⟨(ad234.add ((x3_1).toNat * 5)).block,(ad234.add ((x3_1).toNat * 5)).off + 3,none⟩ = some (.bool ((rd_T127 l0 x3_1).f3)) ∧ w'.cell? ⟨(ad234.add ((x3_1).toNat * 5)).block,(ad234.add ((x3_1).toNat * 5)).off + 4,none⟩ = some (.int .i64 ((rd_T127 l0 x3_1).f4))) (ds := []) #[false,false,false,false,false,false,false,false,false,false,false,false,false,false,false,false,false,false,false,false,false,false,false,false,false,false,false,false,false,false,false,false,false,false,false,false] (by kernel_rfl) rfl rfl ⟨((HB.out.cell (World.block_lt_of_cell? w _ hw234_0)).trans hw234_0),((HB.out.cell (World.block_lt_of_cell? w _ hw234_1)).trans hw234_1),((HB.out.cell (World.block_lt_of_cell? w _ hw234_2)).trans hw234_2),((HB.out.cell (World.block_lt_of_cell? w _ hw234_3)).trans hw234_3),((HB.out.cell (World.block_lt_of_cell? w _ hw234_4)).trans hw234_4)⟩ (fun hHeld => ?_);refine with_tabW spec_l2Sets.tab4 spec_l2Sets.bits4 (fun HT_ HW_ => ?_)
      generalize wr.drew = w21 at HB hx234_0 hx234_1 hx234_2 hx234_3 hx234_4 hHeld ⊢
      refine pw_ 0 (some 10) HT_.out ?_
      refine pw_ 1 (some 11) HT_.out ?_
      refine pw_ 2 (some 12) HT_.out ?_
      refine tw_ 3 (some 13) HT_.out HW_.out hHeld rfl rfl (by rintro w' ⟨s0,s1,s2,s3,s4⟩;go_simp;with_reducible rfl) ?_
      refine oz_ (i := 4) (N := some 14) HT_.out rfl rfl (by kernel_rfl) (by decide) (fun K hK => ?_)
      refine goes_ Try.func140 (by kernel_rfl) rfl #[.agg #[.int .i64 ((rd_T127 l0 x3_1).f0),.int .i64 ((rd_T127 l0 x3_1).f1),.int .i64 ((rd_T127 l0 x3_1).f2),.bool ((rd_T127 l0 x3_1).f3),.int .i64 ((rd_T127 l0 x3_1).f4)]] (by rfl) rfl rfl (by (try simp only [List.map_toArray,List.map_cons,List.map_nil]);first|done|rfl|(simp only [List.length_drop,List.length_take];rfl)) ?_
      with_reducible refine (spec_SetOk.calls ((rd_T127 l0 x3_1).f0) ((rd_T127 l0 x3_1).f1) ((rd_T127 l0 x3_1).f2) ((rd_T127 l0 x3_1).f3) ((rd_T127 l0 x3_1).f4) false _ A4.out).mono ?_
      rintro e w22 ⟨rfl,hb⟩
      refine ⟨_,rfl,?_⟩
      have n0_ := Aside0.mk (below_step (by repeat (first|(with_reducible first|exact HB.out|apply below_alloc|apply pw_below_drewN|apply below_drew1)|exact HB.out)) hb)
      clear HB
      have HB := n0_
      clear n0_
      (try clear hb)
      (try clear hb2)
      (try clear hk)
      (try clear hi)
      refine hK.out _ _ ⟨((HB.out.cell (World.block_lt_of_cell? w _ hw234_0)).trans hw234_0),((HB.out.cell (World.block_lt_of_cell? w _ hw234_1)).trans hw234_1),((HB.out.cell (World.block_lt_of_cell? w _ hw234_2)).trans hw234_2),((HB.out.cell (World.block_lt_of_cell? w _ hw234_3)).trans hw234_3),((HB.out.cell (World.block_lt_of_cell? w _ hw234_4)).trans hw234_4)⟩ (fun hHeld => ?_)
      clear hK K
      refine norm_ (a' := ?_) ?_ ?_
      rotate_left
      ·show Act.put _ (some 14) _ = _
       simp only [Act.put,q1,q2,q3,i64_w,i32_w]
       rfl
      refine pw_ 5 (some 15) HT_.out ?_
      refine pw_ 6 (some 16) HT_.out ?_
      refine pu_ 7 (some 17) HT_.out ?_
      refine pu_ 8 (some 18) HT_.out ?_
      refine pu_ 9 (some 19) HT_.out ?_
      refine pu_ 10 (some 20) HT_.out ?_
      refine pu_ 11 (some 21) HT_.out ?_
      refine pu_ 12 (some 22) HT_.out ?_
      refine pu_ 13 (some 23) HT_.out ?_
      refine pu_ 14 (some 24) HT_.out ?_
      refine pu_ 15 (some 25) HT_.out ?_
      refine pu_ 16 (some 26) HT_.out ?_
      refine pu_ 17 (some 27) HT_.out ?_
      refine pu_ 18 (some 28) HT_.out ?_
      refine pu_ 19 (some 29) HT_.out ?_
      refine pu_ 20 (some 30) HT_.out ?_
      refine pu_ 21 (some 31) HT_.out ?_
      refine pu_ 22 (some 32) HT_.out ?_
      refine pu_ 23 (some 33) HT_.out ?_
      refine pu_ 24 (some 34) HT_.out ?_
      refine pu_ 25 (some 35) HT_.out ?_
      refine pu_ 26 (some 36) HT_.out ?_
      refine pu_ 27 (some 37) HT_.out ?_
      refine pu_ 28 (some 38) HT_.out ?_
      refine pu_ 29 (some 39) HT_.out ?_
      refine pu_ 30 (some 40) HT_.out ?_
      refine pu_ 31 (some 41) HT_.out ?_
      refine pu_ 32 (some 42) HT_.out ?_
      refine pu_ 33 (some 43) HT_.out ?_
      refine pu_ 34 (some 44) HT_.out ?_
      refine pw_ 35 (some 45) HT_.out ?_
      refine done_ (done_of HT_.out (by kernel_rfl)) ?_
      try go_wp2
      go_ret
      exact ⟨by first|rfl|(simp [errW_none,errW_some] <;> rfl)|(simp [*,errW_none,errW_some] <;> rfl),by repeat (first|(with_reducible first|exact HB.out|apply below_alloc|apply pw_below_drewN|apply below_drew1)|exact HB.out)⟩
    ·rw [if_neg c3] at H
     exact absurd H (by simp)
   ·rw [if_neg c2] at H
    have c2b0 : decide (x3_1 < (l0.length : Int)) = false := decide_eq_false c2
    clear c2
    obtain rfl := Option.some.inj H
    go_wp2
    go_ret
    exact ⟨by first|rfl|(simp [errW_none,errW_some] <;> rfl)|(simp [*,errW_none,errW_some] <;> rfl),by repeat (first|(with_reducible first|exact HB.out|apply below_alloc|apply pw_below_drewN|apply below_drew1)|exact HB.out)⟩

end Go.Proofs.Ythplaakckfhaaaa.XCp
