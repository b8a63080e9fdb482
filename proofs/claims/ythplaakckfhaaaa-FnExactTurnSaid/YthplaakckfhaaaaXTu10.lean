/- Proved: of each Go function here that a call comes to what the Lean function of its name tells. Written by a program of this session over the translation. No conditions beyond each theorem's own. -/
import Derived.Test.YthplaakckfhaaaaXTu0
import Derived.Test.YthplaakckfhaaaaXTu6
import Derived.Test.YthplaakckfhaaaaXTu7
import Derived.Test.YthplaakckfhaaaaXTu9
namespace Go.Proofs.Ythplaakckfhaaaa.XTu
open Go.RowKit Go.Proofs.Ythplaakckfhaaaa.Aid Go.Proofs.YthplaakckfhaaaaW.PrintWords Go.Proofs.YthplaakckfhaaaaW.PrintLast Go.Proofs.YthplaakckfhaaaaW.PrintMore
set_option linter.unusedVariables false
set_option linter.unusedSimpArgs false

/-! ### spec_RecordOk: function 49 -/
def spec_RecordOk.f (k : Nat) (a0_0 : Int) (a0_1 : Int) (a0_2 : Int) (l0_3 : List (S127)) : Option (Bool) := (spec_l1In.f a0_0 1 3).bind fun t269 => (if t269 = true then ((spec_l1Id.f a0_1).bind fun t270 => (if t270 = true then ((spec_l1Region.f a0_2).bind fun t271 => (if t271 = true then (if (l0_3.length : Int) ≥ 1 then (if (l0_3.length : Int) ≤ 12 then ((spec_l2Sets.f k l0_3).bind fun t272 => (if t272 = true then (if 0 < (l0_3.length : Int) then (some (((rd_T127 l0_3 0).f0) == a0_2)) else (none)) else (some false))) else (some false)) else (some false)) else (some false))) else (some false))) else (some false))

def spec_RecordOk.T1 : Bool × List (List Nat × List Nat) := (true, [([], []), ([0], [0]), ([1], [1]), ([2, 2], [2]), ([3], [3]), ([4, 3], [3, 4]), ([5, 3, 3], [3, 5]), ([3, 6], [3, 6]), ([7, 6], [7]), ([8], [8]), ([9, 8], [8, 9]), ([10, 8, 8], [8, 10]), ([8, 11], [8, 11]), ([12, 11], [12]), ([13], [13]), ([14, 13], [13, 14]), ([15, 13], [13, 15]), ([16, 13], [13, 16]), ([13, 17], [13, 17]), ([18, 13], [18]), ([19], [19]), ([20, 19], [19, 20]), ([21, 19], [19, 21]), ([22, 19], [19, 22]), ([19, 23], [19, 23]), ([24, 19], [24]), ([25], [25]), ([26, 25], [25, 26]), ([27, 25, 25], [25, 27]), ([25, 28], [25, 28]), ([29, 28], [29]), ([30], [30]), ([31, 30], [30, 31]), ([32, 30], [30, 32]), ([33, 30], [30, 33]), ([34, 30], [30, 34]), ([30], [30]), ([36, 30], [30, 36]), ([35, 37, 30], [30, 35, 37]), ([30, 38], [30, 38]), ([39, 30, 0, 1, 2, 3, 4, 5, 6, 7, 8, 9, 10, 11, 12, 13, 14, 15, 16, 17, 18, 19, 20, 21, 22, 23, 24, 25, 26, 27, 28, 29, 30, 31, 32, 33, 34, 35, 36, 37, 38, 39], [39])])
def spec_RecordOk.B1 : List Nat := [0, 1, 3, 7, 15, 31, 63, 127, 255, 511, 1023, 2047, 4095, 8191, 16383, 32767, 65535, 131071, 262143, 524287, 1048575, 2097151, 4194303, 8388607, 16777215, 33554431, 67108863, 134217727, 268435455, 536870911, 1073741823, 2147483647, 4294967295, 8589934591, 17179869183, 34359738367, 2147483647, 70866960383, 274877906943, 549755813887, 1099511627775]
theorem spec_RecordOk.tab1 : rtab .any (opsOf Try.f49 1) = spec_RecordOk.T1 := by kernel_rfl
theorem spec_RecordOk.bits1 : waitsOk spec_RecordOk.T1.2 spec_RecordOk.B1 = true := by kernel_rfl
set_option maxHeartbeats 8000000 in
set_option maxRecDepth 100000 in
theorem spec_RecordOk.calls (k : Nat) (a0_0 : Int) (a0_1 : Int) (a0_2 : Int) (A0_3 : Option Addr) (c0_3 : Nat) (l0_3 : List (S127)) (r : Bool) (w : World) (hr0_3 : Kd.C k127 w A0_3 l0_3.length l0_3) (hc0_3 : l0_3.length ≤ c0_3) (h : spec_RecordOk.f k a0_0 a0_1 a0_2 l0_3 = some r) :
    Calls Try.prog 49 #[.agg #[.int .i64 a0_0, .int .i64 a0_1, .int .i64 a0_2, .slice A0_3 l0_3.length c0_3]] w fun e w' => e = .returned (.bool r) ∧ Below w.heap.size w w' := by
 have hu45 := Try.underlying45
 have HR0_3 := Aside0.mk hr0_3
 have HC0_3 := Aside0.mk hc0_3
 clear hr0_3 hc0_3
 have HB := Aside0.mk (Below.refl w.heap.size w)
 have H : ((spec_l1In.f a0_0 1 3).bind fun t269 => (if t269 = true then ((spec_l1Id.f a0_1).bind fun t270 => (if t270 = true then ((spec_l1Region.f a0_2).bind fun t271 => (if t271 = true then (if (l0_3.length : Int) ≥ 1 then (if (l0_3.length : Int) ≤ 12 then ((spec_l2Sets.f k l0_3).bind fun t272 => (if t272 = true then (if 0 < (l0_3.length : Int) then (some (((rd_T127 l0_3 0).f0) == a0_2)) else (none)) else (some false))) else (some false)) else (some false)) else (some false))) else (some false))) else (some false))) = some r := h
 clear h
 replace H := Option.bind_eq_some_iff.mp H
 obtain ⟨t269,A20,H⟩ := H
 replace H : (if t269 = true then ((spec_l1Id.f a0_1).bind fun t270 => (if t270 = true then ((spec_l1Region.f a0_2).bind fun t271 => (if t271 = true then (if (l0_3.length : Int) ≥ 1 then (if (l0_3.length : Int) ≤ 12 then ((spec_l2Sets.f k l0_3).bind fun t272 => (if t272 = true then (if 0 < (l0_3.length : Int) then (some (((rd_T127 l0_3 0).f0) == a0_2)) else (none)) else (some false))) else (some false)) else (some false)) else (some false))) else (some false))) else (some false)) = some r := H
 have A2 := Aside0.mk A20
 clear A20
 by_cases c3 : t269 = true
 ·subst c3
  have H1 : ((spec_l1Id.f a0_1).bind fun t270 => (if t270 = true then ((spec_l1Region.f a0_2).bind fun t271 => (if t271 = true then (if (l0_3.length : Int) ≥ 1 then (if (l0_3.length : Int) ≤ 12 then ((spec_l2Sets.f k l0_3).bind fun t272 => (if t272 = true then (if 0 < (l0_3.length : Int) then (some (((rd_T127 l0_3 0).f0) == a0_2)) else (none)) else (some false))) else (some false)) else (some false)) else (some false))) else (some false))) = some r := by rw [if_pos rfl] at H;exact H
  clear H
  have H := H1
  clear H1
  replace H := Option.bind_eq_some_iff.mp H
  obtain ⟨t270,A40,H⟩ := H
  replace H : (if t270 = true then ((spec_l1Region.f a0_2).bind fun t271 => (if t271 = true then (if (l0_3.length : Int) ≥ 1 then (if (l0_3.length : Int) ≤ 12 then ((spec_l2Sets.f k l0_3).bind fun t272 => (if t272 = true then (if 0 < (l0_3.length : Int) then (some (((rd_T127 l0_3 0).f0) == a0_2)) else (none)) else (some false))) else (some false)) else (some false)) else (some false))) else (some false)) = some r := H
  have A4 := Aside0.mk A40
  clear A40
  by_cases c5 : t270 = true
  ·subst c5
   have H1 : ((spec_l1Region.f a0_2).bind fun t271 => (if t271 = true then (if (l0_3.length : Int) ≥ 1 then (if (l0_3.length : Int) ≤ 12 then ((spec_l2Sets.f k l0_3).bind fun t272 => (if t272 = true then (if 0 < (l0_3.length : Int) then (some (((rd_T127 l0_3 0).f0) == a0_2)) else (none)) else (some false))) else (some false)) else (some false)) else (some false))) = some r := by rw [if_pos rfl] at H;exact H
   clear H
   have H := H1
   clear H1
   replace H := Option.bind_eq_some_iff.mp H
   obtain ⟨t271,A60,H⟩ := H
   replace H : (if t271 = true then (if (l0_3.length : Int) ≥ 1 then (if (l0_3.length : Int) ≤ 12 then ((spec_l2Sets.f k l0_3).bind fun t272 => (if t272 = true then (if 0 < (l0_3.length : Int) then (some (((rd_T127 l0_3 0).f0) == a0_2)) else (none)) else (some false))) else (some false)) else (some false)) else (some false)) = some r := H
   have A6 := Aside0.mk A60
   clear A60
   by_cases c7 : t271 = true
   ·subst c7
    have H1 : (if (l0_3.length : Int) ≥ 1 then (if (l0_3.length : Int) ≤ 12 then ((spec_l2Sets.f k l0_3).bind fun t272 => (if t272 = true then (if 0 < (l0_3.length : Int) then (some (((rd_T127 l0_3 0).f0) == a0_2)) else (none)) else (some false))) else (some false)) else (some false)) = some r := by rw [if_pos rfl] at H;exact H
    clear H
    have H := H1
    clear H1
    by_cases c8 : (l0_3.length : Int) ≥ 1
    ·rw [if_pos c8] at H
     have c8b0 : decide (1 ≤ (l0_3.length : Int)) = true := decide_eq_true c8
     have c8b1 : decide (1 ≤ l0_3.length) = true := decide_eq_true (by omega)
     clear c8
     by_cases c9 : (l0_3.length : Int) ≤ 12
     ·rw [if_pos c9] at H
      have c9b0 : decide ((l0_3.length : Int) ≤ 12) = true := decide_eq_true c9
      have c9b1 : decide (l0_3.length ≤ 12) = true := decide_eq_true (by omega)
      clear c9
      replace H := Option.bind_eq_some_iff.mp H
      obtain ⟨t272,A100,H⟩ := H
      replace H : (if t272 = true then (if 0 < (l0_3.length : Int) then (some (((rd_T127 l0_3 0).f0) == a0_2)) else (none)) else (some false)) = some r := H
      have A10 := Aside0.mk A100
      clear A100
      by_cases c11 : t272 = true
      ·subst c11
       have H1 : (if 0 < (l0_3.length : Int) then (some (((rd_T127 l0_3 0).f0) == a0_2)) else (none)) = some r := by rw [if_pos rfl] at H;exact H
       clear H
       have H := H1
       clear H1
       by_cases c12 : 0 < (l0_3.length : Int)
       ·rw [if_pos c12] at H
        have c12b0 : decide (0 < (l0_3.length : Int)) = true := decide_eq_true c12
        have c12b1 : decide (0 < l0_3.length) = true := decide_eq_true (by omega)
        clear c12
        obtain rfl := Option.some.inj H
        go_enter Try.func49,Try.ntmps49
        try go_wp2_with (first|((with_reducible refine gate_dst (N := 1) rfl ?_);(try (refine gate_guard (by rfl) ?_;dsimp only));refine bx_ 1 #[.int .i64 a0_0,.int .i64 a0_1,.int .i64 a0_2,.slice A0_3 l0_3.length c0_3] 45 ?_;intro gb268 hg w13 hbox hb;have BK268 := Aside0.mk (hbox);have GW268 := Aside0.mk ((gw_ (w := w) hg));have GE268 := Aside0.mk ((gw_ (w := w) hg));replace HB := Aside0.mk (below_step b_ hb);clear hb hbox hg))
        replace BK268 := Aside0.mk (blk_drew BK268.out)
        replace HB := Aside0.mk (below_drew1 HB.out)
        have p273 : 0 ≤ (0 : Int) := (by omega)
        have q273 : 0 < (l0_3.length : Int) := of_decide_eq_true (by first|(with_reducible assumption)|assumption)
        obtain ⟨ad273,e273,hx273_0,hx273_1,hx273_2,hx273_3,hx273_4⟩ := at_T127 HR0_3.out 0 p273 q273
        have hw273_4 := hx273_4
        (try rw [show ((0 : Int)).toNat = 0 from rfl] at hw273_4)
        (try rw [show 0 * 5 = 0 from rfl] at hw273_4)
        (try rw [Addr.add_zero'] at hw273_4)
        have hw273_3 := hx273_3
        (try rw [show ((0 : Int)).toNat = 0 from rfl] at hw273_3)
        (try rw [show 0 * 5 = 0 from rfl] at hw273_3)
        (try rw [Addr.add_zero'] at hw273_3)
        have hw273_2 := hx273_2
        (try rw [show ((0 : Int)).toNat = 0 from rfl] at hw273_2)
        (try rw [show 0 * 5 = 0 from rfl] at hw273_2)
        (try rw [Addr.add_zero'] at hw273_2)
        have hw273_1 := hx273_1
        (try rw [show ((0 : Int)).toNat = 0 from rfl] at hw273_1)
        (try rw [show 0 * 5 = 0 from rfl] at hw273_1)
        (try rw [Addr.add_zero'] at hw273_1)
        have hw273_0 := hx273_0
        (try rw [show ((0 : Int)).toNat = 0 from rfl] at hw273_0)
        (try rw [show 0 * 5 = 0 from rfl] at hw273_0)
        (try rw [Addr.add_zero'] at hw273_0)
        cases e273
        have qi273 : (0 < l0_3.length) = True := eq_true (by omega)
        (try rw [show ((0 : Int)).toNat = 0 from rfl] at hx273_0)
        (try rw [show 0 * 5 = 0 from rfl] at hx273_0)
        (try rw [Addr.add_zero'] at hx273_0)
        (try rw [show ((0 : Int)).toNat = 0 from rfl] at hx273_1)
        (try rw [show 0 * 5 = 0 from rfl] at hx273_1)
        (try rw [Addr.add_zero'] at hx273_1)
        (try rw [show ((0 : Int)).toNat = 0 from rfl] at hx273_2)
        (try rw [show 0 * 5 = 0 from rfl] at hx273_2)
        (try rw [Addr.add_zero'] at hx273_2)
        (try rw [show ((0 : Int)).toNat = 0 from rfl] at hx273_3)
        (try rw [show 0 * 5 = 0 from rfl] at hx273_3)
        (try rw [Addr.add_zero'] at hx273_3)
        (try rw [show ((0 : Int)).toNat = 0 from rfl] at hx273_4)
        (try rw [show 0 * 5 = 0 from rfl] at hx273_4)
        (try rw [Addr.add_zero'] at hx273_4)
        replace hx273_0 := (HB.out.cell (World.block_lt_of_cell? w _ hx273_0)).trans hx273_0
        replace hx273_1 := (HB.out.cell (World.block_lt_of_cell? w _ hx273_1)).trans hx273_1
        replace hx273_2 := (HB.out.cell (World.block_lt_of_cell? w _ hx273_2)).trans hx273_2
        replace hx273_3 := (HB.out.cell (World.block_lt_of_cell? w _ hx273_3)).trans hx273_3
        replace hx273_4 := (HB.out.cell (World.block_lt_of_cell? w _ hx273_4)).trans hx273_4
        replace p273 := eq_true p273
        replace q273 := eq_true q273
        refine start_ (n := 41) (S := fun w' => w'.cell? ⟨gb268,0,none⟩ = some (.int .i64 a0_0) ∧ w'.cell? ⟨gb268,1,none⟩ = some (.int .i64 a0_1) ∧ w'.cell? ⟨gb268,2,none⟩ = some (.int .i64 a0_2) ∧ w'.cell? ⟨gb268,3,none⟩ = some (.slice (some ad273) l0_3.length c0_3) ∧ w'.cell? ad273 = some (.int .i64 ((rd_T127 l0_3 0).f0)) ∧ w'.cell? ⟨ad273.block,ad273.off + 1,none⟩ = some (.int .i64 ((rd_T127 l0_3 0).f1)) ∧ w'.cell? ⟨ad273.block,ad273.off + 2,none⟩ = some (.int .i64 ((rd_T127 l0_3 0).f2)) ∧ w'.cell? ⟨ad273.block,ad273.off + 3,none⟩ = some (.bool ((rd_T127 l0_3 0).f3)) ∧ w'.cell? ⟨ad273.block,ad273.off + 4,none⟩ = some (.int .i64 ((rd_T127 l0_3 0).f4))) (ds := []) #[false,false,false,false,false,false,false,false,false,false,false,false,false,false,false,false,false,false,false,false,false,false,false,false,false,false,false,false,false,false,false,false,false,false,false,false,false,false,false,false,false] (by kernel_rfl) rfl rfl ⟨(blk_cell BK268.out 0).trans rfl,(blk_cell BK268.out 1).trans rfl,(blk_cell BK268.out 2).trans rfl,(blk_cell BK268.out 3).trans rfl,((HB.out.cell (World.block_lt_of_cell? w _ hw273_0)).trans hw273_0),((HB.out.cell (World.block_lt_of_cell? w _ hw273_1)).trans hw273_1),((HB.out.cell (World.block_lt_of_cell? w _ hw273_2)).trans hw273_2),((HB.out.cell (World.block_lt_of_cell? w _ hw273_3)).trans hw273_3),((HB.out.cell (World.block_lt_of_cell? w _ hw273_4)).trans hw273_4)⟩ (fun hHeld => ?_);refine with_tabW spec_RecordOk.tab1 spec_RecordOk.bits1 (fun HT_ HW_ => ?_)
        generalize w13.drew = w14 at BK268 HB hx273_0 hx273_1 hx273_2 hx273_3 hx273_4 hHeld ⊢
        refine pw_ 0 (some 3) HT_.out ?_
        refine tw_ 1 (some 4) HT_.out HW_.out hHeld rfl rfl (by rintro w' ⟨s0,s1,s2,s3,s4,s5,s6,s7,s8⟩;go_simp;with_reducible rfl) ?_
        refine oz_ (i := 2) (N := some 5) HT_.out rfl rfl (by kernel_rfl) (by decide) (fun K hK => ?_)
        refine goes_ Try.func102 (by kernel_rfl) rfl #[.int .i64 a0_0,.int .i64 1,.int .i64 3] (by rfl) rfl rfl (by (try simp only [List.map_toArray,List.map_cons,List.map_nil]);first|done|rfl|(simp only [List.length_drop,List.length_take];rfl)) ?_
        with_reducible refine (spec_l1In.calls a0_0 1 3 true _ A2.out).mono ?_
        rintro e w' ⟨rfl,⟨nd,rfl⟩⟩
        refine ⟨_,rfl,?_⟩
        refine hK.out _ _ ⟨(blk_cell BK268.out 0).trans rfl,(blk_cell BK268.out 1).trans rfl,(blk_cell BK268.out 2).trans rfl,(blk_cell BK268.out 3).trans rfl,((HB.out.cell (World.block_lt_of_cell? w _ hw273_0)).trans hw273_0),((HB.out.cell (World.block_lt_of_cell? w _ hw273_1)).trans hw273_1),((HB.out.cell (World.block_lt_of_cell? w _ hw273_2)).trans hw273_2),((HB.out.cell (World.block_lt_of_cell? w _ hw273_3)).trans hw273_3),((HB.out.cell (World.block_lt_of_cell? w _ hw273_4)).trans hw273_4)⟩ (fun hHeld => ?_)
        clear hK K
        refine nr_ (some 5) _ ?_
        refine pw_ 3 (some 6) HT_.out ?_
        refine pw_ 4 (some 7) HT_.out ?_
        refine tw_ 5 (some 8) HT_.out HW_.out hHeld rfl rfl (by rintro w' ⟨s0,s1,s2,s3,s4,s5,s6,s7,s8⟩;go_simp;with_reducible rfl) ?_
        refine oz_ (i := 6) (N := some 9) HT_.out rfl rfl (by kernel_rfl) (by decide) (fun K hK => ?_)
        refine goes_ Try.func95 (by kernel_rfl) rfl #[.int .i64 a0_1] (by rfl) rfl rfl (by (try simp only [List.map_toArray,List.map_cons,List.map_nil]);first|done|rfl|(simp only [List.length_drop,List.length_take];rfl)) ?_
        with_reducible refine (spec_l1Id.calls a0_1 true _ A4.out).mono ?_
        rintro e w' ⟨rfl,⟨nd,rfl⟩⟩
        refine ⟨_,rfl,?_⟩
        refine hK.out _ _ ⟨(blk_cell BK268.out 0).trans rfl,(blk_cell BK268.out 1).trans rfl,(blk_cell BK268.out 2).trans rfl,(blk_cell BK268.out 3).trans rfl,((HB.out.cell (World.block_lt_of_cell? w _ hw273_0)).trans hw273_0),((HB.out.cell (World.block_lt_of_cell? w _ hw273_1)).trans hw273_1),((HB.out.cell (World.block_lt_of_cell? w _ hw273_2)).trans hw273_2),((HB.out.cell (World.block_lt_of_cell? w _ hw273_3)).trans hw273_3),((HB.out.cell (World.block_lt_of_cell? w _ hw273_4)).trans hw273_4)⟩ (fun hHeld => ?_)
        clear hK K
        refine nr_ (some 9) _ ?_
        refine pw_ 7 (some 10) HT_.out ?_
        refine pw_ 8 (some 11) HT_.out ?_
        refine pw_ 9 (some 12) HT_.out ?_
        refine tw_ 10 (some 13) HT_.out HW_.out hHeld rfl rfl (by rintro w' ⟨s0,s1,s2,s3,s4,s5,s6,s7,s8⟩;go_simp;with_reducible rfl) ?_
        refine oz_ (i := 11) (N := some 14) HT_.out rfl rfl (by kernel_rfl) (by decide) (fun K hK => ?_)
        refine goes_ Try.func47 (by kernel_rfl) rfl #[.int .i64 a0_2] (by rfl) rfl rfl (by (try simp only [List.map_toArray,List.map_cons,List.map_nil]);first|done|rfl|(simp only [List.length_drop,List.length_take];rfl)) ?_
        with_reducible refine (spec_l1Region.calls a0_2 true _ A6.out).mono ?_
        rintro e w' ⟨rfl,⟨nd,rfl⟩⟩
        refine ⟨_,rfl,?_⟩
        refine hK.out _ _ ⟨(blk_cell BK268.out 0).trans rfl,(blk_cell BK268.out 1).trans rfl,(blk_cell BK268.out 2).trans rfl,(blk_cell BK268.out 3).trans rfl,((HB.out.cell (World.block_lt_of_cell? w _ hw273_0)).trans hw273_0),((HB.out.cell (World.block_lt_of_cell? w _ hw273_1)).trans hw273_1),((HB.out.cell (World.block_lt_of_cell? w _ hw273_2)).trans hw273_2),((HB.out.cell (World.block_lt_of_cell? w _ hw273_3)).trans hw273_3),((HB.out.cell (World.block_lt_of_cell? w _ hw273_4)).trans hw273_4)⟩ (fun hHeld => ?_)
        clear hK K
        refine nr_ (some 14) _ ?_
        refine pw_ 12 (some 15) HT_.out ?_
        refine pw_ 13 (some 16) HT_.out ?_
        refine pw_ 14 (some 17) HT_.out ?_
        refine tw_ 15 (some 18) HT_.out HW_.out hHeld rfl rfl (by rintro w' ⟨s0,s1,s2,s3,s4,s5,s6,s7,s8⟩;go_simp;with_reducible rfl) ?_
        refine pw_ 16 (some 19) HT_.out ?_
        refine pw_ 17 (some 20) HT_.out ?_
        refine pw_ 18 (some 21) HT_.out ?_
        refine pw_ 19 (some 22) HT_.out ?_
        refine pw_ 20 (some 23) HT_.out ?_
        refine tw_ 21 (some 24) HT_.out HW_.out hHeld rfl rfl (by rintro w' ⟨s0,s1,s2,s3,s4,s5,s6,s7,s8⟩;go_simp;with_reducible rfl) ?_
        refine pw_ 22 (some 25) HT_.out ?_
        refine pw_ 23 (some 26) HT_.out ?_
        refine pw_ 24 (some 27) HT_.out ?_
        refine pw_ 25 (some 28) HT_.out ?_
        refine pw_ 26 (some 29) HT_.out ?_
        refine tw_ 27 (some 30) HT_.out HW_.out hHeld rfl rfl (by rintro w' ⟨s0,s1,s2,s3,s4,s5,s6,s7,s8⟩;go_simp;with_reducible rfl) ?_
        refine oz_ (i := 28) (N := some 31) HT_.out rfl rfl (by kernel_rfl) (by decide) (fun K hK => ?_)
        refine goes_ Try.func106 (by kernel_rfl) rfl #[.slice (some ad273) l0_3.length c0_3] (by rfl) rfl rfl (by (try simp only [List.map_toArray,List.map_cons,List.map_nil]);first|done|rfl|(simp only [List.length_drop,List.length_take];rfl)) ?_
        with_reducible refine (spec_l2Sets.calls k _ _ l0_3 true _ ?side1 ?side2 A10.out).mono ?_
        (case side1 => repeat (first|exact (Kd.C_below HR0_3.out b_)|(with_reducible refine Kd.C_alloc ?_ _)|(with_reducible refine Kd.C_drewN ?_ _)|(with_reducible refine Kd.C_drew ?_)))
        (case side2 => exact HC0_3.out)
        rintro e w15 ⟨rfl,hb⟩
        refine ⟨_,rfl,?_⟩
        replace BK268 := Aside0.mk (blk_below (kb_ BK268) hb)
        replace HB := Aside0.mk (below_step b_ hb)
        (try clear hb)
        (try clear hb2)
        (try clear hk)
        (try clear hi)
        refine hK.out _ _ ⟨(blk_cell BK268.out 0).trans rfl,(blk_cell BK268.out 1).trans rfl,(blk_cell BK268.out 2).trans rfl,(blk_cell BK268.out 3).trans rfl,((HB.out.cell (World.block_lt_of_cell? w _ hw273_0)).trans hw273_0),((HB.out.cell (World.block_lt_of_cell? w _ hw273_1)).trans hw273_1),((HB.out.cell (World.block_lt_of_cell? w _ hw273_2)).trans hw273_2),((HB.out.cell (World.block_lt_of_cell? w _ hw273_3)).trans hw273_3),((HB.out.cell (World.block_lt_of_cell? w _ hw273_4)).trans hw273_4)⟩ (fun hHeld => ?_)
        clear hK K
        refine nr_ (some 31) _ ?_
        refine pw_ 29 (some 32) HT_.out ?_
        refine pw_ 30 (some 33) HT_.out ?_
        refine pw_ 31 (some 34) HT_.out ?_
        refine pw_ 36 (some 39) HT_.out ?_
        refine tw_ 32 (some 35) HT_.out HW_.out hHeld rfl rfl (by rintro w' ⟨s0,s1,s2,s3,s4,s5,s6,s7,s8⟩;go_simp;with_reducible rfl) ?_
        refine pw_ 33 (some 36) HT_.out ?_
        refine pw_ 34 (some 37) HT_.out ?_
        refine tw_ 35 (some 38) HT_.out HW_.out hHeld rfl rfl (by rintro w' ⟨s0,s1,s2,s3,s4,s5,s6,s7,s8⟩;go_simp;with_reducible rfl) ?_
        refine tw_ 37 (some 40) HT_.out HW_.out hHeld rfl rfl (by rintro w' ⟨s0,s1,s2,s3,s4,s5,s6,s7,s8⟩;go_simp;with_reducible rfl) ?_
        refine pw_ 38 (some 41) HT_.out ?_
        refine pw_ 39 (some 42) HT_.out ?_
        refine pw_ 40 (some 2) HT_.out ?_
        refine done_ (done_of HT_.out (by kernel_rfl)) ?_
        try go_wp2
        go_ret
        exact ⟨by first|rfl|(simp [errW_none,errW_some] <;> rfl)|(simp [*,errW_none,errW_some] <;> rfl),b_⟩
       ·rw [if_neg c12] at H
        exact absurd H (by simp)
      ·replace c11 := Bool.eq_false_iff.mpr c11
       subst c11
       have H1 : (some false) = some r := by rw [if_neg (show ¬ (false = true) by decide)] at H;exact H
       clear H
       have H := H1
       clear H1
       obtain rfl := Option.some.inj H
       go_enter Try.func49,Try.ntmps49
       try go_wp2_with (first|((with_reducible refine gate_dst (N := 1) rfl ?_);(try (refine gate_guard (by rfl) ?_;dsimp only));refine bx_ 1 #[.int .i64 a0_0,.int .i64 a0_1,.int .i64 a0_2,.slice A0_3 l0_3.length c0_3] 45 ?_;intro gb268 hg w16 hbox hb;have BK268 := Aside0.mk (hbox);have GW268 := Aside0.mk ((gw_ (w := w) hg));have GE268 := Aside0.mk ((gw_ (w := w) hg));replace HB := Aside0.mk (below_step b_ hb);clear hb hbox hg))
       replace BK268 := Aside0.mk (blk_drew BK268.out)
       replace HB := Aside0.mk (below_drew1 HB.out)
       refine start_ (n := 41) (S := fun w' => w'.cell? ⟨gb268,0,none⟩ = some (.int .i64 a0_0) ∧ w'.cell? ⟨gb268,1,none⟩ = some (.int .i64 a0_1) ∧ w'.cell? ⟨gb268,2,none⟩ = some (.int .i64 a0_2) ∧ w'.cell? ⟨gb268,3,none⟩ = some (.slice A0_3 l0_3.length c0_3)) (ds := []) #[false,false,false,false,false,false,false,false,false,false,false,false,false,false,false,false,false,false,false,false,false,false,false,false,false,false,false,false,false,false,false,false,false,false,false,false,false,false,false,false,false] (by kernel_rfl) rfl rfl ⟨(blk_cell BK268.out 0).trans rfl,(blk_cell BK268.out 1).trans rfl,(blk_cell BK268.out 2).trans rfl,(blk_cell BK268.out 3).trans rfl⟩ (fun hHeld => ?_);refine with_tabW spec_RecordOk.tab1 spec_RecordOk.bits1 (fun HT_ HW_ => ?_)
       generalize w16.drew = w17 at BK268 HB hHeld ⊢
       refine pw_ 0 (some 3) HT_.out ?_
       refine tw_ 1 (some 4) HT_.out HW_.out hHeld rfl rfl (by rintro w' ⟨s0,s1,s2,s3⟩;go_simp;with_reducible rfl) ?_
       refine oz_ (i := 2) (N := some 5) HT_.out rfl rfl (by kernel_rfl) (by decide) (fun K hK => ?_)
       refine goes_ Try.func102 (by kernel_rfl) rfl #[.int .i64 a0_0,.int .i64 1,.int .i64 3] (by rfl) rfl rfl (by (try simp only [List.map_toArray,List.map_cons,List.map_nil]);first|done|rfl|(simp only [List.length_drop,List.length_take];rfl)) ?_
       with_reducible refine (spec_l1In.calls a0_0 1 3 true _ A2.out).mono ?_
       rintro e w' ⟨rfl,⟨nd,rfl⟩⟩
       refine ⟨_,rfl,?_⟩
       refine hK.out _ _ ⟨(blk_cell BK268.out 0).trans rfl,(blk_cell BK268.out 1).trans rfl,(blk_cell BK268.out 2).trans rfl,(blk_cell BK268.out 3).trans rfl⟩ (fun hHeld => ?_)
       clear hK K
       refine nr_ (some 5) _ ?_
       refine pw_ 3 (some 6) HT_.out ?_
       refine pw_ 4 (some 7) HT_.out ?_
       refine tw_ 5 (some 8) HT_.out HW_.out hHeld rfl rfl (by rintro w' ⟨s0,s1,s2,s3⟩;go_simp;with_reducible rfl) ?_
       refine oz_ (i := 6) (N := some 9) HT_.out rfl rfl (by kernel_rfl) (by decide) (fun K hK => ?_)
       refine goes_ Try.func95 (by kernel_rfl) rfl #[.int .i64 a0_1] (by rfl) rfl rfl (by (try simp only [List.map_toArray,List.map_cons,List.map_nil]);first|done|rfl|(simp only [List.length_drop,List.length_take];rfl)) ?_
       with_reducible refine (spec_l1Id.calls a0_1 true _ A4.out).mono ?_
       rintro e w' ⟨rfl,⟨nd,rfl⟩⟩
       refine ⟨_,rfl,?_⟩
       refine hK.out _ _ ⟨(blk_cell BK268.out 0).trans rfl,(blk_cell BK268.out 1).trans rfl,(blk_cell BK268.out 2).trans rfl,(blk_cell BK268.out 3).trans rfl⟩ (fun hHeld => ?_)
       clear hK K
       refine nr_ (some 9) _ ?_
       refine pw_ 7 (some 10) HT_.out ?_
       refine pw_ 8 (some 11) HT_.out ?_
       refine pw_ 9 (some 12) HT_.out ?_
       refine tw_ 10 (some 13) HT_.out HW_.out hHeld rfl rfl (by rintro w' ⟨s0,s1,s2,s3⟩;go_simp;with_reducible rfl) ?_
       refine oz_ (i := 11) (N := some 14) HT_.out rfl rfl (by kernel_rfl) (by decide) (fun K hK => ?_)
       refine goes_ Try.func47 (by kernel_rfl) rfl #[.int .i64 a0_2] (by rfl) rfl rfl (by (try simp only [List.map_toArray,List.map_cons,List.map_nil]);first|done|rfl|(simp only [List.length_drop,List.length_take];rfl)) ?_
       with_reducible refine (spec_l1Region.calls a0_2 true _ A6.out).mono ?_
       rintro e w' ⟨rfl,⟨nd,rfl⟩⟩
       refine ⟨_,rfl,?_⟩
       refine hK.out _ _ ⟨(blk_cell BK268.out 0).trans rfl,(blk_cell BK268.out 1).trans rfl,(blk_cell BK268.out 2).trans rfl,(blk_cell BK268.out 3).trans rfl⟩ (fun hHeld => ?_)
       clear hK K
       refine nr_ (some 14) _ ?_
       refine pw_ 12 (some 15) HT_.out ?_
       refine pw_ 13 (some 16) HT_.out ?_
       refine pw_ 14 (some 17) HT_.out ?_
       refine tw_ 15 (some 18) HT_.out HW_.out hHeld rfl rfl (by rintro w' ⟨s0,s1,s2,s3⟩;go_simp;with_reducible rfl) ?_
       refine pw_ 16 (some 19) HT_.out ?_
       refine pw_ 17 (some 20) HT_.out ?_
       refine pw_ 18 (some 21) HT_.out ?_
       refine pw_ 19 (some 22) HT_.out ?_
       refine pw_ 20 (some 23) HT_.out ?_
       refine tw_ 21 (some 24) HT_.out HW_.out hHeld rfl rfl (by rintro w' ⟨s0,s1,s2,s3⟩;go_simp;with_reducible rfl) ?_
       refine pw_ 22 (some 25) HT_.out ?_
       refine pw_ 23 (some 26) HT_.out ?_
       refine pw_ 24 (some 27) HT_.out ?_
       refine pw_ 25 (some 28) HT_.out ?_
       refine pw_ 26 (some 29) HT_.out ?_
       refine tw_ 27 (some 30) HT_.out HW_.out hHeld rfl rfl (by rintro w' ⟨s0,s1,s2,s3⟩;go_simp;with_reducible rfl) ?_
       refine oz_ (i := 28) (N := some 31) HT_.out rfl rfl (by kernel_rfl) (by decide) (fun K hK => ?_)
       refine goes_ Try.func106 (by kernel_rfl) rfl #[.slice A0_3 l0_3.length c0_3] (by rfl) rfl rfl (by (try simp only [List.map_toArray,List.map_cons,List.map_nil]);first|done|rfl|(simp only [List.length_drop,List.length_take];rfl)) ?_
       with_reducible refine (spec_l2Sets.calls k _ _ l0_3 false _ ?side1 ?side2 A10.out).mono ?_
       (case side1 => repeat (first|exact (Kd.C_below HR0_3.out b_)|(with_reducible refine Kd.C_alloc ?_ _)|(with_reducible refine Kd.C_drewN ?_ _)|(with_reducible refine Kd.C_drew ?_)))
       (case side2 => exact HC0_3.out)
       rintro e w18 ⟨rfl,hb⟩
       refine ⟨_,rfl,?_⟩
       replace BK268 := Aside0.mk (blk_below (kb_ BK268) hb)
       replace HB := Aside0.mk (below_step b_ hb)
       (try clear hb)
       (try clear hb2)
       (try clear hk)
       (try clear hi)
       refine hK.out _ _ ⟨(blk_cell BK268.out 0).trans rfl,(blk_cell BK268.out 1).trans rfl,(blk_cell BK268.out 2).trans rfl,(blk_cell BK268.out 3).trans rfl⟩ (fun hHeld => ?_)
       clear hK K
       refine nr_ (some 31) _ ?_
       refine pw_ 29 (some 32) HT_.out ?_
       refine pw_ 30 (some 33) HT_.out ?_
       refine pu_ 31 (some 34) HT_.out ?_
       refine pu_ 32 (some 35) HT_.out ?_
       refine pu_ 33 (some 36) HT_.out ?_
       refine pu_ 34 (some 37) HT_.out ?_
       refine pu_ 35 (some 38) HT_.out ?_
       refine pu_ 36 (some 39) HT_.out ?_
       refine pu_ 37 (some 40) HT_.out ?_
       refine pu_ 38 (some 41) HT_.out ?_
       refine pw_ 39 (some 42) HT_.out ?_
       refine pw_ 40 (some 2) HT_.out ?_
       refine done_ (done_of HT_.out (by kernel_rfl)) ?_
       try go_wp2
       go_ret
       exact ⟨by first|rfl|(simp [errW_none,errW_some] <;> rfl)|(simp [*,errW_none,errW_some] <;> rfl),b_⟩
     ·rw [if_neg c9] at H
      have c9b0 : decide ((l0_3.length : Int) ≤ 12) = false := decide_eq_false c9
      have c9b1 : decide (l0_3.length ≤ 12) = false := decide_eq_false (by omega)
      clear c9
      obtain rfl := Option.some.inj H
      go_enter Try.func49,Try.ntmps49
      try go_wp2_with (first|((with_reducible refine gate_dst (N := 1) rfl ?_);(try (refine gate_guard (by rfl) ?_;dsimp only));refine bx_ 1 #[.int .i64 a0_0,.int .i64 a0_1,.int .i64 a0_2,.slice A0_3 l0_3.length c0_3] 45 ?_;intro gb268 hg w19 hbox hb;have BK268 := Aside0.mk (hbox);have GW268 := Aside0.mk ((gw_ (w := w) hg));have GE268 := Aside0.mk ((gw_ (w := w) hg));replace HB := Aside0.mk (below_step b_ hb);clear hb hbox hg))
      replace BK268 := Aside0.mk (blk_drew BK268.out)
      replace HB := Aside0.mk (below_drew1 HB.out)
      refine start_ (n := 41) (S := fun w' => w'.cell? ⟨gb268,0,none⟩ = some (.int .i64 a0_0) ∧ w'.cell? ⟨gb268,1,none⟩ = some (.int .i64 a0_1) ∧ w'.cell? ⟨gb268,2,none⟩ = some (.int .i64 a0_2) ∧ w'.cell? ⟨gb268,3,none⟩ = some (.slice A0_3 l0_3.length c0_3)) (ds := []) #[false,false,false,false,false,false,false,false,false,false,false,false,false,false,false,false,false,false,false,false,false,false,false,false,false,false,false,false,false,false,false,false,false,false,false,false,false,false,false,false,false] (by kernel_rfl) rfl rfl ⟨(blk_cell BK268.out 0).trans rfl,(blk_cell BK268.out 1).trans rfl,(blk_cell BK268.out 2).trans rfl,(blk_cell BK268.out 3).trans rfl⟩ (fun hHeld => ?_);refine with_tabW spec_RecordOk.tab1 spec_RecordOk.bits1 (fun HT_ HW_ => ?_)
      generalize w19.drew = w20 at BK268 HB hHeld ⊢
      refine pw_ 0 (some 3) HT_.out ?_
      refine tw_ 1 (some 4) HT_.out HW_.out hHeld rfl rfl (by rintro w' ⟨s0,s1,s2,s3⟩;go_simp;with_reducible rfl) ?_
      refine oz_ (i := 2) (N := some 5) HT_.out rfl rfl (by kernel_rfl) (by decide) (fun K hK => ?_)
      refine goes_ Try.func102 (by kernel_rfl) rfl #[.int .i64 a0_0,.int .i64 1,.int .i64 3] (by rfl) rfl rfl (by (try simp only [List.map_toArray,List.map_cons,List.map_nil]);first|done|rfl|(simp only [List.length_drop,List.length_take];rfl)) ?_
      with_reducible refine (spec_l1In.calls a0_0 1 3 true _ A2.out).mono ?_
      rintro e w' ⟨rfl,⟨nd,rfl⟩⟩
      refine ⟨_,rfl,?_⟩
      refine hK.out _ _ ⟨(blk_cell BK268.out 0).trans rfl,(blk_cell BK268.out 1).trans rfl,(blk_cell BK268.out 2).trans rfl,(blk_cell BK268.out 3).trans rfl⟩ (fun hHeld => ?_)
      clear hK K
      refine nr_ (some 5) _ ?_
      refine pw_ 3 (some 6) HT_.out ?_
      refine pw_ 4 (some 7) HT_.out ?_
      refine tw_ 5 (some 8) HT_.out HW_.out hHeld rfl rfl (by rintro w' ⟨s0,s1,s2,s3⟩;go_simp;with_reducible rfl) ?_
      refine oz_ (i := 6) (N := some 9) HT_.out rfl rfl (by kernel_rfl) (by decide) (fun K hK => ?_)
      refine goes_ Try.func95 (by kernel_rfl) rfl #[.int .i64 a0_1] (by rfl) rfl rfl (by (try simp only [List.map_toArray,List.map_cons,List.map_nil]);first|done|rfl|(simp only [List.length_drop,List.length_take];rfl)) ?_
      with_reducible refine (spec_l1Id.calls a0_1 true _ A4.out).mono ?_
      rintro e w' ⟨rfl,⟨nd,rfl⟩⟩
      refine ⟨_,rfl,?_⟩
      refine hK.out _ _ ⟨(blk_cell BK268.out 0).trans rfl,(blk_cell BK268.out 1).trans rfl,(blk_cell BK268.out 2).trans rfl,(blk_cell BK268.out 3).trans rfl⟩ (fun hHeld => ?_)
      clear hK K
      refine nr_ (some 9) _ ?_
      refine pw_ 7 (some 10) HT_.out ?_
      refine pw_ 8 (some 11) HT_.out ?_
      refine pw_ 9 (some 12) HT_.out ?_
      refine tw_ 10 (some 13) HT_.out HW_.out hHeld rfl rfl (by rintro w' ⟨s0,s1,s2,s3⟩;go_simp;with_reducible rfl) ?_
      refine oz_ (i := 11) (N := some 14) HT_.out rfl rfl (by kernel_rfl) (by decide) (fun K hK => ?_)
      refine goes_ Try.func47 (by kernel_rfl) rfl #[.int .i64 a0_2] (by rfl) rfl rfl (by (try simp only [List.map_toArray,List.map_cons,List.map_nil]);first|done|rfl|(simp only [List.length_drop,List.length_take];rfl)) ?_
      with_reducible refine (spec_l1Region.calls a0_2 true _ A6.out).mono ?_
      rintro e w' ⟨rfl,⟨nd,rfl⟩⟩
      refine ⟨_,rfl,?_⟩
      refine hK.out _ _ ⟨(blk_cell BK268.out 0).trans rfl,(blk_cell BK268.out 1).trans rfl,(blk_cell BK268.out 2).trans rfl,(blk_cell BK268.out 3).trans rfl⟩ (fun hHeld => ?_)
      clear hK K
      refine nr_ (some 14) _ ?_
      refine pw_ 12 (some 15) HT_.out ?_
      refine pw_ 13 (some 16) HT_.out ?_
      refine pw_ 14 (some 17) HT_.out ?_
      refine tw_ 15 (some 18) HT_.out HW_.out hHeld rfl rfl (by rintro w' ⟨s0,s1,s2,s3⟩;go_simp;with_reducible rfl) ?_
      refine pw_ 16 (some 19) HT_.out ?_
      refine pw_ 17 (some 20) HT_.out ?_
      refine pw_ 18 (some 21) HT_.out ?_
      refine pw_ 19 (some 22) HT_.out ?_
      refine pw_ 20 (some 23) HT_.out ?_
      refine tw_ 21 (some 24) HT_.out HW_.out hHeld rfl rfl (by rintro w' ⟨s0,s1,s2,s3⟩;go_simp;with_reducible rfl) ?_
      refine pw_ 22 (some 25) HT_.out ?_
      refine pw_ 23 (some 26) HT_.out ?_
      refine pw_ 24 (some 27) HT_.out ?_
      refine pw_ 25 (some 28) HT_.out ?_
      refine pu_ 26 (some 29) HT_.out ?_
      refine pu_ 27 (some 30) HT_.out ?_
      refine pu_ 28 (some 31) HT_.out ?_
      refine pw_ 29 (some 32) HT_.out ?_
      refine pw_ 30 (some 33) HT_.out ?_
      refine pu_ 31 (some 34) HT_.out ?_
      refine pu_ 32 (some 35) HT_.out ?_
      refine pu_ 33 (some 36) HT_.out ?_
      refine pu_ 34 (some 37) HT_.out ?_
      refine pu_ 35 (some 38) HT_.out ?_
      refine pu_ 36 (some 39) HT_.out ?_
      refine pu_ 37 (some 40) HT_.out ?_
      refine pu_ 38 (some 41) HT_.out ?_
      refine pw_ 39 (some 42) HT_.out ?_
      refine pw_ 40 (some 2) HT_.out ?_
      refine done_ (done_of HT_.out (by kernel_rfl)) ?_
      try go_wp2
      go_ret
      exact ⟨by first|rfl|(simp [errW_none,errW_some] <;> rfl)|(simp [*,errW_none,errW_some] <;> rfl),b_⟩
    ·rw [if_neg c8] at H
     have c8b0 : decide (1 ≤ (l0_3.length : Int)) = false := decide_eq_false c8
     have c8b1 : decide (1 ≤ l0_3.length) = false := decide_eq_false (by omega)
     clear c8
     obtain rfl := Option.some.inj H
     go_enter Try.func49,Try.ntmps49
     try go_wp2_with (first|((with_reducible refine gate_dst (N := 1) rfl ?_);(try (refine gate_guard (by rfl) ?_;dsimp only));refine bx_ 1 #[.int .i64 a0_0,.int .i64 a0_1,.int .i64 a0_2,.slice A0_3 l0_3.length c0_3] 45 ?_;intro gb268 hg w21 hbox hb;have BK268 := Aside0.mk (hbox);have GW268 := Aside0.mk ((gw_ (w := w) hg));have GE268 := Aside0.mk ((gw_ (w := w) hg));replace HB := Aside0.mk (below_step b_ hb);clear hb hbox hg))
     replace BK268 := Aside0.mk (blk_drew BK268.out)
     replace HB := Aside0.mk (below_drew1 HB.out)
     refine start_ (n := 41) (S := fun w' => w'.cell? ⟨gb268,0,none⟩ = some (.int .i64 a0_0) ∧ w'.cell? ⟨gb268,1,none⟩ = some (.int .i64 a0_1) ∧ w'.cell? ⟨gb268,2,none⟩ = some (.int .i64 a0_2) ∧ w'.cell? ⟨gb268,3,none⟩ = some (.slice A0_3 l0_3.length c0_3)) (ds := []) #[false,false,false,false,false,false,false,false,false,false,false,false,false,false,false,false,false,false,false,false,false,false,false,false,false,false,false,false,false,false,false,false,false,false,false,false,false,false,false,false,false] (by kernel_rfl) rfl rfl ⟨(blk_cell BK268.out 0).trans rfl,(blk_cell BK268.out 1).trans rfl,(blk_cell BK268.out 2).trans rfl,(blk_cell BK268.out 3).trans rfl⟩ (fun hHeld => ?_);refine with_tabW spec_RecordOk.tab1 spec_RecordOk.bits1 (fun HT_ HW_ => ?_)
     generalize w21.drew = w22 at BK268 HB hHeld ⊢
     refine pw_ 0 (some 3) HT_.out ?_
     refine tw_ 1 (some 4) HT_.out HW_.out hHeld rfl rfl (by rintro w' ⟨s0,s1,s2,s3⟩;go_simp;with_reducible rfl) ?_
     refine oz_ (i := 2) (N := some 5) HT_.out rfl rfl (by kernel_rfl) (by decide) (fun K hK => ?_)
     refine goes_ Try.func102 (by kernel_rfl) rfl #[.int .i64 a0_0,.int .i64 1,.int .i64 3] (by rfl) rfl rfl (by (try simp only [List.map_toArray,List.map_cons,List.map_nil]);first|done|rfl|(simp only [List.length_drop,List.length_take];rfl)) ?_
     with_reducible refine (spec_l1In.calls a0_0 1 3 true _ A2.out).mono ?_
     rintro e w' ⟨rfl,⟨nd,rfl⟩⟩
     refine ⟨_,rfl,?_⟩
     refine hK.out _ _ ⟨(blk_cell BK268.out 0).trans rfl,(blk_cell BK268.out 1).trans rfl,(blk_cell BK268.out 2).trans rfl,(blk_cell BK268.out 3).trans rfl⟩ (fun hHeld => ?_)
     clear hK K
     refine nr_ (some 5) _ ?_
     refine pw_ 3 (some 6) HT_.out ?_
     refine pw_ 4 (some 7) HT_.out ?_
     refine tw_ 5 (some 8) HT_.out HW_.out hHeld rfl rfl (by rintro w' ⟨s0,s1,s2,s3⟩;go_simp;with_reducible rfl) ?_
     refine oz_ (i := 6) (N := some 9) HT_.out rfl rfl (by kernel_rfl) (by decide) (fun K hK => ?_)
     refine goes_ Try.func95 (by kernel_rfl) rfl #[.int .i64 a0_1] (by rfl) rfl rfl (by (try simp only [List.map_toArray,List.map_cons,List.map_nil]);first|done|rfl|(simp only [List.length_drop,List.length_take];rfl)) ?_
     with_reducible refine (spec_l1Id.calls a0_1 true _ A4.out).mono ?_
     rintro e w' ⟨rfl,⟨nd,rfl⟩⟩
     refine ⟨_,rfl,?_⟩
     refine hK.out _ _ ⟨(blk_cell BK268.out 0).trans rfl,(blk_cell BK268.out 1).trans rfl,(blk_cell BK268.out 2).trans rfl,(blk_cell BK268.out 3).trans rfl⟩ (fun hHeld => ?_)
     clear hK K
     refine nr_ (some 9) _ ?_
     refine pw_ 7 (some 10) HT_.out ?_
     refine pw_ 8 (some 11) HT_.out ?_
     refine pw_ 9 (some 12) HT_.out ?_
     refine tw_ 10 (some 13) HT_.out HW_.out hHeld rfl rfl (by rintro w' ⟨s0,s1,s2,s3⟩;go_simp;with_reducible rfl) ?_
     refine oz_ (i := 11) (N := some 14) HT_.out rfl rfl (by kernel_rfl) (by decide) (fun K hK => ?_)
     refine goes_ Try.func47 (by kernel_rfl) rfl #[.int .i64 a0_2] (by rfl) rfl rfl (by (try simp only [List.map_toArray,List.map_cons,List.map_nil]);first|done|rfl|(simp only [List.length_drop,List.length_take];rfl)) ?_
     with_reducible refine (spec_l1Region.calls a0_2 true _ A6.out).mono ?_
     rintro e w' ⟨rfl,⟨nd,rfl⟩⟩
     refine ⟨_,rfl,?_⟩
     refine hK.out _ _ ⟨(blk_cell BK268.out 0).trans rfl,(blk_cell BK268.out 1).trans rfl,(blk_cell BK268.out 2).trans rfl,(blk_cell BK268.out 3).trans rfl⟩ (fun hHeld => ?_)
     clear hK K
     refine nr_ (some 14) _ ?_
     refine pw_ 12 (some 15) HT_.out ?_
     refine pw_ 13 (some 16) HT_.out ?_
     refine pw_ 14 (some 17) HT_.out ?_
     refine tw_ 15 (some 18) HT_.out HW_.out hHeld rfl rfl (by rintro w' ⟨s0,s1,s2,s3⟩;go_simp;with_reducible rfl) ?_
     refine pw_ 16 (some 19) HT_.out ?_
     refine pw_ 17 (some 20) HT_.out ?_
     refine pw_ 18 (some 21) HT_.out ?_
     refine pw_ 19 (some 22) HT_.out ?_
     refine pu_ 20 (some 23) HT_.out ?_
     refine pu_ 21 (some 24) HT_.out ?_
     refine pu_ 22 (some 25) HT_.out ?_
     refine pu_ 23 (some 26) HT_.out ?_
     refine pw_ 24 (some 27) HT_.out ?_
     refine pw_ 25 (some 28) HT_.out ?_
     refine pu_ 26 (some 29) HT_.out ?_
     refine pu_ 27 (some 30) HT_.out ?_
     refine pu_ 28 (some 31) HT_.out ?_
     refine pw_ 29 (some 32) HT_.out ?_
     refine pw_ 30 (some 33) HT_.out ?_
     refine pu_ 31 (some 34) HT_.out ?_
     refine pu_ 32 (some 35) HT_.out ?_
     refine pu_ 33 (some 36) HT_.out ?_
     refine pu_ 34 (some 37) HT_.out ?_
     refine pu_ 35 (some 38) HT_.out ?_
     refine pu_ 36 (some 39) HT_.out ?_
     refine pu_ 37 (some 40) HT_.out ?_
     refine pu_ 38 (some 41) HT_.out ?_
     refine pw_ 39 (some 42) HT_.out ?_
     refine pw_ 40 (some 2) HT_.out ?_
     refine done_ (done_of HT_.out (by kernel_rfl)) ?_
     try go_wp2
     go_ret
     exact ⟨by first|rfl|(simp [errW_none,errW_some] <;> rfl)|(simp [*,errW_none,errW_some] <;> rfl),b_⟩
   ·replace c7 := Bool.eq_false_iff.mpr c7
    subst c7
    have H1 : (some false) = some r := by rw [if_neg (show ¬ (false = true) by decide)] at H;exact H
    clear H
    have H := H1
    clear H1
    obtain rfl := Option.some.inj H
    go_enter Try.func49,Try.ntmps49
    try go_wp2_with (first|((with_reducible refine gate_dst (N := 1) rfl ?_);(try (refine gate_guard (by rfl) ?_;dsimp only));refine bx_ 1 #[.int .i64 a0_0,.int .i64 a0_1,.int .i64 a0_2,.slice A0_3 l0_3.length c0_3] 45 ?_;intro gb268 hg w23 hbox hb;have BK268 := Aside0.mk (hbox);have GW268 := Aside0.mk ((gw_ (w := w) hg));have GE268 := Aside0.mk ((gw_ (w := w) hg));replace HB := Aside0.mk (below_step b_ hb);clear hb hbox hg))
    replace BK268 := Aside0.mk (blk_drew BK268.out)
    replace HB := Aside0.mk (below_drew1 HB.out)
    refine start_ (n := 41) (S := fun w' => w'.cell? ⟨gb268,0,none⟩ = some (.int .i64 a0_0) ∧ w'.cell? ⟨gb268,1,none⟩ = some (.int .i64 a0_1) ∧ w'.cell? ⟨gb268,2,none⟩ = some (.int .i64 a0_2) ∧ w'.cell? ⟨gb268,3,none⟩ = some (.slice A0_3 l0_3.length c0_3)) (ds := []) #[false,false,false,false,false,false,false,false,false,false,false,false,false,false,false,false,false,false,false,false,false,false,false,false,false,false,false,false,false,false,false,false,false,false,false,false,false,false,false,false,false] (by kernel_rfl) rfl rfl ⟨(blk_cell BK268.out 0).trans rfl,(blk_cell BK268.out 1).trans rfl,(blk_cell BK268.out 2).trans rfl,(blk_cell BK268.out 3).trans rfl⟩ (fun hHeld => ?_);refine with_tabW spec_RecordOk.tab1 spec_RecordOk.bits1 (fun HT_ HW_ => ?_)
    generalize w23.drew = w24 at BK268 HB hHeld ⊢
    refine pw_ 0 (some 3) HT_.out ?_
    refine tw_ 1 (some 4) HT_.out HW_.out hHeld rfl rfl (by rintro w' ⟨s0,s1,s2,s3⟩;go_simp;with_reducible rfl) ?_
    refine oz_ (i := 2) (N := some 5) HT_.out rfl rfl (by kernel_rfl) (by decide) (fun K hK => ?_)
    refine goes_ Try.func102 (by kernel_rfl) rfl #[.int .i64 a0_0,.int .i64 1,.int .i64 3] (by rfl) rfl rfl (by (try simp only [List.map_toArray,List.map_cons,List.map_nil]);first|done|rfl|(simp only [List.length_drop,List.length_take];rfl)) ?_
    with_reducible refine (spec_l1In.calls a0_0 1 3 true _ A2.out).mono ?_
    rintro e w' ⟨rfl,⟨nd,rfl⟩⟩
    refine ⟨_,rfl,?_⟩
    refine hK.out _ _ ⟨(blk_cell BK268.out 0).trans rfl,(blk_cell BK268.out 1).trans rfl,(blk_cell BK268.out 2).trans rfl,(blk_cell BK268.out 3).trans rfl⟩ (fun hHeld => ?_)
    clear hK K
    refine nr_ (some 5) _ ?_
    refine pw_ 3 (some 6) HT_.out ?_
    refine pw_ 4 (some 7) HT_.out ?_
    refine tw_ 5 (some 8) HT_.out HW_.out hHeld rfl rfl (by rintro w' ⟨s0,s1,s2,s3⟩;go_simp;with_reducible rfl) ?_
    refine oz_ (i := 6) (N := some 9) HT_.out rfl rfl (by kernel_rfl) (by decide) (fun K hK => ?_)
    refine goes_ Try.func95 (by kernel_rfl) rfl #[.int .i64 a0_1] (by rfl) rfl rfl (by (try simp only [List.map_toArray,List.map_cons,List.map_nil]);first|done|rfl|(simp only [List.length_drop,List.length_take];rfl)) ?_
    with_reducible refine (spec_l1Id.calls a0_1 true _ A4.out).mono ?_
    rintro e w' ⟨rfl,⟨nd,rfl⟩⟩
    refine ⟨_,rfl,?_⟩
    refine hK.out _ _ ⟨(blk_cell BK268.out 0).trans rfl,(blk_cell BK268.out 1).trans rfl,(blk_cell BK268.out 2).trans rfl,(blk_cell BK268.out 3).trans rfl⟩ (fun hHeld => ?_)
    clear hK K
    refine nr_ (some 9) _ ?_
    refine pw_ 7 (some 10) HT_.out ?_
    refine pw_ 8 (some 11) HT_.out ?_
    refine pw_ 9 (some 12) HT_.out ?_
    refine tw_ 10 (some 13) HT_.out HW_.out hHeld rfl rfl (by rintro w' ⟨s0,s1,s2,s3⟩;go_simp;with_reducible rfl) ?_
    refine oz_ (i := 11) (N := some 14) HT_.out rfl rfl (by kernel_rfl) (by decide) (fun K hK => ?_)
    refine goes_ Try.func47 (by kernel_rfl) rfl #[.int .i64 a0_2] (by rfl) rfl rfl (by (try simp only [List.map_toArray,List.map_cons,List.map_nil]);first|done|rfl|(simp only [List.length_drop,List.length_take];rfl)) ?_
    with_reducible refine (spec_l1Region.calls a0_2 false _ A6.out).mono ?_
    rintro e w' ⟨rfl,⟨nd,rfl⟩⟩
    refine ⟨_,rfl,?_⟩
    refine hK.out _ _ ⟨(blk_cell BK268.out 0).trans rfl,(blk_cell BK268.out 1).trans rfl,(blk_cell BK268.out 2).trans rfl,(blk_cell BK268.out 3).trans rfl⟩ (fun hHeld => ?_)
    clear hK K
    refine nr_ (some 14) _ ?_
    refine pw_ 12 (some 15) HT_.out ?_
    refine pw_ 13 (some 16) HT_.out ?_
    refine pu_ 14 (some 17) HT_.out ?_
    refine pu_ 15 (some 18) HT_.out ?_
    refine pu_ 16 (some 19) HT_.out ?_
    refine pu_ 17 (some 20) HT_.out ?_
    refine pw_ 18 (some 21) HT_.out ?_
    refine pw_ 19 (some 22) HT_.out ?_
    refine pu_ 20 (some 23) HT_.out ?_
    refine pu_ 21 (some 24) HT_.out ?_
    refine pu_ 22 (some 25) HT_.out ?_
    refine pu_ 23 (some 26) HT_.out ?_
    refine pw_ 24 (some 27) HT_.out ?_
    refine pw_ 25 (some 28) HT_.out ?_
    refine pu_ 26 (some 29) HT_.out ?_
    refine pu_ 27 (some 30) HT_.out ?_
    refine pu_ 28 (some 31) HT_.out ?_
    refine pw_ 29 (some 32) HT_.out ?_
    refine pw_ 30 (some 33) HT_.out ?_
    refine pu_ 31 (some 34) HT_.out ?_
    refine pu_ 32 (some 35) HT_.out ?_
    refine pu_ 33 (some 36) HT_.out ?_
    refine pu_ 34 (some 37) HT_.out ?_
    refine pu_ 35 (some 38) HT_.out ?_
    refine pu_ 36 (some 39) HT_.out ?_
    refine pu_ 37 (some 40) HT_.out ?_
    refine pu_ 38 (some 41) HT_.out ?_
    refine pw_ 39 (some 42) HT_.out ?_
    refine pw_ 40 (some 2) HT_.out ?_
    refine done_ (done_of HT_.out (by kernel_rfl)) ?_
    try go_wp2
    go_ret
    exact ⟨by first|rfl|(simp [errW_none,errW_some] <;> rfl)|(simp [*,errW_none,errW_some] <;> rfl),b_⟩
  ·replace c5 := Bool.eq_false_iff.mpr c5
   subst c5
   have H1 : (some false) = some r := by rw [if_neg (show ¬ (false = true) by decide)] at H;exact H
   clear H
   have H := H1
   clear H1
   obtain rfl := Option.some.inj H
   go_enter Try.func49,Try.ntmps49
   try go_wp2_with (first|((with_reducible refine gate_dst (N := 1) rfl ?_);(try (refine gate_guard (by rfl) ?_;dsimp only));refine bx_ 1 #[.int .i64 a0_0,.int .i64 a0_1,.int .i64 a0_2,.slice A0_3 l0_3.length c0_3] 45 ?_;intro gb268 hg w25 hbox hb;have BK268 := Aside0.mk (hbox);have GW268 := Aside0.mk ((gw_ (w := w) hg));have GE268 := Aside0.mk ((gw_ (w := w) hg));replace HB := Aside0.mk (below_step b_ hb);clear hb hbox hg))
   replace BK268 := Aside0.mk (blk_drew BK268.out)
   replace HB := Aside0.mk (below_drew1 HB.out)
   refine start_ (n := 41) (S := fun w' => w'.cell? ⟨gb268,0,none⟩ = some (.int .i64 a0_0) ∧ w'.cell? ⟨gb268,1,none⟩ = some (.int .i64 a0_1) ∧ w'.cell? ⟨gb268,2,none⟩ = some (.int .i64 a0_2) ∧ w'.cell? ⟨gb268,3,none⟩ = some (.slice A0_3 l0_3.length c0_3)) (ds := []) #[false,false,false,false,false,false,false,false,false,false,false,false,false,false,false,false,false,false,false,false,false,false,false,false,false,false,false,false,false,false,false,false,false,false,false,false,false,false,false,false,false] (by kernel_rfl) rfl rfl ⟨(blk_cell BK268.out 0).trans rfl,(blk_cell BK268.out 1).trans rfl,(blk_cell BK268.out 2).trans rfl,(blk_cell BK268.out 3).trans rfl⟩ (fun hHeld => ?_);refine with_tabW spec_RecordOk.tab1 spec_RecordOk.bits1 (fun HT_ HW_ => ?_)
   generalize w25.drew = w26 at BK268 HB hHeld ⊢
   refine pw_ 0 (some 3) HT_.out ?_
   refine tw_ 1 (some 4) HT_.out HW_.out hHeld rfl rfl (by rintro w' ⟨s0,s1,s2,s3⟩;go_simp;with_reducible rfl) ?_
   refine oz_ (i := 2) (N := some 5) HT_.out rfl rfl (by kernel_rfl) (by decide) (fun K hK => ?_)
   refine goes_ Try.func102 (by kernel_rfl) rfl #[.int .i64 a0_0,.int .i64 1,.int .i64 3] (by rfl) rfl rfl (by (try simp only [List.map_toArray,List.map_cons,List.map_nil]);first|done|rfl|(simp only [List.length_drop,List.length_take];rfl)) ?_
   with_reducible refine (spec_l1In.calls a0_0 1 3 true _ A2.out).mono ?_
   rintro e w' ⟨rfl,⟨nd,rfl⟩⟩
   refine ⟨_,rfl,?_⟩
   refine hK.out _ _ ⟨(blk_cell BK268.out 0).trans rfl,(blk_cell BK268.out 1).trans rfl,(blk_cell BK268.out 2).trans rfl,(blk_cell BK268.out 3).trans rfl⟩ (fun hHeld => ?_)
   clear hK K
   refine nr_ (some 5) _ ?_
   refine pw_ 3 (some 6) HT_.out ?_
   refine pw_ 4 (some 7) HT_.out ?_
   refine tw_ 5 (some 8) HT_.out HW_.out hHeld rfl rfl (by rintro w' ⟨s0,s1,s2,s3⟩;go_simp;with_reducible rfl) ?_
   refine oz_ (i := 6) (N := some 9) HT_.out rfl rfl (by kernel_rfl) (by decide) (fun K hK => ?_)
   refine goes_ Try.func95 (by kernel_rfl) rfl #[.int .i64 a0_1] (by rfl) rfl rfl (by (try simp only [List.map_toArray,List.map_cons,List.map_nil]);first|done|rfl|(simp only [List.length_drop,List.length_take];rfl)) ?_
   with_reducible refine (spec_l1Id.calls a0_1 false _ A4.out).mono ?_
   rintro e w' ⟨rfl,⟨nd,rfl⟩⟩
   refine ⟨_,rfl,?_⟩
   refine hK.out _ _ ⟨(blk_cell BK268.out 0).trans rfl,(blk_cell BK268.out 1).trans rfl,(blk_cell BK268.out 2).trans rfl,(blk_cell BK268.out 3).trans rfl⟩ (fun hHeld => ?_)
   clear hK K
   refine nr_ (some 9) _ ?_
   refine pw_ 7 (some 10) HT_.out ?_
   refine pw_ 8 (some 11) HT_.out ?_
   refine pu_ 9 (some 12) HT_.out ?_
   refine pu_ 10 (some 13) HT_.out ?_
   refine pu_ 11 (some 14) HT_.out ?_
   refine pw_ 12 (some 15) HT_.out ?_
   refine pw_ 13 (some 16) HT_.out ?_
   refine pu_ 14 (some 17) HT_.out ?_
   refine pu_ 15 (some 18) HT_.out ?_
   refine pu_ 16 (some 19) HT_.out ?_
   refine pu_ 17 (some 20) HT_.out ?_
   refine pw_ 18 (some 21) HT_.out ?_
   refine pw_ 19 (some 22) HT_.out ?_
   refine pu_ 20 (some 23) HT_.out ?_
   refine pu_ 21 (some 24) HT_.out ?_
   refine pu_ 22 (some 25) HT_.out ?_
   refine pu_ 23 (some 26) HT_.out ?_
   refine pw_ 24 (some 27) HT_.out ?_
   refine pw_ 25 (some 28) HT_.out ?_
   refine pu_ 26 (some 29) HT_.out ?_
   refine pu_ 27 (some 30) HT_.out ?_
   refine pu_ 28 (some 31) HT_.out ?_
   refine pw_ 29 (some 32) HT_.out ?_
   refine pw_ 30 (some 33) HT_.out ?_
   refine pu_ 31 (some 34) HT_.out ?_
   refine pu_ 32 (some 35) HT_.out ?_
   refine pu_ 33 (some 36) HT_.out ?_
   refine pu_ 34 (some 37) HT_.out ?_
   refine pu_ 35 (some 38) HT_.out ?_
   refine pu_ 36 (some 39) HT_.out ?_
   refine pu_ 37 (some 40) HT_.out ?_
   refine pu_ 38 (some 41) HT_.out ?_
   refine pw_ 39 (some 42) HT_.out ?_
   refine pw_ 40 (some 2) HT_.out ?_
   refine done_ (done_of HT_.out (by kernel_rfl)) ?_
   try go_wp2
   go_ret
   exact ⟨by first|rfl|(simp [errW_none,errW_some] <;> rfl)|(simp [*,errW_none,errW_some] <;> rfl),b_⟩
 ·replace c3 := Bool.eq_false_iff.mpr c3
  subst c3
  have H1 : (some false) = some r := by rw [if_neg (show ¬ (false = true) by decide)] at H;exact H
  clear H
  have H := H1
  clear H1
  obtain rfl := Option.some.inj H
  go_enter Try.func49,Try.ntmps49
  try go_wp2_with (first|((with_reducible refine gate_dst (N := 1) rfl ?_);(try (refine gate_guard (by rfl) ?_;dsimp only));refine bx_ 1 #[.int .i64 a0_0,.int .i64 a0_1,.int .i64 a0_2,.slice A0_3 l0_3.length c0_3] 45 ?_;intro gb268 hg w27 hbox hb;have BK268 := Aside0.mk (hbox);have GW268 := Aside0.mk ((gw_ (w := w) hg));have GE268 := Aside0.mk ((gw_ (w := w) hg));replace HB := Aside0.mk (below_step b_ hb);clear hb hbox hg))
  replace BK268 := Aside0.mk (blk_drew BK268.out)
  replace HB := Aside0.mk (below_drew1 HB.out)
  refine start_ (n := 41) (S := fun w' => w'.cell? ⟨gb268,0,none⟩ = some (.int .i64 a0_0) ∧ w'.cell? ⟨gb268,1,none⟩ = some (.int .i64 a0_1) ∧ w'.cell? ⟨gb268,2,none⟩ = some (.int .i64 a0_2) ∧ w'.cell? ⟨gb268,3,none⟩ = some (.slice A0_3 l0_3.length c0_3)) (ds := []) #[false,false,false,false,false,false,false,false,false,false,false,false,false,false,false,false,false,false,false,false,false,false,false,false,false,false,false,false,false,false,false,false,false,false,false,false,false,false,false,false,false] (by kernel_rfl) rfl rfl ⟨(blk_cell BK268.out 0).trans rfl,(blk_cell BK268.out 1).trans rfl,(blk_cell BK268.out 2).trans rfl,(blk_cell BK268.out 3).trans rfl⟩ (fun hHeld => ?_);refine with_tabW spec_RecordOk.tab1 spec_RecordOk.bits1 (fun HT_ HW_ => ?_)
  generalize w27.drew = w28 at BK268 HB hHeld ⊢
  refine pw_ 0 (some 3) HT_.out ?_
  refine tw_ 1 (some 4) HT_.out HW_.out hHeld rfl rfl (by rintro w' ⟨s0,s1,s2,s3⟩;go_simp;with_reducible rfl) ?_
  refine oz_ (i := 2) (N := some 5) HT_.out rfl rfl (by kernel_rfl) (by decide) (fun K hK => ?_)
  refine goes_ Try.func102 (by kernel_rfl) rfl #[.int .i64 a0_0,.int .i64 1,.int .i64 3] (by rfl) rfl rfl (by (try simp only [List.map_toArray,List.map_cons,List.map_nil]);first|done|rfl|(simp only [List.length_drop,List.length_take];rfl)) ?_
  with_reducible refine (spec_l1In.calls a0_0 1 3 false _ A2.out).mono ?_
  rintro e w' ⟨rfl,⟨nd,rfl⟩⟩
  refine ⟨_,rfl,?_⟩
  refine hK.out _ _ ⟨(blk_cell BK268.out 0).trans rfl,(blk_cell BK268.out 1).trans rfl,(blk_cell BK268.out 2).trans rfl,(blk_cell BK268.out 3).trans rfl⟩ (fun hHeld => ?_)
  clear hK K
  refine nr_ (some 5) _ ?_
  refine pw_ 3 (some 6) HT_.out ?_
  refine pu_ 4 (some 7) HT_.out ?_
  refine pu_ 5 (some 8) HT_.out ?_
  refine pu_ 6 (some 9) HT_.out ?_
  refine pw_ 7 (some 10) HT_.out ?_
  refine pw_ 8 (some 11) HT_.out ?_
  refine pu_ 9 (some 12) HT_.out ?_
  refine pu_ 10 (some 13) HT_.out ?_
  refine pu_ 11 (some 14) HT_.out ?_
  refine pw_ 12 (some 15) HT_.out ?_
  refine pw_ 13 (some 16) HT_.out ?_
  refine pu_ 14 (some 17) HT_.out ?_
  refine pu_ 15 (some 18) HT_.out ?_
  refine pu_ 16 (some 19) HT_.out ?_
  refine pu_ 17 (some 20) HT_.out ?_
  refine pw_ 18 (some 21) HT_.out ?_
  refine pw_ 19 (some 22) HT_.out ?_
  refine pu_ 20 (some 23) HT_.out ?_
  refine pu_ 21 (some 24) HT_.out ?_
  refine pu_ 22 (some 25) HT_.out ?_
  refine pu_ 23 (some 26) HT_.out ?_
  refine pw_ 24 (some 27) HT_.out ?_
  refine pw_ 25 (some 28) HT_.out ?_
  refine pu_ 26 (some 29) HT_.out ?_
  refine pu_ 27 (some 30) HT_.out ?_
  refine pu_ 28 (some 31) HT_.out ?_
  refine pw_ 29 (some 32) HT_.out ?_
  refine pw_ 30 (some 33) HT_.out ?_
  refine pu_ 31 (some 34) HT_.out ?_
  refine pu_ 32 (some 35) HT_.out ?_
  refine pu_ 33 (some 36) HT_.out ?_
  refine pu_ 34 (some 37) HT_.out ?_
  refine pu_ 35 (some 38) HT_.out ?_
  refine pu_ 36 (some 39) HT_.out ?_
  refine pu_ 37 (some 40) HT_.out ?_
  refine pu_ 38 (some 41) HT_.out ?_
  refine pw_ 39 (some 42) HT_.out ?_
  refine pw_ 40 (some 2) HT_.out ?_
  refine done_ (done_of HT_.out (by kernel_rfl)) ?_
  try go_wp2
  go_ret
  exact ⟨by first|rfl|(simp [errW_none,errW_some] <;> rfl)|(simp [*,errW_none,errW_some] <;> rfl),b_⟩

end Go.Proofs.Ythplaakckfhaaaa.XTu
