/- Proved: a call of each Go function here comes to what its Lean function tells. -/
import Derived.Test.YthplaakckfhaaaaGreatXMs0
import Derived.Test.YthplaakckfhaaaaGreatXMs10
import Derived.Test.YthplaakckfhaaaaGreatXMs11
import Derived.Test.YthplaakckfhaaaaGreatXMs12
namespace Go.Proofs.YthplaakckfhaaaaGreat.XMs
open Go.RowKit Go.Proofs.YthplaakckfhaaaaGreat.Aid Go.Proofs.YthplaakckfhaaaaGreatW.PrintWords Go.Proofs.YthplaakckfhaaaaGreatW.PrintLast Go.Proofs.YthplaakckfhaaaaGreatW.PrintMore
set_option linter.unusedVariables false
set_option linter.unusedSimpArgs false

/-! ### spec_RecordOk: function 67 -/
def spec_RecordOk.f (k : Nat) (a0_0 : Int) (a0_1 : Int) (a0_2 : Int) (l0_3 : List (S119)) : Option (Bool) := (spec_l1In.f a0_0 1 3).bind fun t249 => (if t249 = true then ((spec_l1Id.f a0_1).bind fun t250 => (if t250 = true then ((spec_l1Region.f a0_2).bind fun t251 => (if t251 = true then (if (l0_3.length : Int) ≥ 1 then (if (l0_3.length : Int) ≤ 12 then ((spec_l2Sets.f k l0_3).bind fun t252 => (if t252 = true then (if 0 < (l0_3.length : Int) then (some (((rd_T119 l0_3 0).f0) == a0_2)) else (none)) else (some false))) else (some false)) else (some false)) else (some false))) else (some false))) else (some false))

def spec_RecordOk.T1 : Bool × List (List Nat × List Nat) := (true, [([], []), ([0], [0]), ([1], [1]), ([2, 2], [2]), ([3], [3]), ([4, 3], [3, 4]), ([5, 3, 3], [3, 5]), ([3, 6], [3, 6]), ([7, 6], [7]), ([8], [8]), ([9, 8], [8, 9]), ([10, 8, 8], [8, 10]), ([8, 11], [8, 11]), ([12, 11], [12]), ([13], [13]), ([14, 13], [13, 14]), ([15, 13], [13, 15]), ([16, 13], [13, 16]), ([13, 17], [13, 17]), ([18, 13], [18]), ([19], [19]), ([20, 19], [19, 20]), ([21, 19], [19, 21]), ([22, 19], [19, 22]), ([19, 23], [19, 23]), ([24, 19], [24]), ([25], [25]), ([26, 25], [25, 26]), ([27, 25, 25], [25, 27]), ([25, 28], [25, 28]), ([29, 28], [29]), ([30], [30]), ([31, 30], [30, 31]), ([32, 30], [30, 32]), ([33, 30], [30, 33]), ([34, 30], [30, 34]), ([30], [30]), ([36, 30], [30, 36]), ([35, 37, 30], [30, 35, 37]), ([30, 38], [30, 38]), ([39, 30, 0, 1, 2, 3, 4, 5, 6, 7, 8, 9, 10, 11, 12, 13, 14, 15, 16, 17, 18, 19, 20, 21, 22, 23, 24, 25, 26, 27, 28, 29, 30, 31, 32, 33, 34, 35, 36, 37, 38, 39], [39])])
def spec_RecordOk.B1 : List Nat := [0, 1, 3, 7, 15, 31, 63, 127, 255, 511, 1023, 2047, 4095, 8191, 16383, 32767, 65535, 131071, 262143, 524287, 1048575, 2097151, 4194303, 8388607, 16777215, 33554431, 67108863, 134217727, 268435455, 536870911, 1073741823, 2147483647, 4294967295, 8589934591, 17179869183, 34359738367, 2147483647, 70866960383, 274877906943, 549755813887, 1099511627775]
theorem spec_RecordOk.tab1 : rtab .any (opsOf Tryz.f67 1) = spec_RecordOk.T1 := by kernel_rfl
theorem spec_RecordOk.bits1 : waitsOk spec_RecordOk.T1.2 spec_RecordOk.B1 = true := by kernel_rfl
set_option maxHeartbeats 8000000 in
set_option maxRecDepth 100000 in
theorem spec_RecordOk.calls (k : Nat) (a0_0 : Int) (a0_1 : Int) (a0_2 : Int) (A0_3 : Option Addr) (c0_3 : Nat) (l0_3 : List (S119)) (r : Bool) (w : World) (hr0_3 : Kd.C k119 w A0_3 l0_3.length l0_3) (hc0_3 : l0_3.length ≤ c0_3) (h : spec_RecordOk.f k a0_0 a0_1 a0_2 l0_3 = some r) :
    Calls Tryz.prog 67 #[.agg #[.int .i64 a0_0, .int .i64 a0_1, .int .i64 a0_2, .slice A0_3 l0_3.length c0_3]] w fun e w' => e = .returned (.bool r) ∧ Below w.heap.size w w' := by
 have hu50 := Tryz.underlying50
 have HR0_3 := ak hr0_3
 have HC0_3 := ak hc0_3
 clear hr0_3 hc0_3
 have HB := ak (Below.refl w.heap.size w)
 have H : ((spec_l1In.f a0_0 1 3).bind fun t249 => (if t249 = true then ((spec_l1Id.f a0_1).bind fun t250 => (if t250 = true then ((spec_l1Region.f a0_2).bind fun t251 => (if t251 = true then (if (l0_3.length : Int) ≥ 1 then (if (l0_3.length : Int) ≤ 12 then ((spec_l2Sets.f k l0_3).bind fun t252 => (if t252 = true then (if 0 < (l0_3.length : Int) then (some (((rd_T119 l0_3 0).f0) == a0_2)) else (none)) else (some false))) else (some false)) else (some false)) else (some false))) else (some false))) else (some false))) = some r := h
 clear h
 replace H := bs_ H
 obtain ⟨t249,A2,H⟩ := H
 by_cases c3 : t249 = true
 ·subst c3
  replace H := it_ H
  replace H := bs_ H
  obtain ⟨t250,A4,H⟩ := H
  by_cases c5 : t250 = true
  ·subst c5
   replace H := it_ H
   replace H := bs_ H
   obtain ⟨t251,A6,H⟩ := H
   by_cases c7 : t251 = true
   ·subst c7
    replace H := it_ H
    by_cases c8 : (l0_3.length : Int) ≥ 1
    ·rw [if_pos c8] at H
     have c8b0 : decide (1 ≤ (l0_3.length : Int)) = true := decide_eq_true c8
     have c8b1 : decide (1 ≤ l0_3.length) = true := decide_eq_true (by omega)
     clear c8
     by_cases c9 : (l0_3.length : Int) ≤ 12
     ·rw [if_pos c9] at H
      have c9b0 : decide ((l0_3.length : Int) ≤ 12) = true := decide_eq_true c9
      have c9b1 : decide (l0_3.length ≤ 12) = true := decide_eq_true (by omega)
      clear c9
      replace H := bs_ H
      obtain ⟨t252,A10,H⟩ := H
      by_cases c11 : t252 = true
      ·subst c11
       replace H := it_ H
       by_cases c12 : 0 < (l0_3.length : Int)
       ·rw [if_pos c12] at H
        have c12b0 : decide (0 < (l0_3.length : Int)) = true := decide_eq_true c12
        have c12b1 : decide (0 < l0_3.length) = true := decide_eq_true (by omega)
        clear c12
        obtain rfl := Option.some.inj H
        go_enter Tryz.func67,Tryz.ntmps67
        try go_wp2_with (first|((with_reducible refine gate_dst (N := 1) rfl ?_);(try (refine gate_guard (by rfl) ?_;dsimp only));refine bx_ 1 #[.int .i64 a0_0,.int .i64 a0_1,.int .i64 a0_2,.slice A0_3 l0_3.length c0_3] 50 ?_;intro gb248 hg w13 hbox hb;replace HB := nb_ hg hbox hb;obtain ⟨BK248,GW248,GE248,HB⟩ := HB;clear hb hbox hg))
        replace BK248 := ak (blk_drew BK248.out)
        replace HB := ak (below_drew1 HB.out)
        have p253 : 0 ≤ (0 : Int) := (by omega)
        have q253 : 0 < (l0_3.length : Int) := od_
        obtain ⟨ad253,e253,hx253_0,hx253_1,hx253_2,hx253_3,hx253_4⟩ := at_T119 HR0_3.out 0 p253 q253
        have hw253_4 := hx253_4
        (try rw [show ((0 : Int)).toNat = 0 from rfl] at hw253_4)
        (try rw [show 0 * 5 = 0 from rfl] at hw253_4)
        (try rw [Addr.add_zero'] at hw253_4)
        have hw253_3 := hx253_3
        (try rw [show ((0 : Int)).toNat = 0 from rfl] at hw253_3)
        (try rw [show 0 * 5 = 0 from rfl] at hw253_3)
        (try rw [Addr.add_zero'] at hw253_3)
        have hw253_2 := hx253_2
        (try rw [show ((0 : Int)).toNat = 0 from rfl] at hw253_2)
        (try rw [show 0 * 5 = 0 from rfl] at hw253_2)
        (try rw [Addr.add_zero'] at hw253_2)
        have hw253_1 := hx253_1
        (try rw [show ((0 : Int)).toNat = 0 from rfl] at hw253_1)
        (try rw [show 0 * 5 = 0 from rfl] at hw253_1)
        (try rw [Addr.add_zero'] at hw253_1)
        have hw253_0 := hx253_0
        (try rw [show ((0 : Int)).toNat = 0 from rfl] at hw253_0)
        (try rw [show 0 * 5 = 0 from rfl] at hw253_0)
        (try rw [Addr.add_zero'] at hw253_0)
        cases e253
        have qi253 : (0 < l0_3.length) = True := eq_true (by omega)
        (try rw [show ((0 : Int)).toNat = 0 from rfl] at hx253_0)
        (try rw [show 0 * 5 = 0 from rfl] at hx253_0)
        (try rw [Addr.add_zero'] at hx253_0)
        (try rw [show ((0 : Int)).toNat = 0 from rfl] at hx253_1)
        (try rw [show 0 * 5 = 0 from rfl] at hx253_1)
        (try rw [Addr.add_zero'] at hx253_1)
        (try rw [show ((0 : Int)).toNat = 0 from rfl] at hx253_2)
        (try rw [show 0 * 5 = 0 from rfl] at hx253_2)
        (try rw [Addr.add_zero'] at hx253_2)
        (try rw [show ((0 : Int)).toNat = 0 from rfl] at hx253_3)
        (try rw [show 0 * 5 = 0 from rfl] at hx253_3)
        (try rw [Addr.add_zero'] at hx253_3)
        (try rw [show ((0 : Int)).toNat = 0 from rfl] at hx253_4)
        (try rw [show 0 * 5 = 0 from rfl] at hx253_4)
        (try rw [Addr.add_zero'] at hx253_4)
        replace hx253_0 := hx_ HB hx253_0
        replace hx253_1 := hx_ HB hx253_1
        replace hx253_2 := hx_ HB hx253_2
        replace hx253_3 := hx_ HB hx253_3
        replace hx253_4 := hx_ HB hx253_4
        replace p253 := eq_true p253
        replace q253 := eq_true q253
        refine st_ 41 (S := fun w' => hc4 w' gb248 (.int .i64 a0_0) (.int .i64 a0_1) (.int .i64 a0_2) (.slice (some ad253) l0_3.length c0_3) ((w'.cell? ad253 = some (.int .i64 ((rd_T119 l0_3 0).f0))) ∧ (w'.cell? ⟨ad253.block,ad253.off + 1,none⟩ = some (.int .i64 ((rd_T119 l0_3 0).f1))) ∧ (w'.cell? ⟨ad253.block,ad253.off + 2,none⟩ = some (.int .i64 ((rd_T119 l0_3 0).f2))) ∧ (w'.cell? ⟨ad253.block,ad253.off + 3,none⟩ = some (.bool ((rd_T119 l0_3 0).f3))) ∧ w'.cell? ⟨ad253.block,ad253.off + 4,none⟩ = some (.int .i64 ((rd_T119 l0_3 0).f4)))) hh_ (fun hHeld => ?_);refine with_tabW spec_RecordOk.tab1 spec_RecordOk.bits1 (fun HT_ HW_ => ?_)
        generalize w13.drew = w14 at BK248 HB hx253_0 hx253_1 hx253_2 hx253_3 hx253_4 hHeld ⊢
        refine pv_ 0 3 ?_
        refine tx_ 1 4 hHeld ?_
        refine oy_ 2 5 (fun K hK => ?_)
        refine gs_ Tryz.func74 #[.int .i64 a0_0,.int .i64 1,.int .i64 3] ?_
        with_reducible refine (spec_l1In.calls a0_0 1 3 true _ A2.out).mono ?_
        rintro e w' ⟨rfl,⟨nd,rfl⟩⟩
        refine ⟨_,rfl,?_⟩
        refine hK.out _ _ hh_ (fun hHeld => ?_)
        clear hK K
        refine nr_ (some 5) _ ?_
        refine pv_ 3 6 ?_
        refine pv_ 4 7 ?_
        refine tx_ 5 8 hHeld ?_
        refine oy_ 6 9 (fun K hK => ?_)
        refine gs_ Tryz.func29 #[.int .i64 a0_1] ?_
        with_reducible refine (spec_l1Id.calls a0_1 true _ A4.out).mono ?_
        rintro e w' ⟨rfl,⟨nd,rfl⟩⟩
        refine ⟨_,rfl,?_⟩
        refine hK.out _ _ hh_ (fun hHeld => ?_)
        clear hK K
        refine nr_ (some 9) _ ?_
        refine pv_ 7 10 ?_
        refine pv_ 8 11 ?_
        refine pv_ 9 12 ?_
        refine tx_ 10 13 hHeld ?_
        refine oy_ 11 14 (fun K hK => ?_)
        refine gs_ Tryz.func57 #[.int .i64 a0_2] ?_
        with_reducible refine (spec_l1Region.calls a0_2 true _ A6.out).mono ?_
        rintro e w' ⟨rfl,⟨nd,rfl⟩⟩
        refine ⟨_,rfl,?_⟩
        refine hK.out _ _ hh_ (fun hHeld => ?_)
        clear hK K
        refine nr_ (some 14) _ ?_
        refine pv_ 12 15 ?_
        refine pv_ 13 16 ?_
        refine pv_ 14 17 ?_
        refine tx_ 15 18 hHeld ?_
        refine pv_ 16 19 ?_
        refine pv_ 17 20 ?_
        refine pv_ 18 21 ?_
        refine pv_ 19 22 ?_
        refine pv_ 20 23 ?_
        refine tx_ 21 24 hHeld ?_
        refine pv_ 22 25 ?_
        refine pv_ 23 26 ?_
        refine pv_ 24 27 ?_
        refine pv_ 25 28 ?_
        refine pv_ 26 29 ?_
        refine tx_ 27 30 hHeld ?_
        refine oy_ 28 31 (fun K hK => ?_)
        refine gs_ Tryz.func115 #[.slice (some ad253) l0_3.length c0_3] ?_
        with_reducible refine (spec_l2Sets.calls k _ _ l0_3 true _ ?side1 ?side2 A10.out).mono ?_
        (case side1 => exact cb_ HR0_3)
        (case side2 => exact HC0_3.out)
        rintro e w15 ⟨rfl,hb⟩
        refine ⟨_,rfl,?_⟩
        replace BK248 := ak (blk_below (kb_ BK248) hb)
        replace HB := ak (below_step b_ hb)
        (try clear hb)
        (try clear hb2)
        (try clear hk)
        (try clear hi)
        refine hK.out _ _ hh_ (fun hHeld => ?_)
        clear hK K
        refine nr_ (some 31) _ ?_
        refine pv_ 29 32 ?_
        refine pv_ 30 33 ?_
        refine pv_ 31 34 ?_
        refine pv_ 36 39 ?_
        refine tx_ 32 35 hHeld ?_
        refine pv_ 33 36 ?_
        refine pv_ 34 37 ?_
        refine tx_ 35 38 hHeld ?_
        refine tx_ 37 40 hHeld ?_
        refine pv_ 38 41 ?_
        refine pv_ 39 42 ?_
        refine pv_ 40 2 ?_
        refine done_ (done_of HT_.out (by kernel_rfl)) ?_
        try go_wp2
        go_ret
        exact ⟨rf_,b_⟩
       ·rw [if_neg c12] at H
        exact absurd H (by simp)
      ·replace c11 := Bool.eq_false_iff.mpr c11
       subst c11
       replace H := ie_ H
       obtain rfl := Option.some.inj H
       go_enter Tryz.func67,Tryz.ntmps67
       try go_wp2_with (first|((with_reducible refine gate_dst (N := 1) rfl ?_);(try (refine gate_guard (by rfl) ?_;dsimp only));refine bx_ 1 #[.int .i64 a0_0,.int .i64 a0_1,.int .i64 a0_2,.slice A0_3 l0_3.length c0_3] 50 ?_;intro gb248 hg w16 hbox hb;replace HB := nb_ hg hbox hb;obtain ⟨BK248,GW248,GE248,HB⟩ := HB;clear hb hbox hg))
       replace BK248 := ak (blk_drew BK248.out)
       replace HB := ak (below_drew1 HB.out)
       refine st_ 41 (S := fun w' => hd4 w' gb248 (.int .i64 a0_0) (.int .i64 a0_1) (.int .i64 a0_2) (.slice A0_3 l0_3.length c0_3)) hh_ (fun hHeld => ?_);refine with_tabW spec_RecordOk.tab1 spec_RecordOk.bits1 (fun HT_ HW_ => ?_)
       generalize w16.drew = w17 at BK248 HB hHeld ⊢
       refine pv_ 0 3 ?_
       refine tx_ 1 4 hHeld ?_
       refine oy_ 2 5 (fun K hK => ?_)
       refine gs_ Tryz.func74 #[.int .i64 a0_0,.int .i64 1,.int .i64 3] ?_
       with_reducible refine (spec_l1In.calls a0_0 1 3 true _ A2.out).mono ?_
       rintro e w' ⟨rfl,⟨nd,rfl⟩⟩
       refine ⟨_,rfl,?_⟩
       refine hK.out _ _ hh_ (fun hHeld => ?_)
       clear hK K
       refine nr_ (some 5) _ ?_
       refine pv_ 3 6 ?_
       refine pv_ 4 7 ?_
       refine tx_ 5 8 hHeld ?_
       refine oy_ 6 9 (fun K hK => ?_)
       refine gs_ Tryz.func29 #[.int .i64 a0_1] ?_
       with_reducible refine (spec_l1Id.calls a0_1 true _ A4.out).mono ?_
       rintro e w' ⟨rfl,⟨nd,rfl⟩⟩
       refine ⟨_,rfl,?_⟩
       refine hK.out _ _ hh_ (fun hHeld => ?_)
       clear hK K
       refine nr_ (some 9) _ ?_
       refine pv_ 7 10 ?_
       refine pv_ 8 11 ?_
       refine pv_ 9 12 ?_
       refine tx_ 10 13 hHeld ?_
       refine oy_ 11 14 (fun K hK => ?_)
       refine gs_ Tryz.func57 #[.int .i64 a0_2] ?_
       with_reducible refine (spec_l1Region.calls a0_2 true _ A6.out).mono ?_
       rintro e w' ⟨rfl,⟨nd,rfl⟩⟩
       refine ⟨_,rfl,?_⟩
       refine hK.out _ _ hh_ (fun hHeld => ?_)
       clear hK K
       refine nr_ (some 14) _ ?_
       refine pv_ 12 15 ?_
       refine pv_ 13 16 ?_
       refine pv_ 14 17 ?_
       refine tx_ 15 18 hHeld ?_
       refine pv_ 16 19 ?_
       refine pv_ 17 20 ?_
       refine pv_ 18 21 ?_
       refine pv_ 19 22 ?_
       refine pv_ 20 23 ?_
       refine tx_ 21 24 hHeld ?_
       refine pv_ 22 25 ?_
       refine pv_ 23 26 ?_
       refine pv_ 24 27 ?_
       refine pv_ 25 28 ?_
       refine pv_ 26 29 ?_
       refine tx_ 27 30 hHeld ?_
       refine oy_ 28 31 (fun K hK => ?_)
       refine gs_ Tryz.func115 #[.slice A0_3 l0_3.length c0_3] ?_
       with_reducible refine (spec_l2Sets.calls k _ _ l0_3 false _ ?side1 ?side2 A10.out).mono ?_
       (case side1 => exact cb_ HR0_3)
       (case side2 => exact HC0_3.out)
       rintro e w18 ⟨rfl,hb⟩
       refine ⟨_,rfl,?_⟩
       replace BK248 := ak (blk_below (kb_ BK248) hb)
       replace HB := ak (below_step b_ hb)
       (try clear hb)
       (try clear hb2)
       (try clear hk)
       (try clear hi)
       refine hK.out _ _ hh_ (fun hHeld => ?_)
       clear hK K
       refine nr_ (some 31) _ ?_
       refine pv_ 29 32 ?_
       refine pv_ 30 33 ?_
       refine pn_ 31 34 ?_
       refine pn_ 32 35 ?_
       refine pn_ 33 36 ?_
       refine pn_ 34 37 ?_
       refine pn_ 35 38 ?_
       refine pn_ 36 39 ?_
       refine pn_ 37 40 ?_
       refine pn_ 38 41 ?_
       refine pv_ 39 42 ?_
       refine pv_ 40 2 ?_
       refine done_ (done_of HT_.out (by kernel_rfl)) ?_
       try go_wp2
       go_ret
       exact ⟨rf_,b_⟩
     ·rw [if_neg c9] at H
      have c9b0 : decide ((l0_3.length : Int) ≤ 12) = false := decide_eq_false c9
      have c9b1 : decide (l0_3.length ≤ 12) = false := decide_eq_false (by omega)
      clear c9
      obtain rfl := Option.some.inj H
      go_enter Tryz.func67,Tryz.ntmps67
      try go_wp2_with (first|((with_reducible refine gate_dst (N := 1) rfl ?_);(try (refine gate_guard (by rfl) ?_;dsimp only));refine bx_ 1 #[.int .i64 a0_0,.int .i64 a0_1,.int .i64 a0_2,.slice A0_3 l0_3.length c0_3] 50 ?_;intro gb248 hg w19 hbox hb;replace HB := nb_ hg hbox hb;obtain ⟨BK248,GW248,GE248,HB⟩ := HB;clear hb hbox hg))
      replace BK248 := ak (blk_drew BK248.out)
      replace HB := ak (below_drew1 HB.out)
      refine st_ 41 (S := fun w' => hd4 w' gb248 (.int .i64 a0_0) (.int .i64 a0_1) (.int .i64 a0_2) (.slice A0_3 l0_3.length c0_3)) hh_ (fun hHeld => ?_);refine with_tabW spec_RecordOk.tab1 spec_RecordOk.bits1 (fun HT_ HW_ => ?_)
      generalize w19.drew = w20 at BK248 HB hHeld ⊢
      refine pv_ 0 3 ?_
      refine tx_ 1 4 hHeld ?_
      refine oy_ 2 5 (fun K hK => ?_)
      refine gs_ Tryz.func74 #[.int .i64 a0_0,.int .i64 1,.int .i64 3] ?_
      with_reducible refine (spec_l1In.calls a0_0 1 3 true _ A2.out).mono ?_
      rintro e w' ⟨rfl,⟨nd,rfl⟩⟩
      refine ⟨_,rfl,?_⟩
      refine hK.out _ _ hh_ (fun hHeld => ?_)
      clear hK K
      refine nr_ (some 5) _ ?_
      refine pv_ 3 6 ?_
      refine pv_ 4 7 ?_
      refine tx_ 5 8 hHeld ?_
      refine oy_ 6 9 (fun K hK => ?_)
      refine gs_ Tryz.func29 #[.int .i64 a0_1] ?_
      with_reducible refine (spec_l1Id.calls a0_1 true _ A4.out).mono ?_
      rintro e w' ⟨rfl,⟨nd,rfl⟩⟩
      refine ⟨_,rfl,?_⟩
      refine hK.out _ _ hh_ (fun hHeld => ?_)
      clear hK K
      refine nr_ (some 9) _ ?_
      refine pv_ 7 10 ?_
      refine pv_ 8 11 ?_
      refine pv_ 9 12 ?_
      refine tx_ 10 13 hHeld ?_
      refine oy_ 11 14 (fun K hK => ?_)
      refine gs_ Tryz.func57 #[.int .i64 a0_2] ?_
      with_reducible refine (spec_l1Region.calls a0_2 true _ A6.out).mono ?_
      rintro e w' ⟨rfl,⟨nd,rfl⟩⟩
      refine ⟨_,rfl,?_⟩
      refine hK.out _ _ hh_ (fun hHeld => ?_)
      clear hK K
      refine nr_ (some 14) _ ?_
      refine pv_ 12 15 ?_
      refine pv_ 13 16 ?_
      refine pv_ 14 17 ?_
      refine tx_ 15 18 hHeld ?_
      refine pv_ 16 19 ?_
      refine pv_ 17 20 ?_
      refine pv_ 18 21 ?_
      refine pv_ 19 22 ?_
      refine pv_ 20 23 ?_
      refine tx_ 21 24 hHeld ?_
      refine pv_ 22 25 ?_
      refine pv_ 23 26 ?_
      refine pv_ 24 27 ?_
      refine pv_ 25 28 ?_
      refine pn_ 26 29 ?_
      refine pn_ 27 30 ?_
      refine pn_ 28 31 ?_
      refine pv_ 29 32 ?_
      refine pv_ 30 33 ?_
      refine pn_ 31 34 ?_
      refine pn_ 32 35 ?_
      refine pn_ 33 36 ?_
      refine pn_ 34 37 ?_
      refine pn_ 35 38 ?_
      refine pn_ 36 39 ?_
      refine pn_ 37 40 ?_
      refine pn_ 38 41 ?_
      refine pv_ 39 42 ?_
      refine pv_ 40 2 ?_
      refine done_ (done_of HT_.out (by kernel_rfl)) ?_
      try go_wp2
      go_ret
      exact ⟨rf_,b_⟩
    ·rw [if_neg c8] at H
     have c8b0 : decide (1 ≤ (l0_3.length : Int)) = false := decide_eq_false c8
     have c8b1 : decide (1 ≤ l0_3.length) = false := decide_eq_false (by omega)
     clear c8
     obtain rfl := Option.some.inj H
     go_enter Tryz.func67,Tryz.ntmps67
     try go_wp2_with (first|((with_reducible refine gate_dst (N := 1) rfl ?_);(try (refine gate_guard (by rfl) ?_;dsimp only));refine bx_ 1 #[.int .i64 a0_0,.int .i64 a0_1,.int .i64 a0_2,.slice A0_3 l0_3.length c0_3] 50 ?_;intro gb248 hg w21 hbox hb;replace HB := nb_ hg hbox hb;obtain ⟨BK248,GW248,GE248,HB⟩ := HB;clear hb hbox hg))
     replace BK248 := ak (blk_drew BK248.out)
     replace HB := ak (below_drew1 HB.out)
     refine st_ 41 (S := fun w' => hd4 w' gb248 (.int .i64 a0_0) (.int .i64 a0_1) (.int .i64 a0_2) (.slice A0_3 l0_3.length c0_3)) hh_ (fun hHeld => ?_);refine with_tabW spec_RecordOk.tab1 spec_RecordOk.bits1 (fun HT_ HW_ => ?_)
     generalize w21.drew = w22 at BK248 HB hHeld ⊢
     refine pv_ 0 3 ?_
     refine tx_ 1 4 hHeld ?_
     refine oy_ 2 5 (fun K hK => ?_)
     refine gs_ Tryz.func74 #[.int .i64 a0_0,.int .i64 1,.int .i64 3] ?_
     with_reducible refine (spec_l1In.calls a0_0 1 3 true _ A2.out).mono ?_
     rintro e w' ⟨rfl,⟨nd,rfl⟩⟩
     refine ⟨_,rfl,?_⟩
     refine hK.out _ _ hh_ (fun hHeld => ?_)
     clear hK K
     refine nr_ (some 5) _ ?_
     refine pv_ 3 6 ?_
     refine pv_ 4 7 ?_
     refine tx_ 5 8 hHeld ?_
     refine oy_ 6 9 (fun K hK => ?_)
     refine gs_ Tryz.func29 #[.int .i64 a0_1] ?_
     with_reducible refine (spec_l1Id.calls a0_1 true _ A4.out).mono ?_
     rintro e w' ⟨rfl,⟨nd,rfl⟩⟩
     refine ⟨_,rfl,?_⟩
     refine hK.out _ _ hh_ (fun hHeld => ?_)
     clear hK K
     refine nr_ (some 9) _ ?_
     refine pv_ 7 10 ?_
     refine pv_ 8 11 ?_
     refine pv_ 9 12 ?_
     refine tx_ 10 13 hHeld ?_
     refine oy_ 11 14 (fun K hK => ?_)
     refine gs_ Tryz.func57 #[.int .i64 a0_2] ?_
     with_reducible refine (spec_l1Region.calls a0_2 true _ A6.out).mono ?_
     rintro e w' ⟨rfl,⟨nd,rfl⟩⟩
     refine ⟨_,rfl,?_⟩
     refine hK.out _ _ hh_ (fun hHeld => ?_)
     clear hK K
     refine nr_ (some 14) _ ?_
     refine pv_ 12 15 ?_
     refine pv_ 13 16 ?_
     refine pv_ 14 17 ?_
     refine tx_ 15 18 hHeld ?_
     refine pv_ 16 19 ?_
     refine pv_ 17 20 ?_
     refine pv_ 18 21 ?_
     refine pv_ 19 22 ?_
     refine pn_ 20 23 ?_
     refine pn_ 21 24 ?_
     refine pn_ 22 25 ?_
     refine pn_ 23 26 ?_
     refine pv_ 24 27 ?_
     refine pv_ 25 28 ?_
     refine pn_ 26 29 ?_
     refine pn_ 27 30 ?_
     refine pn_ 28 31 ?_
     refine pv_ 29 32 ?_
     refine pv_ 30 33 ?_
     refine pn_ 31 34 ?_
     refine pn_ 32 35 ?_
     refine pn_ 33 36 ?_
     refine pn_ 34 37 ?_
     refine pn_ 35 38 ?_
     refine pn_ 36 39 ?_
     refine pn_ 37 40 ?_
     refine pn_ 38 41 ?_
     refine pv_ 39 42 ?_
     refine pv_ 40 2 ?_
     refine done_ (done_of HT_.out (by kernel_rfl)) ?_
     try go_wp2
     go_ret
     exact ⟨rf_,b_⟩
   ·replace c7 := Bool.eq_false_iff.mpr c7
    subst c7
    replace H := ie_ H
    obtain rfl := Option.some.inj H
    go_enter Tryz.func67,Tryz.ntmps67
    try go_wp2_with (first|((with_reducible refine gate_dst (N := 1) rfl ?_);(try (refine gate_guard (by rfl) ?_;dsimp only));refine bx_ 1 #[.int .i64 a0_0,.int .i64 a0_1,.int .i64 a0_2,.slice A0_3 l0_3.length c0_3] 50 ?_;intro gb248 hg w23 hbox hb;replace HB := nb_ hg hbox hb;obtain ⟨BK248,GW248,GE248,HB⟩ := HB;clear hb hbox hg))
    replace BK248 := ak (blk_drew BK248.out)
    replace HB := ak (below_drew1 HB.out)
    refine st_ 41 (S := fun w' => hd4 w' gb248 (.int .i64 a0_0) (.int .i64 a0_1) (.int .i64 a0_2) (.slice A0_3 l0_3.length c0_3)) hh_ (fun hHeld => ?_);refine with_tabW spec_RecordOk.tab1 spec_RecordOk.bits1 (fun HT_ HW_ => ?_)
    generalize w23.drew = w24 at BK248 HB hHeld ⊢
    refine pv_ 0 3 ?_
    refine tx_ 1 4 hHeld ?_
    refine oy_ 2 5 (fun K hK => ?_)
    refine gs_ Tryz.func74 #[.int .i64 a0_0,.int .i64 1,.int .i64 3] ?_
    with_reducible refine (spec_l1In.calls a0_0 1 3 true _ A2.out).mono ?_
    rintro e w' ⟨rfl,⟨nd,rfl⟩⟩
    refine ⟨_,rfl,?_⟩
    refine hK.out _ _ hh_ (fun hHeld => ?_)
    clear hK K
    refine nr_ (some 5) _ ?_
    refine pv_ 3 6 ?_
    refine pv_ 4 7 ?_
    refine tx_ 5 8 hHeld ?_
    refine oy_ 6 9 (fun K hK => ?_)
    refine gs_ Tryz.func29 #[.int .i64 a0_1] ?_
    with_reducible refine (spec_l1Id.calls a0_1 true _ A4.out).mono ?_
    rintro e w' ⟨rfl,⟨nd,rfl⟩⟩
    refine ⟨_,rfl,?_⟩
    refine hK.out _ _ hh_ (fun hHeld => ?_)
    clear hK K
    refine nr_ (some 9) _ ?_
    refine pv_ 7 10 ?_
    refine pv_ 8 11 ?_
    refine pv_ 9 12 ?_
    refine tx_ 10 13 hHeld ?_
    refine oy_ 11 14 (fun K hK => ?_)
    refine gs_ Tryz.func57 #[.int .i64 a0_2] ?_
    with_reducible refine (spec_l1Region.calls a0_2 false _ A6.out).mono ?_
    rintro e w' ⟨rfl,⟨nd,rfl⟩⟩
    refine ⟨_,rfl,?_⟩
    refine hK.out _ _ hh_ (fun hHeld => ?_)
    clear hK K
    refine nr_ (some 14) _ ?_
    refine pv_ 12 15 ?_
    refine pv_ 13 16 ?_
    refine pn_ 14 17 ?_
    refine pn_ 15 18 ?_
    refine pn_ 16 19 ?_
    refine pn_ 17 20 ?_
    refine pv_ 18 21 ?_
    refine pv_ 19 22 ?_
    refine pn_ 20 23 ?_
    refine pn_ 21 24 ?_
    refine pn_ 22 25 ?_
    refine pn_ 23 26 ?_
    refine pv_ 24 27 ?_
    refine pv_ 25 28 ?_
    refine pn_ 26 29 ?_
    refine pn_ 27 30 ?_
    refine pn_ 28 31 ?_
    refine pv_ 29 32 ?_
    refine pv_ 30 33 ?_
    refine pn_ 31 34 ?_
    refine pn_ 32 35 ?_
    refine pn_ 33 36 ?_
    refine pn_ 34 37 ?_
    refine pn_ 35 38 ?_
    refine pn_ 36 39 ?_
    refine pn_ 37 40 ?_
    refine pn_ 38 41 ?_
    refine pv_ 39 42 ?_
    refine pv_ 40 2 ?_
    refine done_ (done_of HT_.out (by kernel_rfl)) ?_
    try go_wp2
    go_ret
    exact ⟨rf_,b_⟩
  ·replace c5 := Bool.eq_false_iff.mpr c5
   subst c5
   replace H := ie_ H
   obtain rfl := Option.some.inj H
   go_enter Tryz.func67,Tryz.ntmps67
   try go_wp2_with (first|((with_reducible refine gate_dst (N := 1) rfl ?_);(try (refine gate_guard (by rfl) ?_;dsimp only));refine bx_ 1 #[.int .i64 a0_0,.int .i64 a0_1,.int .i64 a0_2,.slice A0_3 l0_3.length c0_3] 50 ?_;intro gb248 hg w25 hbox hb;replace HB := nb_ hg hbox hb;obtain ⟨BK248,GW248,GE248,HB⟩ := HB;clear hb hbox hg))
   replace BK248 := ak (blk_drew BK248.out)
   replace HB := ak (below_drew1 HB.out)
   refine st_ 41 (S := fun w' => hd4 w' gb248 (.int .i64 a0_0) (.int .i64 a0_1) (.int .i64 a0_2) (.slice A0_3 l0_3.length c0_3)) hh_ (fun hHeld => ?_);refine with_tabW spec_RecordOk.tab1 spec_RecordOk.bits1 (fun HT_ HW_ => ?_)
   generalize w25.drew = w26 at BK248 HB hHeld ⊢
   refine pv_ 0 3 ?_
   refine tx_ 1 4 hHeld ?_
   refine oy_ 2 5 (fun K hK => ?_)
   refine gs_ Tryz.func74 #[.int .i64 a0_0,.int .i64 1,.int .i64 3] ?_
   with_reducible refine (spec_l1In.calls a0_0 1 3 true _ A2.out).mono ?_
   rintro e w' ⟨rfl,⟨nd,rfl⟩⟩
   refine ⟨_,rfl,?_⟩
   refine hK.out _ _ hh_ (fun hHeld => ?_)
   clear hK K
   refine nr_ (some 5) _ ?_
   refine pv_ 3 6 ?_
   refine pv_ 4 7 ?_
   refine tx_ 5 8 hHeld ?_
   refine oy_ 6 9 (fun K hK => ?_)
   refine gs_ Tryz.func29 #[.int .i64 a0_1] ?_
   with_reducible refine (spec_l1Id.calls a0_1 false _ A4.out).mono ?_
   rintro e w' ⟨rfl,⟨nd,rfl⟩⟩
   refine ⟨_,rfl,?_⟩
   refine hK.out _ _ hh_ (fun hHeld => ?_)
   clear hK K
   refine nr_ (some 9) _ ?_
   refine pv_ 7 10 ?_
   refine pv_ 8 11 ?_
   refine pn_ 9 12 ?_
   refine pn_ 10 13 ?_
   refine pn_ 11 14 ?_
   refine pv_ 12 15 ?_
   refine pv_ 13 16 ?_
   refine pn_ 14 17 ?_
   refine pn_ 15 18 ?_
   refine pn_ 16 19 ?_
   refine pn_ 17 20 ?_
   refine pv_ 18 21 ?_
   refine pv_ 19 22 ?_
   refine pn_ 20 23 ?_
   refine pn_ 21 24 ?_
   refine pn_ 22 25 ?_
   refine pn_ 23 26 ?_
   refine pv_ 24 27 ?_
   refine pv_ 25 28 ?_
   refine pn_ 26 29 ?_
   refine pn_ 27 30 ?_
   refine pn_ 28 31 ?_
   refine pv_ 29 32 ?_
   refine pv_ 30 33 ?_
   refine pn_ 31 34 ?_
   refine pn_ 32 35 ?_
   refine pn_ 33 36 ?_
   refine pn_ 34 37 ?_
   refine pn_ 35 38 ?_
   refine pn_ 36 39 ?_
   refine pn_ 37 40 ?_
   refine pn_ 38 41 ?_
   refine pv_ 39 42 ?_
   refine pv_ 40 2 ?_
   refine done_ (done_of HT_.out (by kernel_rfl)) ?_
   try go_wp2
   go_ret
   exact ⟨rf_,b_⟩
 ·replace c3 := Bool.eq_false_iff.mpr c3
  subst c3
  replace H := ie_ H
  obtain rfl := Option.some.inj H
  go_enter Tryz.func67,Tryz.ntmps67
  try go_wp2_with (first|((with_reducible refine gate_dst (N := 1) rfl ?_);(try (refine gate_guard (by rfl) ?_;dsimp only));refine bx_ 1 #[.int .i64 a0_0,.int .i64 a0_1,.int .i64 a0_2,.slice A0_3 l0_3.length c0_3] 50 ?_;intro gb248 hg w27 hbox hb;replace HB := nb_ hg hbox hb;obtain ⟨BK248,GW248,GE248,HB⟩ := HB;clear hb hbox hg))
  replace BK248 := ak (blk_drew BK248.out)
  replace HB := ak (below_drew1 HB.out)
  refine st_ 41 (S := fun w' => hd4 w' gb248 (.int .i64 a0_0) (.int .i64 a0_1) (.int .i64 a0_2) (.slice A0_3 l0_3.length c0_3)) hh_ (fun hHeld => ?_);refine with_tabW spec_RecordOk.tab1 spec_RecordOk.bits1 (fun HT_ HW_ => ?_)
  generalize w27.drew = w28 at BK248 HB hHeld ⊢
  refine pv_ 0 3 ?_
  refine tx_ 1 4 hHeld ?_
  refine oy_ 2 5 (fun K hK => ?_)
  refine gs_ Tryz.func74 #[.int .i64 a0_0,.int .i64 1,.int .i64 3] ?_
  with_reducible refine (spec_l1In.calls a0_0 1 3 false _ A2.out).mono ?_
  rintro e w' ⟨rfl,⟨nd,rfl⟩⟩
  refine ⟨_,rfl,?_⟩
  refine hK.out _ _ hh_ (fun hHeld => ?_)
  clear hK K
  refine nr_ (some 5) _ ?_
  refine pv_ 3 6 ?_
  refine pn_ 4 7 ?_
  refine pn_ 5 8 ?_
  refine pn_ 6 9 ?_
  refine pv_ 7 10 ?_
  refine pv_ 8 11 ?_
  refine pn_ 9 12 ?_
  refine pn_ 10 13 ?_
  refine pn_ 11 14 ?_
  refine pv_ 12 15 ?_
  refine pv_ 13 16 ?_
  refine pn_ 14 17 ?_
  refine pn_ 15 18 ?_
  refine pn_ 16 19 ?_
  refine pn_ 17 20 ?_
  refine pv_ 18 21 ?_
  refine pv_ 19 22 ?_
  refine pn_ 20 23 ?_
  refine pn_ 21 24 ?_
  refine pn_ 22 25 ?_
  refine pn_ 23 26 ?_
  refine pv_ 24 27 ?_
  refine pv_ 25 28 ?_
  refine pn_ 26 29 ?_
  refine pn_ 27 30 ?_
  refine pn_ 28 31 ?_
  refine pv_ 29 32 ?_
  refine pv_ 30 33 ?_
  refine pn_ 31 34 ?_
  refine pn_ 32 35 ?_
  refine pn_ 33 36 ?_
  refine pn_ 34 37 ?_
  refine pn_ 35 38 ?_
  refine pn_ 36 39 ?_
  refine pn_ 37 40 ?_
  refine pn_ 38 41 ?_
  refine pv_ 39 42 ?_
  refine pv_ 40 2 ?_
  refine done_ (done_of HT_.out (by kernel_rfl)) ?_
  try go_wp2
  go_ret
  exact ⟨rf_,b_⟩

end Go.Proofs.YthplaakckfhaaaaGreat.XMs
