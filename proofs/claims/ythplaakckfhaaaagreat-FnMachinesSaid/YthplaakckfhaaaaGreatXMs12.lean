/- Proved: a call of each Go function here comes to what its Lean function tells. -/
import Derived.Test.YthplaakckfhaaaaGreatXMs0
import Derived.Test.YthplaakckfhaaaaGreatXMs11
namespace Go.Proofs.YthplaakckfhaaaaGreat.XMs
open Go.RowKit Go.Proofs.YthplaakckfhaaaaGreat.Aid Go.Proofs.YthplaakckfhaaaaGreatW.PrintWords Go.Proofs.YthplaakckfhaaaaGreatW.PrintLast Go.Proofs.YthplaakckfhaaaaGreatW.PrintMore
set_option linter.unusedVariables false
set_option linter.unusedSimpArgs false

/-! ### spec_l2Sets: function 115 -/
def spec_l2Sets.l0 : Nat → List (S119) → Int → Option (Bool)
  | 0, _, _ => none
  | k + 1, x0, x3 => if x3 < (x0.length : Int) then (if 0 ≤ x3 then ((spec_SetOk.f ((rd_T119 x0 x3).f0) ((rd_T119 x0 x3).f1) ((rd_T119 x0 x3).f2) ((rd_T119 x0 x3).f3) ((rd_T119 x0 x3).f4)).bind fun t243 => (if t243 = true then (if x3 > 0 then (if 0 ≤ (wrap64 (x3 - 1)) then (if (wrap64 (x3 - 1)) < (x0.length : Int) then (if ((rd_T119 x0 x3).f1) ≤ ((rd_T119 x0 (wrap64 (x3 - 1))).f1) then (some false) else (if 0 < (x0.length : Int) then (if ((rd_T119 x0 x3).f0) = ((rd_T119 x0 0).f0) then (spec_l2Sets.l0 k x0 (wrap64 (x3 + 1))) else (some false)) else (none))) else (none)) else (none)) else (spec_l2Sets.l0 k x0 (wrap64 (x3 + 1)))) else (some false))) else (none)) else (some true)
def spec_l2Sets.f (k : Nat) (l0 : List (S119)) : Option (Bool) := spec_l2Sets.l0 k l0 0

def spec_l2Sets.T4 : Bool × List (List Nat × List Nat) := (true, [([], []), ([], []), ([0, 1], [0, 1]), ([2], [2]), ([3], [3]), ([4], [4]), ([5, 4], [5]), ([6], [6]), ([7, 6], [6, 7]), ([8, 6, 6], [6, 8]), ([9], [9]), ([9], [9]), ([10, 11, 9], [9, 10, 11]), ([12, 9], [9, 12]), ([13, 9], [9, 13]), ([9], [9]), ([9], [9]), ([16, 9], [9, 16]), ([15, 17, 9], [9, 15, 17]), ([18, 9], [9, 18]), ([19, 9], [9, 19]), ([14, 20, 9], [9, 14, 20]), ([21, 9, 9], [9, 21]), ([22], [22]), ([22], [22]), ([23, 24, 22], [22, 23, 24]), ([25, 22], [22, 25]), ([26, 22], [22, 26]), ([22], [22]), ([28, 22], [22, 28]), ([29, 22], [22, 29]), ([30, 22], [22, 30]), ([27, 31, 22], [22, 27, 31]), ([22, 32, 9], [9, 22, 32]), ([9, 33, 6], [6, 9, 33]), ([6, 34], [6, 34])])
def spec_l2Sets.B4 : List Nat := [0, 0, 3, 7, 15, 31, 63, 127, 255, 511, 1023, 1023, 4095, 8191, 16383, 1023, 1023, 66559, 230399, 492543, 1016831, 2097151, 4194303, 8388607, 8388607, 33554431, 67108863, 134217727, 8388607, 276824063, 813694975, 1887436799, 4294967295, 8589934591, 17179869183, 34359738367]
theorem spec_l2Sets.tab4 : rtab .any (opsOf Tryz.f115 4) = spec_l2Sets.T4 := by kernel_rfl
theorem spec_l2Sets.bits4 : waitsOk spec_l2Sets.T4.2 spec_l2Sets.B4 = true := by kernel_rfl
set_option maxHeartbeats 8000000 in
set_option maxRecDepth 100000 in
theorem spec_l2Sets.calls (k : Nat) (A0 : Option Addr) (c0 : Nat) (l0 : List (S119)) (r : Bool) (w : World) (hr0 : Kd.C k119 w A0 l0.length l0) (hc0 : l0.length ≤ c0) (h : spec_l2Sets.f k l0 = some r) :
    Calls Tryz.prog 115 #[.slice A0 l0.length c0] w fun e w' => e = .returned (.bool r) ∧ Below w.heap.size w w' := by
 have hu119 := Tryz.underlying119
 have HR0 := ak hr0
 have HC0 := ak hc0
 clear hr0 hc0
 have HB := ak (Below.refl w.heap.size w)
 have H : (spec_l2Sets.l0 k l0 0) = some r := h
 clear h
 have H' := ak H
 clear H
 go_enter Tryz.func115,Tryz.ntmps115
 go_wp2
 go_loopg [3] k (fun kq v3 w' => ∃ (x3_1 : Int),v3 = .int .i64 x3_1 ∧ Aside0 (spec_l2Sets.l0 kq l0 x3_1 = some r) ∧ Aside0 (kq ≤ k) ∧ Aside0 (Below w.heap.size w w'))
 case atStart => exact ⟨(0),rs_,H',⟨Nat.le_refl _⟩,⟨b_⟩⟩
 case round =>
  clear H'
  try clear c1
  obtain ⟨x3_1,rfl,HA,HK1,HB⟩ := hrel
  cases gk with
    | zero => exact absurd HA.out (by simp [spec_l2Sets.l0])
    | succ k1 =>
   have H := HA.out
   clear HA
   simp only [spec_l2Sets.l0] at H
   by_cases c2 : x3_1 < (l0.length : Int)
   ·rw [if_pos c2] at H
    have c2b0 : decide (x3_1 < (l0.length : Int)) = true := decide_eq_true c2
    clear c2
    by_cases c3 : 0 ≤ x3_1
    ·rw [if_pos c3] at H
     have c3b0 : decide (0 ≤ x3_1) = true := decide_eq_true c3
     clear c3
     replace H := bs_ H
     obtain ⟨t243,A4,H⟩ := H
     by_cases c5 : t243 = true
     ·subst c5
      replace H := it_ H
      by_cases c6 : x3_1 > 0
      ·rw [if_pos c6] at H
       have c6b0 : decide (0 < x3_1) = true := decide_eq_true c6
       clear c6
       obtain ⟨ji7,hji7⟩ : ∃ j_ : Int,(wrap64 (x3_1 - 1)) = j_ := ⟨_,rfl⟩
       replace H : (if 0 ≤ (ji7) then (if (ji7) < (l0.length : Int) then (if ((rd_T119 l0 x3_1).f1) ≤ ((rd_T119 l0 (ji7)).f1) then (some false) else (if 0 < (l0.length : Int) then (if ((rd_T119 l0 x3_1).f0) = ((rd_T119 l0 0).f0) then (spec_l2Sets.l0 k1 l0 (wrap64 (x3_1 + 1))) else (some false)) else (none))) else (none)) else (none)) = some r := by first|(rw [hji7] at H;exact H)|(simp only [hji7] at H ⊢;exact H)
       (try rw [hji7] at A4)
       have hji7w : (IntKind.i64.wrap (x3_1 - 1)) = ji7 := (i64_w _).trans hji7
       by_cases c8 : 0 ≤ (ji7)
       ·rw [if_pos c8] at H
        have c8b0 : decide (0 ≤ (ji7)) = true := decide_eq_true c8
        clear c8
        by_cases c9 : (ji7) < (l0.length : Int)
        ·rw [if_pos c9] at H
         have c9b0 : decide ((ji7) < (l0.length : Int)) = true := decide_eq_true c9
         clear c9
         by_cases c10 : ((rd_T119 l0 x3_1).f1) ≤ ((rd_T119 l0 (ji7)).f1)
         ·rw [if_pos c10] at H
          have c10b0 : decide (((rd_T119 l0 x3_1).f1) ≤ ((rd_T119 l0 (ji7)).f1)) = true := decide_eq_true c10
          clear c10
          obtain rfl := Option.some.inj H
          try go_wp2
          replace HB := ak (below_drew1 HB.out)
          have p242 : 0 ≤ (x3_1 : Int) := od_
          have q242 : x3_1 < (l0.length : Int) := od_
          obtain ⟨ad242,e242,hx242_0,hx242_1,hx242_2,hx242_3,hx242_4⟩ := at_T119 HR0.out x3_1 p242 q242
          have hw242_4 := hx242_4
          have hw242_3 := hx242_3
          have hw242_2 := hx242_2
          have hw242_1 := hx242_1
          have hw242_0 := hx242_0
          cases e242
          replace hx242_0 := hx_ HB hx242_0
          replace hx242_1 := hx_ HB hx242_1
          replace hx242_2 := hx_ HB hx242_2
          replace hx242_3 := hx_ HB hx242_3
          replace hx242_4 := hx_ HB hx242_4
          replace p242 := eq_true p242
          replace q242 := eq_true q242
          have p244 : 0 ≤ (x3_1 : Int) := od_
          have q244 : x3_1 < (l0.length : Int) := od_
          obtain ⟨ad244,e244,hx244_0,hx244_1,hx244_2,hx244_3,hx244_4⟩ := at_T119 HR0.out x3_1 p244 q244
          have hw244_4 := hx244_4
          have hw244_3 := hx244_3
          have hw244_2 := hx244_2
          have hw244_1 := hx244_1
          have hw244_0 := hx244_0
          obtain rfl : ad242 = ad244 := (by injection e244)
          replace hx244_0 := hx_ HB hx244_0
          replace hx244_1 := hx_ HB hx244_1
          replace hx244_2 := hx_ HB hx244_2
          replace hx244_3 := hx_ HB hx244_3
          replace hx244_4 := hx_ HB hx244_4
          replace p244 := eq_true p244
          replace q244 := eq_true q244
          have p245 : 0 ≤ ((ji7) : Int) := od_
          have q245 : (ji7) < (l0.length : Int) := od_
          obtain ⟨ad245,e245,hx245_0,hx245_1,hx245_2,hx245_3,hx245_4⟩ := at_T119 HR0.out (ji7) p245 q245
          have hw245_4 := hx245_4
          have hw245_3 := hx245_3
          have hw245_2 := hx245_2
          have hw245_1 := hx245_1
          have hw245_0 := hx245_0
          obtain rfl : ad242 = ad245 := (by injection e245)
          replace hx245_0 := hx_ HB hx245_0
          replace hx245_1 := hx_ HB hx245_1
          replace hx245_2 := hx_ HB hx245_2
          replace hx245_3 := hx_ HB hx245_3
          replace hx245_4 := hx_ HB hx245_4
          replace p245 := eq_true p245
          replace q245 := eq_true q245
          refine st_ 36 (S := fun w' => he5 w' (ad242.add ((x3_1).toNat * 5)) (.int .i64 ((rd_T119 l0 x3_1).f0)) (.int .i64 ((rd_T119 l0 x3_1).f1)) (.int .i64 ((rd_T119 l0 x3_1).f2)) (.bool ((rd_T119 l0 x3_1).f3)) (.int .i64 ((rd_T119 l0 x3_1).f4)) (he5 w' (ad242.add ((x3_1).toNat * 5)) (.int .i64 ((rd_T119 l0 x3_1).f0)) (.int .i64 ((rd_T119 l0 x3_1).f1)) (.int .i64 ((rd_T119 l0 x3_1).f2)) (.bool ((rd_T119 l0 x3_1).f3)) (.int .i64 ((rd_T119 l0 x3_1).f4)) (hf5 w' (ad242.add (((ji7)).toNat * 5)) (.int .i64 ((rd_T119 l0 (ji7)).f0)) (.int .i64 ((rd_T119 l0 (ji7)).f1)) (.int .i64 ((rd_T119 l0 (ji7)).f2)) (.bool ((rd_T119 l0 (ji7)).f3)) (.int .i64 ((rd_T119 l0 (ji7)).f4))))) hh_ (fun hHeld => ?_);refine with_tabW spec_l2Sets.tab4 spec_l2Sets.bits4 (fun HT_ HW_ => ?_)
          generalize wr.drew = w11 at HB hx242_0 hx242_1 hx242_2 hx242_3 hx242_4 hx244_0 hx244_1 hx244_2 hx244_3 hx244_4 hx245_0 hx245_1 hx245_2 hx245_3 hx245_4 hHeld ⊢
          refine pv_ 0 10 ?_
          refine pv_ 1 11 ?_
          refine pv_ 2 12 ?_
          refine tx_ 3 13 hHeld ?_
          refine oy_ 4 14 (fun K hK => ?_)
          refine gs_ Tryz.func142 #[.agg #[.int .i64 ((rd_T119 l0 x3_1).f0),.int .i64 ((rd_T119 l0 x3_1).f1),.int .i64 ((rd_T119 l0 x3_1).f2),.bool ((rd_T119 l0 x3_1).f3),.int .i64 ((rd_T119 l0 x3_1).f4)]] ?_
          with_reducible refine (spec_SetOk.calls ((rd_T119 l0 x3_1).f0) ((rd_T119 l0 x3_1).f1) ((rd_T119 l0 x3_1).f2) ((rd_T119 l0 x3_1).f3) ((rd_T119 l0 x3_1).f4) true _ A4.out).mono ?_
          rintro e w12 ⟨rfl,hb⟩
          refine ⟨_,rfl,?_⟩
          replace HB := ak (below_step b_ hb)
          (try clear hb)
          (try clear hb2)
          (try clear hk)
          (try clear hi)
          refine hK.out _ _ hh_ (fun hHeld => ?_)
          clear hK K
          refine nr_ (some 14) _ ?_
          refine pv_ 5 15 ?_
          refine pv_ 6 16 ?_
          refine pv_ 7 17 ?_
          refine pv_ 8 18 ?_
          refine pv_ 9 19 ?_
          refine pv_ 10 20 ?_
          refine pv_ 11 21 ?_
          refine pv_ 12 22 ?_
          refine pv_ 13 23 ?_
          refine pv_ 15 25 ?_
          refine pv_ 16 26 ?_
          refine pv_ 17 27 ?_
          refine pv_ 18 28 ?_
          refine pv_ 19 29 ?_
          refine tx_ 14 24 hHeld ?_
          refine tx_ 20 30 hHeld ?_
          refine pv_ 21 31 ?_
          refine pv_ 22 32 ?_
          refine pn_ 23 33 ?_
          refine pn_ 24 34 ?_
          refine pn_ 25 35 ?_
          refine pn_ 26 36 ?_
          refine pn_ 27 37 ?_
          refine pn_ 28 38 ?_
          refine pn_ 29 39 ?_
          refine pn_ 30 40 ?_
          refine pn_ 31 41 ?_
          refine pn_ 32 42 ?_
          refine pv_ 33 43 ?_
          refine pv_ 34 44 ?_
          refine pv_ 35 45 ?_
          refine done_ (done_of HT_.out (by kernel_rfl)) ?_
          try go_wp2
          go_ret
          exact ⟨by first|rfl|(simp [errW_none,errW_some] <;> rfl)|(simp only [← hji7];first|rfl|(simp [errW_none,errW_some] <;> rfl))|(simp [*,errW_none,errW_some] <;> rfl),b_⟩
         ·rw [if_neg c10] at H
          have c10b0 : decide (((rd_T119 l0 x3_1).f1) ≤ ((rd_T119 l0 (ji7)).f1)) = false := decide_eq_false c10
          clear c10
          by_cases c13 : 0 < (l0.length : Int)
          ·rw [if_pos c13] at H
           have c13b0 : decide (0 < (l0.length : Int)) = true := decide_eq_true c13
           have c13b1 : decide (0 < l0.length) = true := decide_eq_true (by omega)
           clear c13
           by_cases c14 : ((rd_T119 l0 x3_1).f0) = ((rd_T119 l0 0).f0)
           ·rw [if_pos c14] at H
            have c14b0 : (((rd_T119 l0 x3_1).f0) == ((rd_T119 l0 0).f0)) = true := beq_iff_eq.mpr c14
            have c14b1 : (((rd_T119 l0 x3_1).f0) != ((rd_T119 l0 0).f0)) = false := bne_eq_false_iff_eq.mpr c14
            clear c14
            have H' := ak H
            clear H
            try go_wp2
            replace HB := ak (below_drew1 HB.out)
            have p242 : 0 ≤ (x3_1 : Int) := od_
            have q242 : x3_1 < (l0.length : Int) := od_
            obtain ⟨ad242,e242,hx242_0,hx242_1,hx242_2,hx242_3,hx242_4⟩ := at_T119 HR0.out x3_1 p242 q242
            have hw242_4 := hx242_4
            have hw242_3 := hx242_3
            have hw242_2 := hx242_2
            have hw242_1 := hx242_1
            have hw242_0 := hx242_0
            cases e242
            replace hx242_0 := hx_ HB hx242_0
            replace hx242_1 := hx_ HB hx242_1
            replace hx242_2 := hx_ HB hx242_2
            replace hx242_3 := hx_ HB hx242_3
            replace hx242_4 := hx_ HB hx242_4
            replace p242 := eq_true p242
            replace q242 := eq_true q242
            have p244 : 0 ≤ (x3_1 : Int) := od_
            have q244 : x3_1 < (l0.length : Int) := od_
            obtain ⟨ad244,e244,hx244_0,hx244_1,hx244_2,hx244_3,hx244_4⟩ := at_T119 HR0.out x3_1 p244 q244
            have hw244_4 := hx244_4
            have hw244_3 := hx244_3
            have hw244_2 := hx244_2
            have hw244_1 := hx244_1
            have hw244_0 := hx244_0
            obtain rfl : ad242 = ad244 := (by injection e244)
            replace hx244_0 := hx_ HB hx244_0
            replace hx244_1 := hx_ HB hx244_1
            replace hx244_2 := hx_ HB hx244_2
            replace hx244_3 := hx_ HB hx244_3
            replace hx244_4 := hx_ HB hx244_4
            replace p244 := eq_true p244
            replace q244 := eq_true q244
            have p245 : 0 ≤ ((ji7) : Int) := od_
            have q245 : (ji7) < (l0.length : Int) := od_
            obtain ⟨ad245,e245,hx245_0,hx245_1,hx245_2,hx245_3,hx245_4⟩ := at_T119 HR0.out (ji7) p245 q245
            have hw245_4 := hx245_4
            have hw245_3 := hx245_3
            have hw245_2 := hx245_2
            have hw245_1 := hx245_1
            have hw245_0 := hx245_0
            obtain rfl : ad242 = ad245 := (by injection e245)
            replace hx245_0 := hx_ HB hx245_0
            replace hx245_1 := hx_ HB hx245_1
            replace hx245_2 := hx_ HB hx245_2
            replace hx245_3 := hx_ HB hx245_3
            replace hx245_4 := hx_ HB hx245_4
            replace p245 := eq_true p245
            replace q245 := eq_true q245
            have p246 : 0 ≤ (x3_1 : Int) := od_
            have q246 : x3_1 < (l0.length : Int) := od_
            obtain ⟨ad246,e246,hx246_0,hx246_1,hx246_2,hx246_3,hx246_4⟩ := at_T119 HR0.out x3_1 p246 q246
            have hw246_4 := hx246_4
            have hw246_3 := hx246_3
            have hw246_2 := hx246_2
            have hw246_1 := hx246_1
            have hw246_0 := hx246_0
            obtain rfl : ad242 = ad246 := (by injection e246)
            replace hx246_0 := hx_ HB hx246_0
            replace hx246_1 := hx_ HB hx246_1
            replace hx246_2 := hx_ HB hx246_2
            replace hx246_3 := hx_ HB hx246_3
            replace hx246_4 := hx_ HB hx246_4
            replace p246 := eq_true p246
            replace q246 := eq_true q246
            have p247 : 0 ≤ (0 : Int) := (by omega)
            have q247 : 0 < (l0.length : Int) := od_
            obtain ⟨ad247,e247,hx247_0,hx247_1,hx247_2,hx247_3,hx247_4⟩ := at_T119 HR0.out 0 p247 q247
            have hw247_4 := hx247_4
            (try rw [show ((0 : Int)).toNat = 0 from rfl] at hw247_4)
            (try rw [show 0 * 5 = 0 from rfl] at hw247_4)
            (try rw [Addr.add_zero'] at hw247_4)
            have hw247_3 := hx247_3
            (try rw [show ((0 : Int)).toNat = 0 from rfl] at hw247_3)
            (try rw [show 0 * 5 = 0 from rfl] at hw247_3)
            (try rw [Addr.add_zero'] at hw247_3)
            have hw247_2 := hx247_2
            (try rw [show ((0 : Int)).toNat = 0 from rfl] at hw247_2)
            (try rw [show 0 * 5 = 0 from rfl] at hw247_2)
            (try rw [Addr.add_zero'] at hw247_2)
            have hw247_1 := hx247_1
            (try rw [show ((0 : Int)).toNat = 0 from rfl] at hw247_1)
            (try rw [show 0 * 5 = 0 from rfl] at hw247_1)
            (try rw [Addr.add_zero'] at hw247_1)
            have hw247_0 := hx247_0
            (try rw [show ((0 : Int)).toNat = 0 from rfl] at hw247_0)
            (try rw [show 0 * 5 = 0 from rfl] at hw247_0)
            (try rw [Addr.add_zero'] at hw247_0)
            obtain rfl : ad242 = ad247 := (by injection e247)
            have qi247 : (0 < l0.length) = True := eq_true (by omega)
            (try rw [show ((0 : Int)).toNat = 0 from rfl] at hx247_0)
            (try rw [show 0 * 5 = 0 from rfl] at hx247_0)
            (try rw [Addr.add_zero'] at hx247_0)
            (try rw [show ((0 : Int)).toNat = 0 from rfl] at hx247_1)
            (try rw [show 0 * 5 = 0 from rfl] at hx247_1)
            (try rw [Addr.add_zero'] at hx247_1)
            (try rw [show ((0 : Int)).toNat = 0 from rfl] at hx247_2)
            (try rw [show 0 * 5 = 0 from rfl] at hx247_2)
            (try rw [Addr.add_zero'] at hx247_2)
            (try rw [show ((0 : Int)).toNat = 0 from rfl] at hx247_3)
            (try rw [show 0 * 5 = 0 from rfl] at hx247_3)
            (try rw [Addr.add_zero'] at hx247_3)
            (try rw [show ((0 : Int)).toNat = 0 from rfl] at hx247_4)
            (try rw [show 0 * 5 = 0 from rfl] at hx247_4)
            (try rw [Addr.add_zero'] at hx247_4)
            replace hx247_0 := hx_ HB hx247_0
            replace hx247_1 := hx_ HB hx247_1
            replace hx247_2 := hx_ HB hx247_2
            replace hx247_3 := hx_ HB hx247_3
            replace hx247_4 := hx_ HB hx247_4
            replace p247 := eq_true p247
            replace q247 := eq_true q247
            refine st_ 36 (S := fun w' => he5 w' (ad242.add ((x3_1).toNat * 5)) (.int .i64 ((rd_T119 l0 x3_1).f0)) (.int .i64 ((rd_T119 l0 x3_1).f1)) (.int .i64 ((rd_T119 l0 x3_1).f2)) (.bool ((rd_T119 l0 x3_1).f3)) (.int .i64 ((rd_T119 l0 x3_1).f4)) (he5 w' (ad242.add ((x3_1).toNat * 5)) (.int .i64 ((rd_T119 l0 x3_1).f0)) (.int .i64 ((rd_T119 l0 x3_1).f1)) (.int .i64 ((rd_T119 l0 x3_1).f2)) (.bool ((rd_T119 l0 x3_1).f3)) (.int .i64 ((rd_T119 l0 x3_1).f4)) (he5 w' (ad242.add (((ji7)).toNat * 5)) (.int .i64 ((rd_T119 l0 (ji7)).f0)) (.int .i64 ((rd_T119 l0 (ji7)).f1)) (.int .i64 ((rd_T119 l0 (ji7)).f2)) (.bool ((rd_T119 l0 (ji7)).f3)) (.int .i64 ((rd_T119 l0 (ji7)).f4)) (he5 w' (ad242.add ((x3_1).toNat * 5)) (.int .i64 ((rd_T119 l0 x3_1).f0)) (.int .i64 ((rd_T119 l0 x3_1).f1)) (.int .i64 ((rd_T119 l0 x3_1).f2)) (.bool ((rd_T119 l0 x3_1).f3)) (.int .i64 ((rd_T119 l0 x3_1).f4)) ((w'.cell? ad242 = some (.int .i64 ((rd_T119 l0 0).f0))) ∧ (w'.cell? ⟨ad242.block,ad242.off + 1,none⟩ = some (.int .i64 ((rd_T119 l0 0).f1))) ∧ (w'.cell? ⟨ad242.block,ad242.off + 2,none⟩ = some (.int .i64 ((rd_T119 l0 0).f2))) ∧ (w'.cell? ⟨ad242.block,ad242.off + 3,none⟩ = some (.bool ((rd_T119 l0 0).f3))) ∧ w'.cell? ⟨ad242.block,ad242.off + 4,none⟩ = some (.int .i64 ((rd_T119 l0 0).f4))))))) hh_ (fun hHeld => ?_);refine with_tabW spec_l2Sets.tab4 spec_l2Sets.bits4 (fun HT_ HW_ => ?_)
            generalize wr.drew = w15 at HB hx242_0 hx242_1 hx242_2 hx242_3 hx242_4 hx244_0 hx244_1 hx244_2 hx244_3 hx244_4 hx245_0 hx245_1 hx245_2 hx245_3 hx245_4 hx246_0 hx246_1 hx246_2 hx246_3 hx246_4 hx247_0 hx247_1 hx247_2 hx247_3 hx247_4 hHeld ⊢
            refine pv_ 0 10 ?_
            refine pv_ 1 11 ?_
            refine pv_ 2 12 ?_
            refine tx_ 3 13 hHeld ?_
            refine oy_ 4 14 (fun K hK => ?_)
            refine gs_ Tryz.func142 #[.agg #[.int .i64 ((rd_T119 l0 x3_1).f0),.int .i64 ((rd_T119 l0 x3_1).f1),.int .i64 ((rd_T119 l0 x3_1).f2),.bool ((rd_T119 l0 x3_1).f3),.int .i64 ((rd_T119 l0 x3_1).f4)]] ?_
            with_reducible refine (spec_SetOk.calls ((rd_T119 l0 x3_1).f0) ((rd_T119 l0 x3_1).f1) ((rd_T119 l0 x3_1).f2) ((rd_T119 l0 x3_1).f3) ((rd_T119 l0 x3_1).f4) true _ A4.out).mono ?_
            rintro e w16 ⟨rfl,hb⟩
            refine ⟨_,rfl,?_⟩
            replace HB := ak (below_step b_ hb)
            (try clear hb)
            (try clear hb2)
            (try clear hk)
            (try clear hi)
            refine hK.out _ _ hh_ (fun hHeld => ?_)
            clear hK K
            refine nr_ (some 14) _ ?_
            refine pv_ 5 15 ?_
            refine pv_ 6 16 ?_
            refine pv_ 7 17 ?_
            refine pv_ 8 18 ?_
            refine pv_ 9 19 ?_
            refine pv_ 10 20 ?_
            refine pv_ 11 21 ?_
            refine pv_ 12 22 ?_
            refine pv_ 13 23 ?_
            refine pv_ 15 25 ?_
            refine pv_ 16 26 ?_
            refine pv_ 17 27 ?_
            refine pv_ 18 28 ?_
            refine pv_ 19 29 ?_
            refine tx_ 14 24 hHeld ?_
            refine tx_ 20 30 hHeld ?_
            refine pv_ 21 31 ?_
            refine pv_ 22 32 ?_
            refine pv_ 23 33 ?_
            refine pv_ 24 34 ?_
            refine pv_ 25 35 ?_
            refine pv_ 26 36 ?_
            refine pv_ 28 38 ?_
            refine pv_ 29 39 ?_
            refine pv_ 30 40 ?_
            refine tx_ 27 37 hHeld ?_
            refine tx_ 31 41 hHeld ?_
            refine pv_ 32 42 ?_
            refine pv_ 33 43 ?_
            refine pv_ 34 44 ?_
            refine pv_ 35 45 ?_
            refine done_ (done_of HT_.out (by kernel_rfl)) ?_
            try go_wp2
            go_roundg k1
            case measure => have := HK1.out;omega
            case rel => exact ⟨(wrap64 (x3_1 + 1)),rs_,H',⟨by have := HK1.out;omega⟩,⟨b_⟩⟩
           ·rw [if_neg c14] at H
            have c14b0 : (((rd_T119 l0 x3_1).f0) == ((rd_T119 l0 0).f0)) = false := beq_eq_false_iff_ne.mpr c14
            have c14b1 : (((rd_T119 l0 x3_1).f0) != ((rd_T119 l0 0).f0)) = true := bne_iff_ne.mpr c14
            obtain rfl := Option.some.inj H
            try go_wp2
            replace HB := ak (below_drew1 HB.out)
            have p242 : 0 ≤ (x3_1 : Int) := od_
            have q242 : x3_1 < (l0.length : Int) := od_
            obtain ⟨ad242,e242,hx242_0,hx242_1,hx242_2,hx242_3,hx242_4⟩ := at_T119 HR0.out x3_1 p242 q242
            have hw242_4 := hx242_4
            have hw242_3 := hx242_3
            have hw242_2 := hx242_2
            have hw242_1 := hx242_1
            have hw242_0 := hx242_0
            cases e242
            replace hx242_0 := hx_ HB hx242_0
            replace hx242_1 := hx_ HB hx242_1
            replace hx242_2 := hx_ HB hx242_2
            replace hx242_3 := hx_ HB hx242_3
            replace hx242_4 := hx_ HB hx242_4
            replace p242 := eq_true p242
            replace q242 := eq_true q242
            have p244 : 0 ≤ (x3_1 : Int) := od_
            have q244 : x3_1 < (l0.length : Int) := od_
            obtain ⟨ad244,e244,hx244_0,hx244_1,hx244_2,hx244_3,hx244_4⟩ := at_T119 HR0.out x3_1 p244 q244
            have hw244_4 := hx244_4
            have hw244_3 := hx244_3
            have hw244_2 := hx244_2
            have hw244_1 := hx244_1
            have hw244_0 := hx244_0
            obtain rfl : ad242 = ad244 := (by injection e244)
            replace hx244_0 := hx_ HB hx244_0
            replace hx244_1 := hx_ HB hx244_1
            replace hx244_2 := hx_ HB hx244_2
            replace hx244_3 := hx_ HB hx244_3
            replace hx244_4 := hx_ HB hx244_4
            replace p244 := eq_true p244
            replace q244 := eq_true q244
            have p245 : 0 ≤ ((ji7) : Int) := od_
            have q245 : (ji7) < (l0.length : Int) := od_
            obtain ⟨ad245,e245,hx245_0,hx245_1,hx245_2,hx245_3,hx245_4⟩ := at_T119 HR0.out (ji7) p245 q245
            have hw245_4 := hx245_4
            have hw245_3 := hx245_3
            have hw245_2 := hx245_2
            have hw245_1 := hx245_1
            have hw245_0 := hx245_0
            obtain rfl : ad242 = ad245 := (by injection e245)
            replace hx245_0 := hx_ HB hx245_0
            replace hx245_1 := hx_ HB hx245_1
            replace hx245_2 := hx_ HB hx245_2
            replace hx245_3 := hx_ HB hx245_3
            replace hx245_4 := hx_ HB hx245_4
            replace p245 := eq_true p245
            replace q245 := eq_true q245
            have p246 : 0 ≤ (x3_1 : Int) := od_
            have q246 : x3_1 < (l0.length : Int) := od_
            obtain ⟨ad246,e246,hx246_0,hx246_1,hx246_2,hx246_3,hx246_4⟩ := at_T119 HR0.out x3_1 p246 q246
            have hw246_4 := hx246_4
            have hw246_3 := hx246_3
            have hw246_2 := hx246_2
            have hw246_1 := hx246_1
            have hw246_0 := hx246_0
            obtain rfl : ad242 = ad246 := (by injection e246)
            replace hx246_0 := hx_ HB hx246_0
            replace hx246_1 := hx_ HB hx246_1
            replace hx246_2 := hx_ HB hx246_2
            replace hx246_3 := hx_ HB hx246_3
            replace hx246_4 := hx_ HB hx246_4
            replace p246 := eq_true p246
            replace q246 := eq_true q246
            have p247 : 0 ≤ (0 : Int) := (by omega)
            have q247 : 0 < (l0.length : Int) := od_
            obtain ⟨ad247,e247,hx247_0,hx247_1,hx247_2,hx247_3,hx247_4⟩ := at_T119 HR0.out 0 p247 q247
            have hw247_4 := hx247_4
            (try rw [show ((0 : Int)).toNat = 0 from rfl] at hw247_4)
            (try rw [show 0 * 5 = 0 from rfl] at hw247_4)
            (try rw [Addr.add_zero'] at hw247_4)
            have hw247_3 := hx247_3
            (try rw [show ((0 : Int)).toNat = 0 from rfl] at hw247_3)
            (try rw [show 0 * 5 = 0 from rfl] at hw247_3)
            (try rw [Addr.add_zero'] at hw247_3)
            have hw247_2 := hx247_2
            (try rw [show ((0 : Int)).toNat = 0 from rfl] at hw247_2)
            (try rw [show 0 * 5 = 0 from rfl] at hw247_2)
            (try rw [Addr.add_zero'] at hw247_2)
            have hw247_1 := hx247_1
            (try rw [show ((0 : Int)).toNat = 0 from rfl] at hw247_1)
            (try rw [show 0 * 5 = 0 from rfl] at hw247_1)
            (try rw [Addr.add_zero'] at hw247_1)
            have hw247_0 := hx247_0
            (try rw [show ((0 : Int)).toNat = 0 from rfl] at hw247_0)
            (try rw [show 0 * 5 = 0 from rfl] at hw247_0)
            (try rw [Addr.add_zero'] at hw247_0)
            obtain rfl : ad242 = ad247 := (by injection e247)
            have qi247 : (0 < l0.length) = True := eq_true (by omega)
            (try rw [show ((0 : Int)).toNat = 0 from rfl] at hx247_0)
            (try rw [show 0 * 5 = 0 from rfl] at hx247_0)
            (try rw [Addr.add_zero'] at hx247_0)
            (try rw [show ((0 : Int)).toNat = 0 from rfl] at hx247_1)
            (try rw [show 0 * 5 = 0 from rfl] at hx247_1)
            (try rw [Addr.add_zero'] at hx247_1)
            (try rw [show ((0 : Int)).toNat = 0 from rfl] at hx247_2)
            (try rw [show 0 * 5 = 0 from rfl] at hx247_2)
            (try rw [Addr.add_zero'] at hx247_2)
            (try rw [show ((0 : Int)).toNat = 0 from rfl] at hx247_3)
            (try rw [show 0 * 5 = 0 from rfl] at hx247_3)
            (try rw [Addr.add_zero'] at hx247_3)
            (try rw [show ((0 : Int)).toNat = 0 from rfl] at hx247_4)
            (try rw [show 0 * 5 = 0 from rfl] at hx247_4)
            (try rw [Addr.add_zero'] at hx247_4)
            replace hx247_0 := hx_ HB hx247_0
            replace hx247_1 := hx_ HB hx247_1
            replace hx247_2 := hx_ HB hx247_2
            replace hx247_3 := hx_ HB hx247_3
            replace hx247_4 := hx_ HB hx247_4
            replace p247 := eq_true p247
            replace q247 := eq_true q247
            refine st_ 36 (S := fun w' => he5 w' (ad242.add ((x3_1).toNat * 5)) (.int .i64 ((rd_T119 l0 x3_1).f0)) (.int .i64 ((rd_T119 l0 x3_1).f1)) (.int .i64 ((rd_T119 l0 x3_1).f2)) (.bool ((rd_T119 l0 x3_1).f3)) (.int .i64 ((rd_T119 l0 x3_1).f4)) (he5 w' (ad242.add ((x3_1).toNat * 5)) (.int .i64 ((rd_T119 l0 x3_1).f0)) (.int .i64 ((rd_T119 l0 x3_1).f1)) (.int .i64 ((rd_T119 l0 x3_1).f2)) (.bool ((rd_T119 l0 x3_1).f3)) (.int .i64 ((rd_T119 l0 x3_1).f4)) (he5 w' (ad242.add (((ji7)).toNat * 5)) (.int .i64 ((rd_T119 l0 (ji7)).f0)) (.int .i64 ((rd_T119 l0 (ji7)).f1)) (.int .i64 ((rd_T119 l0 (ji7)).f2)) (.bool ((rd_T119 l0 (ji7)).f3)) (.int .i64 ((rd_T119 l0 (ji7)).f4)) (he5 w' (ad242.add ((x3_1).toNat * 5)) (.int .i64 ((rd_T119 l0 x3_1).f0)) (.int .i64 ((rd_T119 l0 x3_1).f1)) (.int .i64 ((rd_T119 l0 x3_1).f2)) (.bool ((rd_T119 l0 x3_1).f3)) (.int .i64 ((rd_T119 l0 x3_1).f4)) ((w'.cell? ad242 = some (.int .i64 ((rd_T119 l0 0).f0))) ∧ (w'.cell? ⟨ad242.block,ad242.off + 1,none⟩ = some (.int .i64 ((rd_T119 l0 0).f1))) ∧ (w'.cell? ⟨ad242.block,ad242.off + 2,none⟩ = some (.int .i64 ((rd_T119 l0 0).f2))) ∧ (w'.cell? ⟨ad242.block,ad242.off + 3,none⟩ = some (.bool ((rd_T119 l0 0).f3))) ∧ w'.cell? ⟨ad242.block,ad242.off + 4,none⟩ = some (.int .i64 ((rd_T119 l0 0).f4))))))) hh_ (fun hHeld => ?_);refine with_tabW spec_l2Sets.tab4 spec_l2Sets.bits4 (fun HT_ HW_ => ?_)
            generalize wr.drew = w17 at HB hx242_0 hx242_1 hx242_2 hx242_3 hx242_4 hx244_0 hx244_1 hx244_2 hx244_3 hx244_4 hx245_0 hx245_1 hx245_2 hx245_3 hx245_4 hx246_0 hx246_1 hx246_2 hx246_3 hx246_4 hx247_0 hx247_1 hx247_2 hx247_3 hx247_4 hHeld ⊢
            refine pv_ 0 10 ?_
            refine pv_ 1 11 ?_
            refine pv_ 2 12 ?_
            refine tx_ 3 13 hHeld ?_
            refine oy_ 4 14 (fun K hK => ?_)
            refine gs_ Tryz.func142 #[.agg #[.int .i64 ((rd_T119 l0 x3_1).f0),.int .i64 ((rd_T119 l0 x3_1).f1),.int .i64 ((rd_T119 l0 x3_1).f2),.bool ((rd_T119 l0 x3_1).f3),.int .i64 ((rd_T119 l0 x3_1).f4)]] ?_
            with_reducible refine (spec_SetOk.calls ((rd_T119 l0 x3_1).f0) ((rd_T119 l0 x3_1).f1) ((rd_T119 l0 x3_1).f2) ((rd_T119 l0 x3_1).f3) ((rd_T119 l0 x3_1).f4) true _ A4.out).mono ?_
            rintro e w18 ⟨rfl,hb⟩
            refine ⟨_,rfl,?_⟩
            replace HB := ak (below_step b_ hb)
            (try clear hb)
            (try clear hb2)
            (try clear hk)
            (try clear hi)
            refine hK.out _ _ hh_ (fun hHeld => ?_)
            clear hK K
            refine nr_ (some 14) _ ?_
            refine pv_ 5 15 ?_
            refine pv_ 6 16 ?_
            refine pv_ 7 17 ?_
            refine pv_ 8 18 ?_
            refine pv_ 9 19 ?_
            refine pv_ 10 20 ?_
            refine pv_ 11 21 ?_
            refine pv_ 12 22 ?_
            refine pv_ 13 23 ?_
            refine pv_ 15 25 ?_
            refine pv_ 16 26 ?_
            refine pv_ 17 27 ?_
            refine pv_ 18 28 ?_
            refine pv_ 19 29 ?_
            refine tx_ 14 24 hHeld ?_
            refine tx_ 20 30 hHeld ?_
            refine pv_ 21 31 ?_
            refine pv_ 22 32 ?_
            refine pv_ 23 33 ?_
            refine pv_ 24 34 ?_
            refine pv_ 25 35 ?_
            refine pv_ 26 36 ?_
            refine pv_ 28 38 ?_
            refine pv_ 29 39 ?_
            refine pv_ 30 40 ?_
            refine tx_ 27 37 hHeld ?_
            refine tx_ 31 41 hHeld ?_
            refine pv_ 32 42 ?_
            refine pv_ 33 43 ?_
            refine pv_ 34 44 ?_
            refine pv_ 35 45 ?_
            refine done_ (done_of HT_.out (by kernel_rfl)) ?_
            try go_wp2
            go_ret
            exact ⟨by first|rfl|(simp [errW_none,errW_some] <;> rfl)|(simp only [← hji7];first|rfl|(simp [errW_none,errW_some] <;> rfl))|(simp [*,errW_none,errW_some] <;> rfl),b_⟩
          ·rw [if_neg c13] at H
           exact absurd H (by simp)
        ·rw [if_neg c9] at H
         exact absurd H (by simp)
       ·rw [if_neg c8] at H
        exact absurd H (by simp)
      ·rw [if_neg c6] at H
       have c6b0 : decide (0 < x3_1) = false := decide_eq_false c6
       clear c6
       have H' := ak H
       clear H
       try go_wp2
       replace HB := ak (below_drew1 HB.out)
       have p242 : 0 ≤ (x3_1 : Int) := od_
       have q242 : x3_1 < (l0.length : Int) := od_
       obtain ⟨ad242,e242,hx242_0,hx242_1,hx242_2,hx242_3,hx242_4⟩ := at_T119 HR0.out x3_1 p242 q242
       have hw242_4 := hx242_4
       have hw242_3 := hx242_3
       have hw242_2 := hx242_2
       have hw242_1 := hx242_1
       have hw242_0 := hx242_0
       cases e242
       replace hx242_0 := hx_ HB hx242_0
       replace hx242_1 := hx_ HB hx242_1
       replace hx242_2 := hx_ HB hx242_2
       replace hx242_3 := hx_ HB hx242_3
       replace hx242_4 := hx_ HB hx242_4
       replace p242 := eq_true p242
       replace q242 := eq_true q242
       refine st_ 36 (S := fun w' => hf5 w' (ad242.add ((x3_1).toNat * 5)) (.int .i64 ((rd_T119 l0 x3_1).f0)) (.int .i64 ((rd_T119 l0 x3_1).f1)) (.int .i64 ((rd_T119 l0 x3_1).f2)) (.bool ((rd_T119 l0 x3_1).f3)) (.int .i64 ((rd_T119 l0 x3_1).f4))) hh_ (fun hHeld => ?_);refine with_tabW spec_l2Sets.tab4 spec_l2Sets.bits4 (fun HT_ HW_ => ?_)
       generalize wr.drew = w19 at HB hx242_0 hx242_1 hx242_2 hx242_3 hx242_4 hHeld ⊢
       refine pv_ 0 10 ?_
       refine pv_ 1 11 ?_
       refine pv_ 2 12 ?_
       refine tx_ 3 13 hHeld ?_
       refine oy_ 4 14 (fun K hK => ?_)
       refine gs_ Tryz.func142 #[.agg #[.int .i64 ((rd_T119 l0 x3_1).f0),.int .i64 ((rd_T119 l0 x3_1).f1),.int .i64 ((rd_T119 l0 x3_1).f2),.bool ((rd_T119 l0 x3_1).f3),.int .i64 ((rd_T119 l0 x3_1).f4)]] ?_
       with_reducible refine (spec_SetOk.calls ((rd_T119 l0 x3_1).f0) ((rd_T119 l0 x3_1).f1) ((rd_T119 l0 x3_1).f2) ((rd_T119 l0 x3_1).f3) ((rd_T119 l0 x3_1).f4) true _ A4.out).mono ?_
       rintro e w20 ⟨rfl,hb⟩
       refine ⟨_,rfl,?_⟩
       replace HB := ak (below_step b_ hb)
       (try clear hb)
       (try clear hb2)
       (try clear hk)
       (try clear hi)
       refine hK.out _ _ hh_ (fun hHeld => ?_)
       clear hK K
       refine nr_ (some 14) _ ?_
       refine pv_ 5 15 ?_
       refine pv_ 6 16 ?_
       refine pv_ 7 17 ?_
       refine pv_ 8 18 ?_
       refine pv_ 9 19 ?_
       refine pn_ 10 20 ?_
       refine pn_ 11 21 ?_
       refine pn_ 12 22 ?_
       refine pn_ 13 23 ?_
       refine pn_ 14 24 ?_
       refine pn_ 15 25 ?_
       refine pn_ 16 26 ?_
       refine pn_ 17 27 ?_
       refine pn_ 18 28 ?_
       refine pn_ 19 29 ?_
       refine pn_ 20 30 ?_
       refine pn_ 21 31 ?_
       refine pn_ 22 32 ?_
       refine pn_ 23 33 ?_
       refine pn_ 24 34 ?_
       refine pn_ 25 35 ?_
       refine pn_ 26 36 ?_
       refine pn_ 27 37 ?_
       refine pn_ 28 38 ?_
       refine pn_ 29 39 ?_
       refine pn_ 30 40 ?_
       refine pn_ 31 41 ?_
       refine pn_ 32 42 ?_
       refine pn_ 33 43 ?_
       refine pv_ 34 44 ?_
       refine pv_ 35 45 ?_
       refine done_ (done_of HT_.out (by kernel_rfl)) ?_
       try go_wp2
       go_roundg k1
       case measure => have := HK1.out;omega
       case rel => exact ⟨(wrap64 (x3_1 + 1)),rs_,H',⟨by have := HK1.out;omega⟩,⟨b_⟩⟩
     ·replace c5 := Bool.eq_false_iff.mpr c5
      subst c5
      replace H := ie_ H
      obtain rfl := Option.some.inj H
      try go_wp2
      replace HB := ak (below_drew1 HB.out)
      have p242 : 0 ≤ (x3_1 : Int) := od_
      have q242 : x3_1 < (l0.length : Int) := od_
      obtain ⟨ad242,e242,hx242_0,hx242_1,hx242_2,hx242_3,hx242_4⟩ := at_T119 HR0.out x3_1 p242 q242
      have hw242_4 := hx242_4
      have hw242_3 := hx242_3
      have hw242_2 := hx242_2
      have hw242_1 := hx242_1
      have hw242_0 := hx242_0
      cases e242
      replace hx242_0 := hx_ HB hx242_0
      replace hx242_1 := hx_ HB hx242_1
      replace hx242_2 := hx_ HB hx242_2
      replace hx242_3 := hx_ HB hx242_3
      replace hx242_4 := hx_ HB hx242_4
      replace p242 := eq_true p242
      replace q242 := eq_true q242
      refine st_ 36 (S := fun w' => hf5 w' (ad242.add ((x3_1).toNat * 5)) (.int .i64 ((rd_T119 l0 x3_1).f0)) (.int .i64 ((rd_T119 l0 x3_1).f1)) (.int .i64 ((rd_T119 l0 x3_1).f2)) (.bool ((rd_T119 l0 x3_1).f3)) (.int .i64 ((rd_T119 l0 x3_1).f4))) hh_ (fun hHeld => ?_);refine with_tabW spec_l2Sets.tab4 spec_l2Sets.bits4 (fun HT_ HW_ => ?_)
      generalize wr.drew = w21 at HB hx242_0 hx242_1 hx242_2 hx242_3 hx242_4 hHeld ⊢
      refine pv_ 0 10 ?_
      refine pv_ 1 11 ?_
      refine pv_ 2 12 ?_
      refine tx_ 3 13 hHeld ?_
      refine oy_ 4 14 (fun K hK => ?_)
      refine gs_ Tryz.func142 #[.agg #[.int .i64 ((rd_T119 l0 x3_1).f0),.int .i64 ((rd_T119 l0 x3_1).f1),.int .i64 ((rd_T119 l0 x3_1).f2),.bool ((rd_T119 l0 x3_1).f3),.int .i64 ((rd_T119 l0 x3_1).f4)]] ?_
      with_reducible refine (spec_SetOk.calls ((rd_T119 l0 x3_1).f0) ((rd_T119 l0 x3_1).f1) ((rd_T119 l0 x3_1).f2) ((rd_T119 l0 x3_1).f3) ((rd_T119 l0 x3_1).f4) false _ A4.out).mono ?_
      rintro e w22 ⟨rfl,hb⟩
      refine ⟨_,rfl,?_⟩
      replace HB := ak (below_step b_ hb)
      (try clear hb)
      (try clear hb2)
      (try clear hk)
      (try clear hi)
      refine hK.out _ _ hh_ (fun hHeld => ?_)
      clear hK K
      refine nr_ (some 14) _ ?_
      refine pv_ 5 15 ?_
      refine pv_ 6 16 ?_
      refine pn_ 7 17 ?_
      refine pn_ 8 18 ?_
      refine pn_ 9 19 ?_
      refine pn_ 10 20 ?_
      refine pn_ 11 21 ?_
      refine pn_ 12 22 ?_
      refine pn_ 13 23 ?_
      refine pn_ 14 24 ?_
      refine pn_ 15 25 ?_
      refine pn_ 16 26 ?_
      refine pn_ 17 27 ?_
      refine pn_ 18 28 ?_
      refine pn_ 19 29 ?_
      refine pn_ 20 30 ?_
      refine pn_ 21 31 ?_
      refine pn_ 22 32 ?_
      refine pn_ 23 33 ?_
      refine pn_ 24 34 ?_
      refine pn_ 25 35 ?_
      refine pn_ 26 36 ?_
      refine pn_ 27 37 ?_
      refine pn_ 28 38 ?_
      refine pn_ 29 39 ?_
      refine pn_ 30 40 ?_
      refine pn_ 31 41 ?_
      refine pn_ 32 42 ?_
      refine pn_ 33 43 ?_
      refine pn_ 34 44 ?_
      refine pv_ 35 45 ?_
      refine done_ (done_of HT_.out (by kernel_rfl)) ?_
      try go_wp2
      go_ret
      exact ⟨rf_,b_⟩
    ·rw [if_neg c3] at H
     exact absurd H (by simp)
   ·rw [if_neg c2] at H
    have c2b0 : decide (x3_1 < (l0.length : Int)) = false := decide_eq_false c2
    clear c2
    obtain rfl := Option.some.inj H
    go_wp2
    go_ret
    exact ⟨rf_,b_⟩

end Go.Proofs.YthplaakckfhaaaaGreat.XMs
