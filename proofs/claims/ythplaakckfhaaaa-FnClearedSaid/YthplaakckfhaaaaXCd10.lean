/- Proved: of each Go function here that a call comes to what the Lean function of its name tells. Written by a program of this session over the translation. No conditions beyond each theorem's own. -/
import Derived.Test.YthplaakckfhaaaaXCd0
import Derived.Test.YthplaakckfhaaaaXCd9
namespace Go.Proofs.Ythplaakckfhaaaa.XCd
open Go.RowKit Go.Proofs.Ythplaakckfhaaaa.Aid Go.Proofs.YthplaakckfhaaaaW.PrintWords Go.Proofs.YthplaakckfhaaaaW.PrintLast Go.Proofs.YthplaakckfhaaaaW.PrintMore
set_option linter.unusedVariables false
set_option linter.unusedSimpArgs false

/-! ### spec_l2Sets: function 106 -/
def spec_l2Sets.l0 : Nat → List (S127) → Int → Option (Bool)
  | 0, _, _ => none
  | k + 1, x0, x3 => if x3 < (x0.length : Int) then (if 0 ≤ x3 then ((spec_SetOk.f ((rd_T127 x0 x3).f0) ((rd_T127 x0 x3).f1) ((rd_T127 x0 x3).f2) ((rd_T127 x0 x3).f3) ((rd_T127 x0 x3).f4)).bind fun t174 => (if t174 = true then (if x3 > 0 then (if 0 ≤ (wrap64 (x3 - 1)) then (if (wrap64 (x3 - 1)) < (x0.length : Int) then (if ((rd_T127 x0 x3).f1) ≤ ((rd_T127 x0 (wrap64 (x3 - 1))).f1) then (some false) else (if 0 < (x0.length : Int) then (if ((rd_T127 x0 x3).f0) = ((rd_T127 x0 0).f0) then (spec_l2Sets.l0 k x0 (wrap64 (x3 + 1))) else (some false)) else (none))) else (none)) else (none)) else (spec_l2Sets.l0 k x0 (wrap64 (x3 + 1)))) else (some false))) else (none)) else (some true)
def spec_l2Sets.f (k : Nat) (l0 : List (S127)) : Option (Bool) := spec_l2Sets.l0 k l0 0

def spec_l2Sets.T4 : Bool × List (List Nat × List Nat) := (true, [([], []), ([], []), ([0, 1], [0, 1]), ([2], [2]), ([3], [3]), ([4], [4]), ([5, 4], [5]), ([6], [6]), ([7, 6], [6, 7]), ([8, 6, 6], [6, 8]), ([9], [9]), ([9], [9]), ([10, 11, 9], [9, 10, 11]), ([12, 9], [9, 12]), ([13, 9], [9, 13]), ([9], [9]), ([9], [9]), ([16, 9], [9, 16]), ([15, 17, 9], [9, 15, 17]), ([18, 9], [9, 18]), ([19, 9], [9, 19]), ([14, 20, 9], [9, 14, 20]), ([21, 9, 9], [9, 21]), ([22], [22]), ([22], [22]), ([23, 24, 22], [22, 23, 24]), ([25, 22], [22, 25]), ([26, 22], [22, 26]), ([22], [22]), ([28, 22], [22, 28]), ([29, 22], [22, 29]), ([30, 22], [22, 30]), ([27, 31, 22], [22, 27, 31]), ([22, 32, 9], [9, 22, 32]), ([9, 33, 6], [6, 9, 33]), ([6, 34], [6, 34])])
def spec_l2Sets.B4 : List Nat := [0, 0, 3, 7, 15, 31, 63, 127, 255, 511, 1023, 1023, 4095, 8191, 16383, 1023, 1023, 66559, 230399, 492543, 1016831, 2097151, 4194303, 8388607, 8388607, 33554431, 67108863, 134217727, 8388607, 276824063, 813694975, 1887436799, 4294967295, 8589934591, 17179869183, 34359738367]
theorem spec_l2Sets.tab4 : rtab .any (opsOf Try.f106 4) = spec_l2Sets.T4 := by kernel_rfl
theorem spec_l2Sets.bits4 : waitsOk spec_l2Sets.T4.2 spec_l2Sets.B4 = true := by kernel_rfl
set_option maxHeartbeats 8000000 in
set_option maxRecDepth 100000 in
theorem spec_l2Sets.calls (k : Nat) (A0 : Option Addr) (c0 : Nat) (l0 : List (S127)) (r : Bool) (w : World) (hr0 : Kd.C k127 w A0 l0.length l0) (hc0 : l0.length ≤ c0) (h : spec_l2Sets.f k l0 = some r) :
    Calls Try.prog 106 #[.slice A0 l0.length c0] w fun e w' => e = .returned (.bool r) ∧ Below w.heap.size w w' := by
 have hu127 := Try.underlying127
 have HR0 := ak hr0
 have HC0 := ak hc0
 clear hr0 hc0
 have HB := ak (Below.refl w.heap.size w)
 have H : (spec_l2Sets.l0 k l0 0) = some r := h
 clear h
 have H' := ak H
 clear H
 go_enter Try.func106,Try.ntmps106
 go_wp2
 go_loopg [3] k (fun kq v3 w' => ∃ (x3_1 : Int),v3 = .int .i64 x3_1 ∧ Aside0 (spec_l2Sets.l0 kq l0 x3_1 = some r) ∧ Aside0 (kq ≤ k) ∧ Aside0 (Below w.heap.size w w'))
 case atStart => exact ⟨(0),rs_,H',⟨Nat.le_refl _⟩,⟨b_⟩⟩
 case round =>
  clear H'
  try clear c1
  obtain ⟨x3_1,rfl,HA,HK1,HB⟩ := hrel
  cases gk with
    | zero => exact absurd HA.out (by simp [spec_l2Sets.l0])
    | succ k1 =>
   have H := HA.out
   clear HA
   simp only [spec_l2Sets.l0] at H
   by_cases c2 : x3_1 < (l0.length : Int)
   ·rw [if_pos c2] at H
    have c2b0 : decide (x3_1 < (l0.length : Int)) = true := decide_eq_true c2
    clear c2
    by_cases c3 : 0 ≤ x3_1
    ·rw [if_pos c3] at H
     have c3b0 : decide (0 ≤ x3_1) = true := decide_eq_true c3
     clear c3
     replace H := bs_ H
     obtain ⟨t174,A4,H⟩ := H
     by_cases c5 : t174 = true
     ·subst c5
      replace H := it_ H
      by_cases c6 : x3_1 > 0
      ·rw [if_pos c6] at H
       have c6b0 : decide (0 < x3_1) = true := decide_eq_true c6
       clear c6
       obtain ⟨ji7,hji7⟩ : ∃ j_ : Int,(wrap64 (x3_1 - 1)) = j_ := ⟨_,rfl⟩
       replace H : (if 0 ≤ (ji7) then (if (ji7) < (l0.length : Int) then (if ((rd_T127 l0 x3_1).f1) ≤ ((rd_T127 l0 (ji7)).f1) then (some false) else (if 0 < (l0.length : Int) then (if ((rd_T127 l0 x3_1).f0) = ((rd_T127 l0 0).f0) then (spec_l2Sets.l0 k1 l0 (wrap64 (x3_1 + 1))) else (some false)) else (none))) else (none)) else (none)) = some r := by first|(rw [hji7] at H;exact H)|(simp only [hji7] at H ⊢;exact H)
       (try rw [hji7] at A4)
       have hji7w : (IntKind.i64.wrap (x3_1 - 1)) = ji7 := (i64_w _).trans hji7
       by_cases c8 : 0 ≤ (ji7)
       ·rw [if_pos c8] at H
        have c8b0 : decide (0 ≤ (ji7)) = true := decide_eq_true c8
        clear c8
        by_cases c9 : (ji7) < (l0.length : Int)
        ·rw [if_pos c9] at H
         have c9b0 : decide ((ji7) < (l0.length : Int)) = true := decide_eq_true c9
         clear c9
         by_cases c10 : ((rd_T127 l0 x3_1).f1) ≤ ((rd_T127 l0 (ji7)).f1)
         ·rw [if_pos c10] at H
          have c10b0 : decide (((rd_T127 l0 x3_1).f1) ≤ ((rd_T127 l0 (ji7)).f1)) = true := decide_eq_true c10
          clear c10
          obtain rfl := Option.some.inj H
          try go_wp2
          replace HB := ak (below_drew1 HB.out)
          have p173 : 0 ≤ (x3_1 : Int) := od_
          have q173 : x3_1 < (l0.length : Int) := od_
          obtain ⟨ad173,e173,hx173_0,hx173_1,hx173_2,hx173_3,hx173_4⟩ := at_T127 HR0.out x3_1 p173 q173
          have hw173_4 := hx173_4
          have hw173_3 := hx173_3
          have hw173_2 := hx173_2
          have hw173_1 := hx173_1
          have hw173_0 := hx173_0
          cases e173
          replace hx173_0 := hx_ HB hx173_0
          replace hx173_1 := hx_ HB hx173_1
          replace hx173_2 := hx_ HB hx173_2
          replace hx173_3 := hx_ HB hx173_3
          replace hx173_4 := hx_ HB hx173_4
          replace p173 := eq_true p173
          replace q173 := eq_true q173
          have p175 : 0 ≤ (x3_1 : Int) := od_
          have q175 : x3_1 < (l0.length : Int) := od_
          obtain ⟨ad175,e175,hx175_0,hx175_1,hx175_2,hx175_3,hx175_4⟩ := at_T127 HR0.out x3_1 p175 q175
          have hw175_4 := hx175_4
          have hw175_3 := hx175_3
          have hw175_2 := hx175_2
          have hw175_1 := hx175_1
          have hw175_0 := hx175_0
          obtain rfl : ad173 = ad175 := (by injection e175)
          replace hx175_0 := hx_ HB hx175_0
          replace hx175_1 := hx_ HB hx175_1
          replace hx175_2 := hx_ HB hx175_2
          replace hx175_3 := hx_ HB hx175_3
          replace hx175_4 := hx_ HB hx175_4
          replace p175 := eq_true p175
          replace q175 := eq_true q175
          have p176 : 0 ≤ ((ji7) : Int) := od_
          have q176 : (ji7) < (l0.length : Int) := od_
          obtain ⟨ad176,e176,hx176_0,hx176_1,hx176_2,hx176_3,hx176_4⟩ := at_T127 HR0.out (ji7) p176 q176
          have hw176_4 := hx176_4
          have hw176_3 := hx176_3
          have hw176_2 := hx176_2
          have hw176_1 := hx176_1
          have hw176_0 := hx176_0
          obtain rfl : ad173 = ad176 := (by injection e176)
          replace hx176_0 := hx_ HB hx176_0
          replace hx176_1 := hx_ HB hx176_1
          replace hx176_2 := hx_ HB hx176_2
          replace hx176_3 := hx_ HB hx176_3
          replace hx176_4 := hx_ HB hx176_4
          replace p176 := eq_true p176
          replace q176 := eq_true q176
          refine st_ 36 (S := fun w' => he5 w' (ad173.add ((x3_1).toNat * 5)) (.int .i64 ((rd_T127 l0 x3_1).f0)) (.int .i64 ((rd_T127 l0 x3_1).f1)) (.int .i64 ((rd_T127 l0 x3_1).f2)) (.bool ((rd_T127 l0 x3_1).f3)) (.int .i64 ((rd_T127 l0 x3_1).f4)) (he5 w' (ad173.add ((x3_1).toNat * 5)) (.int .i64 ((rd_T127 l0 x3_1).f0)) (.int .i64 ((rd_T127 l0 x3_1).f1)) (.int .i64 ((rd_T127 l0 x3_1).f2)) (.bool ((rd_T127 l0 x3_1).f3)) (.int .i64 ((rd_T127 l0 x3_1).f4)) (hf5 w' (ad173.add (((ji7)).toNat * 5)) (.int .i64 ((rd_T127 l0 (ji7)).f0)) (.int .i64 ((rd_T127 l0 (ji7)).f1)) (.int .i64 ((rd_T127 l0 (ji7)).f2)) (.bool ((rd_T127 l0 (ji7)).f3)) (.int .i64 ((rd_T127 l0 (ji7)).f4))))) hh_ (fun hHeld => ?_);refine with_tabW spec_l2Sets.tab4 spec_l2Sets.bits4 (fun HT_ HW_ => ?_)
          generalize wr.drew = w11 at HB hx173_0 hx173_1 hx173_2 hx173_3 hx173_4 hx175_0 hx175_1 hx175_2 hx175_3 hx175_4 hx176_0 hx176_1 hx176_2 hx176_3 hx176_4 hHeld ⊢
          refine pv_ 0 10 ?_
          refine pv_ 1 11 ?_
          refine pv_ 2 12 ?_
          refine tx_ 3 13 hHeld ?_
          refine oy_ 4 14 (fun K hK => ?_)
          refine gs_ Try.func140 #[.agg #[.int .i64 ((rd_T127 l0 x3_1).f0),.int .i64 ((rd_T127 l0 x3_1).f1),.int .i64 ((rd_T127 l0 x3_1).f2),.bool ((rd_T127 l0 x3_1).f3),.int .i64 ((rd_T127 l0 x3_1).f4)]] ?_
          with_reducible refine (spec_SetOk.calls ((rd_T127 l0 x3_1).f0) ((rd_T127 l0 x3_1).f1) ((rd_T127 l0 x3_1).f2) ((rd_T127 l0 x3_1).f3) ((rd_T127 l0 x3_1).f4) true _ A4.out).mono ?_
          rintro e w12 ⟨rfl,hb⟩
          refine ⟨_,rfl,?_⟩
          replace HB := ak (below_step b_ hb)
          (try clear hb)
          (try clear hb2)
          (try clear hk)
          (try clear hi)
          refine hK.out _ _ hh_ (fun hHeld => ?_)
          clear hK K
          refine nr_ (some 14) _ ?_
          refine pv_ 5 15 ?_
          refine pv_ 6 16 ?_
          refine pv_ 7 17 ?_
          refine pv_ 8 18 ?_
          refine pv_ 9 19 ?_
          refine pv_ 10 20 ?_
          refine pv_ 11 21 ?_
          refine pv_ 12 22 ?_
          refine pv_ 13 23 ?_
          refine pv_ 15 25 ?_
          refine pv_ 16 26 ?_
          refine pv_ 17 27 ?_
          refine pv_ 18 28 ?_
          refine pv_ 19 29 ?_
          refine tx_ 14 24 hHeld ?_
          refine tx_ 20 30 hHeld ?_
          refine pv_ 21 31 ?_
          refine pv_ 22 32 ?_
          refine pn_ 23 33 ?_
          refine pn_ 24 34 ?_
          refine pn_ 25 35 ?_
          refine pn_ 26 36 ?_
          refine pn_ 27 37 ?_
          refine pn_ 28 38 ?_
          refine pn_ 29 39 ?_
          refine pn_ 30 40 ?_
          refine pn_ 31 41 ?_
          refine pn_ 32 42 ?_
          refine pv_ 33 43 ?_
          refine pv_ 34 44 ?_
          refine pv_ 35 45 ?_
          refine done_ (done_of HT_.out (by kernel_rfl)) ?_
          try go_wp2
          go_ret
          exact ⟨by first|rfl|(simp [errW_none,errW_some] <;> rfl)|(simp only [← hji7];first|rfl|(simp [errW_none,errW_some] <;> rfl))|(simp [*,errW_none,errW_some] <;> rfl),b_⟩
         ·rw [if_neg c10] at H
          have c10b0 : decide (((rd_T127 l0 x3_1).f1) ≤ ((rd_T127 l0 (ji7)).f1)) = false := decide_eq_false c10
          clear c10
          by_cases c13 : 0 < (l0.length : Int)
          ·rw [if_pos c13] at H
           have c13b0 : decide (0 < (l0.length : Int)) = true := decide_eq_true c13
           have c13b1 : decide (0 < l0.length) = true := decide_eq_true (by omega)
           clear c13
           by_cases c14 : ((rd_T127 l0 x3_1).f0) = ((rd_T127 l0 0).f0)
           ·rw [if_pos c14] at H
            have c14b0 : (((rd_T127 l0 x3_1).f0) == ((rd_T127 l0 0).f0)) = true := beq_iff_eq.mpr c14
            have c14b1 : (((rd_T127 l0 x3_1).f0) != ((rd_T127 l0 0).f0)) = false := bne_eq_false_iff_eq.mpr c14
            clear c14
            have H' := ak H
            clear H
            try go_wp2
            replace HB := ak (below_drew1 HB.out)
            have p173 : 0 ≤ (x3_1 : Int) := od_
            have q173 : x3_1 < (l0.length : Int) := od_
            obtain ⟨ad173,e173,hx173_0,hx173_1,hx173_2,hx173_3,hx173_4⟩ := at_T127 HR0.out x3_1 p173 q173
            have hw173_4 := hx173_4
            have hw173_3 := hx173_3
            have hw173_2 := hx173_2
            have hw173_1 := hx173_1
            have hw173_0 := hx173_0
            cases e173
            replace hx173_0 := hx_ HB hx173_0
            replace hx173_1 := hx_ HB hx173_1
            replace hx173_2 := hx_ HB hx173_2
            replace hx173_3 := hx_ HB hx173_3
            replace hx173_4 := hx_ HB hx173_4
            replace p173 := eq_true p173
            replace q173 := eq_true q173
            have p175 : 0 ≤ (x3_1 : Int) := od_
            have q175 : x3_1 < (l0.length : Int) := od_
            obtain ⟨ad175,e175,hx175_0,hx175_1,hx175_2,hx175_3,hx175_4⟩ := at_T127 HR0.out x3_1 p175 q175
            have hw175_4 := hx175_4
            have hw175_3 := hx175_3
            have hw175_2 := hx175_2
            have hw175_1 := hx175_1
            have hw175_0 := hx175_0
            obtain rfl : ad173 = ad175 := (by injection e175)
            replace hx175_0 := hx_ HB hx175_0
            replace hx175_1 := hx_ HB hx175_1
            replace hx175_2 := hx_ HB hx175_2
            replace hx175_3 := hx_ HB hx175_3
            replace hx175_4 := hx_ HB hx175_4
            replace p175 := eq_true p175
            replace q175 := eq_true q175
            have p176 : 0 ≤ ((ji7) : Int) := od_
            have q176 : (ji7) < (l0.length : Int) := od_
            obtain ⟨ad176,e176,hx176_0,hx176_1,hx176_2,hx176_3,hx176_4⟩ := at_T127 HR0.out (ji7) p176 q176
            have hw176_4 := hx176_4
            have hw176_3 := hx176_3
            have hw176_2 := hx176_2
            have hw176_1 := hx176_1
            have hw176_0 := hx176_0
            obtain rfl : ad173 = ad176 := (by injection e176)
            replace hx176_0 := hx_ HB hx176_0
            replace hx176_1 := hx_ HB hx176_1
            replace hx176_2 := hx_ HB hx176_2
            replace hx176_3 := hx_ HB hx176_3
            replace hx176_4 := hx_ HB hx176_4
            replace p176 := eq_true p176
            replace q176 := eq_true q176
            have p177 : 0 ≤ (x3_1 : Int) := od_
            have q177 : x3_1 < (l0.length : Int) := od_
            obtain ⟨ad177,e177,hx177_0,hx177_1,hx177_2,hx177_3,hx177_4⟩ := at_T127 HR0.out x3_1 p177 q177
            have hw177_4 := hx177_4
            have hw177_3 := hx177_3
            have hw177_2 := hx177_2
            have hw177_1 := hx177_1
            have hw177_0 := hx177_0
            obtain rfl : ad173 = ad177 := (by injection e177)
            replace hx177_0 := hx_ HB hx177_0
            replace hx177_1 := hx_ HB hx177_1
            replace hx177_2 := hx_ HB hx177_2
            replace hx177_3 := hx_ HB hx177_3
            replace hx177_4 := hx_ HB hx177_4
            replace p177 := eq_true p177
            replace q177 := eq_true q177
            have p178 : 0 ≤ (0 : Int) := (by omega)
            have q178 : 0 < (l0.length : Int) := od_
            obtain ⟨ad178,e178,hx178_0,hx178_1,hx178_2,hx178_3,hx178_4⟩ := at_T127 HR0.out 0 p178 q178
            have hw178_4 := hx178_4
            (try rw [show ((0 : Int)).toNat = 0 from rfl] at hw178_4)
            (try rw [show 0 * 5 = 0 from rfl] at hw178_4)
            (try rw [Addr.add_zero'] at hw178_4)
            have hw178_3 := hx178_3
            (try rw [show ((0 : Int)).toNat = 0 from rfl] at hw178_3)
            (try rw [show 0 * 5 = 0 from rfl] at hw178_3)
            (try rw [Addr.add_zero'] at hw178_3)
            have hw178_2 := hx178_2
            (try rw [show ((0 : Int)).toNat = 0 from rfl] at hw178_2)
            (try rw [show 0 * 5 = 0 from rfl] at hw178_2)
            (try rw [Addr.add_zero'] at hw178_2)
            have hw178_1 := hx178_1
            (try rw [show ((0 : Int)).toNat = 0 from rfl] at hw178_1)
            (try rw [show 0 * 5 = 0 from rfl] at hw178_1)
            (try rw [Addr.add_zero'] at hw178_1)
            have hw178_0 := hx178_0
            (try rw [show ((0 : Int)).toNat = 0 from rfl] at hw178_0)
            (try rw [show 0 * 5 = 0 from rfl] at hw178_0)
            (try rw [Addr.add_zero'] at hw178_0)
            obtain rfl : ad173 = ad178 := (by injection e178)
            have qi178 : (0 < l0.length) = True := eq_true (by omega)
            (try rw [show ((0 : Int)).toNat = 0 from rfl] at hx178_0)
            (try rw [show 0 * 5 = 0 from rfl] at hx178_0)
            (try rw [Addr.add_zero'] at hx178_0)
            (try rw [show ((0 : Int)).toNat = 0 from rfl] at hx178_1)
            (try rw [show 0 * 5 = 0 from rfl] at hx178_1)
            (try rw [Addr.add_zero'] at hx178_1)
            (try rw [show ((0 : Int)).toNat = 0 from rfl] at hx178_2)
            (try rw [show 0 * 5 = 0 from rfl] at hx178_2)
            (try rw [Addr.add_zero'] at hx178_2)
            (try rw [show ((0 : Int)).toNat = 0 from rfl] at hx178_3)
            (try rw [show 0 * 5 = 0 from rfl] at hx178_3)
            (try rw [Addr.add_zero'] at hx178_3)
            (try rw [show ((0 : Int)).toNat = 0 from rfl] at hx178_4)
            (try rw [show 0 * 5 = 0 from rfl] at hx178_4)
            (try rw [Addr.add_zero'] at hx178_4)
            replace hx178_0 := hx_ HB hx178_0
            replace hx178_1 := hx_ HB hx178_1
            replace hx178_2 := hx_ HB hx178_2
            replace hx178_3 := hx_ HB hx178_3
            replace hx178_4 := hx_ HB hx178_4
            replace p178 := eq_true p178
            replace q178 := eq_true q178
            refine st_ 36 (S := fun w' => he5 w' (ad173.add ((x3_1).toNat * 5)) (.int .i64 ((rd_T127 l0 x3_1).f0)) (.int .i64 ((rd_T127 l0 x3_1).f1)) (.int .i64 ((rd_T127 l0 x3_1).f2)) (.bool ((rd_T127 l0 x3_1).f3)) (.int .i64 ((rd_T127 l0 x3_1).f4)) (he5 w' (ad173.add ((x3_1).toNat * 5)) (.int .i64 ((rd_T127 l0 x3_1).f0)) (.int .i64 ((rd_T127 l0 x3_1).f1)) (.int .i64 ((rd_T127 l0 x3_1).f2)) (.bool ((rd_T127 l0 x3_1).f3)) (.int .i64 ((rd_T127 l0 x3_1).f4)) (he5 w' (ad173.add (((ji7)).toNat * 5)) (.int .i64 ((rd_T127 l0 (ji7)).f0)) (.int .i64 ((rd_T127 l0 (ji7)).f1)) (.int .i64 ((rd_T127 l0 (ji7)).f2)) (.bool ((rd_T127 l0 (ji7)).f3)) (.int .i64 ((rd_T127 l0 (ji7)).f4)) (he5 w' (ad173.add ((x3_1).toNat * 5)) (.int .i64 ((rd_T127 l0 x3_1).f0)) (.int .i64 ((rd_T127 l0 x3_1).f1)) (.int .i64 ((rd_T127 l0 x3_1).f2)) (.bool ((rd_T127 l0 x3_1).f3)) (.int .i64 ((rd_T127 l0 x3_1).f4)) ((w'.cell? ad173 = some (.int .i64 ((rd_T127 l0 0).f0))) ∧ (w'.cell? ⟨ad173.block,ad173.off + 1,none⟩ = some (.int .i64 ((rd_T127 l0 0).f1))) ∧ (w'.cell? ⟨ad173.block,ad173.off + 2,none⟩ = some (.int .i64 ((rd_T127 l0 0).f2))) ∧ (w'.cell? ⟨ad173.block,ad173.off + 3,none⟩ = some (.bool ((rd_T127 l0 0).f3))) ∧ w'.cell? ⟨ad173.block,ad173.off + 4,none⟩ = some (.int .i64 ((rd_T127 l0 0).f4))))))) hh_ (fun hHeld => ?_);refine with_tabW spec_l2Sets.tab4 spec_l2Sets.bits4 (fun HT_ HW_ => ?_)
            generalize wr.drew = w15 at HB hx173_0 hx173_1 hx173_2 hx173_3 hx173_4 hx175_0 hx175_1 hx175_2 hx175_3 hx175_4 hx176_0 hx176_1 hx176_2 hx176_3 hx176_4 hx177_0 hx177_1 hx177_2 hx177_3 hx177_4 hx178_0 hx178_1 hx178_2 hx178_3 hx178_4 hHeld ⊢
            refine pv_ 0 10 ?_
            refine pv_ 1 11 ?_
            refine pv_ 2 12 ?_
            refine tx_ 3 13 hHeld ?_
            refine oy_ 4 14 (fun K hK => ?_)
            refine gs_ Try.func140 #[.agg #[.int .i64 ((rd_T127 l0 x3_1).f0),.int .i64 ((rd_T127 l0 x3_1).f1),.int .i64 ((rd_T127 l0 x3_1).f2),.bool ((rd_T127 l0 x3_1).f3),.int .i64 ((rd_T127 l0 x3_1).f4)]] ?_
            with_reducible refine (spec_SetOk.calls ((rd_T127 l0 x3_1).f0) ((rd_T127 l0 x3_1).f1) ((rd_T127 l0 x3_1).f2) ((rd_T127 l0 x3_1).f3) ((rd_T127 l0 x3_1).f4) true _ A4.out).mono ?_
            rintro e w16 ⟨rfl,hb⟩
            refine ⟨_,rfl,?_⟩
            replace HB := ak (below_step b_ hb)
            (try clear hb)
            (try clear hb2)
            (try clear hk)
            (try clear hi)
            refine hK.out _ _ hh_ (fun hHeld => ?_)
            clear hK K
            refine nr_ (some 14) _ ?_
            refine pv_ 5 15 ?_
            refine pv_ 6 16 ?_
            refine pv_ 7 17 ?_
            refine pv_ 8 18 ?_
            refine pv_ 9 19 ?_
            refine pv_ 10 20 ?_
            refine pv_ 11 21 ?_
            refine pv_ 12 22 ?_
            refine pv_ 13 23 ?_
            refine pv_ 15 25 ?_
            refine pv_ 16 26 ?_
            refine pv_ 17 27 ?_
            refine pv_ 18 28 ?_
            refine pv_ 19 29 ?_
            refine tx_ 14 24 hHeld ?_
            refine tx_ 20 30 hHeld ?_
            refine pv_ 21 31 ?_
            refine pv_ 22 32 ?_
            refine pv_ 23 33 ?_
            refine pv_ 24 34 ?_
            refine pv_ 25 35 ?_
            refine pv_ 26 36 ?_
            refine pv_ 28 38 ?_
            refine pv_ 29 39 ?_
            refine pv_ 30 40 ?_
            refine tx_ 27 37 hHeld ?_
            refine tx_ 31 41 hHeld ?_
            refine pv_ 32 42 ?_
            refine pv_ 33 43 ?_
            refine pv_ 34 44 ?_
            refine pv_ 35 45 ?_
            refine done_ (done_of HT_.out (by kernel_rfl)) ?_
            try go_wp2
            go_roundg k1
            case measure => have := HK1.out;omega
            case rel => exact ⟨(wrap64 (x3_1 + 1)),rs_,H',⟨by have := HK1.out;omega⟩,⟨b_⟩⟩
           ·rw [if_neg c14] at H
            have c14b0 : (((rd_T127 l0 x3_1).f0) == ((rd_T127 l0 0).f0)) = false := beq_eq_false_iff_ne.mpr c14
            have c14b1 : (((rd_T127 l0 x3_1).f0) != ((rd_T127 l0 0).f0)) = true := bne_iff_ne.mpr c14
            obtain rfl := Option.some.inj H
            try go_wp2
            replace HB := ak (below_drew1 HB.out)
            have p173 : 0 ≤ (x3_1 : Int) := od_
            have q173 : x3_1 < (l0.length : Int) := od_
            obtain ⟨ad173,e173,hx173_0,hx173_1,hx173_2,hx173_3,hx173_4⟩ := at_T127 HR0.out x3_1 p173 q173
            have hw173_4 := hx173_4
            have hw173_3 := hx173_3
            have hw173_2 := hx173_2
            have hw173_1 := hx173_1
            have hw173_0 := hx173_0
            cases e173
            replace hx173_0 := hx_ HB hx173_0
            replace hx173_1 := hx_ HB hx173_1
            replace hx173_2 := hx_ HB hx173_2
            replace hx173_3 := hx_ HB hx173_3
            replace hx173_4 := hx_ HB hx173_4
            replace p173 := eq_true p173
            replace q173 := eq_true q173
            have p175 : 0 ≤ (x3_1 : Int) := od_
            have q175 : x3_1 < (l0.length : Int) := od_
            obtain ⟨ad175,e175,hx175_0,hx175_1,hx175_2,hx175_3,hx175_4⟩ := at_T127 HR0.out x3_1 p175 q175
            have hw175_4 := hx175_4
            have hw175_3 := hx175_3
            have hw175_2 := hx175_2
            have hw175_1 := hx175_1
            have hw175_0 := hx175_0
            obtain rfl : ad173 = ad175 := (by injection e175)
            replace hx175_0 := hx_ HB hx175_0
            replace hx175_1 := hx_ HB hx175_1
            replace hx175_2 := hx_ HB hx175_2
            replace hx175_3 := hx_ HB hx175_3
            replace hx175_4 := hx_ HB hx175_4
            replace p175 := eq_true p175
            replace q175 := eq_true q175
            have p176 : 0 ≤ ((ji7) : Int) := od_
            have q176 : (ji7) < (l0.length : Int) := od_
            obtain ⟨ad176,e176,hx176_0,hx176_1,hx176_2,hx176_3,hx176_4⟩ := at_T127 HR0.out (ji7) p176 q176
            have hw176_4 := hx176_4
            have hw176_3 := hx176_3
            have hw176_2 := hx176_2
            have hw176_1 := hx176_1
            have hw176_0 := hx176_0
            obtain rfl : ad173 = ad176 := (by injection e176)
            replace hx176_0 := hx_ HB hx176_0
            replace hx176_1 := hx_ HB hx176_1
            replace hx176_2 := hx_ HB hx176_2
            replace hx176_3 := hx_ HB hx176_3
            replace hx176_4 := hx_ HB hx176_4
            replace p176 := eq_true p176
            replace q176 := eq_true q176
            have p177 : 0 ≤ (x3_1 : Int) := od_
            have q177 : x3_1 < (l0.length : Int) := od_
            obtain ⟨ad177,e177,hx177_0,hx177_1,hx177_2,hx177_3,hx177_4⟩ := at_T127 HR0.out x3_1 p177 q177
            have hw177_4 := hx177_4
            have hw177_3 := hx177_3
            have hw177_2 := hx177_2
            have hw177_1 := hx177_1
            have hw177_0 := hx177_0
            obtain rfl : ad173 = ad177 := (by injection e177)
            replace hx177_0 := hx_ HB hx177_0
            replace hx177_1 := hx_ HB hx177_1
            replace hx177_2 := hx_ HB hx177_2
            replace hx177_3 := hx_ HB hx177_3
            replace hx177_4 := hx_ HB hx177_4
            replace p177 := eq_true p177
            replace q177 := eq_true q177
            have p178 : 0 ≤ (0 : Int) := (by omega)
            have q178 : 0 < (l0.length : Int) := od_
            obtain ⟨ad178,e178,hx178_0,hx178_1,hx178_2,hx178_3,hx178_4⟩ := at_T127 HR0.out 0 p178 q178
            have hw178_4 := hx178_4
            (try rw [show ((0 : Int)).toNat = 0 from rfl] at hw178_4)
            (try rw [show 0 * 5 = 0 from rfl] at hw178_4)
            (try rw [Addr.add_zero'] at hw178_4)
            have hw178_3 := hx178_3
            (try rw [show ((0 : Int)).toNat = 0 from rfl] at hw178_3)
            (try rw [show 0 * 5 = 0 from rfl] at hw178_3)
            (try rw [Addr.add_zero'] at hw178_3)
            have hw178_2 := hx178_2
            (try rw [show ((0 : Int)).toNat = 0 from rfl] at hw178_2)
            (try rw [show 0 * 5 = 0 from rfl] at hw178_2)
            (try rw [Addr.add_zero'] at hw178_2)
            have hw178_1 := hx178_1
            (try rw [show ((0 : Int)).toNat = 0 from rfl] at hw178_1)
            (try rw [show 0 * 5 = 0 from rfl] at hw178_1)
            (try rw [Addr.add_zero'] at hw178_1)
            have hw178_0 := hx178_0
            (try rw [show ((0 : Int)).toNat = 0 from rfl] at hw178_0)
            (try rw [show 0 * 5 = 0 from rfl] at hw178_0)
            (try rw [Addr.add_zero'] at hw178_0)
            obtain rfl : ad173 = ad178 := (by injection e178)
            have qi178 : (0 < l0.length) = True := eq_true (by omega)
            (try rw [show ((0 : Int)).toNat = 0 from rfl] at hx178_0)
            (try rw [show 0 * 5 = 0 from rfl] at hx178_0)
            (try rw [Addr.add_zero'] at hx178_0)
            (try rw [show ((0 : Int)).toNat = 0 from rfl] at hx178_1)
            (try rw [show 0 * 5 = 0 from rfl] at hx178_1)
            (try rw [Addr.add_zero'] at hx178_1)
            (try rw [show ((0 : Int)).toNat = 0 from rfl] at hx178_2)
            (try rw [show 0 * 5 = 0 from rfl] at hx178_2)
            (try rw [Addr.add_zero'] at hx178_2)
            (try rw [show ((0 : Int)).toNat = 0 from rfl] at hx178_3)
            (try rw [show 0 * 5 = 0 from rfl] at hx178_3)
            (try rw [Addr.add_zero'] at hx178_3)
            (try rw [show ((0 : Int)).toNat = 0 from rfl] at hx178_4)
            (try rw [show 0 * 5 = 0 from rfl] at hx178_4)
            (try rw [Addr.add_zero'] at hx178_4)
            replace hx178_0 := hx_ HB hx178_0
            replace hx178_1 := hx_ HB hx178_1
            replace hx178_2 := hx_ HB hx178_2
            replace hx178_3 := hx_ HB hx178_3
            replace hx178_4 := hx_ HB hx178_4
            replace p178 := eq_true p178
            replace q178 := eq_true q178
            refine st_ 36 (S := fun w' => he5 w' (ad173.add ((x3_1).toNat * 5)) (.int .i64 ((rd_T127 l0 x3_1).f0)) (.int .i64 ((rd_T127 l0 x3_1).f1)) (.int .i64 ((rd_T127 l0 x3_1).f2)) (.bool ((rd_T127 l0 x3_1).f3)) (.int .i64 ((rd_T127 l0 x3_1).f4)) (he5 w' (ad173.add ((x3_1).toNat * 5)) (.int .i64 ((rd_T127 l0 x3_1).f0)) (.int .i64 ((rd_T127 l0 x3_1).f1)) (.int .i64 ((rd_T127 l0 x3_1).f2)) (.bool ((rd_T127 l0 x3_1).f3)) (.int .i64 ((rd_T127 l0 x3_1).f4)) (he5 w' (ad173.add (((ji7)).toNat * 5)) (.int .i64 ((rd_T127 l0 (ji7)).f0)) (.int .i64 ((rd_T127 l0 (ji7)).f1)) (.int .i64 ((rd_T127 l0 (ji7)).f2)) (.bool ((rd_T127 l0 (ji7)).f3)) (.int .i64 ((rd_T127 l0 (ji7)).f4)) (he5 w' (ad173.add ((x3_1).toNat * 5)) (.int .i64 ((rd_T127 l0 x3_1).f0)) (.int .i64 ((rd_T127 l0 x3_1).f1)) (.int .i64 ((rd_T127 l0 x3_1).f2)) (.bool ((rd_T127 l0 x3_1).f3)) (.int .i64 ((rd_T127 l0 x3_1).f4)) ((w'.cell? ad173 = some (.int .i64 ((rd_T127 l0 0).f0))) ∧ (w'.cell? ⟨ad173.block,ad173.off + 1,none⟩ = some (.int .i64 ((rd_T127 l0 0).f1))) ∧ (w'.cell? ⟨ad173.block,ad173.off + 2,none⟩ = some (.int .i64 ((rd_T127 l0 0).f2))) ∧ (w'.cell? ⟨ad173.block,ad173.off + 3,none⟩ = some (.bool ((rd_T127 l0 0).f3))) ∧ w'.cell? ⟨ad173.block,ad173.off + 4,none⟩ = some (.int .i64 ((rd_T127 l0 0).f4))))))) hh_ (fun hHeld => ?_);refine with_tabW spec_l2Sets.tab4 spec_l2Sets.bits4 (fun HT_ HW_ => ?_)
            generalize wr.drew = w17 at HB hx173_0 hx173_1 hx173_2 hx173_3 hx173_4 hx175_0 hx175_1 hx175_2 hx175_3 hx175_4 hx176_0 hx176_1 hx176_2 hx176_3 hx176_4 hx177_0 hx177_1 hx177_2 hx177_3 hx177_4 hx178_0 hx178_1 hx178_2 hx178_3 hx178_4 hHeld ⊢
            refine pv_ 0 10 ?_
            refine pv_ 1 11 ?_
            refine pv_ 2 12 ?_
            refine tx_ 3 13 hHeld ?_
            refine oy_ 4 14 (fun K hK => ?_)
            refine gs_ Try.func140 #[.agg #[.int .i64 ((rd_T127 l0 x3_1).f0),.int .i64 ((rd_T127 l0 x3_1).f1),.int .i64 ((rd_T127 l0 x3_1).f2),.bool ((rd_T127 l0 x3_1).f3),.int .i64 ((rd_T127 l0 x3_1).f4)]] ?_
            with_reducible refine (spec_SetOk.calls ((rd_T127 l0 x3_1).f0) ((rd_T127 l0 x3_1).f1) ((rd_T127 l0 x3_1).f2) ((rd_T127 l0 x3_1).f3) ((rd_T127 l0 x3_1).f4) true _ A4.out).mono ?_
            rintro e w18 ⟨rfl,hb⟩
            refine ⟨_,rfl,?_⟩
            replace HB := ak (below_step b_ hb)
            (try clear hb)
            (try clear hb2)
            (try clear hk)
            (try clear hi)
            refine hK.out _ _ hh_ (fun hHeld => ?_)
            clear hK K
            refine nr_ (some 14) _ ?_
            refine pv_ 5 15 ?_
            refine pv_ 6 16 ?_
            refine pv_ 7 17 ?_
            refine pv_ 8 18 ?_
            refine pv_ 9 19 ?_
            refine pv_ 10 20 ?_
            refine pv_ 11 21 ?_
            refine pv_ 12 22 ?_
            refine pv_ 13 23 ?_
            refine pv_ 15 25 ?_
            refine pv_ 16 26 ?_
            refine pv_ 17 27 ?_
            refine pv_ 18 28 ?_
            refine pv_ 19 29 ?_
            refine tx_ 14 24 hHeld ?_
            refine tx_ 20 30 hHeld ?_
            refine pv_ 21 31 ?_
            refine pv_ 22 32 ?_
            refine pv_ 23 33 ?_
            refine pv_ 24 34 ?_
            refine pv_ 25 35 ?_
            refine pv_ 26 36 ?_
            refine pv_ 28 38 ?_
            refine pv_ 29 39 ?_
            refine pv_ 30 40 ?_
            refine tx_ 27 37 hHeld ?_
            refine tx_ 31 41 hHeld ?_
            refine pv_ 32 42 ?_
            refine pv_ 33 43 ?_
            refine pv_ 34 44 ?_
            refine pv_ 35 45 ?_
            refine done_ (done_of HT_.out (by kernel_rfl)) ?_
            try go_wp2
            go_ret
            exact ⟨by first|rfl|(simp [errW_none,errW_some] <;> rfl)|(simp only [← hji7];first|rfl|(simp [errW_none,errW_some] <;> rfl))|(simp [*,errW_none,errW_some] <;> rfl),b_⟩
          ·rw [if_neg c13] at H
           exact absurd H (by simp)
        ·rw [if_neg c9] at H
         exact absurd H (by simp)
       ·rw [if_neg c8] at H
        exact absurd H (by simp)
      ·rw [if_neg c6] at H
       have c6b0 : decide (0 < x3_1) = false := decide_eq_false c6
       clear c6
       have H' := ak H
       clear H
       try go_wp2
       replace HB := ak (below_drew1 HB.out)
       have p173 : 0 ≤ (x3_1 : Int) := od_
       have q173 : x3_1 < (l0.length : Int) := od_
       obtain ⟨ad173,e173,hx173_0,hx173_1,hx173_2,hx173_3,hx173_4⟩ := at_T127 HR0.out x3_1 p173 q173
       have hw173_4 := hx173_4
       have hw173_3 := hx173_3
       have hw173_2 := hx173_2
       have hw173_1 := hx173_1
       have hw173_0 := hx173_0
       cases e173
       replace hx173_0 := hx_ HB hx173_0
       replace hx173_1 := hx_ HB hx173_1
       replace hx173_2 := hx_ HB hx173_2
       replace hx173_3 := hx_ HB hx173_3
       replace hx173_4 := hx_ HB hx173_4
       replace p173 := eq_true p173
       replace q173 := eq_true q173
       refine st_ 36 (S := fun w' => hf5 w' (ad173.add ((x3_1).toNat * 5)) (.int .i64 ((rd_T127 l0 x3_1).f0)) (.int .i64 ((rd_T127 l0 x3_1).f1)) (.int .i64 ((rd_T127 l0 x3_1).f2)) (.bool ((rd_T127 l0 x3_1).f3)) (.int .i64 ((rd_T127 l0 x3_1).f4))) hh_ (fun hHeld => ?_);refine with_tabW spec_l2Sets.tab4 spec_l2Sets.bits4 (fun HT_ HW_ => ?_)
       generalize wr.drew = w19 at HB hx173_0 hx173_1 hx173_2 hx173_3 hx173_4 hHeld ⊢
       refine pv_ 0 10 ?_
       refine pv_ 1 11 ?_
       refine pv_ 2 12 ?_
       refine tx_ 3 13 hHeld ?_
       refine oy_ 4 14 (fun K hK => ?_)
       refine gs_ Try.func140 #[.agg #[.int .i64 ((rd_T127 l0 x3_1).f0),.int .i64 ((rd_T127 l0 x3_1).f1),.int .i64 ((rd_T127 l0 x3_1).f2),.bool ((rd_T127 l0 x3_1).f3),.int .i64 ((rd_T127 l0 x3_1).f4)]] ?_
       with_reducible refine (spec_SetOk.calls ((rd_T127 l0 x3_1).f0) ((rd_T127 l0 x3_1).f1) ((rd_T127 l0 x3_1).f2) ((rd_T127 l0 x3_1).f3) ((rd_T127 l0 x3_1).f4) true _ A4.out).mono ?_
       rintro e w20 ⟨rfl,hb⟩
       refine ⟨_,rfl,?_⟩
       replace HB := ak (below_step b_ hb)
       (try clear hb)
       (try clear hb2)
       (try clear hk)
       (try clear hi)
       refine hK.out _ _ hh_ (fun hHeld => ?_)
       clear hK K
       refine nr_ (some 14) _ ?_
       refine pv_ 5 15 ?_
       refine pv_ 6 16 ?_
       refine pv_ 7 17 ?_
       refine pv_ 8 18 ?_
       refine pv_ 9 19 ?_
       refine pn_ 10 20 ?_
       refine pn_ 11 21 ?_
       refine pn_ 12 22 ?_
       refine pn_ 13 23 ?_
       refine pn_ 14 24 ?_
       refine pn_ 15 25 ?_
       refine pn_ 16 26 ?_
       refine pn_ 17 27 ?_
       refine pn_ 18 28 ?_
       refine pn_ 19 29 ?_
       refine pn_ 20 30 ?_
       refine pn_ 21 31 ?_
       refine pn_ 22 32 ?_
       refine pn_ 23 33 ?_
       refine pn_ 24 34 ?_
       refine pn_ 25 35 ?_
       refine pn_ 26 36 ?_
       refine pn_ 27 37 ?_
       refine pn_ 28 38 ?_
       refine pn_ 29 39 ?_
       refine pn_ 30 40 ?_
       refine pn_ 31 41 ?_
       refine pn_ 32 42 ?_
       refine pn_ 33 43 ?_
       refine pv_ 34 44 ?_
       refine pv_ 35 45 ?_
       refine done_ (done_of HT_.out (by kernel_rfl)) ?_
       try go_wp2
       go_roundg k1
       case measure => have := HK1.out;omega
       case rel => exact ⟨(wrap64 (x3_1 + 1)),rs_,H',⟨by have := HK1.out;omega⟩,⟨b_⟩⟩
     ·replace c5 := Bool.eq_false_iff.mpr c5
      subst c5
      replace H := ie_ H
      obtain rfl := Option.some.inj H
      try go_wp2
      replace HB := ak (below_drew1 HB.out)
      have p173 : 0 ≤ (x3_1 : Int) := od_
      have q173 : x3_1 < (l0.length : Int) := od_
      obtain ⟨ad173,e173,hx173_0,hx173_1,hx173_2,hx173_3,hx173_4⟩ := at_T127 HR0.out x3_1 p173 q173
      have hw173_4 := hx173_4
      have hw173_3 := hx173_3
      have hw173_2 := hx173_2
      have hw173_1 := hx173_1
      have hw173_0 := hx173_0
      cases e173
      replace hx173_0 := hx_ HB hx173_0
      replace hx173_1 := hx_ HB hx173_1
      replace hx173_2 := hx_ HB hx173_2
      replace hx173_3 := hx_ HB hx173_3
      replace hx173_4 := hx_ HB hx173_4
      replace p173 := eq_true p173
      replace q173 := eq_true q173
      refine st_ 36 (S := fun w' => hf5 w' (ad173.add ((x3_1).toNat * 5)) (.int .i64 ((rd_T127 l0 x3_1).f0)) (.int .i64 ((rd_T127 l0 x3_1).f1)) (.int .i64 ((rd_T127 l0 x3_1).f2)) (.bool ((rd_T127 l0 x3_1).f3)) (.int .i64 ((rd_T127 l0 x3_1).f4))) hh_ (fun hHeld => ?_);refine with_tabW spec_l2Sets.tab4 spec_l2Sets.bits4 (fun HT_ HW_ => ?_)
      generalize wr.drew = w21 at HB hx173_0 hx173_1 hx173_2 hx173_3 hx173_4 hHeld ⊢
      refine pv_ 0 10 ?_
      refine pv_ 1 11 ?_
      refine pv_ 2 12 ?_
      refine tx_ 3 13 hHeld ?_
      refine oy_ 4 14 (fun K hK => ?_)
      refine gs_ Try.func140 #[.agg #[.int .i64 ((rd_T127 l0 x3_1).f0),.int .i64 ((rd_T127 l0 x3_1).f1),.int .i64 ((rd_T127 l0 x3_1).f2),.bool ((rd_T127 l0 x3_1).f3),.int .i64 ((rd_T127 l0 x3_1).f4)]] ?_
      with_reducible refine (spec_SetOk.calls ((rd_T127 l0 x3_1).f0) ((rd_T127 l0 x3_1).f1) ((rd_T127 l0 x3_1).f2) ((rd_T127 l0 x3_1).f3) ((rd_T127 l0 x3_1).f4) false _ A4.out).mono ?_
      rintro e w22 ⟨rfl,hb⟩
      refine ⟨_,rfl,?_⟩
      replace HB := ak (below_step b_ hb)
      (try clear hb)
      (try clear hb2)
      (try clear hk)
      (try clear hi)
      refine hK.out _ _ hh_ (fun hHeld => ?_)
      clear hK K
      refine nr_ (some 14) _ ?_
      refine pv_ 5 15 ?_
      refine pv_ 6 16 ?_
      refine pn_ 7 17 ?_
      refine pn_ 8 18 ?_
      refine pn_ 9 19 ?_
      refine pn_ 10 20 ?_
      refine pn_ 11 21 ?_
      refine pn_ 12 22 ?_
      refine pn_ 13 23 ?_
      refine pn_ 14 24 ?_
      refine pn_ 15 25 ?_
      refine pn_ 16 26 ?_
      refine pn_ 17 27 ?_
      refine pn_ 18 28 ?_
      refine pn_ 19 29 ?_
      refine pn_ 20 30 ?_
      refine pn_ 21 31 ?_
      refine pn_ 22 32 ?_
      refine pn_ 23 33 ?_
      refine pn_ 24 34 ?_
      refine pn_ 25 35 ?_
      refine pn_ 26 36 ?_
      refine pn_ 27 37 ?_
      refine pn_ 28 38 ?_
      refine pn_ 29 39 ?_
      refine pn_ 30 40 ?_
      refine pn_ 31 41 ?_
      refine pn_ 32 42 ?_
      refine pn_ 33 43 ?_
      refine pn_ 34 44 ?_
      refine pv_ 35 45 ?_
      refine done_ (done_of HT_.out (by kernel_rfl)) ?_
      try go_wp2
      go_ret
      exact ⟨rf_,b_⟩
    ·rw [if_neg c3] at H
     exact absurd H (by simp)
   ·rw [if_neg c2] at H
    have c2b0 : decide (x3_1 < (l0.length : Int)) = false := decide_eq_false c2
    clear c2
    obtain rfl := Option.some.inj H
    go_wp2
    go_ret
    exact ⟨rf_,b_⟩

end Go.Proofs.Ythplaakckfhaaaa.XCd
