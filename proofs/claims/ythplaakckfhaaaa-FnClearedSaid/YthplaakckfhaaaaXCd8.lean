/- Proved: of each Go function here that a call comes to what the Lean function of its name tells. Written by a program of this session over the translation. No conditions beyond each theorem's own. -/
import Derived.Test.YthplaakckfhaaaaXCd0
import Derived.Test.YthplaakckfhaaaaXCd7
namespace Go.Proofs.Ythplaakckfhaaaa.XCd
open Go.RowKit Go.Proofs.Ythplaakckfhaaaa.Aid Go.Proofs.YthplaakckfhaaaaW.PrintWords Go.Proofs.YthplaakckfhaaaaW.PrintLast Go.Proofs.YthplaakckfhaaaaW.PrintMore
set_option linter.unusedVariables false
set_option linter.unusedSimpArgs false

/-! ### spec_l6Rises: function 46 -/
def spec_l6Rises.l0 : Nat → List Int → Int → Option (Bool)
  | 0, _, _ => none
  | k + 1, x0, x3 => if x3 < (x0.length : Int) then (if 0 ≤ x3 then ((spec_l1Id.f (rd x0 x3)).bind fun t155 => (if t155 = true then (if x3 > 0 then (if 0 ≤ (wrap64 (x3 - 1)) then (if (wrap64 (x3 - 1)) < (x0.length : Int) then (if (rd x0 x3) ≤ (rd x0 (wrap64 (x3 - 1))) then (some false) else (spec_l6Rises.l0 k x0 (wrap64 (x3 + 1)))) else (none)) else (none)) else (spec_l6Rises.l0 k x0 (wrap64 (x3 + 1)))) else (some false))) else (none)) else (some true)
def spec_l6Rises.f (k : Nat) (l0 : List Int) : Option (Bool) := spec_l6Rises.l0 k l0 0

def spec_l6Rises.T4 : Bool × List (List Nat × List Nat) := (true, [([], []), ([], []), ([0, 1], [0, 1]), ([2], [2]), ([3], [3]), ([4], [4]), ([5, 4], [5]), ([6], [6]), ([7, 6], [6, 7]), ([8, 6, 6], [6, 8]), ([9], [9]), ([9], [9]), ([10, 11, 9], [9, 10, 11]), ([12, 9], [9, 12]), ([9], [9]), ([9], [9]), ([15, 9], [9, 15]), ([14, 16, 9], [9, 14, 16]), ([17, 9], [9, 17]), ([13, 18, 9], [9, 13, 18]), ([9, 19, 6], [6, 9, 19]), ([6, 20], [6, 20])])
def spec_l6Rises.B4 : List Nat := [0, 0, 3, 7, 15, 31, 63, 127, 255, 511, 1023, 1023, 4095, 8191, 1023, 1023, 33791, 115711, 246783, 524287, 1048575, 2097151]
theorem spec_l6Rises.tab4 : rtab .any (opsOf Try.f46 4) = spec_l6Rises.T4 := by kernel_rfl
theorem spec_l6Rises.bits4 : waitsOk spec_l6Rises.T4.2 spec_l6Rises.B4 = true := by kernel_rfl
set_option maxHeartbeats 8000000 in
set_option maxRecDepth 100000 in
theorem spec_l6Rises.calls (k : Nat) (A0 : Option Addr) (c0 : Nat) (l0 : List Int) (r : Bool) (w : World) (hr0 : Kd.C (Kd.int .i64) w A0 l0.length l0) (hc0 : l0.length ≤ c0) (h : spec_l6Rises.f k l0 = some r) :
    Calls Try.prog 46 #[.slice A0 l0.length c0] w fun e w' => e = .returned (.bool r) ∧ Below w.heap.size w w' := by
 have HR0 := ak hr0
 have HC0 := ak hc0
 clear hr0 hc0
 have HB := ak (Below.refl w.heap.size w)
 have H : (spec_l6Rises.l0 k l0 0) = some r := h
 clear h
 have H' := ak H
 clear H
 go_enter Try.func46,Try.ntmps46
 go_wp2
 go_loopg [3] k (fun kq v3 w' => ∃ (x3_1 : Int),v3 = .int .i64 x3_1 ∧ Aside0 (spec_l6Rises.l0 kq l0 x3_1 = some r) ∧ Aside0 (kq ≤ k) ∧ Aside0 (Below w.heap.size w w'))
 case atStart => exact ⟨(0),rs_,H',⟨Nat.le_refl _⟩,⟨b_⟩⟩
 case round =>
  clear H'
  obtain ⟨x3_1,rfl,HA,HK1,HB⟩ := hrel
  cases gk with
    | zero => exact absurd HA.out (by simp [spec_l6Rises.l0])
    | succ k1 =>
   have H := HA.out
   clear HA
   simp only [spec_l6Rises.l0] at H
   by_cases c2 : x3_1 < (l0.length : Int)
   ·rw [if_pos c2] at H
    have c2b0 : decide (x3_1 < (l0.length : Int)) = true := decide_eq_true c2
    clear c2
    by_cases c3 : 0 ≤ x3_1
    ·rw [if_pos c3] at H
     have c3b0 : decide (0 ≤ x3_1) = true := decide_eq_true c3
     clear c3
     replace H := bs_ H
     obtain ⟨t155,A4,H⟩ := H
     by_cases c5 : t155 = true
     ·subst c5
      replace H := it_ H
      by_cases c6 : x3_1 > 0
      ·rw [if_pos c6] at H
       have c6b0 : decide (0 < x3_1) = true := decide_eq_true c6
       clear c6
       obtain ⟨ji7,hji7⟩ : ∃ j_ : Int,(wrap64 (x3_1 - 1)) = j_ := ⟨_,rfl⟩
       replace H : (if 0 ≤ (ji7) then (if (ji7) < (l0.length : Int) then (if (rd l0 x3_1) ≤ (rd l0 (ji7)) then (some false) else (spec_l6Rises.l0 k1 l0 (wrap64 (x3_1 + 1)))) else (none)) else (none)) = some r := by first|(rw [hji7] at H;exact H)|(simp only [hji7] at H ⊢;exact H)
       (try rw [hji7] at A4)
       have hji7w : (IntKind.i64.wrap (x3_1 - 1)) = ji7 := (i64_w _).trans hji7
       by_cases c8 : 0 ≤ (ji7)
       ·rw [if_pos c8] at H
        have c8b0 : decide (0 ≤ (ji7)) = true := decide_eq_true c8
        clear c8
        by_cases c9 : (ji7) < (l0.length : Int)
        ·rw [if_pos c9] at H
         have c9b0 : decide ((ji7) < (l0.length : Int)) = true := decide_eq_true c9
         clear c9
         by_cases c10 : (rd l0 x3_1) ≤ (rd l0 (ji7))
         ·rw [if_pos c10] at H
          have c10b0 : decide ((rd l0 x3_1) ≤ (rd l0 (ji7))) = true := decide_eq_true c10
          clear c10
          obtain rfl := Option.some.inj H
          try go_wp2
          replace HB := ak (below_drew1 HB.out)
          have p154 : 0 ≤ (x3_1 : Int) := od_
          have q154 : x3_1 < (l0.length : Int) := od_
          obtain ⟨ad154,e154,hx154_0⟩ := Kd.at_int HR0.out x3_1 p154 q154
          have hw154_0 := hx154_0
          cases e154
          replace hx154_0 := hx_ HB hx154_0
          replace p154 := eq_true p154
          replace q154 := eq_true q154
          have p156 : 0 ≤ (x3_1 : Int) := od_
          have q156 : x3_1 < (l0.length : Int) := od_
          obtain ⟨ad156,e156,hx156_0⟩ := Kd.at_int HR0.out x3_1 p156 q156
          have hw156_0 := hx156_0
          obtain rfl : ad154 = ad156 := (by injection e156)
          replace hx156_0 := hx_ HB hx156_0
          replace p156 := eq_true p156
          replace q156 := eq_true q156
          have p157 : 0 ≤ ((ji7) : Int) := od_
          have q157 : (ji7) < (l0.length : Int) := od_
          obtain ⟨ad157,e157,hx157_0⟩ := Kd.at_int HR0.out (ji7) p157 q157
          have hw157_0 := hx157_0
          obtain rfl : ad154 = ad157 := (by injection e157)
          replace hx157_0 := hx_ HB hx157_0
          replace p157 := eq_true p157
          replace q157 := eq_true q157
          refine st_ 22 (S := fun w' => (w'.cell? (ad154.add (x3_1).toNat) = some (.int .i64 (rd l0 x3_1))) ∧ (w'.cell? (ad154.add (x3_1).toNat) = some (.int .i64 (rd l0 x3_1))) ∧ w'.cell? (ad154.add ((ji7)).toNat) = some (.int .i64 (rd l0 (ji7)))) hh_ (fun hHeld => ?_);refine with_tabW spec_l6Rises.tab4 spec_l6Rises.bits4 (fun HT_ HW_ => ?_)
          generalize wr.drew = w11 at HB hx154_0 hx156_0 hx157_0 hHeld ⊢
          refine pv_ 0 10 ?_
          refine pv_ 1 11 ?_
          refine pv_ 2 12 ?_
          refine tx_ 3 13 hHeld ?_
          refine oy_ 4 14 (fun K hK => ?_)
          refine gs_ Try.func95 #[.int .i64 (rd l0 x3_1)] ?_
          with_reducible refine (spec_l1Id.calls (rd l0 x3_1) true _ A4.out).mono ?_
          rintro e w' ⟨rfl,⟨nd,rfl⟩⟩
          refine ⟨_,rfl,?_⟩
          refine hK.out _ _ hh_ (fun hHeld => ?_)
          clear hK K
          refine nr_ (some 14) _ ?_
          refine pv_ 5 15 ?_
          refine pv_ 6 16 ?_
          refine pv_ 7 17 ?_
          refine pv_ 8 18 ?_
          refine pv_ 9 19 ?_
          refine pv_ 10 20 ?_
          refine pv_ 11 21 ?_
          refine pv_ 12 22 ?_
          refine pv_ 14 24 ?_
          refine pv_ 15 25 ?_
          refine pv_ 16 26 ?_
          refine pv_ 17 27 ?_
          refine tx_ 13 23 hHeld ?_
          refine tx_ 18 28 hHeld ?_
          refine pv_ 19 29 ?_
          refine pv_ 20 30 ?_
          refine pv_ 21 31 ?_
          refine done_ (done_of HT_.out (by kernel_rfl)) ?_
          try go_wp2
          go_ret
          exact ⟨by first|rfl|(simp [errW_none,errW_some] <;> rfl)|(simp only [← hji7];first|rfl|(simp [errW_none,errW_some] <;> rfl))|(simp [*,errW_none,errW_some] <;> rfl),b_⟩
         ·rw [if_neg c10] at H
          have c10b0 : decide ((rd l0 x3_1) ≤ (rd l0 (ji7))) = false := decide_eq_false c10
          clear c10
          have H' := ak H
          clear H
          try go_wp2
          replace HB := ak (below_drew1 HB.out)
          have p154 : 0 ≤ (x3_1 : Int) := od_
          have q154 : x3_1 < (l0.length : Int) := od_
          obtain ⟨ad154,e154,hx154_0⟩ := Kd.at_int HR0.out x3_1 p154 q154
          have hw154_0 := hx154_0
          cases e154
          replace hx154_0 := hx_ HB hx154_0
          replace p154 := eq_true p154
          replace q154 := eq_true q154
          have p156 : 0 ≤ (x3_1 : Int) := od_
          have q156 : x3_1 < (l0.length : Int) := od_
          obtain ⟨ad156,e156,hx156_0⟩ := Kd.at_int HR0.out x3_1 p156 q156
          have hw156_0 := hx156_0
          obtain rfl : ad154 = ad156 := (by injection e156)
          replace hx156_0 := hx_ HB hx156_0
          replace p156 := eq_true p156
          replace q156 := eq_true q156
          have p157 : 0 ≤ ((ji7) : Int) := od_
          have q157 : (ji7) < (l0.length : Int) := od_
          obtain ⟨ad157,e157,hx157_0⟩ := Kd.at_int HR0.out (ji7) p157 q157
          have hw157_0 := hx157_0
          obtain rfl : ad154 = ad157 := (by injection e157)
          replace hx157_0 := hx_ HB hx157_0
          replace p157 := eq_true p157
          replace q157 := eq_true q157
          refine st_ 22 (S := fun w' => (w'.cell? (ad154.add (x3_1).toNat) = some (.int .i64 (rd l0 x3_1))) ∧ (w'.cell? (ad154.add (x3_1).toNat) = some (.int .i64 (rd l0 x3_1))) ∧ w'.cell? (ad154.add ((ji7)).toNat) = some (.int .i64 (rd l0 (ji7)))) hh_ (fun hHeld => ?_);refine with_tabW spec_l6Rises.tab4 spec_l6Rises.bits4 (fun HT_ HW_ => ?_)
          generalize wr.drew = w12 at HB hx154_0 hx156_0 hx157_0 hHeld ⊢
          refine pv_ 0 10 ?_
          refine pv_ 1 11 ?_
          refine pv_ 2 12 ?_
          refine tx_ 3 13 hHeld ?_
          refine oy_ 4 14 (fun K hK => ?_)
          refine gs_ Try.func95 #[.int .i64 (rd l0 x3_1)] ?_
          with_reducible refine (spec_l1Id.calls (rd l0 x3_1) true _ A4.out).mono ?_
          rintro e w' ⟨rfl,⟨nd,rfl⟩⟩
          refine ⟨_,rfl,?_⟩
          refine hK.out _ _ hh_ (fun hHeld => ?_)
          clear hK K
          refine nr_ (some 14) _ ?_
          refine pv_ 5 15 ?_
          refine pv_ 6 16 ?_
          refine pv_ 7 17 ?_
          refine pv_ 8 18 ?_
          refine pv_ 9 19 ?_
          refine pv_ 10 20 ?_
          refine pv_ 11 21 ?_
          refine pv_ 12 22 ?_
          refine pv_ 14 24 ?_
          refine pv_ 15 25 ?_
          refine pv_ 16 26 ?_
          refine pv_ 17 27 ?_
          refine tx_ 13 23 hHeld ?_
          refine tx_ 18 28 hHeld ?_
          refine pv_ 19 29 ?_
          refine pv_ 20 30 ?_
          refine pv_ 21 31 ?_
          refine done_ (done_of HT_.out (by kernel_rfl)) ?_
          try go_wp2
          go_roundg k1
          case measure => have := HK1.out;omega
          case rel => exact ⟨(wrap64 (x3_1 + 1)),rs_,H',⟨by have := HK1.out;omega⟩,⟨b_⟩⟩
        ·rw [if_neg c9] at H
         exact absurd H (by simp)
       ·rw [if_neg c8] at H
        exact absurd H (by simp)
      ·rw [if_neg c6] at H
       have c6b0 : decide (0 < x3_1) = false := decide_eq_false c6
       clear c6
       have H' := ak H
       clear H
       try go_wp2
       replace HB := ak (below_drew1 HB.out)
       have p154 : 0 ≤ (x3_1 : Int) := od_
       have q154 : x3_1 < (l0.length : Int) := od_
       obtain ⟨ad154,e154,hx154_0⟩ := Kd.at_int HR0.out x3_1 p154 q154
       have hw154_0 := hx154_0
       cases e154
       replace hx154_0 := hx_ HB hx154_0
       replace p154 := eq_true p154
       replace q154 := eq_true q154
       refine st_ 22 (S := fun w' => w'.cell? (ad154.add (x3_1).toNat) = some (.int .i64 (rd l0 x3_1))) hh_ (fun hHeld => ?_);refine with_tabW spec_l6Rises.tab4 spec_l6Rises.bits4 (fun HT_ HW_ => ?_)
       generalize wr.drew = w13 at HB hx154_0 hHeld ⊢
       refine pv_ 0 10 ?_
       refine pv_ 1 11 ?_
       refine pv_ 2 12 ?_
       refine tz_ (i := 3) (N := some 13) (v := ?_) (a' := ?_) HT_.out HW_.out rfl rfl (by kernel_rfl) (fun _ _ _ h => h) (Or.inl ⟨by rfl,?_⟩) hHeld ?_ ?_
       rotate_left
       ·intro w' s0
        go_simp
        with_reducible rfl
       rotate_left
       ·simp only [Act.put,q1,q2,q3,i64_w,i32_w]
        rfl
       refine oy_ 4 14 (fun K hK => ?_)
       refine gs_ Try.func95 #[.int .i64 (rd l0 x3_1)] ?_
       with_reducible refine (spec_l1Id.calls (rd l0 x3_1) true _ A4.out).mono ?_
       rintro e w' ⟨rfl,⟨nd,rfl⟩⟩
       refine ⟨_,rfl,?_⟩
       refine hK.out _ _ hh_ (fun hHeld => ?_)
       clear hK K
       refine nr_ (some 14) _ ?_
       refine pv_ 5 15 ?_
       refine pv_ 6 16 ?_
       refine pv_ 7 17 ?_
       refine pv_ 8 18 ?_
       refine pv_ 9 19 ?_
       refine pn_ 10 20 ?_
       refine pn_ 11 21 ?_
       refine pn_ 12 22 ?_
       refine pn_ 13 23 ?_
       refine pn_ 14 24 ?_
       refine pn_ 15 25 ?_
       refine pn_ 16 26 ?_
       refine pn_ 17 27 ?_
       refine pn_ 18 28 ?_
       refine pn_ 19 29 ?_
       refine pv_ 20 30 ?_
       refine pv_ 21 31 ?_
       refine done_ (done_of HT_.out (by kernel_rfl)) ?_
       try go_wp2
       go_roundg k1
       case measure => have := HK1.out;omega
       case rel => exact ⟨(wrap64 (x3_1 + 1)),rs_,H',⟨by have := HK1.out;omega⟩,⟨b_⟩⟩
     ·replace c5 := Bool.eq_false_iff.mpr c5
      subst c5
      replace H := ie_ H
      obtain rfl := Option.some.inj H
      try go_wp2
      replace HB := ak (below_drew1 HB.out)
      have p154 : 0 ≤ (x3_1 : Int) := od_
      have q154 : x3_1 < (l0.length : Int) := od_
      obtain ⟨ad154,e154,hx154_0⟩ := Kd.at_int HR0.out x3_1 p154 q154
      have hw154_0 := hx154_0
      cases e154
      replace hx154_0 := hx_ HB hx154_0
      replace p154 := eq_true p154
      replace q154 := eq_true q154
      refine st_ 22 (S := fun w' => w'.cell? (ad154.add (x3_1).toNat) = some (.int .i64 (rd l0 x3_1))) hh_ (fun hHeld => ?_);refine with_tabW spec_l6Rises.tab4 spec_l6Rises.bits4 (fun HT_ HW_ => ?_)
      generalize wr.drew = w14 at HB hx154_0 hHeld ⊢
      refine pv_ 0 10 ?_
      refine pv_ 1 11 ?_
      refine pv_ 2 12 ?_
      refine tz_ (i := 3) (N := some 13) (v := ?_) (a' := ?_) HT_.out HW_.out rfl rfl (by kernel_rfl) (fun _ _ _ h => h) (Or.inl ⟨by rfl,?_⟩) hHeld ?_ ?_
      rotate_left
      ·intro w' s0
       go_simp
       with_reducible rfl
      rotate_left
      ·simp only [Act.put,q1,q2,q3,i64_w,i32_w]
       rfl
      refine oy_ 4 14 (fun K hK => ?_)
      refine gs_ Try.func95 #[.int .i64 (rd l0 x3_1)] ?_
      with_reducible refine (spec_l1Id.calls (rd l0 x3_1) false _ A4.out).mono ?_
      rintro e w' ⟨rfl,⟨nd,rfl⟩⟩
      refine ⟨_,rfl,?_⟩
      refine hK.out _ _ hh_ (fun hHeld => ?_)
      clear hK K
      refine nr_ (some 14) _ ?_
      refine pv_ 5 15 ?_
      refine pv_ 6 16 ?_
      refine pn_ 7 17 ?_
      refine pn_ 8 18 ?_
      refine pn_ 9 19 ?_
      refine pn_ 10 20 ?_
      refine pn_ 11 21 ?_
      refine pn_ 12 22 ?_
      refine pn_ 13 23 ?_
      refine pn_ 14 24 ?_
      refine pn_ 15 25 ?_
      refine pn_ 16 26 ?_
      refine pn_ 17 27 ?_
      refine pn_ 18 28 ?_
      refine pn_ 19 29 ?_
      refine pn_ 20 30 ?_
      refine pv_ 21 31 ?_
      refine done_ (done_of HT_.out (by kernel_rfl)) ?_
      try go_wp2
      go_ret
      exact ⟨rf_,b_⟩
    ·rw [if_neg c3] at H
     exact absurd H (by simp)
   ·rw [if_neg c2] at H
    have c2b0 : decide (x3_1 < (l0.length : Int)) = false := decide_eq_false c2
    clear c2
    obtain rfl := Option.some.inj H
    go_wp2
    go_ret
    exact ⟨rf_,b_⟩

/-! ### spec_l1Region: function 47 -/
def spec_l1Region.f (a0 : Int) : Option (Bool) := (spec_l1In.f a0 0 5).bind fun t158 => (some t158)
set_option maxHeartbeats 8000000 in
set_option maxRecDepth 100000 in
theorem spec_l1Region.calls (a0 : Int) (r : Bool) (w : World) (h : spec_l1Region.f a0 = some r) :
    Calls Try.prog 47 #[.int .i64 a0] w fun e w' => e = .returned (.bool r) ∧ Drawn0 w w' := by
 have H : ((spec_l1In.f a0 0 5).bind fun t158 => (some t158)) = some r := h
 clear h
 replace H := bs_ H
 obtain ⟨t158,A2,H⟩ := H
 obtain rfl := Option.some.inj H
 go_enter Try.func47,Try.ntmps47
 go_wp2_with (first|((with_reducible refine gcal_ (f := 102) rfl ?_);refine gl_ (some 4) Try.func102 #[.int .i64 a0,.int .i64 0,.int .i64 5] ?_;(with_reducible refine (spec_l1In.calls a0 0 5 t158 _ A2.out).mono ?_);rintro e w' ⟨rfl,⟨nd,rfl⟩⟩;refine ⟨_,rfl,?_⟩))
 go_ret
 exact ⟨rs_,by repeat (first|exact Drawn0.refl _|apply Drawn0.step)⟩

/-! ### spec_HeadOk: function 103 -/
def spec_HeadOk.f (a0 : Int) : Option (Bool) := (spec_l1In.f a0 0 4000003).bind fun t159 => (some t159)
set_option maxHeartbeats 8000000 in
set_option maxRecDepth 100000 in
theorem spec_HeadOk.calls (a0 : Int) (r : Bool) (w : World) (h : spec_HeadOk.f a0 = some r) :
    Calls Try.prog 103 #[.int .i64 a0] w fun e w' => e = .returned (.bool r) ∧ Drawn0 w w' := by
 have H : ((spec_l1In.f a0 0 4000003).bind fun t159 => (some t159)) = some r := h
 clear h
 replace H := bs_ H
 obtain ⟨t159,A2,H⟩ := H
 obtain rfl := Option.some.inj H
 go_enter Try.func103,Try.ntmps103
 go_wp2_with (first|((with_reducible refine gcal_ (f := 102) rfl ?_);refine gl_ (some 4) Try.func102 #[.int .i64 a0,.int .i64 0,.int .i64 4000003] ?_;(with_reducible refine (spec_l1In.calls a0 0 4000003 t159 _ A2.out).mono ?_);rintro e w' ⟨rfl,⟨nd,rfl⟩⟩;refine ⟨_,rfl,?_⟩))
 go_ret
 exact ⟨rs_,by repeat (first|exact Drawn0.refl _|apply Drawn0.step)⟩

/-! ### spec_l1Value: function 104 -/
def spec_l1Value.f (a0 : Int) : Option (Bool) := (spec_l1In.f a0 (-1000000000) 1000000000).bind fun t160 => (some t160)
set_option maxHeartbeats 8000000 in
set_option maxRecDepth 100000 in
theorem spec_l1Value.calls (a0 : Int) (r : Bool) (w : World) (h : spec_l1Value.f a0 = some r) :
    Calls Try.prog 104 #[.int .i64 a0] w fun e w' => e = .returned (.bool r) ∧ Drawn0 w w' := by
 have H : ((spec_l1In.f a0 (-1000000000) 1000000000).bind fun t160 => (some t160)) = some r := h
 clear h
 replace H := bs_ H
 obtain ⟨t160,A2,H⟩ := H
 obtain rfl := Option.some.inj H
 go_enter Try.func104,Try.ntmps104
 go_wp2_with (first|((with_reducible refine gcal_ (f := 102) rfl ?_);refine gl_ (some 4) Try.func102 #[.int .i64 a0,.int .i64 (-1000000000),.int .i64 1000000000] ?_;(with_reducible refine (spec_l1In.calls a0 (-1000000000) 1000000000 t160 _ A2.out).mono ?_);rintro e w' ⟨rfl,⟨nd,rfl⟩⟩;refine ⟨_,rfl,?_⟩))
 go_ret
 exact ⟨rs_,by repeat (first|exact Drawn0.refl _|apply Drawn0.step)⟩

end Go.Proofs.Ythplaakckfhaaaa.XCd
