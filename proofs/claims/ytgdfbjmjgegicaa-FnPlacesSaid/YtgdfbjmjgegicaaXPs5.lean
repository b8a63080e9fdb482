/- Proved: of each Go function here that a call comes to what the Lean function of its name tells. Written by a program of this session over the translation. No conditions beyond each theorem's own. -/
import Derived.Test.YtgdfbjmjgegicaaXPs0
import Derived.Test.YtgdfbjmjgegicaaXPs1
import Derived.Test.YtgdfbjmjgegicaaXPs4
namespace Go.Proofs.Ytgdfbjmjgegicaa.XPs
open Go.RowKit Go.Proofs.Ytgdfbjmjgegicaa.Aid Go.Proofs.YtgdfbjmjgegicaaW.PrintWords Go.Proofs.YtgdfbjmjgegicaaW.PrintLast Go.Proofs.YtgdfbjmjgegicaaW.PrintMore
set_option linter.unusedVariables false
set_option linter.unusedSimpArgs false

/-! ### spec_PlacesOk: function 97 -/
mutual
def spec_PlacesOk.j0 : Nat → List (S84) → Bool → Option (Bool)
  | 0, _, _ => none
  | k + 1, x0, x13 => if x13 = true then (some false) else (spec_PlacesOk.l0 k x0 0)
def spec_PlacesOk.l0 : Nat → List (S84) → Int → Option (Bool)
  | 0, _, _ => none
  | k + 1, x0, x3 => if x3 < (x0.length : Int) then (if 0 ≤ x3 then (if (((rd_T84 x0 x3).f0).length : Int) < 1 then (spec_PlacesOk.j2 k x0 x3 ((rd_T84 x0 x3).f0) true) else (spec_PlacesOk.j2 k x0 x3 ((rd_T84 x0 x3).f0) (decide ((((rd_T84 x0 x3).f0).length : Int) > 3)))) else (none)) else (some true)
def spec_PlacesOk.j2 : Nat → List (S84) → Int → List Int → Bool → Option (Bool)
  | 0, _, _, _, _ => none
  | k + 1, x0, x3, x4, x32 => if x32 = true then (some false) else (spec_PlacesOk.l1 k x0 x3 x4 0)
def spec_PlacesOk.l1 : Nat → List (S84) → Int → List Int → Int → Option (Bool)
  | 0, _, _, _, _ => none
  | k + 1, x0, x3, x4, x5 => if x5 < (x4.length : Int) then (if 0 ≤ x5 then ((spec_l1Machine.f (rd x4 x5)).bind fun t229 => (if t229 = true then (if x5 ≤ (x4.length : Int) then ((spec_l3Has.f k (x4.take (x5 : Int).toNat) (rd x4 x5)).bind fun t232 => (if t232 = true then (some false) else (spec_PlacesOk.l1 k x0 x3 x4 (wrap64 (x5 + 1))))) else (none)) else (some false))) else (none)) else (spec_PlacesOk.l0 k x0 (wrap64 (x3 + 1)))
end
def spec_PlacesOk.f (k : Nat) (l0 : List (S84)) : Option (Bool) := if (l0.length : Int) < 1 then (spec_PlacesOk.j0 k l0 true) else (spec_PlacesOk.j0 k l0 (decide ((l0.length : Int) > 6)))

def spec_PlacesOk.T12 : Bool × List (List Nat × List Nat) := (true, [([], []), ([], []), ([0, 1], [0, 1]), ([2], [2]), ([3], [3]), ([4], [4]), ([5, 4], [5]), ([6], [6]), ([6], [6]), ([7, 8, 6], [6, 7, 8]), ([6], [6]), ([6], [6]), ([10, 11, 6], [6, 10, 11]), ([12, 6], [6, 12]), ([9, 13, 6, 6], [6, 9, 13]), ([6, 14], [6, 14])])
def spec_PlacesOk.B12 : List Nat := [0, 0, 3, 7, 15, 31, 63, 127, 127, 511, 127, 127, 3199, 7295, 16383, 32767]
theorem spec_PlacesOk.tab12 : rtab .any (opsOf Try.f97 12) = spec_PlacesOk.T12 := by kernel_rfl
theorem spec_PlacesOk.bits12 : waitsOk spec_PlacesOk.T12.2 spec_PlacesOk.B12 = true := by kernel_rfl
set_option maxHeartbeats 8000000 in
set_option maxRecDepth 100000 in
theorem spec_PlacesOk.calls (k : Nat) (A0 : Option Addr) (c0 : Nat) (l0 : List (S84)) (r : Bool) (w : World) (hr0 : Kd.C k84 w A0 l0.length l0) (hc0 : l0.length ≤ c0) (h : spec_PlacesOk.f k l0 = some r) :
    Calls Try.prog 97 #[.slice A0 l0.length c0] w fun e w' => e = .returned (.bool r) ∧ Below w.heap.size w w' := by
 have HR0 := Aside0.mk hr0
 have HC0 := Aside0.mk hc0
 clear hr0 hc0
 have HB := Aside0.mk (Below.refl w.heap.size w)
 have H : (if (l0.length : Int) < 1 then (spec_PlacesOk.j0 k l0 true) else (spec_PlacesOk.j0 k l0 (decide ((l0.length : Int) > 6)))) = some r := h
 clear h
 have HC2 := Aside0.mk H
 clear H
 go_enter Try.func97,Try.ntmps97
 go_upto_region 1 with (fail)
 go_cut [13] (fun v13 wc => ∃ (kq : Nat) (x13_1 : Bool),v13 = .bool x13_1 ∧ Aside0 (spec_PlacesOk.j0 kq l0 x13_1 = some r) ∧ Aside0 (kq ≤ k) ∧ Aside0 (Below w.heap.size w wc))
 case first =>
  have H := HC2.out
  clear HC2
  by_cases c3 : (l0.length : Int) < 1
  ·rw [if_pos c3] at H
   have c3b0 : decide ((l0.length : Int) < 1) = true := decide_eq_true c3
   have c3b1 : decide (l0.length < 1) = true := decide_eq_true (by omega)
   clear c3
   (first|rw [c3b0]|(simp only [i64_w,i32_w];rw [c3b0])|skip)
   have H' := Aside0.mk H
   clear H
   go_wp2
   go_meet
   case rel => exact ⟨_,(true),rs_,H',⟨by first|omega|exact Nat.le_refl _⟩,⟨b_⟩⟩
  ·rw [if_neg c3] at H
   have c3b0 : decide ((l0.length : Int) < 1) = false := decide_eq_false c3
   have c3b1 : decide (l0.length < 1) = false := decide_eq_false (by omega)
   clear c3
   (first|rw [c3b0]|(simp only [i64_w,i32_w];rw [c3b0])|skip)
   have H' := Aside0.mk H
   clear H
   go_wp2
   go_meet
   case rel => exact ⟨_,(decide ((l0.length : Int) > 6)),rs_,H',⟨by first|omega|exact Nat.le_refl _⟩,⟨b_⟩⟩
 case rest =>
  clear HC2
  try clear p2
  try clear c3
  try clear c3b0
  try clear c3b1
  obtain ⟨kq,x13_1,rfl,HA,HJ1,HB⟩ := hcut
  cases kq with
    | zero => exact absurd HA.out (by simp [spec_PlacesOk.j0])
    | succ kj1 =>
   have H := HA.out
   clear HA
   simp only [spec_PlacesOk.j0] at H
   by_cases c4 : x13_1 = true
   ·subst c4
    replace H := it_ H
    obtain rfl := Option.some.inj H
    go_wp2
    go_ret
    exact ⟨rf_,b_⟩
   ·replace c4 := Bool.eq_false_iff.mpr c4
    subst c4
    replace H := ie_ H
    have H' := Aside0.mk H
    clear H
    go_wp2
    go_loopg [3] kj1 (fun kq v3 w' => ∃ (x3_2 : Int),v3 = .int .i64 x3_2 ∧ Aside0 (spec_PlacesOk.l0 kq l0 x3_2 = some r) ∧ Aside0 (kq ≤ kj1) ∧ Aside0 (Below w.heap.size w w'))
    case atStart => exact ⟨(0),rs_,H',⟨Nat.le_refl _⟩,⟨b_⟩⟩
    case round =>
     clear H'
     try clear p2
     try clear c3
     try clear c3b0
     try clear c3b1
     try clear c4
     try clear p2
     obtain ⟨x3_2,rfl,HA,HK2,HB⟩ := hrel
     cases gk with
     | zero => exact absurd HA.out (by simp [spec_PlacesOk.l0])
     | succ k2 =>
      have H := HA.out
      clear HA
      simp only [spec_PlacesOk.l0] at H
      by_cases c5 : x3_2 < (l0.length : Int)
      ·rw [if_pos c5] at H
       have c5b0 : decide (x3_2 < (l0.length : Int)) = true := decide_eq_true c5
       clear c5
       by_cases c6 : 0 ≤ x3_2
       ·rw [if_pos c6] at H
        have c6b0 : decide (0 ≤ x3_2) = true := decide_eq_true c6
        clear c6
        have HC7 := Aside0.mk H
        clear H
        have p227 : 0 ≤ (x3_2 : Int) := od_
        have q227 : x3_2 < (l0.length : Int) := od_
        obtain ⟨ad227,A227_0,c227_0,e227,hx227_0,hl227_0,hi227_0⟩ := at_T84 HR0.out x3_2 p227 q227
        cases e227
        replace hx227_0 := hx_ HB hx227_0
        have HR227_0 := Aside0.mk hi227_0
        have HC227_0 := Aside0.mk hl227_0
        clear hi227_0 hl227_0
        replace p227 := eq_true p227
        replace q227 := eq_true q227
        go_upto_region 7 with (fail)
        go_cut [32] (fun v32 wc => ∃ (kq : Nat) (x32_6 : Bool),v32 = .bool x32_6 ∧ Aside0 (spec_PlacesOk.j2 kq l0 x3_2 ((rd_T84 l0 x3_2).f0) x32_6 = some r) ∧ Aside0 (kq ≤ k2) ∧ Aside0 (Below w.heap.size w wc))
        case first =>
         have H := HC7.out
         clear HC7
         by_cases c8 : (((rd_T84 l0 x3_2).f0).length : Int) < 1
         ·rw [if_pos c8] at H
          have c8b0 : decide ((((rd_T84 l0 x3_2).f0).length : Int) < 1) = true := decide_eq_true c8
          have c8b1 : decide (((rd_T84 l0 x3_2).f0).length < 1) = true := decide_eq_true (by omega)
          clear c8
          (first|rw [c8b0]|(simp only [i64_w,i32_w];rw [c8b0])|skip)
          have H' := Aside0.mk H
          clear H
          go_wp2
          go_meet
          case rel => exact ⟨_,(true),rs_,H',⟨by have := HJ1.out;have := HK2.out;first|omega|exact Nat.le_refl _⟩,⟨b_⟩⟩
         ·rw [if_neg c8] at H
          have c8b0 : decide ((((rd_T84 l0 x3_2).f0).length : Int) < 1) = false := decide_eq_false c8
          have c8b1 : decide (((rd_T84 l0 x3_2).f0).length < 1) = false := decide_eq_false (by omega)
          clear c8
          (first|rw [c8b0]|(simp only [i64_w,i32_w];rw [c8b0])|skip)
          have H' := Aside0.mk H
          clear H
          go_wp2
          go_meet
          case rel => exact ⟨_,(decide ((((rd_T84 l0 x3_2).f0).length : Int) > 3)),rs_,H',⟨by have := HJ1.out;have := HK2.out;first|omega|exact Nat.le_refl _⟩,⟨b_⟩⟩
        case rest =>
         clear HC7
         try clear c2
         try clear p2
         try clear q2
         try clear hx2
         try clear c3
         try clear c3b0
         try clear c3b1
         try clear c4
         try clear c5
         try clear c5b0
         try clear c6
         try clear c6b0
         try clear c8
         try clear c8b0
         try clear c8b1
         try clear hx227_0
         try clear p2
         try clear p227
         try clear q227
         obtain ⟨kq,x32_6,rfl,HA,HJ6,HB⟩ := hcut
         cases kq with
         | zero => exact absurd HA.out (by simp [spec_PlacesOk.j2])
         | succ kj6 =>
          have H := HA.out
          clear HA
          simp only [spec_PlacesOk.j2] at H
          by_cases c9 : x32_6 = true
          ·subst c9
           replace H := it_ H
           obtain rfl := Option.some.inj H
           go_wp2
           go_ret
           exact ⟨rf_,b_⟩
          ·replace c9 := Bool.eq_false_iff.mpr c9
           subst c9
           replace H := ie_ H
           have H' := Aside0.mk H
           clear H
           go_wp2
           go_loopg [5] kj6 (fun kq v5 w' => ∃ (x5_4 : Int),v5 = .int .i64 x5_4 ∧ Aside0 (spec_PlacesOk.l1 kq l0 x3_2 ((rd_T84 l0 x3_2).f0) x5_4 = some r) ∧ Aside0 (kq ≤ kj6) ∧ Aside0 (Below w.heap.size w w'))
           case atStart => exact ⟨(0),rs_,H',⟨Nat.le_refl _⟩,⟨b_⟩⟩
           case round =>
            clear H'
            try clear c2
            try clear p2
            try clear q2
            try clear hx2
            try clear c3
            try clear c3b0
            try clear c3b1
            try clear c4
            try clear c5
            try clear c5b0
            try clear c6
            try clear c6b0
            try clear c8
            try clear c8b0
            try clear c8b1
            try clear c9
            try clear hx227_0
            try clear p2
            try clear p227
            try clear q2
            try clear q227
            obtain ⟨x5_4,rfl,HA,HK4,HB⟩ := hrel
            cases gk with
            | zero => exact absurd HA.out (by simp [spec_PlacesOk.l1])
            | succ k4 =>
             have H := HA.out
             clear HA
             simp only [spec_PlacesOk.l1] at H
             by_cases c10 : x5_4 < (((rd_T84 l0 x3_2).f0).length : Int)
             ·rw [if_pos c10] at H
              have c10b0 : decide (x5_4 < (((rd_T84 l0 x3_2).f0).length : Int)) = true := decide_eq_true c10
              clear c10
              by_cases c11 : 0 ≤ x5_4
              ·rw [if_pos c11] at H
               have c11b0 : decide (0 ≤ x5_4) = true := decide_eq_true c11
               clear c11
               replace H := bs_ H
               obtain ⟨t229,A12,H⟩ := H
               by_cases c13 : t229 = true
               ·subst c13
                replace H := it_ H
                have c14b0 := eq_true (od_ : 0 ≤ x5_4)
                by_cases c15 : x5_4 ≤ (((rd_T84 l0 x3_2).f0).length : Int)
                ·rw [if_pos c15] at H
                 have c15b0 := eq_true c15
                 have c15b1 : decide (x5_4 ≤ (((rd_T84 l0 x3_2).f0).length : Int)) = true := decide_eq_true c15
                 clear c15
                 replace H := bs_ H
                 obtain ⟨t232,A16,H⟩ := H
                 by_cases c17 : t232 = true
                 ·subst c17
                  replace H := it_ H
                  obtain rfl := Option.some.inj H
                  try go_wp2
                  replace HB := Aside0.mk (below_drew1 HB.out)
                  have p228 : 0 ≤ (x5_4 : Int) := od_
                  have q228 : x5_4 < (((rd_T84 l0 x3_2).f0).length : Int) := od_
                  obtain ⟨ad228,e228,hx228_0⟩ := Kd.at_int HR227_0.out x5_4 p228 q228
                  have hw228_0 := hx228_0
                  cases e228
                  replace hx228_0 := hx_ HB hx228_0
                  replace p228 := eq_true p228
                  replace q228 := eq_true q228
                  have p231 : 0 ≤ (x5_4 : Int) := od_
                  have q231 : x5_4 < (((rd_T84 l0 x3_2).f0).length : Int) := od_
                  obtain ⟨ad231,e231,hx231_0⟩ := Kd.at_int HR227_0.out x5_4 p231 q231
                  have hw231_0 := hx231_0
                  obtain rfl : ad228 = ad231 := (by injection e231)
                  replace hx231_0 := hx_ HB hx231_0
                  replace p231 := eq_true p231
                  replace q231 := eq_true q231
                  refine st_ 16 (S := fun w' => (w'.cell? (ad228.add (x5_4).toNat) = some (.int .i64 (rd ((rd_T84 l0 x3_2).f0) x5_4))) ∧ w'.cell? (ad228.add (x5_4).toNat) = some (.int .i64 (rd ((rd_T84 l0 x3_2).f0) x5_4))) hh_ (fun hHeld => ?_);refine with_tabW spec_PlacesOk.tab12 spec_PlacesOk.bits12 (fun HT_ HW_ => ?_)
                  generalize wr.drew = w18 at HB hx228_0 hx231_0 hHeld ⊢
                  refine pv_ 0 39 ?_
                  refine pv_ 1 40 ?_
                  refine pv_ 2 41 ?_
                  refine tx_ 3 42 hHeld ?_
                  refine oy_ 4 43 (fun K hK => ?_)
                  refine gs_ Try.func126 #[.int .i64 (rd ((rd_T84 l0 x3_2).f0) x5_4)] ?_
                  with_reducible refine (spec_l1Machine.calls (rd ((rd_T84 l0 x3_2).f0) x5_4) true _ A12.out).mono ?_
                  rintro e w' ⟨rfl,⟨nd,rfl⟩⟩
                  refine ⟨_,rfl,?_⟩
                  obtain ⟨i019,hi019,_,hsz19,_⟩ := info_parts info2
                  obtain ⟨hcut19,hA19,hC19⟩ := print_take_of (P := Try.prog) (Value.int .i64) 0 35 2 .i64 Try.underlying35 hi019 hsz19 (some ad228) c227_0 ((rd_T84 l0 x3_2).f0) x5_4 (od_) (od_) HC227_0.out
                  have HR230 := Aside0.mk (Kd.C_of_reads (h1 := fun _ => rfl) (hA19 _ (Kd.reads_of_C HR227_0.out)))
                  have HC230 := Aside0.mk hC19
                  clear hA19 hC19 hi019 hsz19
                  refine hK.out _ _ hh_ (fun hHeld => ?_)
                  clear hK K
                  refine nr_ (some 43) _ ?_
                  refine pv_ 5 44 ?_
                  refine pv_ 6 45 ?_
                  refine pv_ 7 46 ?_
                  refine pv_ 8 47 ?_
                  refine pv_ 9 48 ?_
                  refine pv_ 10 49 ?_
                  refine pv_ 11 50 ?_
                  refine pv_ 12 51 ?_
                  refine tx_ 13 52 hHeld ?_
                  refine oy_ 14 53 (fun K hK => ?_)
                  refine goes_ Try.func70 (by kernel_rfl) rfl #[.slice (some ad228) (((rd_T84 l0 x3_2).f0).take (x5_4 : Int).toNat).length c227_0,.int .i64 (rd ((rd_T84 l0 x3_2).f0) x5_4)] (by rfl) rfl rfl (by (try simp only [List.map_toArray,List.map_cons,List.map_nil]);first|done|(rw [show (((rd_T84 l0 x3_2).f0).take (x5_4 : Int).toNat).length = x5_4.toNat from (by rw [List.length_take];have h_ : (x5_4 : Int) ≤ (((rd_T84 l0 x3_2).f0).length : Int) := od_;omega)] <;> rfl)|rfl|(simp only [List.length_drop,List.length_take];rfl)) ?_
                  with_reducible refine (spec_l3Has.calls k4 _ _ (((rd_T84 l0 x3_2).f0).take (x5_4 : Int).toNat) (rd ((rd_T84 l0 x3_2).f0) x5_4) true _ ?side1 ?side2 A16.out).mono ?_
                  (case side1 => exact cb_ HR230)
                  (case side2 => exact HC230.out)
                  rintro e w' ⟨rfl,⟨nd,rfl⟩⟩
                  refine ⟨_,rfl,?_⟩
                  refine hK.out _ _ hh_ (fun hHeld => ?_)
                  clear hK K
                  refine nr_ (some 53) _ ?_
                  refine pv_ 15 54 ?_
                  refine done_ (done_of HT_.out (by kernel_rfl)) ?_
                  try go_wp2
                  go_ret
                  exact ⟨rf_,b_⟩
                 ·replace c17 := Bool.eq_false_iff.mpr c17
                  subst c17
                  replace H := ie_ H
                  have H' := Aside0.mk H
                  clear H
                  try go_wp2
                  replace HB := Aside0.mk (below_drew1 HB.out)
                  have p228 : 0 ≤ (x5_4 : Int) := od_
                  have q228 : x5_4 < (((rd_T84 l0 x3_2).f0).length : Int) := od_
                  obtain ⟨ad228,e228,hx228_0⟩ := Kd.at_int HR227_0.out x5_4 p228 q228
                  have hw228_0 := hx228_0
                  cases e228
                  replace hx228_0 := hx_ HB hx228_0
                  replace p228 := eq_true p228
                  replace q228 := eq_true q228
                  have p231 : 0 ≤ (x5_4 : Int) := od_
                  have q231 : x5_4 < (((rd_T84 l0 x3_2).f0).length : Int) := od_
                  obtain ⟨ad231,e231,hx231_0⟩ := Kd.at_int HR227_0.out x5_4 p231 q231
                  have hw231_0 := hx231_0
                  obtain rfl : ad228 = ad231 := (by injection e231)
                  replace hx231_0 := hx_ HB hx231_0
                  replace p231 := eq_true p231
                  replace q231 := eq_true q231
                  refine st_ 16 (S := fun w' => (w'.cell? (ad228.add (x5_4).toNat) = some (.int .i64 (rd ((rd_T84 l0 x3_2).f0) x5_4))) ∧ w'.cell? (ad228.add (x5_4).toNat) = some (.int .i64 (rd ((rd_T84 l0 x3_2).f0) x5_4))) hh_ (fun hHeld => ?_);refine with_tabW spec_PlacesOk.tab12 spec_PlacesOk.bits12 (fun HT_ HW_ => ?_)
                  generalize wr.drew = w20 at HB hx228_0 hx231_0 hHeld ⊢
                  refine pv_ 0 39 ?_
                  refine pv_ 1 40 ?_
                  refine pv_ 2 41 ?_
                  refine tx_ 3 42 hHeld ?_
                  refine oy_ 4 43 (fun K hK => ?_)
                  refine gs_ Try.func126 #[.int .i64 (rd ((rd_T84 l0 x3_2).f0) x5_4)] ?_
                  with_reducible refine (spec_l1Machine.calls (rd ((rd_T84 l0 x3_2).f0) x5_4) true _ A12.out).mono ?_
                  rintro e w' ⟨rfl,⟨nd,rfl⟩⟩
                  refine ⟨_,rfl,?_⟩
                  obtain ⟨i021,hi021,_,hsz21,_⟩ := info_parts info2
                  obtain ⟨hcut21,hA21,hC21⟩ := print_take_of (P := Try.prog) (Value.int .i64) 0 35 2 .i64 Try.underlying35 hi021 hsz21 (some ad228) c227_0 ((rd_T84 l0 x3_2).f0) x5_4 (od_) (od_) HC227_0.out
                  have HR230 := Aside0.mk (Kd.C_of_reads (h1 := fun _ => rfl) (hA21 _ (Kd.reads_of_C HR227_0.out)))
                  have HC230 := Aside0.mk hC21
                  clear hA21 hC21 hi021 hsz21
                  refine hK.out _ _ hh_ (fun hHeld => ?_)
                  clear hK K
                  refine nr_ (some 43) _ ?_
                  refine pv_ 5 44 ?_
                  refine pv_ 6 45 ?_
                  refine pv_ 7 46 ?_
                  refine pv_ 8 47 ?_
                  refine pv_ 9 48 ?_
                  refine pv_ 10 49 ?_
                  refine pv_ 11 50 ?_
                  refine pv_ 12 51 ?_
                  refine tx_ 13 52 hHeld ?_
                  refine oy_ 14 53 (fun K hK => ?_)
                  refine goes_ Try.func70 (by kernel_rfl) rfl #[.slice (some ad228) (((rd_T84 l0 x3_2).f0).take (x5_4 : Int).toNat).length c227_0,.int .i64 (rd ((rd_T84 l0 x3_2).f0) x5_4)] (by rfl) rfl rfl (by (try simp only [List.map_toArray,List.map_cons,List.map_nil]);first|done|(rw [show (((rd_T84 l0 x3_2).f0).take (x5_4 : Int).toNat).length = x5_4.toNat from (by rw [List.length_take];have h_ : (x5_4 : Int) ≤ (((rd_T84 l0 x3_2).f0).length : Int) := od_;omega)] <;> rfl)|rfl|(simp only [List.length_drop,List.length_take];rfl)) ?_
                  with_reducible refine (spec_l3Has.calls k4 _ _ (((rd_T84 l0 x3_2).f0).take (x5_4 : Int).toNat) (rd ((rd_T84 l0 x3_2).f0) x5_4) false _ ?side1 ?side2 A16.out).mono ?_
                  (case side1 => exact cb_ HR230)
                  (case side2 => exact HC230.out)
                  rintro e w' ⟨rfl,⟨nd,rfl⟩⟩
                  refine ⟨_,rfl,?_⟩
                  refine hK.out _ _ hh_ (fun hHeld => ?_)
                  clear hK K
                  refine nr_ (some 53) _ ?_
                  refine pv_ 15 54 ?_
                  refine done_ (done_of HT_.out (by kernel_rfl)) ?_
                  try go_wp2
                  go_roundg k4
                  case measure => have := HJ1.out;have := HK2.out;have := HJ6.out;have := HK4.out;omega
                  case rel => exact ⟨(wrap64 (x5_4 + 1)),rs_,H',⟨by have := HJ1.out;have := HK2.out;have := HJ6.out;have := HK4.out;omega⟩,⟨b_⟩⟩
                ·rw [if_neg c15] at H
                 exact absurd H (by simp)
               ·replace c13 := Bool.eq_false_iff.mpr c13
                subst c13
                replace H := ie_ H
                obtain rfl := Option.some.inj H
                try go_wp2
                replace HB := Aside0.mk (below_drew1 HB.out)
                have p228 : 0 ≤ (x5_4 : Int) := od_
                have q228 : x5_4 < (((rd_T84 l0 x3_2).f0).length : Int) := od_
                obtain ⟨ad228,e228,hx228_0⟩ := Kd.at_int HR227_0.out x5_4 p228 q228
                have hw228_0 := hx228_0
                cases e228
                replace hx228_0 := hx_ HB hx228_0
                replace p228 := eq_true p228
                replace q228 := eq_true q228
                refine st_ 16 (S := fun w' => w'.cell? (ad228.add (x5_4).toNat) = some (.int .i64 (rd ((rd_T84 l0 x3_2).f0) x5_4))) hh_ (fun hHeld => ?_);refine with_tabW spec_PlacesOk.tab12 spec_PlacesOk.bits12 (fun HT_ HW_ => ?_)
                generalize wr.drew = w22 at HB hx228_0 hHeld ⊢
                refine pv_ 0 39 ?_
                refine pv_ 1 40 ?_
                refine pv_ 2 41 ?_
                refine tz_ (i := 3) (N := some 42) (v := ?_) (a' := ?_) HT_.out HW_.out rfl rfl (by kernel_rfl) (fun _ _ _ h => h) (Or.inl ⟨by rfl,?_⟩) hHeld ?_ ?_
                rotate_left
                ·intro w' s0
                 go_simp
                 with_reducible rfl
                rotate_left
                ·simp only [Act.put,q1,q2,q3,i64_w,i32_w]
                 rfl
                refine oy_ 4 43 (fun K hK => ?_)
                refine gs_ Try.func126 #[.int .i64 (rd ((rd_T84 l0 x3_2).f0) x5_4)] ?_
                with_reducible refine (spec_l1Machine.calls (rd ((rd_T84 l0 x3_2).f0) x5_4) false _ A12.out).mono ?_
                rintro e w' ⟨rfl,⟨nd,rfl⟩⟩
                refine ⟨_,rfl,?_⟩
                refine hK.out _ _ hh_ (fun hHeld => ?_)
                clear hK K
                refine nr_ (some 43) _ ?_
                refine pv_ 5 44 ?_
                refine pv_ 6 45 ?_
                refine pn_ 7 46 ?_
                refine pn_ 8 47 ?_
                refine pn_ 9 48 ?_
                refine pn_ 10 49 ?_
                refine pn_ 11 50 ?_
                refine pn_ 12 51 ?_
                refine pn_ 13 52 ?_
                refine pn_ 14 53 ?_
                refine pv_ 15 54 ?_
                refine done_ (done_of HT_.out (by kernel_rfl)) ?_
                try go_wp2
                go_ret
                exact ⟨rf_,b_⟩
              ·rw [if_neg c11] at H
               exact absurd H (by simp)
             ·rw [if_neg c10] at H
              have c10b0 : decide (x5_4 < (((rd_T84 l0 x3_2).f0).length : Int)) = false := decide_eq_false c10
              clear c10
              have H' := Aside0.mk H
              clear H
              go_wp2
              go_roundg k4
              case measure => have := HJ1.out;have := HK2.out;have := HJ6.out;have := HK4.out;omega
              case rel => exact ⟨(wrap64 (x3_2 + 1)),rs_,H',⟨by have := HJ1.out;have := HK2.out;have := HJ6.out;have := HK4.out;omega⟩,⟨b_⟩⟩
       ·rw [if_neg c6] at H
        exact absurd H (by simp)
      ·rw [if_neg c5] at H
       have c5b0 : decide (x3_2 < (l0.length : Int)) = false := decide_eq_false c5
       clear c5
       obtain rfl := Option.some.inj H
       go_wp2
       go_ret
       exact ⟨rf_,b_⟩

/-! ### spec_l5Lives: function 98 -/
def spec_l5Lives.f (l0 : List Bool) (a1 : Int) : Option (Bool) := if a1 < (l0.length : Int) then (if 0 ≤ a1 then (some (rdOf false l0 a1)) else (none)) else (some false)
set_option maxHeartbeats 8000000 in
set_option maxRecDepth 100000 in
theorem spec_l5Lives.calls (A0 : Option Addr) (c0 : Nat) (l0 : List Bool) (a1 : Int) (r : Bool) (w : World) (hr0 : Kd.C Kd.bool w A0 l0.length l0) (hc0 : l0.length ≤ c0) (h : spec_l5Lives.f l0 a1 = some r) :
    Calls Try.prog 98 #[.slice A0 l0.length c0, .int .i64 a1] w fun e w' => e = .returned (.bool r) ∧ Drawn0 w w' := by
 have HR0 := Aside0.mk hr0
 have HC0 := Aside0.mk hc0
 clear hr0 hc0
 have H : (if a1 < (l0.length : Int) then (if 0 ≤ a1 then (some (rdOf false l0 a1)) else (none)) else (some false)) = some r := h
 clear h
 by_cases c3 : a1 < (l0.length : Int)
 ·rw [if_pos c3] at H
  have c3b0 : decide (a1 < (l0.length : Int)) = true := decide_eq_true c3
  clear c3
  by_cases c4 : 0 ≤ a1
  ·rw [if_pos c4] at H
   have c4b0 : decide (0 ≤ a1) = true := decide_eq_true c4
   clear c4
   obtain rfl := Option.some.inj H
   have p233 : 0 ≤ (a1 : Int) := od_
   have q233 : a1 < (l0.length : Int) := od_
   obtain ⟨ad233,e233,hx233_0⟩ := Kd.at_bool HR0.out a1 p233 q233
   cases e233
   replace p233 := eq_true p233
   replace q233 := eq_true q233
   go_enter Try.func98,Try.ntmps98
   go_wp2
   go_ret
   exact ⟨rs_,by repeat (first|exact Drawn0.refl _|apply Drawn0.step)⟩
  ·rw [if_neg c4] at H
   exact absurd H (by simp)
 ·rw [if_neg c3] at H
  have c3b0 : decide (a1 < (l0.length : Int)) = false := decide_eq_false c3
  clear c3
  obtain rfl := Option.some.inj H
  go_enter Try.func98,Try.ntmps98
  go_wp2
  go_ret
  exact ⟨rs_,by repeat (first|exact Drawn0.refl _|apply Drawn0.step)⟩

end Go.Proofs.Ytgdfbjmjgegicaa.XPs
