/- Proved: of each Go function here that a call comes to what the Lean function of its name tells. Written by a program of this session over the translation. No conditions beyond each theorem's own. -/
import Derived.Test.YtnilfnkdgdfnnaaGreatDoorXRe0
import Derived.Test.YtnilfnkdgdfnnaaGreatDoorXRe10
namespace Go.Proofs.YtnilfnkdgdfnnaaGreatDoor.XRe
open Go.RowKit Go.Proofs.YtnilfnkdgdfnnaaGreatDoor.Aid Go.Proofs.YtnilfnkdgdfnnaaGreatDoorW.PrintWords Go.Proofs.YtnilfnkdgdfnnaaGreatDoorW.PrintLast Go.Proofs.YtnilfnkdgdfnnaaGreatDoorW.PrintMore
set_option linter.unusedVariables false
set_option linter.unusedSimpArgs false

/-! ### spec_l2Show: function 17 -/
def spec_l2Show.l0 : Nat → ByteArray → Int → Int → Int → Int → List (S47) → Option (ByteArray)
  | 0, _, _, _, _, _, _ => none
  | k + 1, x3, x4, x353000, x353001, x353002, x353003 => if x4 < (x353003.length : Int) then (if 0 ≤ x4 then (if (rd_T47 x353003 x4).f3 = true then (if x3.size + 1 ≤ 9223372036854775807 then ((spec_l2Int.f k ((rd_T47 x353003 x4).f1)).bind fun t359 => (if (x3 ++ (⟨#[32]⟩ : ByteArray)).size + t359.size ≤ 9223372036854775807 then (if ((x3 ++ (⟨#[32]⟩ : ByteArray)) ++ t359).size + 1 ≤ 9223372036854775807 then ((spec_l2Int.f k ((rd_T47 x353003 x4).f2)).bind fun t360 => (if (((x3 ++ (⟨#[32]⟩ : ByteArray)) ++ t359) ++ (⟨#[32]⟩ : ByteArray)).size + t360.size ≤ 9223372036854775807 then (if ((((x3 ++ (⟨#[32]⟩ : ByteArray)) ++ t359) ++ (⟨#[32]⟩ : ByteArray)) ++ t360).size + 3 ≤ 9223372036854775807 then ((spec_l2Int.f k ((rd_T47 x353003 x4).f4)).bind fun t361 => (if (((((x3 ++ (⟨#[32]⟩ : ByteArray)) ++ t359) ++ (⟨#[32]⟩ : ByteArray)) ++ t360) ++ (⟨#[32, 49, 32]⟩ : ByteArray)).size + t361.size ≤ 9223372036854775807 then (spec_l2Show.l0 k ((((((x3 ++ (⟨#[32]⟩ : ByteArray)) ++ t359) ++ (⟨#[32]⟩ : ByteArray)) ++ t360) ++ (⟨#[32, 49, 32]⟩ : ByteArray)) ++ t361) (wrap64 (x4 + 1)) x353000 x353001 x353002 x353003) else (none))) else (none)) else (none))) else (none)) else (none))) else (none)) else (if x3.size + 1 ≤ 9223372036854775807 then ((spec_l2Int.f k ((rd_T47 x353003 x4).f1)).bind fun t362 => (if (x3 ++ (⟨#[32]⟩ : ByteArray)).size + t362.size ≤ 9223372036854775807 then (if ((x3 ++ (⟨#[32]⟩ : ByteArray)) ++ t362).size + 1 ≤ 9223372036854775807 then ((spec_l2Int.f k ((rd_T47 x353003 x4).f2)).bind fun t363 => (if (((x3 ++ (⟨#[32]⟩ : ByteArray)) ++ t362) ++ (⟨#[32]⟩ : ByteArray)).size + t363.size ≤ 9223372036854775807 then (if ((((x3 ++ (⟨#[32]⟩ : ByteArray)) ++ t362) ++ (⟨#[32]⟩ : ByteArray)) ++ t363).size + 3 ≤ 9223372036854775807 then ((spec_l2Int.f k ((rd_T47 x353003 x4).f4)).bind fun t364 => (if (((((x3 ++ (⟨#[32]⟩ : ByteArray)) ++ t362) ++ (⟨#[32]⟩ : ByteArray)) ++ t363) ++ (⟨#[32, 48, 32]⟩ : ByteArray)).size + t364.size ≤ 9223372036854775807 then (spec_l2Show.l0 k ((((((x3 ++ (⟨#[32]⟩ : ByteArray)) ++ t362) ++ (⟨#[32]⟩ : ByteArray)) ++ t363) ++ (⟨#[32, 48, 32]⟩ : ByteArray)) ++ t364) (wrap64 (x4 + 1)) x353000 x353001 x353002 x353003) else (none))) else (none)) else (none))) else (none)) else (none))) else (none))) else (none)) else (some x3)
def spec_l2Show.f (k : Nat) (a0_0 : Int) (a0_1 : Int) (a0_2 : Int) (l0_3 : List (S47)) : Option (ByteArray) := (spec_l2Int.f k a0_0).bind fun t353 => (if t353.size + 1 ≤ 9223372036854775807 then ((spec_l2Int.f k a0_1).bind fun t354 => (if (t353 ++ (⟨#[32]⟩ : ByteArray)).size + t354.size ≤ 9223372036854775807 then (if ((t353 ++ (⟨#[32]⟩ : ByteArray)) ++ t354).size + 1 ≤ 9223372036854775807 then ((spec_l2Int.f k a0_2).bind fun t355 => (if (((t353 ++ (⟨#[32]⟩ : ByteArray)) ++ t354) ++ (⟨#[32]⟩ : ByteArray)).size + t355.size ≤ 9223372036854775807 then (if ((((t353 ++ (⟨#[32]⟩ : ByteArray)) ++ t354) ++ (⟨#[32]⟩ : ByteArray)) ++ t355).size + 1 ≤ 9223372036854775807 then ((spec_l2Int.f k (l0_3.length : Int)).bind fun t356 => (if (((((t353 ++ (⟨#[32]⟩ : ByteArray)) ++ t354) ++ (⟨#[32]⟩ : ByteArray)) ++ t355) ++ (⟨#[32]⟩ : ByteArray)).size + t356.size ≤ 9223372036854775807 then (spec_l2Show.l0 k ((((((t353 ++ (⟨#[32]⟩ : ByteArray)) ++ t354) ++ (⟨#[32]⟩ : ByteArray)) ++ t355) ++ (⟨#[32]⟩ : ByteArray)) ++ t356) 0 a0_0 a0_1 a0_2 l0_3) else (none))) else (none)) else (none))) else (none)) else (none))) else (none))

def spec_l2Show.T1 : Bool × List (List Nat × List Nat) := (true, [([], []), ([0], [0]), ([1], [1]), ([2], [2]), ([], []), ([4], [4]), ([5, 2], [5]), ([3, 6], [3, 6]), ([7], [7]), ([], []), ([9], [9]), ([10, 6], [10]), ([8, 11], [8, 11]), ([12], [12]), ([], []), ([14], [14]), ([15], [15]), ([16, 11], [16]), ([13, 17], [13, 17]), ([18, 17, 0, 1, 2, 3, 4, 5, 6, 7, 8, 9, 10, 11, 12, 13, 14, 15, 16, 17, 18], [18])])
def spec_l2Show.B1 : List Nat := [0, 1, 3, 7, 0, 16, 55, 127, 255, 0, 512, 1655, 4095, 8191, 0, 16384, 49152, 118391, 262143, 524287]
theorem spec_l2Show.tab1 : rtab .any (opsOf Tryz.f17 1) = spec_l2Show.T1 := by kernel_rfl
theorem spec_l2Show.bits1 : waitsOk spec_l2Show.T1.2 spec_l2Show.B1 = true := by kernel_rfl
def spec_l2Show.T9 : Bool × List (List Nat × List Nat) := (true, [([], []), ([0], [0]), ([], []), ([2], [2]), ([3], [3]), ([1, 4], [1, 4]), ([5], [5]), ([], []), ([7], [7]), ([8, 4], [8]), ([6, 9], [6, 9]), ([], []), ([10, 11], [10, 11]), ([], []), ([13], [13]), ([14, 9], [14]), ([12, 15], [12, 15]), ([16, 15, 0, 1, 2, 3, 4, 5, 6, 7, 8, 9, 10, 11, 12, 13, 14, 15, 16], [0, 16])])
def spec_l2Show.B9 : List Nat := [0, 1, 0, 4, 12, 31, 63, 0, 128, 412, 1023, 0, 4095, 0, 8192, 25500, 65535, 131071]
theorem spec_l2Show.tab9 : rtab .any (opsOf Tryz.f17 9) = spec_l2Show.T9 := by kernel_rfl
theorem spec_l2Show.bits9 : waitsOk spec_l2Show.T9.2 spec_l2Show.B9 = true := by kernel_rfl
set_option maxHeartbeats 8000000 in
set_option maxRecDepth 100000 in
theorem spec_l2Show.calls (k : Nat) (a0_0 : Int) (a0_1 : Int) (a0_2 : Int) (A0_3 : Option Addr) (c0_3 : Nat) (l0_3 : List (S47)) (r : ByteArray) (w : World) (hr0_3 : Kd.C k47 w A0_3 l0_3.length l0_3) (hc0_3 : l0_3.length ≤ c0_3) (h : spec_l2Show.f k a0_0 a0_1 a0_2 l0_3 = some r) :
    Calls Tryz.prog 17 #[.agg #[.int .i64 a0_0, .int .i64 a0_1, .int .i64 a0_2, .slice A0_3 l0_3.length c0_3]] w fun e w' => e = .returned (.string r) ∧ Below w.heap.size w w' := by
 have hu26 := Tryz.underlying26
 have hu47 := Tryz.underlying47
 have HR0_3 := Aside0.mk hr0_3
 have HC0_3 := Aside0.mk hc0_3
 clear hr0_3 hc0_3
 have HB := Aside0.mk (Below.refl w.heap.size w)
 have H : ((spec_l2Int.f k a0_0).bind fun t353 => (if t353.size + 1 ≤ 9223372036854775807 then ((spec_l2Int.f k a0_1).bind fun t354 => (if (t353 ++ (⟨#[32]⟩ : ByteArray)).size + t354.size ≤ 9223372036854775807 then (if ((t353 ++ (⟨#[32]⟩ : ByteArray)) ++ t354).size + 1 ≤ 9223372036854775807 then ((spec_l2Int.f k a0_2).bind fun t355 => (if (((t353 ++ (⟨#[32]⟩ : ByteArray)) ++ t354) ++ (⟨#[32]⟩ : ByteArray)).size + t355.size ≤ 9223372036854775807 then (if ((((t353 ++ (⟨#[32]⟩ : ByteArray)) ++ t354) ++ (⟨#[32]⟩ : ByteArray)) ++ t355).size + 1 ≤ 9223372036854775807 then ((spec_l2Int.f k (l0_3.length : Int)).bind fun t356 => (if (((((t353 ++ (⟨#[32]⟩ : ByteArray)) ++ t354) ++ (⟨#[32]⟩ : ByteArray)) ++ t355) ++ (⟨#[32]⟩ : ByteArray)).size + t356.size ≤ 9223372036854775807 then (spec_l2Show.l0 k ((((((t353 ++ (⟨#[32]⟩ : ByteArray)) ++ t354) ++ (⟨#[32]⟩ : ByteArray)) ++ t355) ++ (⟨#[32]⟩ : ByteArray)) ++ t356) 0 a0_0 a0_1 a0_2 l0_3) else (none))) else (none)) else (none))) else (none)) else (none))) else (none))) = some r := h
 clear h
 replace H := bs_ H
 obtain ⟨t353,A2,H⟩ := H
 by_cases c3 : t353.size + 1 ≤ 9223372036854775807
 ·rw [if_pos c3] at H
  have c3b0 := eq_true c3
  have c3b1 : decide (t353.size + 1 ≤ 9223372036854775807) = true := decide_eq_true c3
  try have c3b2 : (9223372036854775807 < t353.size + 1) = False := eq_false (Nat.not_lt.2 c3)
  replace H := bs_ H
  obtain ⟨t354,A4,H⟩ := H
  by_cases c5 : (t353 ++ (⟨#[32]⟩ : ByteArray)).size + t354.size ≤ 9223372036854775807
  ·rw [if_pos c5] at H
   have c5b0 := eq_true c5
   have c5b1 : decide ((t353 ++ (⟨#[32]⟩ : ByteArray)).size + t354.size ≤ 9223372036854775807) = true := decide_eq_true c5
   try have c5b2 : (9223372036854775807 < (t353 ++ (⟨#[32]⟩ : ByteArray)).size + t354.size) = False := eq_false (Nat.not_lt.2 c5)
   have c5b3 : (9223372036854775807 < t353.size + 1 + t354.size) = False := by have h_ := c5;(try simp only [ByteArray.size_append] at h_);exact eq_false (Nat.not_lt.2 h_)
   by_cases c6 : ((t353 ++ (⟨#[32]⟩ : ByteArray)) ++ t354).size + 1 ≤ 9223372036854775807
   ·rw [if_pos c6] at H
    have c6b0 := eq_true c6
    have c6b1 : decide (((t353 ++ (⟨#[32]⟩ : ByteArray)) ++ t354).size + 1 ≤ 9223372036854775807) = true := decide_eq_true c6
    try have c6b2 : (9223372036854775807 < ((t353 ++ (⟨#[32]⟩ : ByteArray)) ++ t354).size + 1) = False := eq_false (Nat.not_lt.2 c6)
    have c6b3 : (9223372036854775807 < t353.size + 1 + t354.size + 1) = False := by have h_ := c6;(try simp only [ByteArray.size_append] at h_);exact eq_false (Nat.not_lt.2 h_)
    replace H := bs_ H
    obtain ⟨t355,A7,H⟩ := H
    by_cases c8 : (((t353 ++ (⟨#[32]⟩ : ByteArray)) ++ t354) ++ (⟨#[32]⟩ : ByteArray)).size + t355.size ≤ 9223372036854775807
    ·rw [if_pos c8] at H
     have c8b0 := eq_true c8
     have c8b1 : decide ((((t353 ++ (⟨#[32]⟩ : ByteArray)) ++ t354) ++ (⟨#[32]⟩ : ByteArray)).size + t355.size ≤ 9223372036854775807) = true := decide_eq_true c8
     try have c8b2 : (9223372036854775807 < (((t353 ++ (⟨#[32]⟩ : ByteArray)) ++ t354) ++ (⟨#[32]⟩ : ByteArray)).size + t355.size) = False := eq_false (Nat.not_lt.2 c8)
     have c8b3 : (9223372036854775807 < t353.size + 1 + t354.size + 1 + t355.size) = False := by have h_ := c8;(try simp only [ByteArray.size_append] at h_);exact eq_false (Nat.not_lt.2 h_)
     by_cases c9 : ((((t353 ++ (⟨#[32]⟩ : ByteArray)) ++ t354) ++ (⟨#[32]⟩ : ByteArray)) ++ t355).size + 1 ≤ 9223372036854775807
     ·rw [if_pos c9] at H
      have c9b0 := eq_true c9
      have c9b1 : decide (((((t353 ++ (⟨#[32]⟩ : ByteArray)) ++ t354) ++ (⟨#[32]⟩ : ByteArray)) ++ t355).size + 1 ≤ 9223372036854775807) = true := decide_eq_true c9
      try have c9b2 : (9223372036854775807 < ((((t353 ++ (⟨#[32]⟩ : ByteArray)) ++ t354) ++ (⟨#[32]⟩ : ByteArray)) ++ t355).size + 1) = False := eq_false (Nat.not_lt.2 c9)
      have c9b3 : (9223372036854775807 < t353.size + 1 + t354.size + 1 + t355.size + 1) = False := by have h_ := c9;(try simp only [ByteArray.size_append] at h_);exact eq_false (Nat.not_lt.2 h_)
      replace H := bs_ H
      obtain ⟨t356,A10,H⟩ := H
      by_cases c11 : (((((t353 ++ (⟨#[32]⟩ : ByteArray)) ++ t354) ++ (⟨#[32]⟩ : ByteArray)) ++ t355) ++ (⟨#[32]⟩ : ByteArray)).size + t356.size ≤ 9223372036854775807
      ·rw [if_pos c11] at H
       have c11b0 := eq_true c11
       have c11b1 : decide ((((((t353 ++ (⟨#[32]⟩ : ByteArray)) ++ t354) ++ (⟨#[32]⟩ : ByteArray)) ++ t355) ++ (⟨#[32]⟩ : ByteArray)).size + t356.size ≤ 9223372036854775807) = true := decide_eq_true c11
       try have c11b2 : (9223372036854775807 < (((((t353 ++ (⟨#[32]⟩ : ByteArray)) ++ t354) ++ (⟨#[32]⟩ : ByteArray)) ++ t355) ++ (⟨#[32]⟩ : ByteArray)).size + t356.size) = False := eq_false (Nat.not_lt.2 c11)
       have c11b3 : (9223372036854775807 < t353.size + 1 + t354.size + 1 + t355.size + 1 + t356.size) = False := by have h_ := c11;(try simp only [ByteArray.size_append] at h_);exact eq_false (Nat.not_lt.2 h_)
       have H' := Aside0.mk H
       clear H
       go_enter Tryz.func17,Tryz.ntmps17
       try go_wp2_with (first|((with_reducible refine gate_dst (N := 1) rfl ?_);refine bx_ 1 #[.int .i64 a0_0,.int .i64 a0_1,.int .i64 a0_2,.slice A0_3 l0_3.length c0_3] 26 ?_;intro gb352 hg w12 hbox hb;replace HB := nb_ hg hbox hb;obtain ⟨BK352,GW352,GE352,HB⟩ := HB;clear hb hbox hg))
       replace BK352 := Aside0.mk (blk_drew BK352.out)
       replace HB := Aside0.mk (below_drew1 HB.out)
       refine st_ 20 (S := fun w' => hd4 w' gb352 (.int .i64 a0_0) (.int .i64 a0_1) (.int .i64 a0_2) (.slice A0_3 l0_3.length c0_3)) hh_ (fun hHeld => ?_);refine with_tabW spec_l2Show.tab1 spec_l2Show.bits1 (fun HT_ HW_ => ?_)
       generalize w12.drew = w13 at BK352 HB hHeld ⊢
       refine pv_ 0 7 ?_
       refine pv_ 4 11 ?_
       refine pv_ 9 16 ?_
       refine pv_ 14 21 ?_
       refine tx_ 1 8 hHeld ?_
       refine tx_ 5 12 hHeld ?_
       refine tx_ 10 17 hHeld ?_
       refine tx_ 15 22 hHeld ?_
       refine pv_ 16 23 ?_
       refine oy_ 2 9 (fun K hK => ?_)
       refine gs_ Tryz.func39 #[.int .i64 a0_0] ?_
       with_reducible refine (spec_l2Int.calls k a0_0 t353 _ A2.out).mono ?_
       rintro e w14 ⟨rfl,hb⟩
       refine ⟨_,rfl,?_⟩
       replace BK352 := Aside0.mk (blk_below (kb_ BK352) hb)
       replace HB := Aside0.mk (below_step b_ hb)
       (try clear hb)
       (try clear hb2)
       (try clear hk)
       (try clear hi)
       refine hK.out _ _ hh_ (fun hHeld => ?_)
       clear hK K
       refine nr_ (some 9) _ ?_
       refine pv_ 3 10 ?_
       refine oy_ 6 13 (fun K hK => ?_)
       refine gs_ Tryz.func39 #[.int .i64 a0_1] ?_
       with_reducible refine (spec_l2Int.calls k a0_1 t354 _ A4.out).mono ?_
       rintro e w15 ⟨rfl,hb⟩
       refine ⟨_,rfl,?_⟩
       replace BK352 := Aside0.mk (blk_below (kb_ BK352) hb)
       replace HB := Aside0.mk (below_step b_ hb)
       (try clear hb)
       (try clear hb2)
       (try clear hk)
       (try clear hi)
       refine hK.out _ _ hh_ (fun hHeld => ?_)
       clear hK K
       refine nr_ (some 13) _ ?_
       refine pv_ 7 14 ?_
       refine pv_ 8 15 ?_
       refine oy_ 11 18 (fun K hK => ?_)
       refine gs_ Tryz.func39 #[.int .i64 a0_2] ?_
       with_reducible refine (spec_l2Int.calls k a0_2 t355 _ A7.out).mono ?_
       rintro e w16 ⟨rfl,hb⟩
       refine ⟨_,rfl,?_⟩
       replace BK352 := Aside0.mk (blk_below (kb_ BK352) hb)
       replace HB := Aside0.mk (below_step b_ hb)
       (try clear hb)
       (try clear hb2)
       (try clear hk)
       (try clear hi)
       refine hK.out _ _ hh_ (fun hHeld => ?_)
       clear hK K
       refine nr_ (some 18) _ ?_
       refine pv_ 12 19 ?_
       refine pv_ 13 20 ?_
       refine oy_ 17 24 (fun K hK => ?_)
       refine gs_ Tryz.func39 #[.int .i64 (l0_3.length : Int)] ?_
       with_reducible refine (spec_l2Int.calls k (l0_3.length : Int) t356 _ A10.out).mono ?_
       rintro e w17 ⟨rfl,hb⟩
       refine ⟨_,rfl,?_⟩
       replace BK352 := Aside0.mk (blk_below (kb_ BK352) hb)
       replace HB := Aside0.mk (below_step b_ hb)
       (try clear hb)
       (try clear hb2)
       (try clear hk)
       (try clear hi)
       refine hK.out _ _ hh_ (fun hHeld => ?_)
       clear hK K
       refine nr_ (some 24) _ ?_
       refine pv_ 18 25 ?_
       refine pv_ 19 3 ?_
       refine done_ (done_of HT_.out (by kernel_rfl)) ?_
       try go_wp2
       go_loopg [3,4] k (fun kq v3 v4 w' => ∃ (x3_1 : ByteArray) (x4_1 : Int),v3 = .string x3_1 ∧ v4 = .int .i64 x4_1 ∧ Aside0 (spec_l2Show.l0 kq x3_1 x4_1 a0_0 a0_1 a0_2 l0_3 = some r) ∧ Aside0 (kq ≤ k) ∧ Aside0 (w'.heap[gb352]? = some (.cells #[.int .i64 a0_0,.int .i64 a0_1,.int .i64 a0_2,(.slice A0_3 l0_3.length c0_3)] 26 (0,0))) ∧ Aside0 (Below w.heap.size w w'))
       case atStart => exact ⟨((((((t353 ++ (⟨#[32]⟩ : ByteArray)) ++ t354) ++ (⟨#[32]⟩ : ByteArray)) ++ t355) ++ (⟨#[32]⟩ : ByteArray)) ++ t356),(0),rs_,rs_,H',⟨Nat.le_refl _⟩,⟨kb_ BK352⟩,⟨b_⟩⟩
       case round =>
        clear H'
        try clear c1
        try clear p2
        try clear c3
        try clear c3b0
        try clear c3b1
        try clear c3b2
        try clear c5
        try clear c5b0
        try clear c5b1
        try clear c5b2
        try clear c6
        try clear c6b0
        try clear c6b1
        try clear c6b2
        try clear c8
        try clear c8b0
        try clear c8b1
        try clear c8b2
        try clear c9
        try clear c9b0
        try clear c9b1
        try clear c9b2
        try clear c11
        try clear c11b0
        try clear c11b1
        try clear c11b2
        try clear c17
        obtain ⟨x3_1,x4_1,rfl,rfl,HA,HK1,BK352,HB⟩ := hrel
        cases gk with
        | zero => exact absurd HA.out (by simp [spec_l2Show.l0])
        | succ k1 =>
         have H := HA.out
         clear HA
         simp only [spec_l2Show.l0] at H
         by_cases c18 : x4_1 < (l0_3.length : Int)
         ·rw [if_pos c18] at H
          have c18b0 : decide (x4_1 < (l0_3.length : Int)) = true := decide_eq_true c18
          clear c18
          by_cases c19 : 0 ≤ x4_1
          ·rw [if_pos c19] at H
           have c19b0 : decide (0 ≤ x4_1) = true := decide_eq_true c19
           clear c19
           obtain ⟨bq20,hbq20⟩ : ∃ b_ : Bool,b_ = ((rd_T47 l0_3 x4_1).f3) := ⟨_,rfl⟩
           replace H : (if bq20 = true then (if x3_1.size + 1 ≤ 9223372036854775807 then ((spec_l2Int.f k1 ((rd_T47 l0_3 x4_1).f1)).bind fun t359 => (if (x3_1 ++ (⟨#[32]⟩ : ByteArray)).size + t359.size ≤ 9223372036854775807 then (if ((x3_1 ++ (⟨#[32]⟩ : ByteArray)) ++ t359).size + 1 ≤ 9223372036854775807 then ((spec_l2Int.f k1 ((rd_T47 l0_3 x4_1).f2)).bind fun t360 => (if (((x3_1 ++ (⟨#[32]⟩ : ByteArray)) ++ t359) ++ (⟨#[32]⟩ : ByteArray)).size + t360.size ≤ 9223372036854775807 then (if ((((x3_1 ++ (⟨#[32]⟩ : ByteArray)) ++ t359) ++ (⟨#[32]⟩ : ByteArray)) ++ t360).size + 3 ≤ 9223372036854775807 then ((spec_l2Int.f k1 ((rd_T47 l0_3 x4_1).f4)).bind fun t361 => (if (((((x3_1 ++ (⟨#[32]⟩ : ByteArray)) ++ t359) ++ (⟨#[32]⟩ : ByteArray)) ++ t360) ++ (⟨#[32,49,32]⟩ : ByteArray)).size + t361.size ≤ 9223372036854775807 then (spec_l2Show.l0 k1 ((((((x3_1 ++ (⟨#[32]⟩ : ByteArray)) ++ t359) ++ (⟨#[32]⟩ : ByteArray)) ++ t360) ++ (⟨#[32,49,32]⟩ : ByteArray)) ++ t361) (wrap64 (x4_1 + 1)) a0_0 a0_1 a0_2 l0_3) else (none))) else (none)) else (none))) else (none)) else (none))) else (none)) else (if x3_1.size + 1 ≤ 9223372036854775807 then ((spec_l2Int.f k1 ((rd_T47 l0_3 x4_1).f1)).bind fun t362 => (if (x3_1 ++ (⟨#[32]⟩ : ByteArray)).size + t362.size ≤ 9223372036854775807 then (if ((x3_1 ++ (⟨#[32]⟩ : ByteArray)) ++ t362).size + 1 ≤ 9223372036854775807 then ((spec_l2Int.f k1 ((rd_T47 l0_3 x4_1).f2)).bind fun t363 => (if (((x3_1 ++ (⟨#[32]⟩ : ByteArray)) ++ t362) ++ (⟨#[32]⟩ : ByteArray)).size + t363.size ≤ 9223372036854775807 then (if ((((x3_1 ++ (⟨#[32]⟩ : ByteArray)) ++ t362) ++ (⟨#[32]⟩ : ByteArray)) ++ t363).size + 3 ≤ 9223372036854775807 then ((spec_l2Int.f k1 ((rd_T47 l0_3 x4_1).f4)).bind fun t364 => (if (((((x3_1 ++ (⟨#[32]⟩ : ByteArray)) ++ t362) ++ (⟨#[32]⟩ : ByteArray)) ++ t363) ++ (⟨#[32,48,32]⟩ : ByteArray)).size + t364.size ≤ 9223372036854775807 then (spec_l2Show.l0 k1 ((((((x3_1 ++ (⟨#[32]⟩ : ByteArray)) ++ t362) ++ (⟨#[32]⟩ : ByteArray)) ++ t363) ++ (⟨#[32,48,32]⟩ : ByteArray)) ++ t364) (wrap64 (x4_1 + 1)) a0_0 a0_1 a0_2 l0_3) else (none))) else (none)) else (none))) else (none)) else (none))) else (none))) = some r := by rw [← hbq20] at H;exact H
           have Nbq20 := Aside0.mk hbq20
           clear hbq20
           by_cases c21 : bq20 = true
           ·subst c21
            replace H := it_ H
            by_cases c22 : x3_1.size + 1 ≤ 9223372036854775807
            ·rw [if_pos c22] at H
             have c22b0 := eq_true c22
             have c22b1 : decide (x3_1.size + 1 ≤ 9223372036854775807) = true := decide_eq_true c22
             try have c22b2 : (9223372036854775807 < x3_1.size + 1) = False := eq_false (Nat.not_lt.2 c22)
             replace H := bs_ H
             obtain ⟨t359,A23,H⟩ := H
             by_cases c24 : (x3_1 ++ (⟨#[32]⟩ : ByteArray)).size + t359.size ≤ 9223372036854775807
             ·rw [if_pos c24] at H
              have c24b0 := eq_true c24
              have c24b1 : decide ((x3_1 ++ (⟨#[32]⟩ : ByteArray)).size + t359.size ≤ 9223372036854775807) = true := decide_eq_true c24
              try have c24b2 : (9223372036854775807 < (x3_1 ++ (⟨#[32]⟩ : ByteArray)).size + t359.size) = False := eq_false (Nat.not_lt.2 c24)
              have c24b3 : (9223372036854775807 < x3_1.size + 1 + t359.size) = False := by have h_ := c24;(try simp only [ByteArray.size_append] at h_);exact eq_false (Nat.not_lt.2 h_)
              by_cases c25 : ((x3_1 ++ (⟨#[32]⟩ : ByteArray)) ++ t359).size + 1 ≤ 9223372036854775807
              ·rw [if_pos c25] at H
               have c25b0 := eq_true c25
               have c25b1 : decide (((x3_1 ++ (⟨#[32]⟩ : ByteArray)) ++ t359).size + 1 ≤ 9223372036854775807) = true := decide_eq_true c25
               try have c25b2 : (9223372036854775807 < ((x3_1 ++ (⟨#[32]⟩ : ByteArray)) ++ t359).size + 1) = False := eq_false (Nat.not_lt.2 c25)
               have c25b3 : (9223372036854775807 < x3_1.size + 1 + t359.size + 1) = False := by have h_ := c25;(try simp only [ByteArray.size_append] at h_);exact eq_false (Nat.not_lt.2 h_)
               replace H := bs_ H
               obtain ⟨t360,A26,H⟩ := H
               by_cases c27 : (((x3_1 ++ (⟨#[32]⟩ : ByteArray)) ++ t359) ++ (⟨#[32]⟩ : ByteArray)).size + t360.size ≤ 9223372036854775807
               ·rw [if_pos c27] at H
                have c27b0 := eq_true c27
                have c27b1 : decide ((((x3_1 ++ (⟨#[32]⟩ : ByteArray)) ++ t359) ++ (⟨#[32]⟩ : ByteArray)).size + t360.size ≤ 9223372036854775807) = true := decide_eq_true c27
                try have c27b2 : (9223372036854775807 < (((x3_1 ++ (⟨#[32]⟩ : ByteArray)) ++ t359) ++ (⟨#[32]⟩ : ByteArray)).size + t360.size) = False := eq_false (Nat.not_lt.2 c27)
                have c27b3 : (9223372036854775807 < x3_1.size + 1 + t359.size + 1 + t360.size) = False := by have h_ := c27;(try simp only [ByteArray.size_append] at h_);exact eq_false (Nat.not_lt.2 h_)
                by_cases c28 : ((((x3_1 ++ (⟨#[32]⟩ : ByteArray)) ++ t359) ++ (⟨#[32]⟩ : ByteArray)) ++ t360).size + 3 ≤ 9223372036854775807
                ·rw [if_pos c28] at H
                 have c28b0 := eq_true c28
                 have c28b1 : decide (((((x3_1 ++ (⟨#[32]⟩ : ByteArray)) ++ t359) ++ (⟨#[32]⟩ : ByteArray)) ++ t360).size + 3 ≤ 9223372036854775807) = true := decide_eq_true c28
                 try have c28b2 : (9223372036854775807 < ((((x3_1 ++ (⟨#[32]⟩ : ByteArray)) ++ t359) ++ (⟨#[32]⟩ : ByteArray)) ++ t360).size + 3) = False := eq_false (Nat.not_lt.2 c28)
                 have c28b3 : (9223372036854775807 < x3_1.size + 1 + t359.size + 1 + t360.size + 3) = False := by have h_ := c28;(try simp only [ByteArray.size_append] at h_);exact eq_false (Nat.not_lt.2 h_)
                 replace H := bs_ H
                 obtain ⟨t361,A29,H⟩ := H
                 by_cases c30 : (((((x3_1 ++ (⟨#[32]⟩ : ByteArray)) ++ t359) ++ (⟨#[32]⟩ : ByteArray)) ++ t360) ++ (⟨#[32,49,32]⟩ : ByteArray)).size + t361.size ≤ 9223372036854775807
                 ·rw [if_pos c30] at H
                  have c30b0 := eq_true c30
                  have c30b1 : decide ((((((x3_1 ++ (⟨#[32]⟩ : ByteArray)) ++ t359) ++ (⟨#[32]⟩ : ByteArray)) ++ t360) ++ (⟨#[32,49,32]⟩ : ByteArray)).size + t361.size ≤ 9223372036854775807) = true := decide_eq_true c30
                  try have c30b2 : (9223372036854775807 < (((((x3_1 ++ (⟨#[32]⟩ : ByteArray)) ++ t359) ++ (⟨#[32]⟩ : ByteArray)) ++ t360) ++ (⟨#[32,49,32]⟩ : ByteArray)).size + t361.size) = False := eq_false (Nat.not_lt.2 c30)
                  have c30b3 : (9223372036854775807 < x3_1.size + 1 + t359.size + 1 + t360.size + 3 + t361.size) = False := by have h_ := c30;(try simp only [ByteArray.size_append] at h_);exact eq_false (Nat.not_lt.2 h_)
                  have H' := Aside0.mk H
                  clear H
                  obtain ⟨⟨hcz31_0,hcz31_1,hcz31_2,hcz31_3⟩,hfz31_0,hfz31_1,hfz31_2,hfz31_3⟩ := cl4_ BK352.out
                  have p357 : 0 ≤ (x4_1 : Int) := od_
                  have q357 : x4_1 < (l0_3.length : Int) := od_
                  obtain ⟨ad357,e357,hx357_0,hx357_1,hx357_2,hx357_3,hx357_4⟩ := at_T47 HR0_3.out x4_1 p357 q357
                  (try rw [← Nbq20.out] at hx357_3)
                  cases e357
                  replace hx357_0 := hx_ HB hx357_0
                  replace hx357_1 := hx_ HB hx357_1
                  replace hx357_2 := hx_ HB hx357_2
                  replace hx357_3 := hx_ HB hx357_3
                  replace hx357_4 := hx_ HB hx357_4
                  replace p357 := eq_true p357
                  replace q357 := eq_true q357
                  try go_wp2_with (first|((with_reducible refine gate_dst (N := 5) rfl ?_);refine bx_ 5 #[.int .i64 0,.int .i64 0,.int .i64 0,.bool false,.int .i64 0] 47 ?_;intro gb358 hg w32 hbox hb;replace HB := nb_ hg hbox hb;obtain ⟨BK358,GW358,GE358,HB⟩ := HB;have NB352_358 := Aside0.mk ((nl_ BK352 hg));have NB358_352 := Aside0.mk ((ng_ BK352 hg));replace BK352 := Aside0.mk (blk_below (kb_ BK352) hb);clear hb hbox hg;have hnb33 := NB358_352.out;have hnc33 := NB352_358.out;obtain ⟨⟨hcz34_0,hcz34_1,hcz34_2,hcz34_3,hcz34_4⟩,hfz34_0,hfz34_1,hfz34_2,hfz34_3,hfz34_4⟩ := cl5_ BK358.out))
                  have n0_ : Aside0 ((((((w32.setCell ⟨gb358,0,none⟩ (.int .i64 ((rd_T47 l0_3 x4_1).f0))).setCell ⟨gb358,1,none⟩ (.int .i64 ((rd_T47 l0_3 x4_1).f1))).setCell ⟨gb358,2,none⟩ (.int .i64 ((rd_T47 l0_3 x4_1).f2))).setCell ⟨gb358,3,none⟩ (.bool true)).setCell ⟨gb358,4,none⟩ (.int .i64 ((rd_T47 l0_3 x4_1).f4))).heap[gb352]? = some (.cells #[.int .i64 a0_0,.int .i64 a0_1,.int .i64 a0_2,.slice (some ad357) l0_3.length c0_3] 26 (0,0))) := ⟨kf_ BK352⟩
                  have n1_ : Aside0 ((((((w32.setCell ⟨gb358,0,none⟩ (.int .i64 ((rd_T47 l0_3 x4_1).f0))).setCell ⟨gb358,1,none⟩ (.int .i64 ((rd_T47 l0_3 x4_1).f1))).setCell ⟨gb358,2,none⟩ (.int .i64 ((rd_T47 l0_3 x4_1).f2))).setCell ⟨gb358,3,none⟩ (.bool true)).setCell ⟨gb358,4,none⟩ (.int .i64 ((rd_T47 l0_3 x4_1).f4))).heap[gb358]? = some (.cells #[.int .i64 ((rd_T47 l0_3 x4_1).f0),.int .i64 ((rd_T47 l0_3 x4_1).f1),.int .i64 ((rd_T47 l0_3 x4_1).f2),.bool true,.int .i64 ((rd_T47 l0_3 x4_1).f4)] 47 (0,0))) := ⟨by (with_reducible repeat (first|refine blk_drewN ?_ _|refine blk_drew ?_|refine blk_alloc ?_ _));refine blk_put (cs := #[.int .i64 ((rd_T47 l0_3 x4_1).f0),.int .i64 ((rd_T47 l0_3 x4_1).f1),.int .i64 ((rd_T47 l0_3 x4_1).f2),.bool true,.int .i64 0]) ?_ 4 _ rfl;(with_reducible repeat (first|refine blk_drewN ?_ _|refine blk_drew ?_|refine blk_alloc ?_ _));refine blk_put (cs := #[.int .i64 ((rd_T47 l0_3 x4_1).f0),.int .i64 ((rd_T47 l0_3 x4_1).f1),.int .i64 ((rd_T47 l0_3 x4_1).f2),.bool false,.int .i64 0]) ?_ 3 _ rfl;(with_reducible repeat (first|refine blk_drewN ?_ _|refine blk_drew ?_|refine blk_alloc ?_ _));refine blk_put (cs := #[.int .i64 ((rd_T47 l0_3 x4_1).f0),.int .i64 ((rd_T47 l0_3 x4_1).f1),.int .i64 0,.bool false,.int .i64 0]) ?_ 2 _ rfl;(with_reducible repeat (first|refine blk_drewN ?_ _|refine blk_drew ?_|refine blk_alloc ?_ _));refine blk_put (cs := #[.int .i64 ((rd_T47 l0_3 x4_1).f0),.int .i64 0,.int .i64 0,.bool false,.int .i64 0]) ?_ 1 _ rfl;(with_reducible repeat (first|refine blk_drewN ?_ _|refine blk_drew ?_|refine blk_alloc ?_ _));refine blk_put (cs := #[.int .i64 0,.int .i64 0,.int .i64 0,.bool false,.int .i64 0]) ?_ 0 _ rfl;(with_reducible repeat (first|refine blk_drewN ?_ _|refine blk_drew ?_|refine blk_alloc ?_ _));exact BK358.out⟩
                  have n2_ : Aside0 (Below w.heap.size w (((((w32.setCell ⟨gb358,0,none⟩ (.int .i64 ((rd_T47 l0_3 x4_1).f0))).setCell ⟨gb358,1,none⟩ (.int .i64 ((rd_T47 l0_3 x4_1).f1))).setCell ⟨gb358,2,none⟩ (.int .i64 ((rd_T47 l0_3 x4_1).f2))).setCell ⟨gb358,3,none⟩ (.bool true)).setCell ⟨gb358,4,none⟩ (.int .i64 ((rd_T47 l0_3 x4_1).f4)))) := ⟨b_⟩
                  (try clear BK352)
                  (try clear BK358)
                  (try clear HB)
                  generalize (((((w32.setCell ⟨gb358,0,none⟩ (.int .i64 ((rd_T47 l0_3 x4_1).f0))).setCell ⟨gb358,1,none⟩ (.int .i64 ((rd_T47 l0_3 x4_1).f1))).setCell ⟨gb358,2,none⟩ (.int .i64 ((rd_T47 l0_3 x4_1).f2))).setCell ⟨gb358,3,none⟩ (.bool true)).setCell ⟨gb358,4,none⟩ (.int .i64 ((rd_T47 l0_3 x4_1).f4))) = w35 at n0_ n1_ n2_ ⊢
                  have BK352 := n0_
                  have BK358 := n1_
                  have HB := n2_
                  clear n0_ n1_ n2_
                  replace BK352 := Aside0.mk (blk_drew BK352.out)
                  replace BK358 := Aside0.mk (blk_drew BK358.out)
                  replace HB := Aside0.mk (below_drew1 HB.out)
                  refine st_ 18 (S := fun w' => hd5 w' gb358 (.int .i64 ((rd_T47 l0_3 x4_1).f0)) (.int .i64 ((rd_T47 l0_3 x4_1).f1)) (.int .i64 ((rd_T47 l0_3 x4_1).f2)) (.bool true) (.int .i64 ((rd_T47 l0_3 x4_1).f4))) hh_ (fun hHeld => ?_);refine with_tabW spec_l2Show.tab9 spec_l2Show.bits9 (fun HT_ HW_ => ?_)
                  generalize w35.drew = w36 at BK352 BK358 HB hHeld ⊢
                  refine pv_ 0 40 ?_
                  refine pv_ 1 41 ?_
                  refine pv_ 2 42 ?_
                  refine pv_ 7 47 ?_
                  refine pv_ 11 51 ?_
                  refine pv_ 13 53 ?_
                  refine tx_ 3 43 hHeld ?_
                  refine tx_ 8 48 hHeld ?_
                  refine tx_ 14 54 hHeld ?_
                  refine oy_ 4 44 (fun K hK => ?_)
                  refine gs_ Tryz.func39 #[.int .i64 ((rd_T47 l0_3 x4_1).f1)] ?_
                  with_reducible refine (spec_l2Int.calls k1 ((rd_T47 l0_3 x4_1).f1) t359 _ A23.out).mono ?_
                  rintro e w37 ⟨rfl,hb⟩
                  refine ⟨_,rfl,?_⟩
                  replace BK352 := Aside0.mk (blk_below (kb_ BK352) hb)
                  replace BK358 := Aside0.mk (blk_below (kb_ BK358) hb)
                  replace HB := Aside0.mk (below_step b_ hb)
                  (try clear hb)
                  (try clear hb2)
                  (try clear hk)
                  (try clear hi)
                  refine hK.out _ _ hh_ (fun hHeld => ?_)
                  clear hK K
                  refine nr_ (some 44) _ ?_
                  refine pv_ 5 45 ?_
                  refine pv_ 6 46 ?_
                  refine oy_ 9 49 (fun K hK => ?_)
                  refine gs_ Tryz.func39 #[.int .i64 ((rd_T47 l0_3 x4_1).f2)] ?_
                  with_reducible refine (spec_l2Int.calls k1 ((rd_T47 l0_3 x4_1).f2) t360 _ A26.out).mono ?_
                  rintro e w38 ⟨rfl,hb⟩
                  refine ⟨_,rfl,?_⟩
                  replace BK352 := Aside0.mk (blk_below (kb_ BK352) hb)
                  replace BK358 := Aside0.mk (blk_below (kb_ BK358) hb)
                  replace HB := Aside0.mk (below_step b_ hb)
                  (try clear hb)
                  (try clear hb2)
                  (try clear hk)
                  (try clear hi)
                  refine hK.out _ _ hh_ (fun hHeld => ?_)
                  clear hK K
                  refine nr_ (some 49) _ ?_
                  refine pv_ 10 50 ?_
                  refine pv_ 12 52 ?_
                  refine oy_ 15 55 (fun K hK => ?_)
                  refine gs_ Tryz.func39 #[.int .i64 ((rd_T47 l0_3 x4_1).f4)] ?_
                  with_reducible refine (spec_l2Int.calls k1 ((rd_T47 l0_3 x4_1).f4) t361 _ A29.out).mono ?_
                  rintro e w39 ⟨rfl,hb⟩
                  refine ⟨_,rfl,?_⟩
                  replace BK352 := Aside0.mk (blk_below (kb_ BK352) hb)
                  replace BK358 := Aside0.mk (blk_below (kb_ BK358) hb)
                  replace HB := Aside0.mk (below_step b_ hb)
                  (try clear hb)
                  (try clear hb2)
                  (try clear hk)
                  (try clear hi)
                  refine hK.out _ _ hh_ (fun hHeld => ?_)
                  clear hK K
                  refine nr_ (some 55) _ ?_
                  refine pv_ 16 56 ?_
                  refine pv_ 17 3 ?_
                  refine done_ (done_of HT_.out (by kernel_rfl)) ?_
                  try go_wp2
                  go_roundg k1
                  case measure => have := HK1.out;omega
                  case rel => exact ⟨((((((x3_1 ++ (⟨#[32]⟩ : ByteArray)) ++ t359) ++ (⟨#[32]⟩ : ByteArray)) ++ t360) ++ (⟨#[32,49,32]⟩ : ByteArray)) ++ t361),(wrap64 (x4_1 + 1)),rs_,rs_,H',⟨by have := HK1.out;omega⟩,⟨kb_ BK352⟩,⟨b_⟩⟩
                 ·rw [if_neg c30] at H
                  exact absurd H (by simp)
                ·rw [if_neg c28] at H
                 exact absurd H (by simp)
               ·rw [if_neg c27] at H
                exact absurd H (by simp)
              ·rw [if_neg c25] at H
               exact absurd H (by simp)
             ·rw [if_neg c24] at H
              exact absurd H (by simp)
            ·rw [if_neg c22] at H
             exact absurd H (by simp)
           ·replace c21 := Bool.eq_false_iff.mpr c21
            subst c21
            replace H := ie_ H
            by_cases c40 : x3_1.size + 1 ≤ 9223372036854775807
            ·rw [if_pos c40] at H
             have c40b0 := eq_true c40
             have c40b1 : decide (x3_1.size + 1 ≤ 9223372036854775807) = true := decide_eq_true c40
             try have c40b2 : (9223372036854775807 < x3_1.size + 1) = False := eq_false (Nat.not_lt.2 c40)
             replace H := bs_ H
             obtain ⟨t362,A41,H⟩ := H
             by_cases c42 : (x3_1 ++ (⟨#[32]⟩ : ByteArray)).size + t362.size ≤ 9223372036854775807
             ·rw [if_pos c42] at H
              have c42b0 := eq_true c42
              have c42b1 : decide ((x3_1 ++ (⟨#[32]⟩ : ByteArray)).size + t362.size ≤ 9223372036854775807) = true := decide_eq_true c42
              try have c42b2 : (9223372036854775807 < (x3_1 ++ (⟨#[32]⟩ : ByteArray)).size + t362.size) = False := eq_false (Nat.not_lt.2 c42)
              have c42b3 : (9223372036854775807 < x3_1.size + 1 + t362.size) = False := by have h_ := c42;(try simp only [ByteArray.size_append] at h_);exact eq_false (Nat.not_lt.2 h_)
              by_cases c43 : ((x3_1 ++ (⟨#[32]⟩ : ByteArray)) ++ t362).size + 1 ≤ 9223372036854775807
              ·rw [if_pos c43] at H
               have c43b0 := eq_true c43
               have c43b1 : decide (((x3_1 ++ (⟨#[32]⟩ : ByteArray)) ++ t362).size + 1 ≤ 9223372036854775807) = true := decide_eq_true c43
               try have c43b2 : (9223372036854775807 < ((x3_1 ++ (⟨#[32]⟩ : ByteArray)) ++ t362).size + 1) = False := eq_false (Nat.not_lt.2 c43)
               have c43b3 : (9223372036854775807 < x3_1.size + 1 + t362.size + 1) = False := by have h_ := c43;(try simp only [ByteArray.size_append] at h_);exact eq_false (Nat.not_lt.2 h_)
               replace H := bs_ H
               obtain ⟨t363,A44,H⟩ := H
               by_cases c45 : (((x3_1 ++ (⟨#[32]⟩ : ByteArray)) ++ t362) ++ (⟨#[32]⟩ : ByteArray)).size + t363.size ≤ 9223372036854775807
               ·rw [if_pos c45] at H
                have c45b0 := eq_true c45
                have c45b1 : decide ((((x3_1 ++ (⟨#[32]⟩ : ByteArray)) ++ t362) ++ (⟨#[32]⟩ : ByteArray)).size + t363.size ≤ 9223372036854775807) = true := decide_eq_true c45
                try have c45b2 : (9223372036854775807 < (((x3_1 ++ (⟨#[32]⟩ : ByteArray)) ++ t362) ++ (⟨#[32]⟩ : ByteArray)).size + t363.size) = False := eq_false (Nat.not_lt.2 c45)
                have c45b3 : (9223372036854775807 < x3_1.size + 1 + t362.size + 1 + t363.size) = False := by have h_ := c45;(try simp only [ByteArray.size_append] at h_);exact eq_false (Nat.not_lt.2 h_)
                by_cases c46 : ((((x3_1 ++ (⟨#[32]⟩ : ByteArray)) ++ t362) ++ (⟨#[32]⟩ : ByteArray)) ++ t363).size + 3 ≤ 9223372036854775807
                ·rw [if_pos c46] at H
                 have c46b0 := eq_true c46
                 have c46b1 : decide (((((x3_1 ++ (⟨#[32]⟩ : ByteArray)) ++ t362) ++ (⟨#[32]⟩ : ByteArray)) ++ t363).size + 3 ≤ 9223372036854775807) = true := decide_eq_true c46
                 try have c46b2 : (9223372036854775807 < ((((x3_1 ++ (⟨#[32]⟩ : ByteArray)) ++ t362) ++ (⟨#[32]⟩ : ByteArray)) ++ t363).size + 3) = False := eq_false (Nat.not_lt.2 c46)
                 have c46b3 : (9223372036854775807 < x3_1.size + 1 + t362.size + 1 + t363.size + 3) = False := by have h_ := c46;(try simp only [ByteArray.size_append] at h_);exact eq_false (Nat.not_lt.2 h_)
                 replace H := bs_ H
                 obtain ⟨t364,A47,H⟩ := H
                 by_cases c48 : (((((x3_1 ++ (⟨#[32]⟩ : ByteArray)) ++ t362) ++ (⟨#[32]⟩ : ByteArray)) ++ t363) ++ (⟨#[32,48,32]⟩ : ByteArray)).size + t364.size ≤ 9223372036854775807
                 ·rw [if_pos c48] at H
                  have c48b0 := eq_true c48
                  have c48b1 : decide ((((((x3_1 ++ (⟨#[32]⟩ : ByteArray)) ++ t362) ++ (⟨#[32]⟩ : ByteArray)) ++ t363) ++ (⟨#[32,48,32]⟩ : ByteArray)).size + t364.size ≤ 9223372036854775807) = true := decide_eq_true c48
                  try have c48b2 : (9223372036854775807 < (((((x3_1 ++ (⟨#[32]⟩ : ByteArray)) ++ t362) ++ (⟨#[32]⟩ : ByteArray)) ++ t363) ++ (⟨#[32,48,32]⟩ : ByteArray)).size + t364.size) = False := eq_false (Nat.not_lt.2 c48)
                  have c48b3 : (9223372036854775807 < x3_1.size + 1 + t362.size + 1 + t363.size + 3 + t364.size) = False := by have h_ := c48;(try simp only [ByteArray.size_append] at h_);exact eq_false (Nat.not_lt.2 h_)
                  have H' := Aside0.mk H
                  clear H
                  obtain ⟨⟨hcz49_0,hcz49_1,hcz49_2,hcz49_3⟩,hfz49_0,hfz49_1,hfz49_2,hfz49_3⟩ := cl4_ BK352.out
                  have p357 : 0 ≤ (x4_1 : Int) := od_
                  have q357 : x4_1 < (l0_3.length : Int) := od_
                  obtain ⟨ad357,e357,hx357_0,hx357_1,hx357_2,hx357_3,hx357_4⟩ := at_T47 HR0_3.out x4_1 p357 q357
                  (try rw [← Nbq20.out] at hx357_3)
                  cases e357
                  replace hx357_0 := hx_ HB hx357_0
                  replace hx357_1 := hx_ HB hx357_1
                  replace hx357_2 := hx_ HB hx357_2
                  replace hx357_3 := hx_ HB hx357_3
                  replace hx357_4 := hx_ HB hx357_4
                  replace p357 := eq_true p357
                  replace q357 := eq_true q357
                  try go_wp2_with (first|((with_reducible refine gate_dst (N := 5) rfl ?_);refine bx_ 5 #[.int .i64 0,.int .i64 0,.int .i64 0,.bool false,.int .i64 0] 47 ?_;intro gb358 hg w50 hbox hb;replace HB := nb_ hg hbox hb;obtain ⟨BK358,GW358,GE358,HB⟩ := HB;have NB352_358 := Aside0.mk ((nl_ BK352 hg));have NB358_352 := Aside0.mk ((ng_ BK352 hg));replace BK352 := Aside0.mk (blk_below (kb_ BK352) hb);clear hb hbox hg;have hnb51 := NB358_352.out;have hnc51 := NB352_358.out;obtain ⟨⟨hcz52_0,hcz52_1,hcz52_2,hcz52_3,hcz52_4⟩,hfz52_0,hfz52_1,hfz52_2,hfz52_3,hfz52_4⟩ := cl5_ BK358.out))
                  have n0_ : Aside0 ((((((w50.setCell ⟨gb358,0,none⟩ (.int .i64 ((rd_T47 l0_3 x4_1).f0))).setCell ⟨gb358,1,none⟩ (.int .i64 ((rd_T47 l0_3 x4_1).f1))).setCell ⟨gb358,2,none⟩ (.int .i64 ((rd_T47 l0_3 x4_1).f2))).setCell ⟨gb358,3,none⟩ (.bool false)).setCell ⟨gb358,4,none⟩ (.int .i64 ((rd_T47 l0_3 x4_1).f4))).heap[gb352]? = some (.cells #[.int .i64 a0_0,.int .i64 a0_1,.int .i64 a0_2,.slice (some ad357) l0_3.length c0_3] 26 (0,0))) := ⟨kf_ BK352⟩
                  have n1_ : Aside0 ((((((w50.setCell ⟨gb358,0,none⟩ (.int .i64 ((rd_T47 l0_3 x4_1).f0))).setCell ⟨gb358,1,none⟩ (.int .i64 ((rd_T47 l0_3 x4_1).f1))).setCell ⟨gb358,2,none⟩ (.int .i64 ((rd_T47 l0_3 x4_1).f2))).setCell ⟨gb358,3,none⟩ (.bool false)).setCell ⟨gb358,4,none⟩ (.int .i64 ((rd_T47 l0_3 x4_1).f4))).heap[gb358]? = some (.cells #[.int .i64 ((rd_T47 l0_3 x4_1).f0),.int .i64 ((rd_T47 l0_3 x4_1).f1),.int .i64 ((rd_T47 l0_3 x4_1).f2),.bool false,.int .i64 ((rd_T47 l0_3 x4_1).f4)] 47 (0,0))) := ⟨by (with_reducible repeat (first|refine blk_drewN ?_ _|refine blk_drew ?_|refine blk_alloc ?_ _));refine blk_put (cs := #[.int .i64 ((rd_T47 l0_3 x4_1).f0),.int .i64 ((rd_T47 l0_3 x4_1).f1),.int .i64 ((rd_T47 l0_3 x4_1).f2),.bool false,.int .i64 0]) ?_ 4 _ rfl;(with_reducible repeat (first|refine blk_drewN ?_ _|refine blk_drew ?_|refine blk_alloc ?_ _));refine blk_put (cs := #[.int .i64 ((rd_T47 l0_3 x4_1).f0),.int .i64 ((rd_T47 l0_3 x4_1).f1),.int .i64 ((rd_T47 l0_3 x4_1).f2),.bool false,.int .i64 0]) ?_ 3 _ rfl;(with_reducible repeat (first|refine blk_drewN ?_ _|refine blk_drew ?_|refine blk_alloc ?_ _));refine blk_put (cs := #[.int .i64 ((rd_T47 l0_3 x4_1).f0),.int .i64 ((rd_T47 l0_3 x4_1).f1),.int .i64 0,.bool false,.int .i64 0]) ?_ 2 _ rfl;(with_reducible repeat (first|refine blk_drewN ?_ _|refine blk_drew ?_|refine blk_alloc ?_ _));refine blk_put (cs := #[.int .i64 ((rd_T47 l0_3 x4_1).f0),.int .i64 0,.int .i64 0,.bool false,.int .i64 0]) ?_ 1 _ rfl;(with_reducible repeat (first|refine blk_drewN ?_ _|refine blk_drew ?_|refine blk_alloc ?_ _));refine blk_put (cs := #[.int .i64 0,.int .i64 0,.int .i64 0,.bool false,.int .i64 0]) ?_ 0 _ rfl;(with_reducible repeat (first|refine blk_drewN ?_ _|refine blk_drew ?_|refine blk_alloc ?_ _));exact BK358.out⟩
                  have n2_ : Aside0 (Below w.heap.size w (((((w50.setCell ⟨gb358,0,none⟩ (.int .i64 ((rd_T47 l0_3 x4_1).f0))).setCell ⟨gb358,1,none⟩ (.int .i64 ((rd_T47 l0_3 x4_1).f1))).setCell ⟨gb358,2,none⟩ (.int .i64 ((rd_T47 l0_3 x4_1).f2))).setCell ⟨gb358,3,none⟩ (.bool false)).setCell ⟨gb358,4,none⟩ (.int .i64 ((rd_T47 l0_3 x4_1).f4)))) := ⟨b_⟩
                  (try clear BK352)
                  (try clear BK358)
                  (try clear HB)
                  generalize (((((w50.setCell ⟨gb358,0,none⟩ (.int .i64 ((rd_T47 l0_3 x4_1).f0))).setCell ⟨gb358,1,none⟩ (.int .i64 ((rd_T47 l0_3 x4_1).f1))).setCell ⟨gb358,2,none⟩ (.int .i64 ((rd_T47 l0_3 x4_1).f2))).setCell ⟨gb358,3,none⟩ (.bool false)).setCell ⟨gb358,4,none⟩ (.int .i64 ((rd_T47 l0_3 x4_1).f4))) = w53 at n0_ n1_ n2_ ⊢
                  have BK352 := n0_
                  have BK358 := n1_
                  have HB := n2_
                  clear n0_ n1_ n2_
                  replace BK352 := Aside0.mk (blk_drew BK352.out)
                  replace BK358 := Aside0.mk (blk_drew BK358.out)
                  replace HB := Aside0.mk (below_drew1 HB.out)
                  refine st_ 18 (S := fun w' => hd5 w' gb358 (.int .i64 ((rd_T47 l0_3 x4_1).f0)) (.int .i64 ((rd_T47 l0_3 x4_1).f1)) (.int .i64 ((rd_T47 l0_3 x4_1).f2)) (.bool false) (.int .i64 ((rd_T47 l0_3 x4_1).f4))) hh_ (fun hHeld => ?_);refine with_tabW spec_l2Show.tab9 spec_l2Show.bits9 (fun HT_ HW_ => ?_)
                  generalize w53.drew = w54 at BK352 BK358 HB hHeld ⊢
                  refine pv_ 0 40 ?_
                  refine pv_ 1 41 ?_
                  refine pv_ 2 42 ?_
                  refine pv_ 7 47 ?_
                  refine pv_ 11 51 ?_
                  refine pv_ 13 53 ?_
                  refine tx_ 3 43 hHeld ?_
                  refine tx_ 8 48 hHeld ?_
                  refine tx_ 14 54 hHeld ?_
                  refine oy_ 4 44 (fun K hK => ?_)
                  refine gs_ Tryz.func39 #[.int .i64 ((rd_T47 l0_3 x4_1).f1)] ?_
                  with_reducible refine (spec_l2Int.calls k1 ((rd_T47 l0_3 x4_1).f1) t362 _ A41.out).mono ?_
                  rintro e w55 ⟨rfl,hb⟩
                  refine ⟨_,rfl,?_⟩
                  replace BK352 := Aside0.mk (blk_below (kb_ BK352) hb)
                  replace BK358 := Aside0.mk (blk_below (kb_ BK358) hb)
                  replace HB := Aside0.mk (below_step b_ hb)
                  (try clear hb)
                  (try clear hb2)
                  (try clear hk)
                  (try clear hi)
                  refine hK.out _ _ hh_ (fun hHeld => ?_)
                  clear hK K
                  refine nr_ (some 44) _ ?_
                  refine pv_ 5 45 ?_
                  refine pv_ 6 46 ?_
                  refine oy_ 9 49 (fun K hK => ?_)
                  refine gs_ Tryz.func39 #[.int .i64 ((rd_T47 l0_3 x4_1).f2)] ?_
                  with_reducible refine (spec_l2Int.calls k1 ((rd_T47 l0_3 x4_1).f2) t363 _ A44.out).mono ?_
                  rintro e w56 ⟨rfl,hb⟩
                  refine ⟨_,rfl,?_⟩
                  replace BK352 := Aside0.mk (blk_below (kb_ BK352) hb)
                  replace BK358 := Aside0.mk (blk_below (kb_ BK358) hb)
                  replace HB := Aside0.mk (below_step b_ hb)
                  (try clear hb)
                  (try clear hb2)
                  (try clear hk)
                  (try clear hi)
                  refine hK.out _ _ hh_ (fun hHeld => ?_)
                  clear hK K
                  refine nr_ (some 49) _ ?_
                  refine pv_ 10 50 ?_
                  refine pv_ 12 52 ?_
                  refine oy_ 15 55 (fun K hK => ?_)
                  refine gs_ Tryz.func39 #[.int .i64 ((rd_T47 l0_3 x4_1).f4)] ?_
                  with_reducible refine (spec_l2Int.calls k1 ((rd_T47 l0_3 x4_1).f4) t364 _ A47.out).mono ?_
                  rintro e w57 ⟨rfl,hb⟩
                  refine ⟨_,rfl,?_⟩
                  replace BK352 := Aside0.mk (blk_below (kb_ BK352) hb)
                  replace BK358 := Aside0.mk (blk_below (kb_ BK358) hb)
                  replace HB := Aside0.mk (below_step b_ hb)
                  (try clear hb)
                  (try clear hb2)
                  (try clear hk)
                  (try clear hi)
                  refine hK.out _ _ hh_ (fun hHeld => ?_)
                  clear hK K
                  refine nr_ (some 55) _ ?_
                  refine pv_ 16 56 ?_
                  refine pv_ 17 3 ?_
                  refine done_ (done_of HT_.out (by kernel_rfl)) ?_
                  try go_wp2
                  go_roundg k1
                  case measure => have := HK1.out;omega
                  case rel => exact ⟨((((((x3_1 ++ (⟨#[32]⟩ : ByteArray)) ++ t362) ++ (⟨#[32]⟩ : ByteArray)) ++ t363) ++ (⟨#[32,48,32]⟩ : ByteArray)) ++ t364),(wrap64 (x4_1 + 1)),rs_,rs_,H',⟨by have := HK1.out;omega⟩,⟨kb_ BK352⟩,⟨b_⟩⟩
                 ·rw [if_neg c48] at H
                  exact absurd H (by simp)
                ·rw [if_neg c46] at H
                 exact absurd H (by simp)
               ·rw [if_neg c45] at H
                exact absurd H (by simp)
              ·rw [if_neg c43] at H
               exact absurd H (by simp)
             ·rw [if_neg c42] at H
              exact absurd H (by simp)
            ·rw [if_neg c40] at H
             exact absurd H (by simp)
          ·rw [if_neg c19] at H
           exact absurd H (by simp)
         ·rw [if_neg c18] at H
          have c18b0 : decide (x4_1 < (l0_3.length : Int)) = false := decide_eq_false c18
          clear c18
          obtain rfl := Option.some.inj H
          obtain ⟨⟨hcz58_0,hcz58_1,hcz58_2,hcz58_3⟩,hfz58_0,hfz58_1,hfz58_2,hfz58_3⟩ := cl4_ BK352.out
          go_wp2
          go_ret
          exact ⟨rf_,b_⟩
      ·rw [if_neg c11] at H
       exact absurd H (by simp)
     ·rw [if_neg c9] at H
      exact absurd H (by simp)
    ·rw [if_neg c8] at H
     exact absurd H (by simp)
   ·rw [if_neg c6] at H
    exact absurd H (by simp)
  ·rw [if_neg c5] at H
   exact absurd H (by simp)
 ·rw [if_neg c3] at H
  exact absurd H (by simp)

end Go.Proofs.YtnilfnkdgdfnnaaGreatDoor.XRe
