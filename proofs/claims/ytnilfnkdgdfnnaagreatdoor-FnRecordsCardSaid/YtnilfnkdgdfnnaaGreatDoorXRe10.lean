/- Proved: of each Go function here that a call comes to what the Lean function of its name tells. Written by a program of this session over the translation. No conditions beyond each theorem's own. -/
import Derived.Test.YtnilfnkdgdfnnaaGreatDoorXRe0
namespace Go.Proofs.YtnilfnkdgdfnnaaGreatDoor.XRe
open Go.RowKit Go.Proofs.YtnilfnkdgdfnnaaGreatDoor.Aid Go.Proofs.YtnilfnkdgdfnnaaGreatDoorW.PrintWords Go.Proofs.YtnilfnkdgdfnnaaGreatDoorW.PrintLast Go.Proofs.YtnilfnkdgdfnnaaGreatDoorW.PrintMore
set_option linter.unusedVariables false
set_option linter.unusedSimpArgs false

/-! ### spec_l2Int: function 39 -/
mutual
def spec_l2Int.l0 : Nat → Int → ByteArray → Bool → Option (ByteArray)
  | 0, _, _, _ => none
  | k + 1, x0, x3, x4 => if x3.toList = ([] : List UInt8) then (spec_l2Int.j1 k x0 x3 x4 true) else (spec_l2Int.j1 k x0 x3 x4 (x0 != 0))
def spec_l2Int.j1 : Nat → Int → ByteArray → Bool → Bool → Option (ByteArray)
  | 0, _, _, _, _ => none
  | k + 1, x0, x3, x4, x13 => if x13 = true then (if (Int.tmod x0 10) < 0 then ((some (([(wrap64 (48 + (wrap64 (-(Int.tmod x0 10))))) % 256] : List Int) : List Int)).bind fun y346 => (if (strOfNums y346).size + x3.size ≤ 9223372036854775807 then (spec_l2Int.l0 k (wrap64 (Int.tdiv x0 10)) ((strOfNums y346) ++ x3) x4) else (none))) else ((some (([(wrap64 (48 + (Int.tmod x0 10))) % 256] : List Int) : List Int)).bind fun y349 => (if (strOfNums y349).size + x3.size ≤ 9223372036854775807 then (spec_l2Int.l0 k (wrap64 (Int.tdiv x0 10)) ((strOfNums y349) ++ x3) x4) else (none)))) else (if x4 = true then (if 1 + x3.size ≤ 9223372036854775807 then (some ((⟨#[45]⟩ : ByteArray) ++ x3)) else (none)) else (some x3))
end
def spec_l2Int.f (k : Nat) (a0 : Int) : Option (ByteArray) := spec_l2Int.l0 k a0 (⟨#[]⟩ : ByteArray) (decide (a0 < 0))

set_option maxHeartbeats 8000000 in
set_option maxRecDepth 100000 in
theorem spec_l2Int.calls (k : Nat) (a0 : Int) (r : ByteArray) (w : World) (h : spec_l2Int.f k a0 = some r) :
    Calls Tryz.prog 39 #[.int .i64 a0] w fun e w' => e = .returned (.string r) ∧ Below w.heap.size w w' := by
 have HB := Aside0.mk (Below.refl w.heap.size w)
 have H : (spec_l2Int.l0 k a0 (⟨#[]⟩ : ByteArray) (decide (a0 < 0))) = some r := h
 clear h
 have H' := Aside0.mk H
 clear H
 go_enter Tryz.func39,Tryz.ntmps39
 go_wp2
 go_loopg [0,3] k (fun kq v0 v3 w' => ∃ (x0_1 : Int) (x3_1 : ByteArray),v0 = .int .i64 x0_1 ∧ v3 = .string x3_1 ∧ Aside0 (spec_l2Int.l0 kq x0_1 x3_1 (decide (a0 < 0)) = some r) ∧ Aside0 (kq ≤ k) ∧ Aside0 (Below w.heap.size w w'))
 case atStart => exact ⟨(a0),((⟨#[]⟩ : ByteArray)),rs_,rs_,H',⟨Nat.le_refl _⟩,⟨b_⟩⟩
 case round =>
  clear H'
  obtain ⟨x0_1,x3_1,rfl,rfl,HA,HK1,HB⟩ := hrel
  cases gk with
    | zero => exact absurd HA.out (by simp [spec_l2Int.l0])
    | succ k1 =>
   have H := HA.out
   clear HA
   simp only [spec_l2Int.l0] at H
   have HC2 := Aside0.mk H
   clear H
   go_upto_region 3 with (fail)
   go_cut [13] (fun v13 wc => ∃ (kq : Nat) (x13_1 : Bool),v13 = .bool x13_1 ∧ Aside0 (spec_l2Int.j1 kq x0_1 x3_1 (decide (a0 < 0)) x13_1 = some r) ∧ Aside0 (kq ≤ k1) ∧ Aside0 (Below w.heap.size w wc))
   case first =>
    have H := HC2.out
    clear HC2
    by_cases c3 : x3_1.toList = ([] : List UInt8)
    ·rw [if_pos c3] at H
     have c3b0 : (x3_1.toList == ([] : List UInt8)) = true := beq_iff_eq.mpr c3
     have c3b1 : (x3_1.toList != ([] : List UInt8)) = false := bne_eq_false_iff_eq.mpr c3
     clear c3
     (first|rw [c3b0]|(simp only [i64_w,i32_w];rw [c3b0])|skip)
     have H' := Aside0.mk H
     clear H
     go_wp2
     go_meet
     case rel => exact ⟨_,(true),rs_,H',⟨by have := HK1.out;first|omega|exact Nat.le_refl _⟩,⟨b_⟩⟩
    ·rw [if_neg c3] at H
     have c3b0 : (x3_1.toList == ([] : List UInt8)) = false := beq_eq_false_iff_ne.mpr c3
     have c3b1 : (x3_1.toList != ([] : List UInt8)) = true := bne_iff_ne.mpr c3
     (first|rw [c3b0]|(simp only [i64_w,i32_w];rw [c3b0])|skip)
     have H' := Aside0.mk H
     clear H
     go_wp2
     go_meet
     case rel => exact ⟨_,((x0_1 != 0)),rs_,H',⟨by have := HK1.out;first|omega|exact Nat.le_refl _⟩,⟨b_⟩⟩
   case rest =>
    clear HC2
    try clear p2
    try clear c3
    try clear c3b0
    try clear c3b1
    obtain ⟨kq,x13_1,rfl,HA,HJ1,HB⟩ := hcut
    cases kq with
    | zero => exact absurd HA.out (by simp [spec_l2Int.j1])
    | succ kj1 =>
     have H := HA.out
     clear HA
     simp only [spec_l2Int.j1] at H
     by_cases c4 : x13_1 = true
     ·subst c4
      replace H := it_ H
      by_cases c5 : (Int.tmod x0_1 10) < 0
      ·rw [if_pos c5] at H
       have c5b0 : decide ((Int.tmod x0_1 10) < 0) = true := decide_eq_true c5
       clear c5
       obtain ⟨y346,hy346⟩ : ∃ y_ : List Int,y_ = (([(wrap64 (48 + (wrap64 (-(Int.tmod x0_1 10))))) % 256] : List Int)) := ⟨_,rfl⟩
       replace H : (if (strOfNums y346).size + x3_1.size ≤ 9223372036854775807 then (spec_l2Int.l0 kj1 (wrap64 (Int.tdiv x0_1 10)) ((strOfNums y346) ++ x3_1) (decide (a0 < 0))) else (none)) = some r := by first|(rw [hy346];with_reducible exact H)|(have H2_ := (Option.bind_some _ _).symm.trans H;rw [hy346];with_reducible exact H2_)|(have H2_ := (Option.bind_some _ _).symm.trans H;with_reducible exact H2_)|with_reducible exact H|(rw [hy346];exact H)|exact H
       have Ny346 := Aside0.mk hy346
       clear hy346
       by_cases c6 : (strOfNums y346).size + x3_1.size ≤ 9223372036854775807
       ·rw [if_pos c6] at H
        have c6b0 := eq_true c6
        have c6b1 : decide ((strOfNums y346).size + x3_1.size ≤ 9223372036854775807) = true := decide_eq_true c6
        try have c6b2 : (9223372036854775807 < (strOfNums y346).size + x3_1.size) = False := eq_false (Nat.not_lt.2 c6)
        have H' := Aside0.mk H
        clear H
        go_wp2_with (first|((with_reducible refine gate_dst (N := 23) rfl ?_);refine Kd.R_lit (Kd.int .u8) _ 5 ?hg (N := 23) ?hd (xs := ([(wrap64 (48 + (wrap64 (-(Int.tmod x0_1 10))))) % 256] : List Int)) (inner := [.int .u8 ((wrap64 (48 + (wrap64 (-(Int.tmod x0_1 10))))) % 256)]) (ok := fun _ => True) (okp := fun _ => True) ?hr ?hp (fun _ hk => hk) trivial (Below.refl _ _) (Nat.le_refl _) (by simp) ?_;(case hd => rfl);(case hg => rfl);(case hr => first|(go_simp;done)|(go_simp;rfl));(case hp => exact (Reps.one (show Kd.M (Kd.int .u8) _ _ _ ((wrap64 (48 + (wrap64 (-(Int.tmod x0_1 10))))) % 256) [.int .u8 ((wrap64 (48 + (wrap64 (-(Int.tmod x0_1 10))))) % 256)] from rfl) (Reps.none _ _)));intro v347 w7 ho8 hb hg_ hnew_;clear hg_ hnew_;(first|rw [← Ny346.out] at ho8|(simp only [Int.reduceToNat] at ho8;rw [← Ny346.out] at ho8));have HO348 := Aside0.mk (Kd.R_lower ho8 (below_size b_));replace HB := Aside0.mk (below_step b_ hb);clear hb ho8;have hcv9 := own_string (P := Tryz.prog) Tryz.underlying22 Tryz.underlying5 Tryz.underlying9 (Kd.own_of_R HO348.out)))
        go_roundg kj1
        case measure => have := HK1.out;have := HJ1.out;omega
        case rel => exact ⟨(wrap64 (Int.tdiv x0_1 10)),((strOfNums y346) ++ x3_1),rs_,rs_,H',⟨by have := HK1.out;have := HJ1.out;omega⟩,⟨b_⟩⟩
       ·rw [if_neg c6] at H
        exact absurd H (by simp)
      ·rw [if_neg c5] at H
       have c5b0 : decide ((Int.tmod x0_1 10) < 0) = false := decide_eq_false c5
       clear c5
       obtain ⟨y349,hy349⟩ : ∃ y_ : List Int,y_ = (([(wrap64 (48 + (Int.tmod x0_1 10))) % 256] : List Int)) := ⟨_,rfl⟩
       replace H : (if (strOfNums y349).size + x3_1.size ≤ 9223372036854775807 then (spec_l2Int.l0 kj1 (wrap64 (Int.tdiv x0_1 10)) ((strOfNums y349) ++ x3_1) (decide (a0 < 0))) else (none)) = some r := by first|(rw [hy349];with_reducible exact H)|(have H2_ := (Option.bind_some _ _).symm.trans H;rw [hy349];with_reducible exact H2_)|(have H2_ := (Option.bind_some _ _).symm.trans H;with_reducible exact H2_)|with_reducible exact H|(rw [hy349];exact H)|exact H
       have Ny349 := Aside0.mk hy349
       clear hy349
       by_cases c10 : (strOfNums y349).size + x3_1.size ≤ 9223372036854775807
       ·rw [if_pos c10] at H
        have c10b0 := eq_true c10
        have c10b1 : decide ((strOfNums y349).size + x3_1.size ≤ 9223372036854775807) = true := decide_eq_true c10
        try have c10b2 : (9223372036854775807 < (strOfNums y349).size + x3_1.size) = False := eq_false (Nat.not_lt.2 c10)
        have H' := Aside0.mk H
        clear H
        go_wp2_with (first|((with_reducible refine gate_dst (N := 23) rfl ?_);refine Kd.R_lit (Kd.int .u8) _ 5 ?hg (N := 23) ?hd (xs := ([(wrap64 (48 + (Int.tmod x0_1 10))) % 256] : List Int)) (inner := [.int .u8 ((wrap64 (48 + (Int.tmod x0_1 10))) % 256)]) (ok := fun _ => True) (okp := fun _ => True) ?hr ?hp (fun _ hk => hk) trivial (Below.refl _ _) (Nat.le_refl _) (by simp) ?_;(case hd => rfl);(case hg => rfl);(case hr => first|(go_simp;done)|(go_simp;rfl));(case hp => exact (Reps.one (show Kd.M (Kd.int .u8) _ _ _ ((wrap64 (48 + (Int.tmod x0_1 10))) % 256) [.int .u8 ((wrap64 (48 + (Int.tmod x0_1 10))) % 256)] from rfl) (Reps.none _ _)));intro v350 w11 ho12 hb hg_ hnew_;clear hg_ hnew_;(first|rw [← Ny349.out] at ho12|(simp only [Int.reduceToNat] at ho12;rw [← Ny349.out] at ho12));have HO351 := Aside0.mk (Kd.R_lower ho12 (below_size b_));replace HB := Aside0.mk (below_step b_ hb);clear hb ho12;have hcv13 := own_string (P := Tryz.prog) Tryz.underlying22 Tryz.underlying5 Tryz.underlying9 (Kd.own_of_R HO351.out)))
        go_roundg kj1
        case measure => have := HK1.out;have := HJ1.out;omega
        case rel => exact ⟨(wrap64 (Int.tdiv x0_1 10)),((strOfNums y349) ++ x3_1),rs_,rs_,H',⟨by have := HK1.out;have := HJ1.out;omega⟩,⟨b_⟩⟩
       ·rw [if_neg c10] at H
        exact absurd H (by simp)
     ·replace c4 := Bool.eq_false_iff.mpr c4
      subst c4
      replace H := ie_ H
      by_cases c14 : (decide (a0 < 0)) = true
      ·rw [if_pos c14] at H
       have c14b0 : (decide (a0 < 0)) = true := c14
       clear c14
       try rw [c14b0]
       by_cases c15 : 1 + x3_1.size ≤ 9223372036854775807
       ·rw [if_pos c15] at H
        have c15b0 := eq_true c15
        have c15b1 : decide (1 + x3_1.size ≤ 9223372036854775807) = true := decide_eq_true c15
        try have c15b2 : (9223372036854775807 < 1 + x3_1.size) = False := eq_false (Nat.not_lt.2 c15)
        obtain rfl := Option.some.inj H
        go_wp2
        go_ret
        exact ⟨rf_,b_⟩
       ·rw [if_neg c15] at H
        exact absurd H (by simp)
      ·rw [if_neg c14] at H
       have c14b0 : (decide (a0 < 0)) = false := by simpa using c14
       clear c14
       try rw [c14b0]
       obtain rfl := Option.some.inj H
       go_wp2
       go_ret
       exact ⟨rf_,b_⟩

end Go.Proofs.YtnilfnkdgdfnnaaGreatDoor.XRe
