/- Proved: of each Go function here that a call comes to what the Lean function of its name tells. Written by a program of this session over the translation. No conditions beyond each theorem's own. -/
import Derived.Test.YtnilfnkdgdfnnaaGreatDoorXRe0
import Derived.Test.YtnilfnkdgdfnnaaGreatDoorXRe2
import Derived.Test.YtnilfnkdgdfnnaaGreatDoorXRe3
import Derived.Test.YtnilfnkdgdfnnaaGreatDoorXRe5
import Derived.Test.YtnilfnkdgdfnnaaGreatDoorXRe7
import Derived.Test.YtnilfnkdgdfnnaaGreatDoorXRe12
import Derived.Test.YtnilfnkdgdfnnaaGreatDoorXRe14
import Derived.Test.YtnilfnkdgdfnnaaGreatDoorXRe15
import Derived.Test.YtnilfnkdgdfnnaaGreatDoorXRe17
namespace Go.Proofs.YtnilfnkdgdfnnaaGreatDoor.XRe
open Go.RowKit Go.Proofs.YtnilfnkdgdfnnaaGreatDoor.Aid Go.Proofs.YtnilfnkdgdfnnaaGreatDoorW.PrintWords Go.Proofs.YtnilfnkdgdfnnaaGreatDoorW.PrintLast Go.Proofs.YtnilfnkdgdfnnaaGreatDoorW.PrintMore
set_option linter.unusedVariables false
set_option linter.unusedSimpArgs false

/-! ### laws_FnRecords: function 3 -/
mutual
def laws_FnRecords.j0 : Nat → List Int → ByteArray → Bool → Int → Int → Int → List (S47) → Option (Bool)
  | 0, _, _, _, _, _, _, _ => none
  | k + 1, x0, x4, x28, x456000, x456001, x456002, x456003 => if x28 = true then (some false) else (if x4.toList = ([] : List UInt8) then (laws_FnRecords.j1 k x0) else ((impl_ReadRecord.f k x4).bind fun bt459 => (if bt459.2.2.2.2 = true then ((laws_likeRecord.f k bt459.1 bt459.2.1 bt459.2.2.1 bt459.2.2.2.1 x456000 x456001 x456002 x456003).bind fun t467 => (if t467 = true then (laws_FnRecords.j1 k x0) else (some false))) else (some false))))
def laws_FnRecords.j1 : Nat → List Int → Option (Bool)
  | 0, _ => none
  | k + 1, x0 => (spec_DrawReadRecord.f k x0).bind fun t468 => ((impl_ReadRecord.f k t468).bind fun bt469 => ((spec_ReadRecord.f k t468).bind fun bt477 => (if (bt469.2.2.2.2 != bt477.2.2.2.2) = true then (laws_FnRecords.j2 k t468 bt469.2.2.2.2 true bt469.1 bt469.2.1 bt469.2.2.1 bt469.2.2.2.1) else ((laws_likeRecord.f k bt469.1 bt469.2.1 bt469.2.2.1 bt469.2.2.2.1 bt477.1 bt477.2.1 bt477.2.2.1 bt477.2.2.2.1).bind fun t485 => (laws_FnRecords.j2 k t468 bt469.2.2.2.2 (!t485) bt469.1 bt469.2.1 bt469.2.2.1 bt469.2.2.2.1)))))
def laws_FnRecords.j2 : Nat → ByteArray → Bool → Bool → Int → Int → Int → List (S47) → Option (Bool)
  | 0, _, _, _, _, _, _, _ => none
  | k + 1, x7, x9, x64, x477000, x477001, x477002, x477003 => if x64 = true then (some false) else (if x9 = true then ((impl_ShowRecord.f k x477000 x477001 x477002 x477003).bind fun t486 => (some (t486.toList == x7.toList))) else ((laws_likeRecord.f k x477000 x477001 x477002 x477003 0 0 0 ([] : List (S47))).bind fun t487 => (if t487 = true then (some true) else (some false))))
end
def laws_FnRecords.f (k : Nat) (l0 : List Int) : Option (Bool) := (laws_big.f l0).bind fun t448 => (if t448 = true then (some true) else ((spec_DrawShowRecord.f k l0).bind fun bt449 => ((impl_ShowRecord.f k bt449.1 bt449.2.1 bt449.2.2.1 bt449.2.2.2).bind fun t456 => ((spec_ShowRecord.f k bt449.1 bt449.2.1 bt449.2.2.1 bt449.2.2.2).bind fun t457 => (if t456.toList = t457.toList then ((impl_RecordOk.f k bt449.1 bt449.2.1 bt449.2.2.1 bt449.2.2.2).bind fun t458 => (laws_FnRecords.j0 k l0 t456 ((t456.toList != ([] : List UInt8)) != t458) bt449.1 bt449.2.1 bt449.2.2.1 bt449.2.2.2)) else (laws_FnRecords.j0 k l0 t456 true bt449.1 bt449.2.1 bt449.2.2.1 bt449.2.2.2))))))

set_option maxHeartbeats 8000000 in
set_option maxRecDepth 100000 in
theorem laws_FnRecords.calls (k : Nat) (A0 : Option Addr) (c0 : Nat) (l0 : List Int) (r : Bool) (w : World) (htb : Aside0 (Tb w)) (hr0 : Kd.C (Kd.int .u8) w A0 l0.length l0) (hc0 : l0.length ≤ c0) (h : laws_FnRecords.f k l0 = some r) :
    Calls Tryz.prog 3 #[.slice A0 l0.length c0] w fun e w' => e = .returned (.bool r) ∧ Below w.heap.size w w' := by
 have hu26 := Tryz.underlying26
 have HR0 := Aside0.mk hr0
 have HC0 := Aside0.mk hc0
 clear hr0 hc0
 have HB := Aside0.mk (Below.refl w.heap.size w)
 have H : ((laws_big.f l0).bind fun t448 => (if t448 = true then (some true) else ((spec_DrawShowRecord.f k l0).bind fun bt449 => ((impl_ShowRecord.f k bt449.1 bt449.2.1 bt449.2.2.1 bt449.2.2.2).bind fun t456 => ((spec_ShowRecord.f k bt449.1 bt449.2.1 bt449.2.2.1 bt449.2.2.2).bind fun t457 => (if t456.toList = t457.toList then ((impl_RecordOk.f k bt449.1 bt449.2.1 bt449.2.2.1 bt449.2.2.2).bind fun t458 => (laws_FnRecords.j0 k l0 t456 ((t456.toList != ([] : List UInt8)) != t458) bt449.1 bt449.2.1 bt449.2.2.1 bt449.2.2.2)) else (laws_FnRecords.j0 k l0 t456 true bt449.1 bt449.2.1 bt449.2.2.1 bt449.2.2.2))))))) = some r := h
 clear h
 replace H := bs_ H
 obtain ⟨t448,A2,H⟩ := H
 by_cases c3 : t448 = true
 ·subst c3
  replace H := it_ H
  obtain rfl := Option.some.inj H
  go_enter Tryz.func3,Tryz.ntmps3
  go_wp2_with (first|((with_reducible refine gcal_ (f := 4) rfl ?_);refine gl_ (some 13) Tryz.func4 #[.slice A0 l0.length c0] ?_;(with_reducible refine (laws_big.calls _ _ l0 true _ ?side1 ?side2 A2.out).mono ?_);(case side1 => repeat (first|exact HR0.out|(with_reducible refine Kd.C_alloc ?_ _)|(with_reducible refine Kd.C_drewN ?_ _)|(with_reducible refine Kd.C_drew ?_)));(case side2 => exact HC0.out);rintro e w' ⟨rfl,⟨nd,rfl⟩⟩;refine ⟨_,rfl,?_⟩))
  go_ret
  exact ⟨rf_,b_⟩
 ·replace c3 := Bool.eq_false_iff.mpr c3
  subst c3
  replace H := ie_ H
  replace H := Option.bind_eq_some_iff.mp H
  obtain ⟨⟨t449,t450,t451,t452⟩,A40,H⟩ := H
  replace H : ((impl_ShowRecord.f k t449 t450 t451 t452).bind fun t456 => ((spec_ShowRecord.f k t449 t450 t451 t452).bind fun t457 => (if t456.toList = t457.toList then ((impl_RecordOk.f k t449 t450 t451 t452).bind fun t458 => (laws_FnRecords.j0 k l0 t456 ((t456.toList != ([] : List UInt8)) != t458) t449 t450 t451 t452)) else (laws_FnRecords.j0 k l0 t456 true t449 t450 t451 t452)))) = some r := H
  have A4 := Aside0.mk A40
  clear A40
  replace H := bs_ H
  obtain ⟨t456,A5,H⟩ := H
  have HC6 := Aside0.mk H
  clear H
  go_enter Tryz.func3,Tryz.ntmps3
  go_upto_region 5 with (first|((with_reducible refine gcal_ (f := 4) rfl ?_);refine gl_ (some 13) Tryz.func4 #[.slice A0 l0.length c0] ?_;(with_reducible refine (laws_big.calls _ _ l0 false _ ?side1 ?side2 A2.out).mono ?_);(case side1 => repeat (first|exact HR0.out|(with_reducible refine Kd.C_alloc ?_ _)|(with_reducible refine Kd.C_drewN ?_ _)|(with_reducible refine Kd.C_drew ?_)));(case side2 => exact HC0.out);rintro e w' ⟨rfl,⟨nd,rfl⟩⟩;refine ⟨_,rfl,?_⟩)|((with_reducible refine gcal_ (f := 5) rfl ?_);refine gl_ (some 15) Tryz.func5 #[.slice A0 l0.length c0] ?_;(with_reducible refine (spec_DrawShowRecord.calls k _ _ l0 t449 t450 t451 t452 _ ?side1 ?side2 A4.out).mono ?_);(case side1 => repeat (first|exact HR0.out|(with_reducible refine Kd.C_alloc ?_ _)|(with_reducible refine Kd.C_drewN ?_ _)|(with_reducible refine Kd.C_drew ?_)));(case side2 => exact HC0.out);rintro e w7 ⟨v453,rfl,ho0,hb⟩;refine ⟨_,rfl,?_⟩;have n0_ := Aside0.mk (Kd.R_lower ho0 (below_size b_));have n1_ := Aside0.mk (below_step b_ hb);clear HB;have HO454 := n0_;have HB := n1_;clear n0_ n1_;(try clear hb);(try clear hb2);(try clear hk);(try clear hi);(try clear ho0))|((with_reducible refine gate_dst (N := 3) rfl ?_);refine bx_ 3 #[.int .i64 0,.int .i64 0,.int .i64 0,.slice none 0 0] 26 ?_;intro gb455 hg w8 hbox hb;have n0_ := Aside0.mk (Kd.R_below (by (with_reducible repeat (first|apply Kd.R_alloc|apply Kd.R_drewN|apply Kd.R_drew));exact HO454.out) hb);have n1_ := Aside0.mk (below_step b_ hb);have n2_ := Aside0.mk (hbox);have n3_ := Aside0.mk ((gw_ (w := w) hg));have n4_ := Aside0.mk ((gw_ (w := w) hg));clear HO454;clear HB;have HO454 := n0_;have HB := n1_;have BK455 := n2_;have GW455 := n3_;have GE455 := n4_;clear n0_ n1_ n2_ n3_ n4_;clear hb hbox hg;obtain ⟨⟨hcz9_0,hcz9_1,hcz9_2,hcz9_3⟩,hfz9_0,hfz9_1,hfz9_2,hfz9_3⟩ := cl4_ BK455.out;obtain ⟨Ao10,co10,eo10⟩ := Kd.R_slice HO454.out;subst eo10)|((with_reducible refine gcal_ (f := 6) rfl ?_);refine gl_ (some 17) Tryz.func6 #[.agg #[.int .i64 t449,.int .i64 t450,.int .i64 t451,.slice Ao10 t452.length co10]] ?_;(with_reducible refine (impl_ShowRecord.calls k t449 t450 t451 _ _ t452 t456 _ ?sideT ?side1 ?side2 A5.out).mono ?_);(case sideT => exact tb_ htb);(case side1 => refine (Kd.R_reads' (e := 47) (base := w.heap.size) (ok := fun k_ => True) (n := t452.length) (c := co10) ?_).2.2;exact (by (with_reducible repeat (first|apply Kd.R_alloc|apply Kd.R_drewN|apply Kd.R_drew));exact (Kd.R_mono (Kd.R_far (p := ⟨gb455,3,none⟩) (Kd.R_far (p := ⟨gb455,2,none⟩) (Kd.R_far (p := ⟨gb455,1,none⟩) (Kd.R_far (p := ⟨gb455,0,none⟩) (Kd.R_types HO454.out BK455.out (by decide)) (fun _ hk => hk.2) (.int .i64 t449)) (fun _ hk => hk.2) (.int .i64 t450)) (fun _ hk => hk.2) (.int .i64 t451)) (fun _ hk => hk.2) (.slice Ao10 t452.length co10)) (fun _ h_ => h_.1))));(case side2 => exact (Kd.R_reads' HO454.out).2.1);rintro e w11 ⟨rfl,hb⟩;refine ⟨_,rfl,?_⟩;have n0_ := Aside0.mk (Kd.R_below (by (with_reducible repeat (first|apply Kd.R_alloc|apply Kd.R_drewN|apply Kd.R_drew));exact (Kd.R_mono (Kd.R_far (p := ⟨gb455,3,none⟩) (Kd.R_far (p := ⟨gb455,2,none⟩) (Kd.R_far (p := ⟨gb455,1,none⟩) (Kd.R_far (p := ⟨gb455,0,none⟩) (Kd.R_types HO454.out BK455.out (by decide)) (fun _ hk => hk.2) (.int .i64 t449)) (fun _ hk => hk.2) (.int .i64 t450)) (fun _ hk => hk.2) (.int .i64 t451)) (fun _ hk => hk.2) (.slice Ao10 t452.length co10)) (fun _ h_ => h_.1))) hb);have n1_ := Aside0.mk (blk_below (g := gb455) (o := .cells #[.int .i64 t449,.int .i64 t450,.int .i64 t451,.slice Ao10 t452.length co10] 26 (0,0)) (by (with_reducible repeat (first|refine blk_drewN ?_ _|refine blk_drew ?_|refine blk_alloc ?_ _));refine blk_put (cs := #[.int .i64 t449,.int .i64 t450,.int .i64 t451,.slice none 0 0]) ?_ 3 _ rfl;(with_reducible repeat (first|refine blk_drewN ?_ _|refine blk_drew ?_|refine blk_alloc ?_ _));refine blk_put (cs := #[.int .i64 t449,.int .i64 t450,.int .i64 0,.slice none 0 0]) ?_ 2 _ rfl;(with_reducible repeat (first|refine blk_drewN ?_ _|refine blk_drew ?_|refine blk_alloc ?_ _));refine blk_put (cs := #[.int .i64 t449,.int .i64 0,.int .i64 0,.slice none 0 0]) ?_ 1 _ rfl;(with_reducible repeat (first|refine blk_drewN ?_ _|refine blk_drew ?_|refine blk_alloc ?_ _));refine blk_put (cs := #[.int .i64 0,.int .i64 0,.int .i64 0,.slice none 0 0]) ?_ 0 _ rfl;(with_reducible repeat (first|refine blk_drewN ?_ _|refine blk_drew ?_|refine blk_alloc ?_ _));exact BK455.out) hb);have n2_ := Aside0.mk (below_step b_ hb);clear HO454;clear BK455;clear HB;have HO454 := n0_;have BK455 := n1_;have HB := n2_;clear n0_ n1_ n2_;(try clear hb);(try clear hb2);(try clear hk);(try clear hi)))
  (try simp only [Act.put,List.setIfInBounds_toArray,List.set_cons_zero,List.set_cons_succ])
  go_cut [28] (fun v28 wc => ∃ (kq : Nat) (x28_5 : Bool),v28 = .bool x28_5 ∧ Aside0 (laws_FnRecords.j0 kq l0 t456 x28_5 t449 t450 t451 t452 = some r) ∧ Aside0 (kq ≤ k) ∧ Aside0 (Kd.R k47 47 wc w.heap.size (fun _ => True) (.slice Ao10 t452.length co10) t452) ∧ Aside0 (wc.heap[gb455]? = some (.cells #[.int .i64 t449,.int .i64 t450,.int .i64 t451,(.slice Ao10 t452.length co10)] 26 (0,0))) ∧ Aside0 (Below w.heap.size w wc))
  case first =>
   have H := HC6.out
   clear HC6
   replace H := bs_ H
   obtain ⟨t457,A12,H⟩ := H
   by_cases c13 : t456.toList = t457.toList
   ·rw [if_pos c13] at H
    have c13b0 : (t456.toList == t457.toList) = true := beq_iff_eq.mpr c13
    have c13b1 : (t456.toList != t457.toList) = false := bne_eq_false_iff_eq.mpr c13
    clear c13
    (first|rw [c13b0]|(simp only [i64_w,i32_w];rw [c13b0])|skip)
    replace H := bs_ H
    obtain ⟨t458,A14,H⟩ := H
    have H' := Aside0.mk H
    clear H
    obtain ⟨⟨hcz15_0,hcz15_1,hcz15_2,hcz15_3⟩,hfz15_0,hfz15_1,hfz15_2,hfz15_3⟩ := cl4_ BK455.out
    go_wp2_with (first|((with_reducible refine gcal_ (f := 7) rfl ?_);refine gl_ (some 20) Tryz.func7 #[.agg #[.int .i64 t449,.int .i64 t450,.int .i64 t451,.slice Ao10 t452.length co10]] ?_;(with_reducible refine (spec_ShowRecord.calls k t449 t450 t451 _ _ t452 t457 _ ?side1 ?side2 A12.out).mono ?_);(case side1 => repeat (first|exact (Kd.R_reads' HO454.out).2.2|(with_reducible refine Kd.C_alloc ?_ _)|(with_reducible refine Kd.C_drewN ?_ _)|(with_reducible refine Kd.C_drew ?_)));(case side2 => exact (Kd.R_reads' HO454.out).2.1);rintro e w16 ⟨rfl,hb⟩;refine ⟨_,rfl,?_⟩;replace HO454 := Aside0.mk (Kd.R_below (by (with_reducible repeat (first|apply Kd.R_alloc|apply Kd.R_drewN|apply Kd.R_drew));exact HO454.out) hb);replace BK455 := Aside0.mk (blk_below (kb_ BK455) hb);replace HB := Aside0.mk (below_step b_ hb);(try clear hb);(try clear hb2);(try clear hk);(try clear hi);obtain ⟨⟨hcz17_0,hcz17_1,hcz17_2,hcz17_3⟩,hfz17_0,hfz17_1,hfz17_2,hfz17_3⟩ := cl4_ BK455.out)|(go_at_call 8;(with_reducible refine (impl_RecordOk.calls k t449 t450 t451 _ _ t452 t458 _ ?side1 ?side2 A14.out).mono ?_);(case side1 => repeat (first|exact (Kd.R_reads' HO454.out).2.2|(with_reducible refine Kd.C_alloc ?_ _)|(with_reducible refine Kd.C_drewN ?_ _)|(with_reducible refine Kd.C_drew ?_)));(case side2 => exact (Kd.R_reads' HO454.out).2.1);rintro e w18 ⟨rfl,hb⟩;replace HO454 := Aside0.mk (Kd.R_below (by (with_reducible repeat (first|apply Kd.R_alloc|apply Kd.R_drewN|apply Kd.R_drew));exact HO454.out) hb);replace BK455 := Aside0.mk (blk_below (kb_ BK455) hb);replace HB := Aside0.mk (below_step b_ hb);(try clear hb);(try clear hb2);(try clear hk);(try clear hi)))
    go_meet
    case rel => exact ⟨_,(((t456.toList != ([] : List UInt8)) != t458)),(by generalize t456.toList = z_;cases t458 <;> cases z_ <;> simp),H',⟨by first|omega|exact Nat.le_refl _⟩,⟨by (with_reducible repeat (first|apply Kd.R_alloc|apply Kd.R_drewN|apply Kd.R_drew));exact HO454.out⟩,⟨kb_ BK455⟩,⟨b_⟩⟩
   ·rw [if_neg c13] at H
    have c13b0 : (t456.toList == t457.toList) = false := beq_eq_false_iff_ne.mpr c13
    have c13b1 : (t456.toList != t457.toList) = true := bne_iff_ne.mpr c13
    (first|rw [c13b0]|(simp only [i64_w,i32_w];rw [c13b0])|skip)
    have H' := Aside0.mk H
    clear H
    obtain ⟨⟨hcz19_0,hcz19_1,hcz19_2,hcz19_3⟩,hfz19_0,hfz19_1,hfz19_2,hfz19_3⟩ := cl4_ BK455.out
    go_wp2_with (first|((with_reducible refine gcal_ (f := 7) rfl ?_);refine gl_ (some 20) Tryz.func7 #[.agg #[.int .i64 t449,.int .i64 t450,.int .i64 t451,.slice Ao10 t452.length co10]] ?_;(with_reducible refine (spec_ShowRecord.calls k t449 t450 t451 _ _ t452 t457 _ ?side1 ?side2 A12.out).mono ?_);(case side1 => repeat (first|exact (Kd.R_reads' HO454.out).2.2|(with_reducible refine Kd.C_alloc ?_ _)|(with_reducible refine Kd.C_drewN ?_ _)|(with_reducible refine Kd.C_drew ?_)));(case side2 => exact (Kd.R_reads' HO454.out).2.1);rintro e w20 ⟨rfl,hb⟩;refine ⟨_,rfl,?_⟩;replace HO454 := Aside0.mk (Kd.R_below (by (with_reducible repeat (first|apply Kd.R_alloc|apply Kd.R_drewN|apply Kd.R_drew));exact HO454.out) hb);replace BK455 := Aside0.mk (blk_below (kb_ BK455) hb);replace HB := Aside0.mk (below_step b_ hb);(try clear hb);(try clear hb2);(try clear hk);(try clear hi)))
    go_meet
    case rel => exact ⟨_,(true),rs_,H',⟨by first|omega|exact Nat.le_refl _⟩,⟨by (with_reducible repeat (first|apply Kd.R_alloc|apply Kd.R_drewN|apply Kd.R_drew));exact HO454.out⟩,⟨kb_ BK455⟩,⟨b_⟩⟩
  case rest =>
   clear HC6
   try clear c1
   try clear p2
   try clear c3
   try clear c4
   try clear c5
   try clear c6
   try clear c7
   try clear c13
   try clear c13b0
   try clear c13b1
   try clear hcz15_0
   try clear hcz15_1
   try clear hcz15_2
   try clear hcz15_3
   try clear hcz17_0
   try clear hcz17_1
   try clear hcz17_2
   try clear hcz17_3
   try clear hcz19_0
   try clear hcz19_1
   try clear hcz19_2
   try clear hcz19_3
   try clear hcz9_0
   try clear hcz9_1
   try clear hcz9_2
   try clear hcz9_3
   try clear hfz15_0
   try clear hfz15_1
   try clear hfz15_2
   try clear hfz15_3
   try clear hfz17_0
   try clear hfz17_1
   try clear hfz17_2
   try clear hfz17_3
   try clear hfz19_0
   try clear hfz19_1
   try clear hfz19_2
   try clear hfz19_3
   try clear hfz9_0
   try clear hfz9_1
   try clear hfz9_2
   try clear hfz9_3
   obtain ⟨kq,x28_5,rfl,HA,HJ5,HO_456003,BK455,HB⟩ := hcut
   cases kq with
   | zero => exact absurd HA.out (by simp [laws_FnRecords.j0])
   | succ kj5 =>
    have H := HA.out
    clear HA
    simp only [laws_FnRecords.j0] at H
    by_cases c21 : x28_5 = true
    ·subst c21
     replace H := it_ H
     obtain rfl := Option.some.inj H
     go_wp2
     go_ret
     exact ⟨rf_,b_⟩
    ·replace c21 := Bool.eq_false_iff.mpr c21
     subst c21
     replace H := ie_ H
     have HC22 := Aside0.mk H
     clear H
     go_upto_if 30 with (fail)
     go_cut [] (fun wc => ∃ (kq : Nat),Aside0 (laws_FnRecords.j1 kq l0 = some r) ∧ Aside0 (kq ≤ kj5) ∧ Aside0 (Kd.R k47 47 wc w.heap.size (fun _ => True) (.slice Ao10 t452.length co10) t452) ∧ Aside0 (wc.heap[gb455]? = some (.cells #[.int .i64 t449,.int .i64 t450,.int .i64 t451,(.slice Ao10 t452.length co10)] 26 (0,0))) ∧ Aside0 (Below w.heap.size w wc))
     case first =>
      have H := HC22.out
      clear HC22
      by_cases c23 : t456.toList = ([] : List UInt8)
      ·rw [if_pos c23] at H
       have c23b0 : (t456.toList == ([] : List UInt8)) = true := beq_iff_eq.mpr c23
       have c23b9 : t456.toList.isEmpty = true := List.isEmpty_iff.mpr c23
       have c23b1 : (t456.toList != ([] : List UInt8)) = false := bne_eq_false_iff_eq.mpr c23
       clear c23
       (first|(rw [c23b9];simp only [Bool.not_true,Bool.not_false])|rw [c23b0]|(simp only [i64_w,i32_w];rw [c23b0])|skip)
       have H' := Aside0.mk H
       clear H
       go_wp2
       go_meet
       case rel => exact ⟨_,H',⟨by have := HJ5.out;first|omega|exact Nat.le_refl _⟩,⟨by (with_reducible repeat (first|apply Kd.R_alloc|apply Kd.R_drewN|apply Kd.R_drew));exact HO_456003.out⟩,⟨kb_ BK455⟩,⟨b_⟩⟩
      ·rw [if_neg c23] at H
       have c23b0 : (t456.toList == ([] : List UInt8)) = false := beq_eq_false_iff_ne.mpr c23
       have c23b9 : t456.toList.isEmpty = false := List.isEmpty_eq_false_iff.mpr c23
       have c23b1 : (t456.toList != ([] : List UInt8)) = true := bne_iff_ne.mpr c23
       (first|(rw [c23b9];simp only [Bool.not_true,Bool.not_false])|rw [c23b0]|(simp only [i64_w,i32_w];rw [c23b0])|skip)
       replace H := Option.bind_eq_some_iff.mp H
       obtain ⟨⟨t459,t460,t461,t462,t465⟩,A240,H⟩ := H
       replace H : (if t465 = true then ((laws_likeRecord.f kj5 t459 t460 t461 t462 t449 t450 t451 t452).bind fun t467 => (if t467 = true then (laws_FnRecords.j1 kj5 l0) else (some false))) else (some false)) = some r := H
       have A24 := Aside0.mk A240
       clear A240
       by_cases c25 : t465 = true
       ·subst c25
        replace H := it_ H
        replace H := bs_ H
        obtain ⟨t467,A26,H⟩ := H
        by_cases c27 : t467 = true
        ·subst c27
         replace H := it_ H
         have H' := Aside0.mk H
         clear H
         go_wp2_with (first|((with_reducible refine gcal_ (f := 9) rfl ?_);refine gl_ (some 33) Tryz.func9 #[.string t456] ?_;(with_reducible refine (impl_ReadRecord.calls kj5 t456 t459 t460 t461 t462 true _ ?sideT A24.out).mono ?_);(case sideT => exact tb_ htb);rintro e w28 ⟨v463,rfl,ho0,hb⟩;refine ⟨_,rfl,?_⟩;replace BK455 := Aside0.mk (blk_below (kb_ BK455) hb);have HO464 := Aside0.mk (Kd.R_lower (Kd.R_new' ho0 (Kd.R_lt (by (with_reducible repeat (first|apply Kd.R_alloc|apply Kd.R_drewN|apply Kd.R_drew));exact HO_456003.out))) (below_size b_));replace HO_456003 := Aside0.mk (Kd.R_elder' (by (with_reducible repeat (first|apply Kd.R_alloc|apply Kd.R_drewN|apply Kd.R_drew));exact HO_456003.out) (Kd.R_base ho0) hb);replace HB := Aside0.mk (below_step b_ hb);(try clear hb);(try clear hb2);(try clear hk);(try clear hi);(try clear ho0))|((with_reducible refine gate_dst (N := 5) rfl ?_);refine bx_ 5 #[.int .i64 0,.int .i64 0,.int .i64 0,.slice none 0 0] 26 ?_;intro gb466 hg w29 hbox hb;replace HO_456003 := Aside0.mk (Kd.R_below (by (with_reducible repeat (first|apply Kd.R_alloc|apply Kd.R_drewN|apply Kd.R_drew));exact HO_456003.out) hb);replace HO464 := Aside0.mk (Kd.R_below (by (with_reducible repeat (first|apply Kd.R_alloc|apply Kd.R_drewN|apply Kd.R_drew));exact HO464.out) hb);replace HB := nb_ hg hbox hb;obtain ⟨BK466,GW466,GE466,HB⟩ := HB;have NB455_466 := Aside0.mk ((nl_ BK455 hg));have NB466_455 := Aside0.mk ((ng_ BK455 hg));replace BK455 := Aside0.mk (blk_below (kb_ BK455) hb);clear hb hbox hg;have hnb30 := NB466_455.out;have hnc30 := NB455_466.out;obtain ⟨⟨hcz31_0,hcz31_1,hcz31_2,hcz31_3⟩,hfz31_0,hfz31_1,hfz31_2,hfz31_3⟩ := cl4_ BK466.out;obtain ⟨Ao32,co32,eo32⟩ := Kd.R_slice HO464.out;subst eo32;obtain ⟨⟨hcz33_0,hcz33_1,hcz33_2,hcz33_3⟩,hfz33_0,hfz33_1,hfz33_2,hfz33_3⟩ := cl4_ BK455.out)|(go_at_call 10;(with_reducible refine (laws_likeRecord.calls kj5 t459 t460 t461 _ _ t462 t449 t450 t451 _ _ t452 true _ ?side1 ?side2 ?side3 ?side4 A26.out).mono ?_);(case side1 => refine (Kd.R_reads' (e := 47) (base := w.heap.size) (ok := fun k_ => (True ∧ some k_ ≠ (.slice Ao10 t452.length co10 : Value).ownBlock)) (n := t462.length) (c := co32) ?_).2.2;exact (by (with_reducible repeat (first|apply Kd.R_alloc|apply Kd.R_drewN|apply Kd.R_drew));exact (Kd.R_mono (Kd.R_far (p := ⟨gb466,3,none⟩) (Kd.R_far (p := ⟨gb466,2,none⟩) (Kd.R_far (p := ⟨gb466,1,none⟩) (Kd.R_far (p := ⟨gb466,0,none⟩) (Kd.R_types HO464.out BK466.out (by decide)) (fun _ hk => hk.2) (.int .i64 t459)) (fun _ hk => hk.2) (.int .i64 t460)) (fun _ hk => hk.2) (.int .i64 t461)) (fun _ hk => hk.2) (.slice Ao32 t462.length co32)) (fun _ h_ => h_.1))));(case side2 => exact (Kd.R_reads' HO464.out).2.1);(case side3 => refine (Kd.R_reads' (e := 47) (base := w.heap.size) (ok := fun k_ => (True ∧ some k_ ≠ (.slice Ao32 t462.length co32 : Value).ownBlock)) (n := t452.length) (c := co10) ?_).2.2;exact (by (with_reducible repeat (first|apply Kd.R_alloc|apply Kd.R_drewN|apply Kd.R_drew));exact (Kd.R_mono (Kd.R_far (p := ⟨gb466,3,none⟩) (Kd.R_far (p := ⟨gb466,2,none⟩) (Kd.R_far (p := ⟨gb466,1,none⟩) (Kd.R_far (p := ⟨gb466,0,none⟩) (Kd.R_types HO_456003.out BK466.out (by decide)) (fun _ hk => hk.2) (.int .i64 t459)) (fun _ hk => hk.2) (.int .i64 t460)) (fun _ hk => hk.2) (.int .i64 t461)) (fun _ hk => hk.2) (.slice Ao32 t462.length co32)) (fun _ h_ => h_.1))));(case side4 => exact (Kd.R_reads' HO_456003.out).2.1);rintro e w34 ⟨rfl,hb⟩;replace HO_456003 := Aside0.mk (Kd.R_below (by (with_reducible repeat (first|apply Kd.R_alloc|apply Kd.R_drewN|apply Kd.R_drew));exact (Kd.R_mono (Kd.R_far (p := ⟨gb466,3,none⟩) (Kd.R_far (p := ⟨gb466,2,none⟩) (Kd.R_far (p := ⟨gb466,1,none⟩) (Kd.R_far (p := ⟨gb466,0,none⟩) (Kd.R_types HO_456003.out BK466.out (by decide)) (fun _ hk => hk.2) (.int .i64 t459)) (fun _ hk => hk.2) (.int .i64 t460)) (fun _ hk => hk.2) (.int .i64 t461)) (fun _ hk => hk.2) (.slice Ao32 t462.length co32)) (fun _ h_ => h_.1))) hb);replace HO464 := Aside0.mk (Kd.R_below (by (with_reducible repeat (first|apply Kd.R_alloc|apply Kd.R_drewN|apply Kd.R_drew));exact (Kd.R_mono (Kd.R_far (p := ⟨gb466,3,none⟩) (Kd.R_far (p := ⟨gb466,2,none⟩) (Kd.R_far (p := ⟨gb466,1,none⟩) (Kd.R_far (p := ⟨gb466,0,none⟩) (Kd.R_types HO464.out BK466.out (by decide)) (fun _ hk => hk.2) (.int .i64 t459)) (fun _ hk => hk.2) (.int .i64 t460)) (fun _ hk => hk.2) (.int .i64 t461)) (fun _ hk => hk.2) (.slice Ao32 t462.length co32)) (fun _ h_ => h_.1))) hb);replace BK455 := Aside0.mk (blk_below (kf_ BK455) hb);replace BK466 := Aside0.mk (blk_below (g := gb466) (o := .cells #[.int .i64 t459,.int .i64 t460,.int .i64 t461,.slice Ao32 t462.length co32] 26 (0,0)) (by (with_reducible repeat (first|refine blk_drewN ?_ _|refine blk_drew ?_|refine blk_alloc ?_ _));refine blk_put (cs := #[.int .i64 t459,.int .i64 t460,.int .i64 t461,.slice none 0 0]) ?_ 3 _ rfl;(with_reducible repeat (first|refine blk_drewN ?_ _|refine blk_drew ?_|refine blk_alloc ?_ _));refine blk_put (cs := #[.int .i64 t459,.int .i64 t460,.int .i64 0,.slice none 0 0]) ?_ 2 _ rfl;(with_reducible repeat (first|refine blk_drewN ?_ _|refine blk_drew ?_|refine blk_alloc ?_ _));refine blk_put (cs := #[.int .i64 t459,.int .i64 0,.int .i64 0,.slice none 0 0]) ?_ 1 _ rfl;(with_reducible repeat (first|refine blk_drewN ?_ _|refine blk_drew ?_|refine blk_alloc ?_ _));refine blk_put (cs := #[.int .i64 0,.int .i64 0,.int .i64 0,.slice none 0 0]) ?_ 0 _ rfl;(with_reducible repeat (first|refine blk_drewN ?_ _|refine blk_drew ?_|refine blk_alloc ?_ _));exact BK466.out) hb);replace HB := Aside0.mk (below_step b_ hb);(try clear hb);(try clear hb2);(try clear hk);(try clear hi)))
         go_meet
         case rel => exact ⟨_,H',⟨by have := HJ5.out;first|omega|exact Nat.le_refl _⟩,⟨by (with_reducible repeat (first|apply Kd.R_alloc|apply Kd.R_drewN|apply Kd.R_drew));exact Kd.R_mono HO_456003.out (fun _ hk => trivial)⟩,⟨kb_ BK455⟩,⟨b_⟩⟩
        ·replace c27 := Bool.eq_false_iff.mpr c27
         subst c27
         replace H := ie_ H
         obtain rfl := Option.some.inj H
         go_wp2_with (first|((with_reducible refine gcal_ (f := 9) rfl ?_);refine gl_ (some 33) Tryz.func9 #[.string t456] ?_;(with_reducible refine (impl_ReadRecord.calls kj5 t456 t459 t460 t461 t462 true _ ?sideT A24.out).mono ?_);(case sideT => exact tb_ htb);rintro e w35 ⟨v463,rfl,ho0,hb⟩;refine ⟨_,rfl,?_⟩;replace BK455 := Aside0.mk (blk_below (kb_ BK455) hb);have HO464 := Aside0.mk (Kd.R_lower (Kd.R_new' ho0 (Kd.R_lt (by (with_reducible repeat (first|apply Kd.R_alloc|apply Kd.R_drewN|apply Kd.R_drew));exact HO_456003.out))) (below_size b_));replace HO_456003 := Aside0.mk (Kd.R_elder' (by (with_reducible repeat (first|apply Kd.R_alloc|apply Kd.R_drewN|apply Kd.R_drew));exact HO_456003.out) (Kd.R_base ho0) hb);replace HB := Aside0.mk (below_step b_ hb);(try clear hb);(try clear hb2);(try clear hk);(try clear hi);(try clear ho0))|((with_reducible refine gate_dst (N := 5) rfl ?_);refine bx_ 5 #[.int .i64 0,.int .i64 0,.int .i64 0,.slice none 0 0] 26 ?_;intro gb466 hg w36 hbox hb;replace HO_456003 := Aside0.mk (Kd.R_below (by (with_reducible repeat (first|apply Kd.R_alloc|apply Kd.R_drewN|apply Kd.R_drew));exact HO_456003.out) hb);replace HO464 := Aside0.mk (Kd.R_below (by (with_reducible repeat (first|apply Kd.R_alloc|apply Kd.R_drewN|apply Kd.R_drew));exact HO464.out) hb);replace HB := nb_ hg hbox hb;obtain ⟨BK466,GW466,GE466,HB⟩ := HB;have NB455_466 := Aside0.mk ((nl_ BK455 hg));have NB466_455 := Aside0.mk ((ng_ BK455 hg));replace BK455 := Aside0.mk (blk_below (kb_ BK455) hb);clear hb hbox hg;have hnb37 := NB466_455.out;have hnc37 := NB455_466.out;obtain ⟨⟨hcz38_0,hcz38_1,hcz38_2,hcz38_3⟩,hfz38_0,hfz38_1,hfz38_2,hfz38_3⟩ := cl4_ BK466.out;obtain ⟨Ao39,co39,eo39⟩ := Kd.R_slice HO464.out;subst eo39;obtain ⟨⟨hcz40_0,hcz40_1,hcz40_2,hcz40_3⟩,hfz40_0,hfz40_1,hfz40_2,hfz40_3⟩ := cl4_ BK455.out)|(go_at_call 10;(with_reducible refine (laws_likeRecord.calls kj5 t459 t460 t461 _ _ t462 t449 t450 t451 _ _ t452 false _ ?side1 ?side2 ?side3 ?side4 A26.out).mono ?_);(case side1 => refine (Kd.R_reads' (e := 47) (base := w.heap.size) (ok := fun k_ => (True ∧ some k_ ≠ (.slice Ao10 t452.length co10 : Value).ownBlock)) (n := t462.length) (c := co39) ?_).2.2;exact (by (with_reducible repeat (first|apply Kd.R_alloc|apply Kd.R_drewN|apply Kd.R_drew));exact (Kd.R_mono (Kd.R_far (p := ⟨gb466,3,none⟩) (Kd.R_far (p := ⟨gb466,2,none⟩) (Kd.R_far (p := ⟨gb466,1,none⟩) (Kd.R_far (p := ⟨gb466,0,none⟩) (Kd.R_types HO464.out BK466.out (by decide)) (fun _ hk => hk.2) (.int .i64 t459)) (fun _ hk => hk.2) (.int .i64 t460)) (fun _ hk => hk.2) (.int .i64 t461)) (fun _ hk => hk.2) (.slice Ao39 t462.length co39)) (fun _ h_ => h_.1))));(case side2 => exact (Kd.R_reads' HO464.out).2.1);(case side3 => refine (Kd.R_reads' (e := 47) (base := w.heap.size) (ok := fun k_ => (True ∧ some k_ ≠ (.slice Ao39 t462.length co39 : Value).ownBlock)) (n := t452.length) (c := co10) ?_).2.2;exact (by (with_reducible repeat (first|apply Kd.R_alloc|apply Kd.R_drewN|apply Kd.R_drew));exact (Kd.R_mono (Kd.R_far (p := ⟨gb466,3,none⟩) (Kd.R_far (p := ⟨gb466,2,none⟩) (Kd.R_far (p := ⟨gb466,1,none⟩) (Kd.R_far (p := ⟨gb466,0,none⟩) (Kd.R_types HO_456003.out BK466.out (by decide)) (fun _ hk => hk.2) (.int .i64 t459)) (fun _ hk => hk.2) (.int .i64 t460)) (fun _ hk => hk.2) (.int .i64 t461)) (fun _ hk => hk.2) (.slice Ao39 t462.length co39)) (fun _ h_ => h_.1))));(case side4 => exact (Kd.R_reads' HO_456003.out).2.1);rintro e w41 ⟨rfl,hb⟩;replace HO_456003 := Aside0.mk (Kd.R_below (by (with_reducible repeat (first|apply Kd.R_alloc|apply Kd.R_drewN|apply Kd.R_drew));exact (Kd.R_mono (Kd.R_far (p := ⟨gb466,3,none⟩) (Kd.R_far (p := ⟨gb466,2,none⟩) (Kd.R_far (p := ⟨gb466,1,none⟩) (Kd.R_far (p := ⟨gb466,0,none⟩) (Kd.R_types HO_456003.out BK466.out (by decide)) (fun _ hk => hk.2) (.int .i64 t459)) (fun _ hk => hk.2) (.int .i64 t460)) (fun _ hk => hk.2) (.int .i64 t461)) (fun _ hk => hk.2) (.slice Ao39 t462.length co39)) (fun _ h_ => h_.1))) hb);replace HO464 := Aside0.mk (Kd.R_below (by (with_reducible repeat (first|apply Kd.R_alloc|apply Kd.R_drewN|apply Kd.R_drew));exact (Kd.R_mono (Kd.R_far (p := ⟨gb466,3,none⟩) (Kd.R_far (p := ⟨gb466,2,none⟩) (Kd.R_far (p := ⟨gb466,1,none⟩) (Kd.R_far (p := ⟨gb466,0,none⟩) (Kd.R_types HO464.out BK466.out (by decide)) (fun _ hk => hk.2) (.int .i64 t459)) (fun _ hk => hk.2) (.int .i64 t460)) (fun _ hk => hk.2) (.int .i64 t461)) (fun _ hk => hk.2) (.slice Ao39 t462.length co39)) (fun _ h_ => h_.1))) hb);replace BK455 := Aside0.mk (blk_below (kf_ BK455) hb);replace BK466 := Aside0.mk (blk_below (g := gb466) (o := .cells #[.int .i64 t459,.int .i64 t460,.int .i64 t461,.slice Ao39 t462.length co39] 26 (0,0)) (by (with_reducible repeat (first|refine blk_drewN ?_ _|refine blk_drew ?_|refine blk_alloc ?_ _));refine blk_put (cs := #[.int .i64 t459,.int .i64 t460,.int .i64 t461,.slice none 0 0]) ?_ 3 _ rfl;(with_reducible repeat (first|refine blk_drewN ?_ _|refine blk_drew ?_|refine blk_alloc ?_ _));refine blk_put (cs := #[.int .i64 t459,.int .i64 t460,.int .i64 0,.slice none 0 0]) ?_ 2 _ rfl;(with_reducible repeat (first|refine blk_drewN ?_ _|refine blk_drew ?_|refine blk_alloc ?_ _));refine blk_put (cs := #[.int .i64 t459,.int .i64 0,.int .i64 0,.slice none 0 0]) ?_ 1 _ rfl;(with_reducible repeat (first|refine blk_drewN ?_ _|refine blk_drew ?_|refine blk_alloc ?_ _));refine blk_put (cs := #[.int .i64 0,.int .i64 0,.int .i64 0,.slice none 0 0]) ?_ 0 _ rfl;(with_reducible repeat (first|refine blk_drewN ?_ _|refine blk_drew ?_|refine blk_alloc ?_ _));exact BK466.out) hb);replace HB := Aside0.mk (below_step b_ hb);(try clear hb);(try clear hb2);(try clear hk);(try clear hi)))
         go_ret
         exact ⟨rf_,b_⟩
       ·replace c25 := Bool.eq_false_iff.mpr c25
        subst c25
        replace H := ie_ H
        obtain rfl := Option.some.inj H
        go_wp2_with (first|((with_reducible refine gcal_ (f := 9) rfl ?_);refine gl_ (some 33) Tryz.func9 #[.string t456] ?_;(with_reducible refine (impl_ReadRecord.calls kj5 t456 t459 t460 t461 t462 false _ ?sideT A24.out).mono ?_);(case sideT => exact tb_ htb);rintro e w42 ⟨v463,rfl,ho0,hb⟩;refine ⟨_,rfl,?_⟩;replace BK455 := Aside0.mk (blk_below (kb_ BK455) hb);have HO464 := Aside0.mk (Kd.R_lower (Kd.R_new' ho0 (Kd.R_lt (by (with_reducible repeat (first|apply Kd.R_alloc|apply Kd.R_drewN|apply Kd.R_drew));exact HO_456003.out))) (below_size b_));replace HO_456003 := Aside0.mk (Kd.R_elder' (by (with_reducible repeat (first|apply Kd.R_alloc|apply Kd.R_drewN|apply Kd.R_drew));exact HO_456003.out) (Kd.R_base ho0) hb);replace HB := Aside0.mk (below_step b_ hb);(try clear hb);(try clear hb2);(try clear hk);(try clear hi);(try clear ho0))|((with_reducible refine gate_dst (N := 5) rfl ?_);refine bx_ 5 #[.int .i64 0,.int .i64 0,.int .i64 0,.slice none 0 0] 26 ?_;intro gb466 hg w43 hbox hb;replace HO_456003 := Aside0.mk (Kd.R_below (by (with_reducible repeat (first|apply Kd.R_alloc|apply Kd.R_drewN|apply Kd.R_drew));exact HO_456003.out) hb);replace HO464 := Aside0.mk (Kd.R_below (by (with_reducible repeat (first|apply Kd.R_alloc|apply Kd.R_drewN|apply Kd.R_drew));exact HO464.out) hb);replace HB := nb_ hg hbox hb;obtain ⟨BK466,GW466,GE466,HB⟩ := HB;have NB455_466 := Aside0.mk ((nl_ BK455 hg));have NB466_455 := Aside0.mk ((ng_ BK455 hg));replace BK455 := Aside0.mk (blk_below (kb_ BK455) hb);clear hb hbox hg;have hnb44 := NB466_455.out;have hnc44 := NB455_466.out;obtain ⟨⟨hcz45_0,hcz45_1,hcz45_2,hcz45_3⟩,hfz45_0,hfz45_1,hfz45_2,hfz45_3⟩ := cl4_ BK466.out;obtain ⟨Ao46,co46,eo46⟩ := Kd.R_slice HO464.out;subst eo46))
        go_ret
        exact ⟨rf_,b_⟩
     case rest =>
      clear HC22
      try clear c1
      try clear c2
      try clear p2
      try clear c3
      try clear c4
      try clear c5
      try clear c6
      try clear c7
      try clear c9
      try clear c13
      try clear c13b0
      try clear c13b1
      try clear c21
      try clear c23
      try clear c23b0
      try clear c23b1
      try clear c25
      try clear c27
      try clear c30
      try clear c37
      try clear c44
      try clear hcz15_0
      try clear hcz15_1
      try clear hcz15_2
      try clear hcz15_3
      try clear hcz17_0
      try clear hcz17_1
      try clear hcz17_2
      try clear hcz17_3
      try clear hcz19_0
      try clear hcz19_1
      try clear hcz19_2
      try clear hcz19_3
      try clear hcz31_0
      try clear hcz31_1
      try clear hcz31_2
      try clear hcz31_3
      try clear hcz33_0
      try clear hcz33_1
      try clear hcz33_2
      try clear hcz33_3
      try clear hcz38_0
      try clear hcz38_1
      try clear hcz38_2
      try clear hcz38_3
      try clear hcz40_0
      try clear hcz40_1
      try clear hcz40_2
      try clear hcz40_3
      try clear hcz45_0
      try clear hcz45_1
      try clear hcz45_2
      try clear hcz45_3
      try clear hcz9_0
      try clear hcz9_1
      try clear hcz9_2
      try clear hcz9_3
      try clear hfz15_0
      try clear hfz15_1
      try clear hfz15_2
      try clear hfz15_3
      try clear hfz17_0
      try clear hfz17_1
      try clear hfz17_2
      try clear hfz17_3
      try clear hfz19_0
      try clear hfz19_1
      try clear hfz19_2
      try clear hfz19_3
      try clear hfz31_0
      try clear hfz31_1
      try clear hfz31_2
      try clear hfz31_3
      try clear hfz33_0
      try clear hfz33_1
      try clear hfz33_2
      try clear hfz33_3
      try clear hfz38_0
      try clear hfz38_1
      try clear hfz38_2
      try clear hfz38_3
      try clear hfz40_0
      try clear hfz40_1
      try clear hfz40_2
      try clear hfz40_3
      try clear hfz45_0
      try clear hfz45_1
      try clear hfz45_2
      try clear hfz45_3
      try clear hfz9_0
      try clear hfz9_1
      try clear hfz9_2
      try clear hfz9_3
      try clear p2
      obtain ⟨kq,HA,HJ21,HO_456003,BK455,HB⟩ := hcut
      cases kq with
      | zero => exact absurd HA.out (by simp [laws_FnRecords.j1])
      | succ kj21 =>
       have H := HA.out
       clear HA
       simp only [laws_FnRecords.j1] at H
       replace H := bs_ H
       obtain ⟨t468,A47,H⟩ := H
       replace H := Option.bind_eq_some_iff.mp H
       obtain ⟨⟨t469,t470,t471,t472,t475⟩,A480,H⟩ := H
       replace H : ((spec_ReadRecord.f kj21 t468).bind fun bt477 => (if (t475 != bt477.2.2.2.2) = true then (laws_FnRecords.j2 kj21 t468 t475 true t469 t470 t471 t472) else ((laws_likeRecord.f kj21 t469 t470 t471 t472 bt477.1 bt477.2.1 bt477.2.2.1 bt477.2.2.2.1).bind fun t485 => (laws_FnRecords.j2 kj21 t468 t475 (!t485) t469 t470 t471 t472)))) = some r := H
       have A48 := Aside0.mk A480
       clear A480
       replace H := Option.bind_eq_some_iff.mp H
       obtain ⟨⟨t477,t478,t479,t480,t483⟩,A490,H⟩ := H
       replace H : (if (t475 != t483) = true then (laws_FnRecords.j2 kj21 t468 t475 true t469 t470 t471 t472) else ((laws_likeRecord.f kj21 t469 t470 t471 t472 t477 t478 t479 t480).bind fun t485 => (laws_FnRecords.j2 kj21 t468 t475 (!t485) t469 t470 t471 t472))) = some r := H
       have A49 := Aside0.mk A490
       clear A490
       have HC50 := Aside0.mk H
       clear H
       go_upto_region 14 with (first|((with_reducible refine gcal_ (f := 11) rfl ?_);refine gl_ (some 45) Tryz.func11 #[.slice A0 l0.length c0] ?_;(with_reducible refine (spec_DrawReadRecord.calls kj21 _ _ l0 t468 _ ?side1 ?side2 A47.out).mono ?_);(case side1 => exact cb_ HR0);(case side2 => exact HC0.out);rintro e w51 ⟨rfl,hb⟩;refine ⟨_,rfl,?_⟩;have n0_ := Aside0.mk (Kd.R_below (by (with_reducible repeat (first|apply Kd.R_alloc|apply Kd.R_drewN|apply Kd.R_drew));exact HO_456003.out) hb);have n1_ := Aside0.mk (blk_below (kb_ BK455) hb);have n2_ := Aside0.mk (below_step b_ hb);clear HO_456003;clear BK455;clear HB;have HO_456003 := n0_;have BK455 := n1_;have HB := n2_;clear n0_ n1_ n2_;(try clear hb);(try clear hb2);(try clear hk);(try clear hi))|((with_reducible refine gcal_ (f := 9) rfl ?_);refine gl_ (some 48) Tryz.func9 #[.string t468] ?_;(with_reducible refine (impl_ReadRecord.calls kj21 t468 t469 t470 t471 t472 t475 _ ?sideT A48.out).mono ?_);(case sideT => exact tb_ htb);rintro e w52 ⟨v473,rfl,ho0,hb⟩;refine ⟨_,rfl,?_⟩;have n0_ := Aside0.mk (Kd.R_elder' (by (with_reducible repeat (first|apply Kd.R_alloc|apply Kd.R_drewN|apply Kd.R_drew));exact HO_456003.out) (Kd.R_base ho0) hb);have n1_ := Aside0.mk (Kd.R_lower (Kd.R_new' ho0 (Kd.R_lt (by (with_reducible repeat (first|apply Kd.R_alloc|apply Kd.R_drewN|apply Kd.R_drew));exact HO_456003.out))) (below_size b_));have n2_ := Aside0.mk (blk_below (kb_ BK455) hb);have n3_ := Aside0.mk (below_step b_ hb);clear HO_456003;clear BK455;clear HB;have HO_456003 := n0_;have HO474 := n1_;have BK455 := n2_;have HB := n3_;clear n0_ n1_ n2_ n3_;(try clear hb);(try clear hb2);(try clear hk);(try clear hi);(try clear ho0))|((with_reducible refine gate_dst (N := 8) rfl ?_);refine bx_ 8 #[.int .i64 0,.int .i64 0,.int .i64 0,.slice none 0 0] 26 ?_;intro gb476 hg w53 hbox hb;have n0_ := Aside0.mk (Kd.R_below (by (with_reducible repeat (first|apply Kd.R_alloc|apply Kd.R_drewN|apply Kd.R_drew));exact HO_456003.out) hb);have n1_ := Aside0.mk (Kd.R_below (by (with_reducible repeat (first|apply Kd.R_alloc|apply Kd.R_drewN|apply Kd.R_drew));exact HO474.out) hb);have n2_ := Aside0.mk (blk_below (kb_ BK455) hb);have n3_ := Aside0.mk (below_step b_ hb);have n4_ := Aside0.mk (hbox);have n5_ := Aside0.mk ((gw_ (w := w) hg));have n6_ := Aside0.mk ((gw_ (w := w) hg));have n7_ := Aside0.mk ((nl_ BK455 hg));have n8_ := Aside0.mk ((ng_ BK455 hg));clear HO_456003;clear HO474;clear BK455;clear HB;have HO_456003 := n0_;have HO474 := n1_;have BK455 := n2_;have HB := n3_;have BK476 := n4_;have GW476 := n5_;have GE476 := n6_;have NB455_476 := n7_;have NB476_455 := n8_;clear n0_ n1_ n2_ n3_ n4_ n5_ n6_ n7_ n8_;clear hb hbox hg;have hnb54 := NB476_455.out;have hnc54 := NB455_476.out;obtain ⟨⟨hcz55_0,hcz55_1,hcz55_2,hcz55_3⟩,hfz55_0,hfz55_1,hfz55_2,hfz55_3⟩ := cl4_ BK476.out;obtain ⟨Ao56,co56,eo56⟩ := Kd.R_slice HO474.out;subst eo56)|((with_reducible refine gcal_ (f := 12) rfl ?_);refine gl_ (some 53) Tryz.func12 #[.string t468] ?_;(with_reducible refine (spec_ReadRecord.calls kj21 t468 t477 t478 t479 t480 t483 _ A49.out).mono ?_);rintro e w57 ⟨v481,rfl,ho0,hb⟩;refine ⟨_,rfl,?_⟩;have n0_ := Aside0.mk (Kd.R_elder' (by (with_reducible repeat (first|apply Kd.R_alloc|apply Kd.R_drewN|apply Kd.R_drew));exact (Kd.R_mono (Kd.R_far (p := ⟨gb476,3,none⟩) (Kd.R_far (p := ⟨gb476,2,none⟩) (Kd.R_far (p := ⟨gb476,1,none⟩) (Kd.R_far (p := ⟨gb476,0,none⟩) (Kd.R_types HO_456003.out BK476.out (by decide)) (fun _ hk => hk.2) (.int .i64 t469)) (fun _ hk => hk.2) (.int .i64 t470)) (fun _ hk => hk.2) (.int .i64 t471)) (fun _ hk => hk.2) (.slice Ao56 t472.length co56)) (fun _ h_ => h_.1))) (Kd.R_base ho0) hb);have n1_ := Aside0.mk (Kd.R_elder' (by (with_reducible repeat (first|apply Kd.R_alloc|apply Kd.R_drewN|apply Kd.R_drew));exact (Kd.R_mono (Kd.R_far (p := ⟨gb476,3,none⟩) (Kd.R_far (p := ⟨gb476,2,none⟩) (Kd.R_far (p := ⟨gb476,1,none⟩) (Kd.R_far (p := ⟨gb476,0,none⟩) (Kd.R_types HO474.out BK476.out (by decide)) (fun _ hk => hk.2) (.int .i64 t469)) (fun _ hk => hk.2) (.int .i64 t470)) (fun _ hk => hk.2) (.int .i64 t471)) (fun _ hk => hk.2) (.slice Ao56 t472.length co56)) (fun _ h_ => h_.1))) (Kd.R_base ho0) hb);have n2_ := Aside0.mk (Kd.R_lower (Kd.R_new' (Kd.R_new' ho0 (Kd.R_lt (by (with_reducible repeat (first|apply Kd.R_alloc|apply Kd.R_drewN|apply Kd.R_drew));exact (Kd.R_mono (Kd.R_far (p := ⟨gb476,3,none⟩) (Kd.R_far (p := ⟨gb476,2,none⟩) (Kd.R_far (p := ⟨gb476,1,none⟩) (Kd.R_far (p := ⟨gb476,0,none⟩) (Kd.R_types HO_456003.out BK476.out (by decide)) (fun _ hk => hk.2) (.int .i64 t469)) (fun _ hk => hk.2) (.int .i64 t470)) (fun _ hk => hk.2) (.int .i64 t471)) (fun _ hk => hk.2) (.slice Ao56 t472.length co56)) (fun _ h_ => h_.1))))) (Kd.R_lt (by (with_reducible repeat (first|apply Kd.R_alloc|apply Kd.R_drewN|apply Kd.R_drew));exact (Kd.R_mono (Kd.R_far (p := ⟨gb476,3,none⟩) (Kd.R_far (p := ⟨gb476,2,none⟩) (Kd.R_far (p := ⟨gb476,1,none⟩) (Kd.R_far (p := ⟨gb476,0,none⟩) (Kd.R_types HO474.out BK476.out (by decide)) (fun _ hk => hk.2) (.int .i64 t469)) (fun _ hk => hk.2) (.int .i64 t470)) (fun _ hk => hk.2) (.int .i64 t471)) (fun _ hk => hk.2) (.slice Ao56 t472.length co56)) (fun _ h_ => h_.1))))) (below_size b_));have n3_ := Aside0.mk (blk_below (kf_ BK455) hb);have n4_ := Aside0.mk (blk_below (g := gb476) (o := .cells #[.int .i64 t469,.int .i64 t470,.int .i64 t471,.slice Ao56 t472.length co56] 26 (0,0)) (by (with_reducible repeat (first|refine blk_drewN ?_ _|refine blk_drew ?_|refine blk_alloc ?_ _));refine blk_put (cs := #[.int .i64 t469,.int .i64 t470,.int .i64 t471,.slice none 0 0]) ?_ 3 _ rfl;(with_reducible repeat (first|refine blk_drewN ?_ _|refine blk_drew ?_|refine blk_alloc ?_ _));refine blk_put (cs := #[.int .i64 t469,.int .i64 t470,.int .i64 0,.slice none 0 0]) ?_ 2 _ rfl;(with_reducible repeat (first|refine blk_drewN ?_ _|refine blk_drew ?_|refine blk_alloc ?_ _));refine blk_put (cs := #[.int .i64 t469,.int .i64 0,.int .i64 0,.slice none 0 0]) ?_ 1 _ rfl;(with_reducible repeat (first|refine blk_drewN ?_ _|refine blk_drew ?_|refine blk_alloc ?_ _));refine blk_put (cs := #[.int .i64 0,.int .i64 0,.int .i64 0,.slice none 0 0]) ?_ 0 _ rfl;(with_reducible repeat (first|refine blk_drewN ?_ _|refine blk_drew ?_|refine blk_alloc ?_ _));exact BK476.out) hb);have n5_ := Aside0.mk (below_step b_ hb);clear HO_456003;clear HO474;clear BK455;clear BK476;clear HB;have HO_456003 := n0_;have HO474 := n1_;have HO482 := n2_;have BK455 := n3_;have BK476 := n4_;have HB := n5_;clear n0_ n1_ n2_ n3_ n4_ n5_;(try clear hb);(try clear hb2);(try clear hk);(try clear hi);(try clear ho0))|((with_reducible refine gate_dst (N := 10) rfl ?_);refine bx_ 10 #[.int .i64 0,.int .i64 0,.int .i64 0,.slice none 0 0] 26 ?_;intro gb484 hg w58 hbox hb;have n0_ := Aside0.mk (Kd.R_below (by (with_reducible repeat (first|apply Kd.R_alloc|apply Kd.R_drewN|apply Kd.R_drew));exact HO_456003.out) hb);have n1_ := Aside0.mk (Kd.R_below (by (with_reducible repeat (first|apply Kd.R_alloc|apply Kd.R_drewN|apply Kd.R_drew));exact HO474.out) hb);have n2_ := Aside0.mk (Kd.R_below (by (with_reducible repeat (first|apply Kd.R_alloc|apply Kd.R_drewN|apply Kd.R_drew));exact HO482.out) hb);have n3_ := Aside0.mk (blk_below (kb_ BK455) hb);have n4_ := Aside0.mk (blk_below (kb_ BK476) hb);have n5_ := Aside0.mk (below_step b_ hb);have n6_ := Aside0.mk (hbox);have n7_ := Aside0.mk ((gw_ (w := w) hg));have n8_ := Aside0.mk ((gw_ (w := w) hg));have n9_ := Aside0.mk ((nl_ BK455 hg));have n10_ := Aside0.mk ((ng_ BK455 hg));have n11_ := Aside0.mk ((nl_ BK476 hg));have n12_ := Aside0.mk ((ng_ BK476 hg));clear HO_456003;clear HO474;clear HO482;clear BK455;clear BK476;clear HB;have HO_456003 := n0_;have HO474 := n1_;have HO482 := n2_;have BK455 := n3_;have BK476 := n4_;have HB := n5_;have BK484 := n6_;have GW484 := n7_;have GE484 := n8_;have NB455_484 := n9_;have NB484_455 := n10_;have NB476_484 := n11_;have NB484_476 := n12_;clear n0_ n1_ n2_ n3_ n4_ n5_ n6_ n7_ n8_ n9_ n10_ n11_ n12_;clear hb hbox hg;have hnb59 := NB484_455.out;have hnc59 := NB455_484.out;have hnb60 := NB484_476.out;have hnc60 := NB476_484.out;obtain ⟨⟨hcz61_0,hcz61_1,hcz61_2,hcz61_3⟩,hfz61_0,hfz61_1,hfz61_2,hfz61_3⟩ := cl4_ BK484.out;obtain ⟨Ao62,co62,eo62⟩ := Kd.R_slice HO482.out;subst eo62))
       (try simp only [Act.put,List.setIfInBounds_toArray,List.set_cons_zero,List.set_cons_succ])
       go_cut [64] (fun v64 wc => ∃ (kq : Nat) (x64_49 : Bool),v64 = .bool x64_49 ∧ Aside0 (laws_FnRecords.j2 kq t468 t475 x64_49 t469 t470 t471 t472 = some r) ∧ Aside0 (kq ≤ kj21) ∧ Aside0 (Kd.R k47 47 wc w.heap.size (fun k_ => some k_ ≠ ((.slice Ao56 t472.length co56) : Value).ownBlock ∧ some k_ ≠ ((.slice Ao62 t480.length co62) : Value).ownBlock) (.slice Ao10 t452.length co10) t452) ∧ Aside0 (Kd.R k47 47 wc w.heap.size (fun k_ => some k_ ≠ ((.slice Ao10 t452.length co10) : Value).ownBlock ∧ some k_ ≠ ((.slice Ao62 t480.length co62) : Value).ownBlock) (.slice Ao56 t472.length co56) t472) ∧ Aside0 (Kd.R k47 47 wc w.heap.size (fun k_ => some k_ ≠ ((.slice Ao10 t452.length co10) : Value).ownBlock ∧ some k_ ≠ ((.slice Ao56 t472.length co56) : Value).ownBlock) (.slice Ao62 t480.length co62) t480) ∧ Aside0 (wc.heap[gb455]? = some (.cells #[.int .i64 t449,.int .i64 t450,.int .i64 t451,(.slice Ao10 t452.length co10)] 26 (0,0))) ∧ Aside0 (wc.heap[gb476]? = some (.cells #[.int .i64 t469,.int .i64 t470,.int .i64 t471,(.slice Ao56 t472.length co56)] 26 (0,0))) ∧ Aside0 (wc.heap[gb484]? = some (.cells #[.int .i64 t477,.int .i64 t478,.int .i64 t479,(.slice Ao62 t480.length co62)] 26 (0,0))) ∧ Aside0 (Below w.heap.size w wc))
       case first =>
        have H := HC50.out
        clear HC50
        by_cases c63 : (t475 != t483) = true
        ·rw [if_pos c63] at H
         have c63b0 : (t475 != t483) = true := c63
         (try (have c63b1 : decide (t475 = t483) = false := by simpa using c63))
         (try (have c63b2 : (t475 == t483) = false := by simpa using c63))
         (try (have c63b3 : ¬ (t475 = t483) := by simpa using c63))
         clear c63
         (first|rw [c63b0]|(simp only [i64_w,i32_w];rw [c63b0])|skip)
         have H' := Aside0.mk H
         clear H
         go_wp2
         go_meet
         case rel => exact ⟨_,(true),rs_,H',⟨by have := HJ5.out;have := HJ21.out;first|omega|exact Nat.le_refl _⟩,⟨by (with_reducible repeat (first|apply Kd.R_alloc|apply Kd.R_drewN|apply Kd.R_drew));exact Kd.R_mono (Kd.R_far (p := ⟨gb484,3,none⟩) (Kd.R_far (p := ⟨gb484,2,none⟩) (Kd.R_far (p := ⟨gb484,1,none⟩) (Kd.R_far (p := ⟨gb484,0,none⟩) (Kd.R_types HO_456003.out BK484.out (by decide)) (fun _ hk => hk.2) (.int .i64 t477)) (fun _ hk => hk.2) (.int .i64 t478)) (fun _ hk => hk.2) (.int .i64 t479)) (fun _ hk => hk.2) (.slice Ao62 t480.length co62)) (fun _ hk => ⟨hk.1.1.2,hk.1.2⟩)⟩,⟨by (with_reducible repeat (first|apply Kd.R_alloc|apply Kd.R_drewN|apply Kd.R_drew));exact Kd.R_mono (Kd.R_far (p := ⟨gb484,3,none⟩) (Kd.R_far (p := ⟨gb484,2,none⟩) (Kd.R_far (p := ⟨gb484,1,none⟩) (Kd.R_far (p := ⟨gb484,0,none⟩) (Kd.R_types HO474.out BK484.out (by decide)) (fun _ hk => hk.2) (.int .i64 t477)) (fun _ hk => hk.2) (.int .i64 t478)) (fun _ hk => hk.2) (.int .i64 t479)) (fun _ hk => hk.2) (.slice Ao62 t480.length co62)) (fun _ hk => ⟨hk.1.1.2,hk.1.2⟩)⟩,⟨by (with_reducible repeat (first|apply Kd.R_alloc|apply Kd.R_drewN|apply Kd.R_drew));exact Kd.R_mono (Kd.R_far (p := ⟨gb484,3,none⟩) (Kd.R_far (p := ⟨gb484,2,none⟩) (Kd.R_far (p := ⟨gb484,1,none⟩) (Kd.R_far (p := ⟨gb484,0,none⟩) (Kd.R_types HO482.out BK484.out (by decide)) (fun _ hk => hk.2) (.int .i64 t477)) (fun _ hk => hk.2) (.int .i64 t478)) (fun _ hk => hk.2) (.int .i64 t479)) (fun _ hk => hk.2) (.slice Ao62 t480.length co62)) (fun _ hk => ⟨hk.1.1.2,hk.1.2⟩)⟩,⟨kf_ BK455⟩,⟨kf_ BK476⟩,⟨by (with_reducible repeat (first|refine blk_drewN ?_ _|refine blk_drew ?_|refine blk_alloc ?_ _));refine blk_put (cs := #[.int .i64 t477,.int .i64 t478,.int .i64 t479,.slice none 0 0]) ?_ 3 _ rfl;(with_reducible repeat (first|refine blk_drewN ?_ _|refine blk_drew ?_|refine blk_alloc ?_ _));refine blk_put (cs := #[.int .i64 t477,.int .i64 t478,.int .i64 0,.slice none 0 0]) ?_ 2 _ rfl;(with_reducible repeat (first|refine blk_drewN ?_ _|refine blk_drew ?_|refine blk_alloc ?_ _));refine blk_put (cs := #[.int .i64 t477,.int .i64 0,.int .i64 0,.slice none 0 0]) ?_ 1 _ rfl;(with_reducible repeat (first|refine blk_drewN ?_ _|refine blk_drew ?_|refine blk_alloc ?_ _));refine blk_put (cs := #[.int .i64 0,.int .i64 0,.int .i64 0,.slice none 0 0]) ?_ 0 _ rfl;(with_reducible repeat (first|refine blk_drewN ?_ _|refine blk_drew ?_|refine blk_alloc ?_ _));exact BK484.out⟩,⟨b_⟩⟩
        ·rw [if_neg c63] at H
         have c63b0 : (t475 != t483) = false := by simpa using c63
         (try (have c63b1 : decide (t475 = t483) = true := by simpa using c63))
         (try (have c63b2 : (t475 == t483) = true := by simpa using c63))
         clear c63
         (first|rw [c63b0]|(simp only [i64_w,i32_w];rw [c63b0])|skip)
         replace H := bs_ H
         obtain ⟨t485,A64,H⟩ := H
         have H' := Aside0.mk H
         clear H
         have hnb65 := NB476_455.out
         have hnc65 := NB455_476.out
         have hnb66 := NB476_484.out
         have hnc66 := NB484_476.out
         obtain ⟨⟨hcz67_0,hcz67_1,hcz67_2,hcz67_3⟩,hfz67_0,hfz67_1,hfz67_2,hfz67_3⟩ := cl4_ BK476.out
         have hnb68 := NB484_455.out
         have hnc68 := NB455_484.out
         obtain ⟨⟨hcz69_0,hcz69_1,hcz69_2,hcz69_3⟩,hfz69_0,hfz69_1,hfz69_2,hfz69_3⟩ := cl4_ BK484.out
         go_wp2_with (first|(go_at_call 10;(with_reducible refine (laws_likeRecord.calls kj21 t469 t470 t471 _ _ t472 t477 t478 t479 _ _ t480 t485 _ ?side1 ?side2 ?side3 ?side4 A64.out).mono ?_);(case side1 => refine (Kd.R_reads' (e := 47) (base := w.heap.size) (ok := fun k_ => ((True ∧ some k_ ≠ (.slice Ao10 t452.length co10 : Value).ownBlock) ∧ some k_ ≠ (.slice Ao62 t480.length co62 : Value).ownBlock)) (n := t472.length) (c := co56) ?_).2.2;exact (by (with_reducible repeat (first|apply Kd.R_alloc|apply Kd.R_drewN|apply Kd.R_drew));exact (Kd.R_mono (Kd.R_far (p := ⟨gb484,3,none⟩) (Kd.R_far (p := ⟨gb484,2,none⟩) (Kd.R_far (p := ⟨gb484,1,none⟩) (Kd.R_far (p := ⟨gb484,0,none⟩) (Kd.R_types HO474.out BK484.out (by decide)) (fun _ hk => hk.2) (.int .i64 t477)) (fun _ hk => hk.2) (.int .i64 t478)) (fun _ hk => hk.2) (.int .i64 t479)) (fun _ hk => hk.2) (.slice Ao62 t480.length co62)) (fun _ h_ => h_.1))));(case side2 => exact (Kd.R_reads' HO474.out).2.1);(case side3 => refine (Kd.R_reads' (e := 47) (base := w.heap.size) (ok := fun k_ => ((True ∧ some k_ ≠ (.slice Ao10 t452.length co10 : Value).ownBlock) ∧ some k_ ≠ (.slice Ao56 t472.length co56 : Value).ownBlock)) (n := t480.length) (c := co62) ?_).2.2;exact (by (with_reducible repeat (first|apply Kd.R_alloc|apply Kd.R_drewN|apply Kd.R_drew));exact (Kd.R_mono (Kd.R_far (p := ⟨gb484,3,none⟩) (Kd.R_far (p := ⟨gb484,2,none⟩) (Kd.R_far (p := ⟨gb484,1,none⟩) (Kd.R_far (p := ⟨gb484,0,none⟩) (Kd.R_types HO482.out BK484.out (by decide)) (fun _ hk => hk.2) (.int .i64 t477)) (fun _ hk => hk.2) (.int .i64 t478)) (fun _ hk => hk.2) (.int .i64 t479)) (fun _ hk => hk.2) (.slice Ao62 t480.length co62)) (fun _ h_ => h_.1))));(case side4 => exact (Kd.R_reads' HO482.out).2.1);rintro e w70 ⟨rfl,hb⟩;replace HO_456003 := Aside0.mk (Kd.R_below (by (with_reducible repeat (first|apply Kd.R_alloc|apply Kd.R_drewN|apply Kd.R_drew));exact (Kd.R_mono (Kd.R_far (p := ⟨gb484,3,none⟩) (Kd.R_far (p := ⟨gb484,2,none⟩) (Kd.R_far (p := ⟨gb484,1,none⟩) (Kd.R_far (p := ⟨gb484,0,none⟩) (Kd.R_types HO_456003.out BK484.out (by decide)) (fun _ hk => hk.2) (.int .i64 t477)) (fun _ hk => hk.2) (.int .i64 t478)) (fun _ hk => hk.2) (.int .i64 t479)) (fun _ hk => hk.2) (.slice Ao62 t480.length co62)) (fun _ h_ => h_.1))) hb);replace HO474 := Aside0.mk (Kd.R_below (by (with_reducible repeat (first|apply Kd.R_alloc|apply Kd.R_drewN|apply Kd.R_drew));exact (Kd.R_mono (Kd.R_far (p := ⟨gb484,3,none⟩) (Kd.R_far (p := ⟨gb484,2,none⟩) (Kd.R_far (p := ⟨gb484,1,none⟩) (Kd.R_far (p := ⟨gb484,0,none⟩) (Kd.R_types HO474.out BK484.out (by decide)) (fun _ hk => hk.2) (.int .i64 t477)) (fun _ hk => hk.2) (.int .i64 t478)) (fun _ hk => hk.2) (.int .i64 t479)) (fun _ hk => hk.2) (.slice Ao62 t480.length co62)) (fun _ h_ => h_.1))) hb);replace HO482 := Aside0.mk (Kd.R_below (by (with_reducible repeat (first|apply Kd.R_alloc|apply Kd.R_drewN|apply Kd.R_drew));exact (Kd.R_mono (Kd.R_far (p := ⟨gb484,3,none⟩) (Kd.R_far (p := ⟨gb484,2,none⟩) (Kd.R_far (p := ⟨gb484,1,none⟩) (Kd.R_far (p := ⟨gb484,0,none⟩) (Kd.R_types HO482.out BK484.out (by decide)) (fun _ hk => hk.2) (.int .i64 t477)) (fun _ hk => hk.2) (.int .i64 t478)) (fun _ hk => hk.2) (.int .i64 t479)) (fun _ hk => hk.2) (.slice Ao62 t480.length co62)) (fun _ h_ => h_.1))) hb);replace BK455 := Aside0.mk (blk_below (kf_ BK455) hb);replace BK476 := Aside0.mk (blk_below (kf_ BK476) hb);replace BK484 := Aside0.mk (blk_below (g := gb484) (o := .cells #[.int .i64 t477,.int .i64 t478,.int .i64 t479,.slice Ao62 t480.length co62] 26 (0,0)) (by (with_reducible repeat (first|refine blk_drewN ?_ _|refine blk_drew ?_|refine blk_alloc ?_ _));refine blk_put (cs := #[.int .i64 t477,.int .i64 t478,.int .i64 t479,.slice none 0 0]) ?_ 3 _ rfl;(with_reducible repeat (first|refine blk_drewN ?_ _|refine blk_drew ?_|refine blk_alloc ?_ _));refine blk_put (cs := #[.int .i64 t477,.int .i64 t478,.int .i64 0,.slice none 0 0]) ?_ 2 _ rfl;(with_reducible repeat (first|refine blk_drewN ?_ _|refine blk_drew ?_|refine blk_alloc ?_ _));refine blk_put (cs := #[.int .i64 t477,.int .i64 0,.int .i64 0,.slice none 0 0]) ?_ 1 _ rfl;(with_reducible repeat (first|refine blk_drewN ?_ _|refine blk_drew ?_|refine blk_alloc ?_ _));refine blk_put (cs := #[.int .i64 0,.int .i64 0,.int .i64 0,.slice none 0 0]) ?_ 0 _ rfl;(with_reducible repeat (first|refine blk_drewN ?_ _|refine blk_drew ?_|refine blk_alloc ?_ _));exact BK484.out) hb);replace HB := Aside0.mk (below_step b_ hb);(try clear hb);(try clear hb2);(try clear hk);(try clear hi)))
         go_meet
         case rel => exact ⟨_,(!t485),rs_,H',⟨by have := HJ5.out;have := HJ21.out;first|omega|exact Nat.le_refl _⟩,⟨by (with_reducible repeat (first|apply Kd.R_alloc|apply Kd.R_drewN|apply Kd.R_drew));exact Kd.R_mono HO_456003.out (fun _ hk => ⟨hk.1.2,hk.2⟩)⟩,⟨by (with_reducible repeat (first|apply Kd.R_alloc|apply Kd.R_drewN|apply Kd.R_drew));exact Kd.R_mono HO474.out (fun _ hk => ⟨hk.1.2,hk.2⟩)⟩,⟨by (with_reducible repeat (first|apply Kd.R_alloc|apply Kd.R_drewN|apply Kd.R_drew));exact Kd.R_mono HO482.out (fun _ hk => ⟨hk.1.2,hk.2⟩)⟩,⟨kb_ BK455⟩,⟨kb_ BK476⟩,⟨kb_ BK484⟩,⟨b_⟩⟩
       case rest =>
        clear HC50
        try clear c1
        try clear c2
        try clear p2
        try clear c3
        try clear c4
        try clear c5
        try clear c6
        try clear c7
        try clear c9
        try clear c11
        try clear c12
        try clear c13
        try clear c13b0
        try clear c13b1
        try clear c21
        try clear c23
        try clear c23b0
        try clear c23b1
        try clear c25
        try clear c27
        try clear c30
        try clear c37
        try clear c44
        try clear c54
        try clear c59
        try clear c60
        try clear c63
        try clear c63b0
        try clear c63b1
        try clear c63b2
        try clear c65
        try clear c66
        try clear c68
        try clear hcz15_0
        try clear hcz15_1
        try clear hcz15_2
        try clear hcz15_3
        try clear hcz17_0
        try clear hcz17_1
        try clear hcz17_2
        try clear hcz17_3
        try clear hcz19_0
        try clear hcz19_1
        try clear hcz19_2
        try clear hcz19_3
        try clear hcz31_0
        try clear hcz31_1
        try clear hcz31_2
        try clear hcz31_3
        try clear hcz33_0
        try clear hcz33_1
        try clear hcz33_2
        try clear hcz33_3
        try clear hcz38_0
        try clear hcz38_1
        try clear hcz38_2
        try clear hcz38_3
        try clear hcz40_0
        try clear hcz40_1
        try clear hcz40_2
        try clear hcz40_3
        try clear hcz45_0
        try clear hcz45_1
        try clear hcz45_2
        try clear hcz45_3
        try clear hcz55_0
        try clear hcz55_1
        try clear hcz55_2
        try clear hcz55_3
        try clear hcz61_0
        try clear hcz61_1
        try clear hcz61_2
        try clear hcz61_3
        try clear hcz67_0
        try clear hcz67_1
        try clear hcz67_2
        try clear hcz67_3
        try clear hcz69_0
        try clear hcz69_1
        try clear hcz69_2
        try clear hcz69_3
        try clear hcz9_0
        try clear hcz9_1
        try clear hcz9_2
        try clear hcz9_3
        try clear hfz15_0
        try clear hfz15_1
        try clear hfz15_2
        try clear hfz15_3
        try clear hfz17_0
        try clear hfz17_1
        try clear hfz17_2
        try clear hfz17_3
        try clear hfz19_0
        try clear hfz19_1
        try clear hfz19_2
        try clear hfz19_3
        try clear hfz31_0
        try clear hfz31_1
        try clear hfz31_2
        try clear hfz31_3
        try clear hfz33_0
        try clear hfz33_1
        try clear hfz33_2
        try clear hfz33_3
        try clear hfz38_0
        try clear hfz38_1
        try clear hfz38_2
        try clear hfz38_3
        try clear hfz40_0
        try clear hfz40_1
        try clear hfz40_2
        try clear hfz40_3
        try clear hfz45_0
        try clear hfz45_1
        try clear hfz45_2
        try clear hfz45_3
        try clear hfz55_0
        try clear hfz55_1
        try clear hfz55_2
        try clear hfz55_3
        try clear hfz61_0
        try clear hfz61_1
        try clear hfz61_2
        try clear hfz61_3
        try clear hfz67_0
        try clear hfz67_1
        try clear hfz67_2
        try clear hfz67_3
        try clear hfz69_0
        try clear hfz69_1
        try clear hfz69_2
        try clear hfz69_3
        try clear hfz9_0
        try clear hfz9_1
        try clear hfz9_2
        try clear hfz9_3
        try clear p2
        obtain ⟨kq,x64_49,rfl,HA,HJ49,HO_456003,HO_477003,HO_485003,BK455,BK476,BK484,HB⟩ := hcut
        cases kq with
        | zero => exact absurd HA.out (by simp [laws_FnRecords.j2])
        | succ kj49 =>
         have H := HA.out
         clear HA
         simp only [laws_FnRecords.j2] at H
         by_cases c71 : x64_49 = true
         ·subst c71
          replace H := it_ H
          obtain rfl := Option.some.inj H
          go_wp2
          go_ret
          exact ⟨rf_,b_⟩
         ·replace c71 := Bool.eq_false_iff.mpr c71
          subst c71
          replace H := ie_ H
          by_cases c72 : t475 = true
          ·subst c72
           replace H := it_ H
           replace H := bs_ H
           obtain ⟨t486,A73,H⟩ := H
           obtain rfl := Option.some.inj H
           have hnb74 := NB476_455.out
           have hnc74 := NB455_476.out
           have hnb75 := NB476_484.out
           have hnc75 := NB484_476.out
           obtain ⟨⟨hcz76_0,hcz76_1,hcz76_2,hcz76_3⟩,hfz76_0,hfz76_1,hfz76_2,hfz76_3⟩ := cl4_ BK476.out
           go_wp2_with (first|(go_at_call 6;(with_reducible refine (impl_ShowRecord.calls kj49 t469 t470 t471 _ _ t472 t486 _ ?sideT ?side1 ?side2 A73.out).mono ?_);(case sideT => exact tb_ htb);(case side1 => repeat (first|exact (Kd.R_reads' HO_477003.out).2.2|(with_reducible refine Kd.C_alloc ?_ _)|(with_reducible refine Kd.C_drewN ?_ _)|(with_reducible refine Kd.C_drew ?_)));(case side2 => exact (Kd.R_reads' HO_477003.out).2.1);rintro e w77 ⟨rfl,hb⟩;replace HO_456003 := Aside0.mk (Kd.R_below (by (with_reducible repeat (first|apply Kd.R_alloc|apply Kd.R_drewN|apply Kd.R_drew));exact HO_456003.out) hb);replace HO_477003 := Aside0.mk (Kd.R_below (by (with_reducible repeat (first|apply Kd.R_alloc|apply Kd.R_drewN|apply Kd.R_drew));exact HO_477003.out) hb);replace HO_485003 := Aside0.mk (Kd.R_below (by (with_reducible repeat (first|apply Kd.R_alloc|apply Kd.R_drewN|apply Kd.R_drew));exact HO_485003.out) hb);replace BK455 := Aside0.mk (blk_below (kb_ BK455) hb);replace BK476 := Aside0.mk (blk_below (kb_ BK476) hb);replace BK484 := Aside0.mk (blk_below (kb_ BK484) hb);replace HB := Aside0.mk (below_step b_ hb);(try clear hb);(try clear hb2);(try clear hk);(try clear hi)))
           go_ret
           exact ⟨rf_,b_⟩
          ·replace c72 := Bool.eq_false_iff.mpr c72
           subst c72
           replace H := ie_ H
           replace H := bs_ H
           obtain ⟨t487,A78,H⟩ := H
           by_cases c79 : t487 = true
           ·subst c79
            replace H := it_ H
            obtain rfl := Option.some.inj H
            have hnb80 := NB476_455.out
            have hnc80 := NB455_476.out
            have hnb81 := NB476_484.out
            have hnc81 := NB484_476.out
            obtain ⟨⟨hcz82_0,hcz82_1,hcz82_2,hcz82_3⟩,hfz82_0,hfz82_1,hfz82_2,hfz82_3⟩ := cl4_ BK476.out
            go_wp2_with (first|(go_at_call 10;(refine (laws_likeRecord.calls kj49 t469 t470 t471 _ _ t472 0 0 0 _ _ ([] : List (S47)) true _ ?side1 ?side2 ?side3 ?side4 A78.out).mono ?_);(case side1 => repeat (first|exact (Kd.R_reads' HO_477003.out).2.2|(with_reducible refine Kd.C_alloc ?_ _)|(with_reducible refine Kd.C_drewN ?_ _)|(with_reducible refine Kd.C_drew ?_)));(case side2 => exact (Kd.R_reads' HO_477003.out).2.1);(case side3 => exact Kd.C_nil _ _);(case side4 => exact Nat.le_refl _);rintro e w83 ⟨rfl,hb⟩;replace HO_456003 := Aside0.mk (Kd.R_below (by (with_reducible repeat (first|apply Kd.R_alloc|apply Kd.R_drewN|apply Kd.R_drew));exact HO_456003.out) hb);replace HO_477003 := Aside0.mk (Kd.R_below (by (with_reducible repeat (first|apply Kd.R_alloc|apply Kd.R_drewN|apply Kd.R_drew));exact HO_477003.out) hb);replace HO_485003 := Aside0.mk (Kd.R_below (by (with_reducible repeat (first|apply Kd.R_alloc|apply Kd.R_drewN|apply Kd.R_drew));exact HO_485003.out) hb);replace BK455 := Aside0.mk (blk_below (kb_ BK455) hb);replace BK476 := Aside0.mk (blk_below (kb_ BK476) hb);replace BK484 := Aside0.mk (blk_below (kb_ BK484) hb);replace HB := Aside0.mk (below_step b_ hb);(try clear hb);(try clear hb2);(try clear hk);(try clear hi)))
            go_ret
            exact ⟨rf_,b_⟩
           ·replace c79 := Bool.eq_false_iff.mpr c79
            subst c79
            replace H := ie_ H
            obtain rfl := Option.some.inj H
            have hnb84 := NB476_455.out
            have hnc84 := NB455_476.out
            have hnb85 := NB476_484.out
            have hnc85 := NB484_476.out
            obtain ⟨⟨hcz86_0,hcz86_1,hcz86_2,hcz86_3⟩,hfz86_0,hfz86_1,hfz86_2,hfz86_3⟩ := cl4_ BK476.out
            go_wp2_with (first|(go_at_call 10;(refine (laws_likeRecord.calls kj49 t469 t470 t471 _ _ t472 0 0 0 _ _ ([] : List (S47)) false _ ?side1 ?side2 ?side3 ?side4 A78.out).mono ?_);(case side1 => repeat (first|exact (Kd.R_reads' HO_477003.out).2.2|(with_reducible refine Kd.C_alloc ?_ _)|(with_reducible refine Kd.C_drewN ?_ _)|(with_reducible refine Kd.C_drew ?_)));(case side2 => exact (Kd.R_reads' HO_477003.out).2.1);(case side3 => exact Kd.C_nil _ _);(case side4 => exact Nat.le_refl _);rintro e w87 ⟨rfl,hb⟩;replace HO_456003 := Aside0.mk (Kd.R_below (by (with_reducible repeat (first|apply Kd.R_alloc|apply Kd.R_drewN|apply Kd.R_drew));exact HO_456003.out) hb);replace HO_477003 := Aside0.mk (Kd.R_below (by (with_reducible repeat (first|apply Kd.R_alloc|apply Kd.R_drewN|apply Kd.R_drew));exact HO_477003.out) hb);replace HO_485003 := Aside0.mk (Kd.R_below (by (with_reducible repeat (first|apply Kd.R_alloc|apply Kd.R_drewN|apply Kd.R_drew));exact HO_485003.out) hb);replace BK455 := Aside0.mk (blk_below (kb_ BK455) hb);replace BK476 := Aside0.mk (blk_below (kb_ BK476) hb);replace BK484 := Aside0.mk (blk_below (kb_ BK484) hb);replace HB := Aside0.mk (below_step b_ hb);(try clear hb);(try clear hb2);(try clear hk);(try clear hi)))
            go_ret
            exact ⟨rf_,b_⟩

end Go.Proofs.YtnilfnkdgdfnnaaGreatDoor.XRe
