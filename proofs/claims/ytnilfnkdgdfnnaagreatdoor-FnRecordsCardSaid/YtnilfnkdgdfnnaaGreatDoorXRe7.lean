/- Proved: of each Go function here that a call comes to what the Lean function of its name tells. Written by a program of this session over the translation. No conditions beyond each theorem's own. -/
import Derived.Test.YtnilfnkdgdfnnaaGreatDoorXRe0
import Derived.Test.YtnilfnkdgdfnnaaGreatDoorXRe2
import Derived.Test.YtnilfnkdgdfnnaaGreatDoorXRe5
import Derived.Test.YtnilfnkdgdfnnaaGreatDoorXRe6
namespace Go.Proofs.YtnilfnkdgdfnnaaGreatDoor.XRe
open Go.RowKit Go.Proofs.YtnilfnkdgdfnnaaGreatDoor.Aid Go.Proofs.YtnilfnkdgdfnnaaGreatDoorW.PrintWords Go.Proofs.YtnilfnkdgdfnnaaGreatDoorW.PrintLast Go.Proofs.YtnilfnkdgdfnnaaGreatDoorW.PrintMore
set_option linter.unusedVariables false
set_option linter.unusedSimpArgs false

/-! ### impl_ShowRecord: function 6 -/
def impl_ShowRecord.f (k : Nat) (a0_0 : Int) (a0_1 : Int) (a0_2 : Int) (l0_3 : List (S47)) : Option (ByteArray) := (impl_isRecord.f k a0_0 a0_1 a0_2 l0_3).bind fun t324 => (if t324 = true then ((impl_showRecord.f k a0_0 a0_1 a0_2 l0_3).bind fun t325 => (some t325)) else (some (⟨#[]⟩ : ByteArray)))

set_option maxHeartbeats 8000000 in
set_option maxRecDepth 100000 in
theorem impl_ShowRecord.calls (k : Nat) (a0_0 : Int) (a0_1 : Int) (a0_2 : Int) (A0_3 : Option Addr) (c0_3 : Nat) (l0_3 : List (S47)) (r : ByteArray) (w : World) (htb : Aside0 (Tb w)) (hr0_3 : Kd.C k47 w A0_3 l0_3.length l0_3) (hc0_3 : l0_3.length ≤ c0_3) (h : impl_ShowRecord.f k a0_0 a0_1 a0_2 l0_3 = some r) :
    Calls Tryz.prog 6 #[.agg #[.int .i64 a0_0, .int .i64 a0_1, .int .i64 a0_2, .slice A0_3 l0_3.length c0_3]] w fun e w' => e = .returned (.string r) ∧ Below w.heap.size w w' := by
 have hu26 := Tryz.underlying26
 have HR0_3 := Aside0.mk hr0_3
 have HC0_3 := Aside0.mk hc0_3
 clear hr0_3 hc0_3
 have HB := Aside0.mk (Below.refl w.heap.size w)
 have H : ((impl_isRecord.f k a0_0 a0_1 a0_2 l0_3).bind fun t324 => (if t324 = true then ((impl_showRecord.f k a0_0 a0_1 a0_2 l0_3).bind fun t325 => (some t325)) else (some (⟨#[]⟩ : ByteArray)))) = some r := h
 clear h
 replace H := bs_ H
 obtain ⟨t324,A2,H⟩ := H
 by_cases c3 : t324 = true
 ·subst c3
  replace H := it_ H
  replace H := bs_ H
  obtain ⟨t325,A4,H⟩ := H
  obtain rfl := Option.some.inj H
  go_enter Tryz.func6,Tryz.ntmps6
  go_wp2_with (first|((with_reducible refine gate_dst (N := 1) rfl ?_);refine bx_ 1 #[.int .i64 a0_0,.int .i64 a0_1,.int .i64 a0_2,.slice A0_3 l0_3.length c0_3] 26 ?_;intro gb323 hg w5 hbox hb;replace HB := nb_ hg hbox hb;obtain ⟨BK323,GW323,GE323,HB⟩ := HB;clear hb hbox hg;obtain ⟨⟨hcz6_0,hcz6_1,hcz6_2,hcz6_3⟩,hfz6_0,hfz6_1,hfz6_2,hfz6_3⟩ := cl4_ BK323.out)|((with_reducible refine gcal_ (f := 14) rfl ?_);refine gl_ (some 4) Tryz.func14 #[.agg #[.int .i64 a0_0,.int .i64 a0_1,.int .i64 a0_2,.slice A0_3 l0_3.length c0_3]] ?_;(with_reducible refine (impl_isRecord.calls k a0_0 a0_1 a0_2 _ _ l0_3 true _ ?side1 ?side2 A2.out).mono ?_);(case side1 => exact cb_ HR0_3);(case side2 => exact HC0_3.out);rintro e w7 ⟨rfl,hb⟩;refine ⟨_,rfl,?_⟩;replace BK323 := Aside0.mk (blk_below (kb_ BK323) hb);replace HB := Aside0.mk (below_step b_ hb);(try clear hb);(try clear hb2);(try clear hk);(try clear hi);obtain ⟨⟨hcz8_0,hcz8_1,hcz8_2,hcz8_3⟩,hfz8_0,hfz8_1,hfz8_2,hfz8_3⟩ := cl4_ BK323.out)|((with_reducible refine gcal_ (f := 15) rfl ?_);refine gl_ (some 7) Tryz.func15 #[.agg #[.int .i64 a0_0,.int .i64 a0_1,.int .i64 a0_2,.slice A0_3 l0_3.length c0_3]] ?_;(with_reducible refine (impl_showRecord.calls k a0_0 a0_1 a0_2 _ _ l0_3 t325 _ ?sideT ?side1 ?side2 A4.out).mono ?_);(case sideT => exact tb_ htb);(case side1 => exact cb_ HR0_3);(case side2 => exact HC0_3.out);rintro e w9 ⟨rfl,hb⟩;refine ⟨_,rfl,?_⟩;replace BK323 := Aside0.mk (blk_below (kb_ BK323) hb);replace HB := Aside0.mk (below_step b_ hb);(try clear hb);(try clear hb2);(try clear hk);(try clear hi)))
  go_ret
  exact ⟨rf_,b_⟩
 ·replace c3 := Bool.eq_false_iff.mpr c3
  subst c3
  replace H := ie_ H
  obtain rfl := Option.some.inj H
  go_enter Tryz.func6,Tryz.ntmps6
  go_wp2_with (first|((with_reducible refine gate_dst (N := 1) rfl ?_);refine bx_ 1 #[.int .i64 a0_0,.int .i64 a0_1,.int .i64 a0_2,.slice A0_3 l0_3.length c0_3] 26 ?_;intro gb323 hg w10 hbox hb;replace HB := nb_ hg hbox hb;obtain ⟨BK323,GW323,GE323,HB⟩ := HB;clear hb hbox hg;obtain ⟨⟨hcz11_0,hcz11_1,hcz11_2,hcz11_3⟩,hfz11_0,hfz11_1,hfz11_2,hfz11_3⟩ := cl4_ BK323.out)|((with_reducible refine gcal_ (f := 14) rfl ?_);refine gl_ (some 4) Tryz.func14 #[.agg #[.int .i64 a0_0,.int .i64 a0_1,.int .i64 a0_2,.slice A0_3 l0_3.length c0_3]] ?_;(with_reducible refine (impl_isRecord.calls k a0_0 a0_1 a0_2 _ _ l0_3 false _ ?side1 ?side2 A2.out).mono ?_);(case side1 => exact cb_ HR0_3);(case side2 => exact HC0_3.out);rintro e w12 ⟨rfl,hb⟩;refine ⟨_,rfl,?_⟩;replace BK323 := Aside0.mk (blk_below (kb_ BK323) hb);replace HB := Aside0.mk (below_step b_ hb);(try clear hb);(try clear hb2);(try clear hk);(try clear hi)))
  go_ret
  exact ⟨rf_,b_⟩

/-! ### spec_l1Id: function 36 -/
def spec_l1Id.f (a0 : Int) : Option (Bool) := (spec_l1In.f a0 1 1000000).bind fun t326 => (some t326)
set_option maxHeartbeats 8000000 in
set_option maxRecDepth 100000 in
theorem spec_l1Id.calls (a0 : Int) (r : Bool) (w : World) (h : spec_l1Id.f a0 = some r) :
    Calls Tryz.prog 36 #[.int .i64 a0] w fun e w' => e = .returned (.bool r) ∧ Drawn0 w w' := by
 have H : ((spec_l1In.f a0 1 1000000).bind fun t326 => (some t326)) = some r := h
 clear h
 replace H := bs_ H
 obtain ⟨t326,A2,H⟩ := H
 obtain rfl := Option.some.inj H
 go_enter Tryz.func36,Tryz.ntmps36
 go_wp2_with (first|((with_reducible refine gcal_ (f := 35) rfl ?_);refine gl_ (some 4) Tryz.func35 #[.int .i64 a0,.int .i64 1,.int .i64 1000000] ?_;(with_reducible refine (spec_l1In.calls a0 1 1000000 t326 _ A2.out).mono ?_);rintro e w' ⟨rfl,⟨nd,rfl⟩⟩;refine ⟨_,rfl,?_⟩))
 go_ret
 exact ⟨rs_,by repeat (first|exact Drawn0.refl _|apply Drawn0.step)⟩

/-! ### spec_l1Region: function 37 -/
def spec_l1Region.f (a0 : Int) : Option (Bool) := (spec_l1In.f a0 0 5).bind fun t327 => (some t327)
set_option maxHeartbeats 8000000 in
set_option maxRecDepth 100000 in
theorem spec_l1Region.calls (a0 : Int) (r : Bool) (w : World) (h : spec_l1Region.f a0 = some r) :
    Calls Tryz.prog 37 #[.int .i64 a0] w fun e w' => e = .returned (.bool r) ∧ Drawn0 w w' := by
 have H : ((spec_l1In.f a0 0 5).bind fun t327 => (some t327)) = some r := h
 clear h
 replace H := bs_ H
 obtain ⟨t327,A2,H⟩ := H
 obtain rfl := Option.some.inj H
 go_enter Tryz.func37,Tryz.ntmps37
 go_wp2_with (first|((with_reducible refine gcal_ (f := 35) rfl ?_);refine gl_ (some 4) Tryz.func35 #[.int .i64 a0,.int .i64 0,.int .i64 5] ?_;(with_reducible refine (spec_l1In.calls a0 0 5 t327 _ A2.out).mono ?_);rintro e w' ⟨rfl,⟨nd,rfl⟩⟩;refine ⟨_,rfl,?_⟩))
 go_ret
 exact ⟨rs_,by repeat (first|exact Drawn0.refl _|apply Drawn0.step)⟩

/-! ### spec_l1Value: function 64 -/
def spec_l1Value.f (a0 : Int) : Option (Bool) := (spec_l1In.f a0 (-1000000000) 1000000000).bind fun t328 => (some t328)
set_option maxHeartbeats 8000000 in
set_option maxRecDepth 100000 in
theorem spec_l1Value.calls (a0 : Int) (r : Bool) (w : World) (h : spec_l1Value.f a0 = some r) :
    Calls Tryz.prog 64 #[.int .i64 a0] w fun e w' => e = .returned (.bool r) ∧ Drawn0 w w' := by
 have H : ((spec_l1In.f a0 (-1000000000) 1000000000).bind fun t328 => (some t328)) = some r := h
 clear h
 replace H := bs_ H
 obtain ⟨t328,A2,H⟩ := H
 obtain rfl := Option.some.inj H
 go_enter Tryz.func64,Tryz.ntmps64
 go_wp2_with (first|((with_reducible refine gcal_ (f := 35) rfl ?_);refine gl_ (some 4) Tryz.func35 #[.int .i64 a0,.int .i64 (-1000000000),.int .i64 1000000000] ?_;(with_reducible refine (spec_l1In.calls a0 (-1000000000) 1000000000 t328 _ A2.out).mono ?_);rintro e w' ⟨rfl,⟨nd,rfl⟩⟩;refine ⟨_,rfl,?_⟩))
 go_ret
 exact ⟨rs_,by repeat (first|exact Drawn0.refl _|apply Drawn0.step)⟩

/-! ### spec_SetOk: function 51 -/
def spec_SetOk.f (a0_0 : Int) (a0_1 : Int) (a0_2 : Int) (a0_3 : Bool) (a0_4 : Int) : Option (Bool) := (spec_l1Region.f a0_0).bind fun t330 => (if t330 = true then ((spec_l1Slot.f a0_1).bind fun t331 => (if t331 = true then ((spec_l1Value.f a0_2).bind fun t332 => (if t332 = true then ((spec_l1In.f a0_4 0 999999).bind fun t333 => (some t333)) else (some false))) else (some false))) else (some false))
set_option maxHeartbeats 8000000 in
set_option maxRecDepth 100000 in
theorem spec_SetOk.calls (a0_0 : Int) (a0_1 : Int) (a0_2 : Int) (a0_3 : Bool) (a0_4 : Int) (r : Bool) (w : World) (h : spec_SetOk.f a0_0 a0_1 a0_2 a0_3 a0_4 = some r) :
    Calls Tryz.prog 51 #[.agg #[.int .i64 a0_0, .int .i64 a0_1, .int .i64 a0_2, .bool a0_3, .int .i64 a0_4]] w fun e w' => e = .returned (.bool r) ∧ Below w.heap.size w w' := by
 have hu47 := Tryz.underlying47
 have HB := Aside0.mk (Below.refl w.heap.size w)
 have H : ((spec_l1Region.f a0_0).bind fun t330 => (if t330 = true then ((spec_l1Slot.f a0_1).bind fun t331 => (if t331 = true then ((spec_l1Value.f a0_2).bind fun t332 => (if t332 = true then ((spec_l1In.f a0_4 0 999999).bind fun t333 => (some t333)) else (some false))) else (some false))) else (some false))) = some r := h
 clear h
 replace H := bs_ H
 obtain ⟨t330,A2,H⟩ := H
 by_cases c3 : t330 = true
 ·subst c3
  replace H := it_ H
  replace H := bs_ H
  obtain ⟨t331,A4,H⟩ := H
  by_cases c5 : t331 = true
  ·subst c5
   replace H := it_ H
   replace H := bs_ H
   obtain ⟨t332,A6,H⟩ := H
   by_cases c7 : t332 = true
   ·subst c7
    replace H := it_ H
    replace H := bs_ H
    obtain ⟨t333,A8,H⟩ := H
    obtain rfl := Option.some.inj H
    go_enter Tryz.func51,Tryz.ntmps51
    go_wp2_with (first|((with_reducible refine gate_dst (N := 1) rfl ?_);refine bx_ 1 #[.int .i64 a0_0,.int .i64 a0_1,.int .i64 a0_2,.bool a0_3,.int .i64 a0_4] 47 ?_;intro gb329 hg w9 hbox hb;replace HB := nb_ hg hbox hb;obtain ⟨BK329,GW329,GE329,HB⟩ := HB;clear hb hbox hg;obtain ⟨⟨hcz10_0,hcz10_1,hcz10_2,hcz10_3,hcz10_4⟩,hfz10_0,hfz10_1,hfz10_2,hfz10_3,hfz10_4⟩ := cl5_ BK329.out)|((with_reducible refine gcal_ (f := 37) rfl ?_);refine gl_ (some 5) Tryz.func37 #[.int .i64 a0_0] ?_;(with_reducible refine (spec_l1Region.calls a0_0 true _ A2.out).mono ?_);rintro e w' ⟨rfl,⟨nd,rfl⟩⟩;refine ⟨_,rfl,?_⟩)|(go_at_call 58;(with_reducible refine (spec_l1Slot.calls a0_1 true _ A4.out).mono ?_);rintro e w' ⟨rfl,⟨nd,rfl⟩⟩)|(go_at_call 64;(with_reducible refine (spec_l1Value.calls a0_2 true _ A6.out).mono ?_);rintro e w' ⟨rfl,⟨nd,rfl⟩⟩)|(go_at_call 35;(with_reducible refine (spec_l1In.calls a0_4 0 999999 t333 _ A8.out).mono ?_);rintro e w' ⟨rfl,⟨nd,rfl⟩⟩))
    go_ret
    exact ⟨rf_,b_⟩
   ·replace c7 := Bool.eq_false_iff.mpr c7
    subst c7
    replace H := ie_ H
    obtain rfl := Option.some.inj H
    go_enter Tryz.func51,Tryz.ntmps51
    go_wp2_with (first|((with_reducible refine gate_dst (N := 1) rfl ?_);refine bx_ 1 #[.int .i64 a0_0,.int .i64 a0_1,.int .i64 a0_2,.bool a0_3,.int .i64 a0_4] 47 ?_;intro gb329 hg w11 hbox hb;replace HB := nb_ hg hbox hb;obtain ⟨BK329,GW329,GE329,HB⟩ := HB;clear hb hbox hg;obtain ⟨⟨hcz12_0,hcz12_1,hcz12_2,hcz12_3,hcz12_4⟩,hfz12_0,hfz12_1,hfz12_2,hfz12_3,hfz12_4⟩ := cl5_ BK329.out)|((with_reducible refine gcal_ (f := 37) rfl ?_);refine gl_ (some 5) Tryz.func37 #[.int .i64 a0_0] ?_;(with_reducible refine (spec_l1Region.calls a0_0 true _ A2.out).mono ?_);rintro e w' ⟨rfl,⟨nd,rfl⟩⟩;refine ⟨_,rfl,?_⟩)|(go_at_call 58;(with_reducible refine (spec_l1Slot.calls a0_1 true _ A4.out).mono ?_);rintro e w' ⟨rfl,⟨nd,rfl⟩⟩)|(go_at_call 64;(with_reducible refine (spec_l1Value.calls a0_2 false _ A6.out).mono ?_);rintro e w' ⟨rfl,⟨nd,rfl⟩⟩))
    go_ret
    exact ⟨rf_,b_⟩
  ·replace c5 := Bool.eq_false_iff.mpr c5
   subst c5
   replace H := ie_ H
   obtain rfl := Option.some.inj H
   go_enter Tryz.func51,Tryz.ntmps51
   go_wp2_with (first|((with_reducible refine gate_dst (N := 1) rfl ?_);refine bx_ 1 #[.int .i64 a0_0,.int .i64 a0_1,.int .i64 a0_2,.bool a0_3,.int .i64 a0_4] 47 ?_;intro gb329 hg w13 hbox hb;replace HB := nb_ hg hbox hb;obtain ⟨BK329,GW329,GE329,HB⟩ := HB;clear hb hbox hg;obtain ⟨⟨hcz14_0,hcz14_1,hcz14_2,hcz14_3,hcz14_4⟩,hfz14_0,hfz14_1,hfz14_2,hfz14_3,hfz14_4⟩ := cl5_ BK329.out)|((with_reducible refine gcal_ (f := 37) rfl ?_);refine gl_ (some 5) Tryz.func37 #[.int .i64 a0_0] ?_;(with_reducible refine (spec_l1Region.calls a0_0 true _ A2.out).mono ?_);rintro e w' ⟨rfl,⟨nd,rfl⟩⟩;refine ⟨_,rfl,?_⟩)|(go_at_call 58;(with_reducible refine (spec_l1Slot.calls a0_1 false _ A4.out).mono ?_);rintro e w' ⟨rfl,⟨nd,rfl⟩⟩))
   go_ret
   exact ⟨rf_,b_⟩
 ·replace c3 := Bool.eq_false_iff.mpr c3
  subst c3
  replace H := ie_ H
  obtain rfl := Option.some.inj H
  go_enter Tryz.func51,Tryz.ntmps51
  go_wp2_with (first|((with_reducible refine gate_dst (N := 1) rfl ?_);refine bx_ 1 #[.int .i64 a0_0,.int .i64 a0_1,.int .i64 a0_2,.bool a0_3,.int .i64 a0_4] 47 ?_;intro gb329 hg w15 hbox hb;replace HB := nb_ hg hbox hb;obtain ⟨BK329,GW329,GE329,HB⟩ := HB;clear hb hbox hg;obtain ⟨⟨hcz16_0,hcz16_1,hcz16_2,hcz16_3,hcz16_4⟩,hfz16_0,hfz16_1,hfz16_2,hfz16_3,hfz16_4⟩ := cl5_ BK329.out)|((with_reducible refine gcal_ (f := 37) rfl ?_);refine gl_ (some 5) Tryz.func37 #[.int .i64 a0_0] ?_;(with_reducible refine (spec_l1Region.calls a0_0 false _ A2.out).mono ?_);rintro e w' ⟨rfl,⟨nd,rfl⟩⟩;refine ⟨_,rfl,?_⟩))
  go_ret
  exact ⟨rf_,b_⟩

end Go.Proofs.YtnilfnkdgdfnnaaGreatDoor.XRe
