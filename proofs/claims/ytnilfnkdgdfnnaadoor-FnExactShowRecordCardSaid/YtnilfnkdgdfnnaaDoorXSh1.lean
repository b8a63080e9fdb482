/- Proved: of each Go function here that a call comes to what the Lean function of its name tells. Written by a program of this session over the translation. No conditions beyond each theorem's own. -/
import Derived.Test.YtnilfnkdgdfnnaaDoorXSh0
namespace Go.Proofs.YtnilfnkdgdfnnaaDoor.XSh
open Go.RowKit Go.Proofs.YtnilfnkdgdfnnaaDoor.Aid Go.Proofs.YtnilfnkdgdfnnaaDoorW.PrintWords Go.Proofs.YtnilfnkdgdfnnaaDoorW.PrintLast
set_option linter.unusedVariables false
set_option linter.unusedSimpArgs false

/-! ### laws_szSetS: function 14 -/
def laws_szSetS.f (l0 : List (S56)) (a1 : Int) : Option (Int) := if (wrap64 (a1 - (l0.length : Int))) < 0 then (some (-1)) else (some (wrap64 (a1 - (l0.length : Int))))
set_option maxHeartbeats 8000000 in
set_option maxRecDepth 100000 in
theorem laws_szSetS.calls (A0 : Option Addr) (c0 : Nat) (l0 : List (S56)) (a1 : Int) (r : Int) (w : World) (hr0 : Kd.C k56 w A0 l0.length l0) (hc0 : l0.length ≤ c0) (h : laws_szSetS.f l0 a1 = some r) :
    Calls Tryd.prog 14 #[.slice A0 l0.length c0, .int .i64 a1] w fun e w' => e = .returned (.int .i64 r) ∧ Drawn0 w w' := by
 have HR0 := Aside0.mk hr0
 have HC0 := Aside0.mk hc0
 clear hr0 hc0
 have H : (if (wrap64 (a1 - (l0.length : Int))) < 0 then (some (-1)) else (some (wrap64 (a1 - (l0.length : Int))))) = some r := h
 clear h
 by_cases c3 : (wrap64 (a1 - (l0.length : Int))) < 0
 ·rw [if_pos c3] at H
  have c3b0 : decide ((wrap64 (a1 - (l0.length : Int))) < 0) = true := decide_eq_true c3
  clear c3
  obtain rfl := Option.some.inj H
  go_enter Tryd.func14,Tryd.ntmps14
  go_wp2
  go_ret
  exact ⟨rs_,by repeat (first|exact Drawn0.refl _|apply Drawn0.step)⟩
 ·rw [if_neg c3] at H
  have c3b0 : decide ((wrap64 (a1 - (l0.length : Int))) < 0) = false := decide_eq_false c3
  clear c3
  obtain rfl := Option.some.inj H
  go_enter Tryd.func14,Tryd.ntmps14
  go_wp2
  go_ret
  exact ⟨rs_,by repeat (first|exact Drawn0.refl _|apply Drawn0.step)⟩

/-! ### laws_szRecord: function 5 -/
def laws_szRecord.f (a0_0 : Int) (a0_1 : Int) (a0_2 : Int) (l0_3 : List (S56)) (a1 : Int) : Option (Int) := (laws_szSetS.f l0_3 a1).bind fun t102 => (if t102 < 0 then (some (-1)) else (some t102))
set_option maxHeartbeats 8000000 in
set_option maxRecDepth 100000 in
theorem laws_szRecord.calls (a0_0 : Int) (a0_1 : Int) (a0_2 : Int) (A0_3 : Option Addr) (c0_3 : Nat) (l0_3 : List (S56)) (a1 : Int) (r : Int) (w : World) (hr0_3 : Kd.C k56 w A0_3 l0_3.length l0_3) (hc0_3 : l0_3.length ≤ c0_3) (h : laws_szRecord.f a0_0 a0_1 a0_2 l0_3 a1 = some r) :
    Calls Tryd.prog 5 #[.agg #[.int .i64 a0_0, .int .i64 a0_1, .int .i64 a0_2, .slice A0_3 l0_3.length c0_3], .int .i64 a1] w fun e w' => e = .returned (.int .i64 r) ∧ Below w.heap.size w w' := by
 have hu24 := Tryd.underlying24
 have HR0_3 := Aside0.mk hr0_3
 have HC0_3 := Aside0.mk hc0_3
 clear hr0_3 hc0_3
 have HB := Aside0.mk (Below.refl w.heap.size w)
 have H : ((laws_szSetS.f l0_3 a1).bind fun t102 => (if t102 < 0 then (some (-1)) else (some t102))) = some r := h
 clear h
 replace H := bs_ H
 obtain ⟨t102,A3,H⟩ := H
 by_cases c4 : t102 < 0
 ·rw [if_pos c4] at H
  have c4b0 : decide (t102 < 0) = true := decide_eq_true c4
  clear c4
  obtain rfl := Option.some.inj H
  go_enter Tryd.func5,Tryd.ntmps5
  go_wp2_with (first|((with_reducible refine gate_dst (N := 2) rfl ?_);refine bx_ 2 #[.int .i64 a0_0,.int .i64 a0_1,.int .i64 a0_2,.slice A0_3 l0_3.length c0_3] 24 ?_;intro gb101 hg w5 hbox hb;replace HB := nb_ hg hbox hb;obtain ⟨BK101,GW101,GE101,HB⟩ := HB;clear hb hbox hg;obtain ⟨⟨hcz6_0,hcz6_1,hcz6_2,hcz6_3⟩,hfz6_0,hfz6_1,hfz6_2,hfz6_3⟩ := cl4_ BK101.out)|((with_reducible refine gcal_ (f := 14) rfl ?_);refine gl_ (some 8) Tryd.func14 #[.slice A0_3 l0_3.length c0_3,.int .i64 a1] ?_;(with_reducible refine (laws_szSetS.calls _ _ l0_3 a1 t102 _ ?side1 ?side2 A3.out).mono ?_);(case side1 => exact cb_ HR0_3);(case side2 => exact HC0_3.out);rintro e w' ⟨rfl,⟨nd,rfl⟩⟩;refine ⟨_,rfl,?_⟩))
  go_ret
  exact ⟨rf_,b_⟩
 ·rw [if_neg c4] at H
  have c4b0 : decide (t102 < 0) = false := decide_eq_false c4
  clear c4
  obtain rfl := Option.some.inj H
  go_enter Tryd.func5,Tryd.ntmps5
  go_wp2_with (first|((with_reducible refine gate_dst (N := 2) rfl ?_);refine bx_ 2 #[.int .i64 a0_0,.int .i64 a0_1,.int .i64 a0_2,.slice A0_3 l0_3.length c0_3] 24 ?_;intro gb101 hg w7 hbox hb;replace HB := nb_ hg hbox hb;obtain ⟨BK101,GW101,GE101,HB⟩ := HB;clear hb hbox hg;obtain ⟨⟨hcz8_0,hcz8_1,hcz8_2,hcz8_3⟩,hfz8_0,hfz8_1,hfz8_2,hfz8_3⟩ := cl4_ BK101.out)|((with_reducible refine gcal_ (f := 14) rfl ?_);refine gl_ (some 8) Tryd.func14 #[.slice A0_3 l0_3.length c0_3,.int .i64 a1] ?_;(with_reducible refine (laws_szSetS.calls _ _ l0_3 a1 t102 _ ?side1 ?side2 A3.out).mono ?_);(case side1 => exact cb_ HR0_3);(case side2 => exact HC0_3.out);rintro e w' ⟨rfl,⟨nd,rfl⟩⟩;refine ⟨_,rfl,?_⟩))
  go_ret
  exact ⟨rf_,b_⟩

/-! ### spec_l1In: function 27 -/
def spec_l1In.f (a0 : Int) (a1 : Int) (a2 : Int) : Option (Bool) := if a0 ≥ a1 then (some (decide (a0 ≤ a2))) else (some false)
set_option maxHeartbeats 8000000 in
set_option maxRecDepth 100000 in
theorem spec_l1In.calls (a0 : Int) (a1 : Int) (a2 : Int) (r : Bool) (w : World) (h : spec_l1In.f a0 a1 a2 = some r) :
    Calls Tryd.prog 27 #[.int .i64 a0, .int .i64 a1, .int .i64 a2] w fun e w' => e = .returned (.bool r) ∧ Drawn0 w w' := by
 have H : (if a0 ≥ a1 then (some (decide (a0 ≤ a2))) else (some false)) = some r := h
 clear h
 by_cases c4 : a0 ≥ a1
 ·rw [if_pos c4] at H
  have c4b0 : decide (a1 ≤ a0) = true := decide_eq_true c4
  clear c4
  obtain rfl := Option.some.inj H
  go_enter Tryd.func27,Tryd.ntmps27
  go_wp2
  go_ret
  exact ⟨rs_,by repeat (first|exact Drawn0.refl _|apply Drawn0.step)⟩
 ·rw [if_neg c4] at H
  have c4b0 : decide (a1 ≤ a0) = false := decide_eq_false c4
  clear c4
  obtain rfl := Option.some.inj H
  go_enter Tryd.func27,Tryd.ntmps27
  go_wp2
  go_ret
  exact ⟨rs_,by repeat (first|exact Drawn0.refl _|apply Drawn0.step)⟩

/-! ### spec_l1Id: function 28 -/
def spec_l1Id.f (a0 : Int) : Option (Bool) := (spec_l1In.f a0 1 1000000).bind fun t103 => (some t103)
set_option maxHeartbeats 8000000 in
set_option maxRecDepth 100000 in
theorem spec_l1Id.calls (a0 : Int) (r : Bool) (w : World) (h : spec_l1Id.f a0 = some r) :
    Calls Tryd.prog 28 #[.int .i64 a0] w fun e w' => e = .returned (.bool r) ∧ Drawn0 w w' := by
 have H : ((spec_l1In.f a0 1 1000000).bind fun t103 => (some t103)) = some r := h
 clear h
 replace H := bs_ H
 obtain ⟨t103,A2,H⟩ := H
 obtain rfl := Option.some.inj H
 go_enter Tryd.func28,Tryd.ntmps28
 go_wp2_with (first|((with_reducible refine gcal_ (f := 27) rfl ?_);refine gl_ (some 4) Tryd.func27 #[.int .i64 a0,.int .i64 1,.int .i64 1000000] ?_;(with_reducible refine (spec_l1In.calls a0 1 1000000 t103 _ A2.out).mono ?_);rintro e w' ⟨rfl,⟨nd,rfl⟩⟩;refine ⟨_,rfl,?_⟩))
 go_ret
 exact ⟨rs_,by repeat (first|exact Drawn0.refl _|apply Drawn0.step)⟩

/-! ### spec_l1Region: function 29 -/
def spec_l1Region.f (a0 : Int) : Option (Bool) := (spec_l1In.f a0 0 5).bind fun t104 => (some t104)
set_option maxHeartbeats 8000000 in
set_option maxRecDepth 100000 in
theorem spec_l1Region.calls (a0 : Int) (r : Bool) (w : World) (h : spec_l1Region.f a0 = some r) :
    Calls Tryd.prog 29 #[.int .i64 a0] w fun e w' => e = .returned (.bool r) ∧ Drawn0 w w' := by
 have H : ((spec_l1In.f a0 0 5).bind fun t104 => (some t104)) = some r := h
 clear h
 replace H := bs_ H
 obtain ⟨t104,A2,H⟩ := H
 obtain rfl := Option.some.inj H
 go_enter Tryd.func29,Tryd.ntmps29
 go_wp2_with (first|((with_reducible refine gcal_ (f := 27) rfl ?_);refine gl_ (some 4) Tryd.func27 #[.int .i64 a0,.int .i64 0,.int .i64 5] ?_;(with_reducible refine (spec_l1In.calls a0 0 5 t104 _ A2.out).mono ?_);rintro e w' ⟨rfl,⟨nd,rfl⟩⟩;refine ⟨_,rfl,?_⟩))
 go_ret
 exact ⟨rs_,by repeat (first|exact Drawn0.refl _|apply Drawn0.step)⟩

/-! ### spec_l1Slot: function 57 -/
def spec_l1Slot.f (a0 : Int) : Option (Bool) := (spec_l1In.f a0 0 5).bind fun t105 => (some t105)
set_option maxHeartbeats 8000000 in
set_option maxRecDepth 100000 in
theorem spec_l1Slot.calls (a0 : Int) (r : Bool) (w : World) (h : spec_l1Slot.f a0 = some r) :
    Calls Tryd.prog 57 #[.int .i64 a0] w fun e w' => e = .returned (.bool r) ∧ Drawn0 w w' := by
 have H : ((spec_l1In.f a0 0 5).bind fun t105 => (some t105)) = some r := h
 clear h
 replace H := bs_ H
 obtain ⟨t105,A2,H⟩ := H
 obtain rfl := Option.some.inj H
 go_enter Tryd.func57,Tryd.ntmps57
 go_wp2_with (first|((with_reducible refine gcal_ (f := 27) rfl ?_);refine gl_ (some 4) Tryd.func27 #[.int .i64 a0,.int .i64 0,.int .i64 5] ?_;(with_reducible refine (spec_l1In.calls a0 0 5 t105 _ A2.out).mono ?_);rintro e w' ⟨rfl,⟨nd,rfl⟩⟩;refine ⟨_,rfl,?_⟩))
 go_ret
 exact ⟨rs_,by repeat (first|exact Drawn0.refl _|apply Drawn0.step)⟩

/-! ### spec_l1Value: function 58 -/
def spec_l1Value.f (a0 : Int) : Option (Bool) := (spec_l1In.f a0 (-1000000000) 1000000000).bind fun t106 => (some t106)
set_option maxHeartbeats 8000000 in
set_option maxRecDepth 100000 in
theorem spec_l1Value.calls (a0 : Int) (r : Bool) (w : World) (h : spec_l1Value.f a0 = some r) :
    Calls Tryd.prog 58 #[.int .i64 a0] w fun e w' => e = .returned (.bool r) ∧ Drawn0 w w' := by
 have H : ((spec_l1In.f a0 (-1000000000) 1000000000).bind fun t106 => (some t106)) = some r := h
 clear h
 replace H := bs_ H
 obtain ⟨t106,A2,H⟩ := H
 obtain rfl := Option.some.inj H
 go_enter Tryd.func58,Tryd.ntmps58
 go_wp2_with (first|((with_reducible refine gcal_ (f := 27) rfl ?_);refine gl_ (some 4) Tryd.func27 #[.int .i64 a0,.int .i64 (-1000000000),.int .i64 1000000000] ?_;(with_reducible refine (spec_l1In.calls a0 (-1000000000) 1000000000 t106 _ A2.out).mono ?_);rintro e w' ⟨rfl,⟨nd,rfl⟩⟩;refine ⟨_,rfl,?_⟩))
 go_ret
 exact ⟨rs_,by repeat (first|exact Drawn0.refl _|apply Drawn0.step)⟩

/-! ### spec_SetOk: function 45 -/
def spec_SetOk.f (a0_0 : Int) (a0_1 : Int) (a0_2 : Int) (a0_3 : Bool) (a0_4 : Int) : Option (Bool) := (spec_l1Region.f a0_0).bind fun t108 => (if t108 = true then ((spec_l1Slot.f a0_1).bind fun t109 => (if t109 = true then ((spec_l1Value.f a0_2).bind fun t110 => (if t110 = true then ((spec_l1In.f a0_4 0 999999).bind fun t111 => (some t111)) else (some false))) else (some false))) else (some false))
set_option maxHeartbeats 8000000 in
set_option maxRecDepth 100000 in
theorem spec_SetOk.calls (a0_0 : Int) (a0_1 : Int) (a0_2 : Int) (a0_3 : Bool) (a0_4 : Int) (r : Bool) (w : World) (h : spec_SetOk.f a0_0 a0_1 a0_2 a0_3 a0_4 = some r) :
    Calls Tryd.prog 45 #[.agg #[.int .i64 a0_0, .int .i64 a0_1, .int .i64 a0_2, .bool a0_3, .int .i64 a0_4]] w fun e w' => e = .returned (.bool r) ∧ Below w.heap.size w w' := by
 have hu47 := Tryd.underlying47
 have HB := Aside0.mk (Below.refl w.heap.size w)
 have H : ((spec_l1Region.f a0_0).bind fun t108 => (if t108 = true then ((spec_l1Slot.f a0_1).bind fun t109 => (if t109 = true then ((spec_l1Value.f a0_2).bind fun t110 => (if t110 = true then ((spec_l1In.f a0_4 0 999999).bind fun t111 => (some t111)) else (some false))) else (some false))) else (some false))) = some r := h
 clear h
 replace H := bs_ H
 obtain ⟨t108,A2,H⟩ := H
 by_cases c3 : t108 = true
 ·subst c3
  replace H := it_ H
  replace H := bs_ H
  obtain ⟨t109,A4,H⟩ := H
  by_cases c5 : t109 = true
  ·subst c5
   replace H := it_ H
   replace H := bs_ H
   obtain ⟨t110,A6,H⟩ := H
   by_cases c7 : t110 = true
   ·subst c7
    replace H := it_ H
    replace H := bs_ H
    obtain ⟨t111,A8,H⟩ := H
    obtain rfl := Option.some.inj H
    go_enter Tryd.func45,Tryd.ntmps45
    go_wp2_with (first|((with_reducible refine gate_dst (N := 1) rfl ?_);refine bx_ 1 #[.int .i64 a0_0,.int .i64 a0_1,.int .i64 a0_2,.bool a0_3,.int .i64 a0_4] 47 ?_;intro gb107 hg w9 hbox hb;replace HB := nb_ hg hbox hb;obtain ⟨BK107,GW107,GE107,HB⟩ := HB;clear hb hbox hg;obtain ⟨⟨hcz10_0,hcz10_1,hcz10_2,hcz10_3,hcz10_4⟩,hfz10_0,hfz10_1,hfz10_2,hfz10_3,hfz10_4⟩ := cl5_ BK107.out)|((with_reducible refine gcal_ (f := 29) rfl ?_);refine gl_ (some 5) Tryd.func29 #[.int .i64 a0_0] ?_;(with_reducible refine (spec_l1Region.calls a0_0 true _ A2.out).mono ?_);rintro e w' ⟨rfl,⟨nd,rfl⟩⟩;refine ⟨_,rfl,?_⟩)|(go_at_call 57;(with_reducible refine (spec_l1Slot.calls a0_1 true _ A4.out).mono ?_);rintro e w' ⟨rfl,⟨nd,rfl⟩⟩)|(go_at_call 58;(with_reducible refine (spec_l1Value.calls a0_2 true _ A6.out).mono ?_);rintro e w' ⟨rfl,⟨nd,rfl⟩⟩)|(go_at_call 27;(with_reducible refine (spec_l1In.calls a0_4 0 999999 t111 _ A8.out).mono ?_);rintro e w' ⟨rfl,⟨nd,rfl⟩⟩))
    go_ret
    exact ⟨rf_,b_⟩
   ·replace c7 := Bool.eq_false_iff.mpr c7
    subst c7
    replace H := ie_ H
    obtain rfl := Option.some.inj H
    go_enter Tryd.func45,Tryd.ntmps45
    go_wp2_with (first|((with_reducible refine gate_dst (N := 1) rfl ?_);refine bx_ 1 #[.int .i64 a0_0,.int .i64 a0_1,.int .i64 a0_2,.bool a0_3,.int .i64 a0_4] 47 ?_;intro gb107 hg w11 hbox hb;replace HB := nb_ hg hbox hb;obtain ⟨BK107,GW107,GE107,HB⟩ := HB;clear hb hbox hg;obtain ⟨⟨hcz12_0,hcz12_1,hcz12_2,hcz12_3,hcz12_4⟩,hfz12_0,hfz12_1,hfz12_2,hfz12_3,hfz12_4⟩ := cl5_ BK107.out)|((with_reducible refine gcal_ (f := 29) rfl ?_);refine gl_ (some 5) Tryd.func29 #[.int .i64 a0_0] ?_;(with_reducible refine (spec_l1Region.calls a0_0 true _ A2.out).mono ?_);rintro e w' ⟨rfl,⟨nd,rfl⟩⟩;refine ⟨_,rfl,?_⟩)|(go_at_call 57;(with_reducible refine (spec_l1Slot.calls a0_1 true _ A4.out).mono ?_);rintro e w' ⟨rfl,⟨nd,rfl⟩⟩)|(go_at_call 58;(with_reducible refine (spec_l1Value.calls a0_2 false _ A6.out).mono ?_);rintro e w' ⟨rfl,⟨nd,rfl⟩⟩))
    go_ret
    exact ⟨rf_,b_⟩
  ·replace c5 := Bool.eq_false_iff.mpr c5
   subst c5
   replace H := ie_ H
   obtain rfl := Option.some.inj H
   go_enter Tryd.func45,Tryd.ntmps45
   go_wp2_with (first|((with_reducible refine gate_dst (N := 1) rfl ?_);refine bx_ 1 #[.int .i64 a0_0,.int .i64 a0_1,.int .i64 a0_2,.bool a0_3,.int .i64 a0_4] 47 ?_;intro gb107 hg w13 hbox hb;replace HB := nb_ hg hbox hb;obtain ⟨BK107,GW107,GE107,HB⟩ := HB;clear hb hbox hg;obtain ⟨⟨hcz14_0,hcz14_1,hcz14_2,hcz14_3,hcz14_4⟩,hfz14_0,hfz14_1,hfz14_2,hfz14_3,hfz14_4⟩ := cl5_ BK107.out)|((with_reducible refine gcal_ (f := 29) rfl ?_);refine gl_ (some 5) Tryd.func29 #[.int .i64 a0_0] ?_;(with_reducible refine (spec_l1Region.calls a0_0 true _ A2.out).mono ?_);rintro e w' ⟨rfl,⟨nd,rfl⟩⟩;refine ⟨_,rfl,?_⟩)|(go_at_call 57;(with_reducible refine (spec_l1Slot.calls a0_1 false _ A4.out).mono ?_);rintro e w' ⟨rfl,⟨nd,rfl⟩⟩))
   go_ret
   exact ⟨rf_,b_⟩
 ·replace c3 := Bool.eq_false_iff.mpr c3
  subst c3
  replace H := ie_ H
  obtain rfl := Option.some.inj H
  go_enter Tryd.func45,Tryd.ntmps45
  go_wp2_with (first|((with_reducible refine gate_dst (N := 1) rfl ?_);refine bx_ 1 #[.int .i64 a0_0,.int .i64 a0_1,.int .i64 a0_2,.bool a0_3,.int .i64 a0_4] 47 ?_;intro gb107 hg w15 hbox hb;replace HB := nb_ hg hbox hb;obtain ⟨BK107,GW107,GE107,HB⟩ := HB;clear hb hbox hg;obtain ⟨⟨hcz16_0,hcz16_1,hcz16_2,hcz16_3,hcz16_4⟩,hfz16_0,hfz16_1,hfz16_2,hfz16_3,hfz16_4⟩ := cl5_ BK107.out)|((with_reducible refine gcal_ (f := 29) rfl ?_);refine gl_ (some 5) Tryd.func29 #[.int .i64 a0_0] ?_;(with_reducible refine (spec_l1Region.calls a0_0 false _ A2.out).mono ?_);rintro e w' ⟨rfl,⟨nd,rfl⟩⟩;refine ⟨_,rfl,?_⟩))
  go_ret
  exact ⟨rf_,b_⟩

end Go.Proofs.YtnilfnkdgdfnnaaDoor.XSh
