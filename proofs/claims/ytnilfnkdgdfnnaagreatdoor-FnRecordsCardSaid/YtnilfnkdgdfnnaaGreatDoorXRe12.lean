/- Proved: of each Go function here that a call comes to what the Lean function of its name tells. Written by a program of this session over the translation. No conditions beyond each theorem's own. -/
import Derived.Test.YtnilfnkdgdfnnaaGreatDoorXRe0
import Derived.Test.YtnilfnkdgdfnnaaGreatDoorXRe5
import Derived.Test.YtnilfnkdgdfnnaaGreatDoorXRe9
import Derived.Test.YtnilfnkdgdfnnaaGreatDoorXRe11
namespace Go.Proofs.YtnilfnkdgdfnnaaGreatDoor.XRe
open Go.RowKit Go.Proofs.YtnilfnkdgdfnnaaGreatDoor.Aid Go.Proofs.YtnilfnkdgdfnnaaGreatDoorW.PrintWords Go.Proofs.YtnilfnkdgdfnnaaGreatDoorW.PrintLast Go.Proofs.YtnilfnkdgdfnnaaGreatDoorW.PrintMore
set_option linter.unusedVariables false
set_option linter.unusedSimpArgs false

/-! ### spec_ShowRecord: function 7 -/
def spec_ShowRecord.f (k : Nat) (a0_0 : Int) (a0_1 : Int) (a0_2 : Int) (l0_3 : List (S47)) : Option (ByteArray) := (spec_RecordOk.f k a0_0 a0_1 a0_2 l0_3).bind fun t366 => (if t366 = true then ((spec_l2Show.f k a0_0 a0_1 a0_2 l0_3).bind fun t367 => (some t367)) else (some (⟨#[]⟩ : ByteArray)))

set_option maxHeartbeats 8000000 in
set_option maxRecDepth 100000 in
theorem spec_ShowRecord.calls (k : Nat) (a0_0 : Int) (a0_1 : Int) (a0_2 : Int) (A0_3 : Option Addr) (c0_3 : Nat) (l0_3 : List (S47)) (r : ByteArray) (w : World) (hr0_3 : Kd.C k47 w A0_3 l0_3.length l0_3) (hc0_3 : l0_3.length ≤ c0_3) (h : spec_ShowRecord.f k a0_0 a0_1 a0_2 l0_3 = some r) :
    Calls Tryz.prog 7 #[.agg #[.int .i64 a0_0, .int .i64 a0_1, .int .i64 a0_2, .slice A0_3 l0_3.length c0_3]] w fun e w' => e = .returned (.string r) ∧ Below w.heap.size w w' := by
 have hu26 := Tryz.underlying26
 have HR0_3 := Aside0.mk hr0_3
 have HC0_3 := Aside0.mk hc0_3
 clear hr0_3 hc0_3
 have HB := Aside0.mk (Below.refl w.heap.size w)
 have H : ((spec_RecordOk.f k a0_0 a0_1 a0_2 l0_3).bind fun t366 => (if t366 = true then ((spec_l2Show.f k a0_0 a0_1 a0_2 l0_3).bind fun t367 => (some t367)) else (some (⟨#[]⟩ : ByteArray)))) = some r := h
 clear h
 replace H := bs_ H
 obtain ⟨t366,A2,H⟩ := H
 by_cases c3 : t366 = true
 ·subst c3
  replace H := it_ H
  replace H := bs_ H
  obtain ⟨t367,A4,H⟩ := H
  obtain rfl := Option.some.inj H
  go_enter Tryz.func7,Tryz.ntmps7
  go_wp2_with (first|((with_reducible refine gate_dst (N := 1) rfl ?_);refine bx_ 1 #[.int .i64 a0_0,.int .i64 a0_1,.int .i64 a0_2,.slice A0_3 l0_3.length c0_3] 26 ?_;intro gb365 hg w5 hbox hb;replace HB := nb_ hg hbox hb;obtain ⟨BK365,GW365,GE365,HB⟩ := HB;clear hb hbox hg;obtain ⟨⟨hcz6_0,hcz6_1,hcz6_2,hcz6_3⟩,hfz6_0,hfz6_1,hfz6_2,hfz6_3⟩ := cl4_ BK365.out)|((with_reducible refine gcal_ (f := 16) rfl ?_);refine gl_ (some 4) Tryz.func16 #[.agg #[.int .i64 a0_0,.int .i64 a0_1,.int .i64 a0_2,.slice A0_3 l0_3.length c0_3]] ?_;(with_reducible refine (spec_RecordOk.calls k a0_0 a0_1 a0_2 _ _ l0_3 true _ ?side1 ?side2 A2.out).mono ?_);(case side1 => exact cb_ HR0_3);(case side2 => exact HC0_3.out);rintro e w7 ⟨rfl,hb⟩;refine ⟨_,rfl,?_⟩;replace BK365 := Aside0.mk (blk_below (kb_ BK365) hb);replace HB := Aside0.mk (below_step b_ hb);(try clear hb);(try clear hb2);(try clear hk);(try clear hi);obtain ⟨⟨hcz8_0,hcz8_1,hcz8_2,hcz8_3⟩,hfz8_0,hfz8_1,hfz8_2,hfz8_3⟩ := cl4_ BK365.out)|((with_reducible refine gcal_ (f := 17) rfl ?_);refine gl_ (some 7) Tryz.func17 #[.agg #[.int .i64 a0_0,.int .i64 a0_1,.int .i64 a0_2,.slice A0_3 l0_3.length c0_3]] ?_;(with_reducible refine (spec_l2Show.calls k a0_0 a0_1 a0_2 _ _ l0_3 t367 _ ?side1 ?side2 A4.out).mono ?_);(case side1 => exact cb_ HR0_3);(case side2 => exact HC0_3.out);rintro e w9 ⟨rfl,hb⟩;refine ⟨_,rfl,?_⟩;replace BK365 := Aside0.mk (blk_below (kb_ BK365) hb);replace HB := Aside0.mk (below_step b_ hb);(try clear hb);(try clear hb2);(try clear hk);(try clear hi)))
  go_ret
  exact ⟨rf_,b_⟩
 ·replace c3 := Bool.eq_false_iff.mpr c3
  subst c3
  replace H := ie_ H
  obtain rfl := Option.some.inj H
  go_enter Tryz.func7,Tryz.ntmps7
  go_wp2_with (first|((with_reducible refine gate_dst (N := 1) rfl ?_);refine bx_ 1 #[.int .i64 a0_0,.int .i64 a0_1,.int .i64 a0_2,.slice A0_3 l0_3.length c0_3] 26 ?_;intro gb365 hg w10 hbox hb;replace HB := nb_ hg hbox hb;obtain ⟨BK365,GW365,GE365,HB⟩ := HB;clear hb hbox hg;obtain ⟨⟨hcz11_0,hcz11_1,hcz11_2,hcz11_3⟩,hfz11_0,hfz11_1,hfz11_2,hfz11_3⟩ := cl4_ BK365.out)|((with_reducible refine gcal_ (f := 16) rfl ?_);refine gl_ (some 4) Tryz.func16 #[.agg #[.int .i64 a0_0,.int .i64 a0_1,.int .i64 a0_2,.slice A0_3 l0_3.length c0_3]] ?_;(with_reducible refine (spec_RecordOk.calls k a0_0 a0_1 a0_2 _ _ l0_3 false _ ?side1 ?side2 A2.out).mono ?_);(case side1 => exact cb_ HR0_3);(case side2 => exact HC0_3.out);rintro e w12 ⟨rfl,hb⟩;refine ⟨_,rfl,?_⟩;replace BK365 := Aside0.mk (blk_below (kb_ BK365) hb);replace HB := Aside0.mk (below_step b_ hb);(try clear hb);(try clear hb2);(try clear hk);(try clear hi)))
  go_ret
  exact ⟨rf_,b_⟩

/-! ### impl_RecordOk: function 8 -/
def impl_RecordOk.f (k : Nat) (a0_0 : Int) (a0_1 : Int) (a0_2 : Int) (l0_3 : List (S47)) : Option (Bool) := (impl_isRecord.f k a0_0 a0_1 a0_2 l0_3).bind fun t369 => (some t369)

set_option maxHeartbeats 8000000 in
set_option maxRecDepth 100000 in
theorem impl_RecordOk.calls (k : Nat) (a0_0 : Int) (a0_1 : Int) (a0_2 : Int) (A0_3 : Option Addr) (c0_3 : Nat) (l0_3 : List (S47)) (r : Bool) (w : World) (hr0_3 : Kd.C k47 w A0_3 l0_3.length l0_3) (hc0_3 : l0_3.length ≤ c0_3) (h : impl_RecordOk.f k a0_0 a0_1 a0_2 l0_3 = some r) :
    Calls Tryz.prog 8 #[.agg #[.int .i64 a0_0, .int .i64 a0_1, .int .i64 a0_2, .slice A0_3 l0_3.length c0_3]] w fun e w' => e = .returned (.bool r) ∧ Below w.heap.size w w' := by
 have hu26 := Tryz.underlying26
 have HR0_3 := Aside0.mk hr0_3
 have HC0_3 := Aside0.mk hc0_3
 clear hr0_3 hc0_3
 have HB := Aside0.mk (Below.refl w.heap.size w)
 have H : ((impl_isRecord.f k a0_0 a0_1 a0_2 l0_3).bind fun t369 => (some t369)) = some r := h
 clear h
 replace H := bs_ H
 obtain ⟨t369,A2,H⟩ := H
 obtain rfl := Option.some.inj H
 go_enter Tryz.func8,Tryz.ntmps8
 go_wp2_with (first|((with_reducible refine gate_dst (N := 1) rfl ?_);refine bx_ 1 #[.int .i64 a0_0,.int .i64 a0_1,.int .i64 a0_2,.slice A0_3 l0_3.length c0_3] 26 ?_;intro gb368 hg w3 hbox hb;replace HB := nb_ hg hbox hb;obtain ⟨BK368,GW368,GE368,HB⟩ := HB;clear hb hbox hg;obtain ⟨⟨hcz4_0,hcz4_1,hcz4_2,hcz4_3⟩,hfz4_0,hfz4_1,hfz4_2,hfz4_3⟩ := cl4_ BK368.out)|((with_reducible refine gcal_ (f := 14) rfl ?_);refine gl_ (some 4) Tryz.func14 #[.agg #[.int .i64 a0_0,.int .i64 a0_1,.int .i64 a0_2,.slice A0_3 l0_3.length c0_3]] ?_;(with_reducible refine (impl_isRecord.calls k a0_0 a0_1 a0_2 _ _ l0_3 t369 _ ?side1 ?side2 A2.out).mono ?_);(case side1 => exact cb_ HR0_3);(case side2 => exact HC0_3.out);rintro e w5 ⟨rfl,hb⟩;refine ⟨_,rfl,?_⟩;replace BK368 := Aside0.mk (blk_below (kb_ BK368) hb);replace HB := Aside0.mk (below_step b_ hb);(try clear hb);(try clear hb2);(try clear hk);(try clear hi)))
 go_ret
 exact ⟨rf_,b_⟩

-- NOT PRINTED: function 79 (stringslite_HasPrefix)

-- NOT PRINTED: function 65 (stringslite_TrimPrefix)

-- NOT PRINTED: function 52 (strings_TrimPrefix)

-- NOT PRINTED: function 95 (strconv_lower)

-- NOT PRINTED: function 96 (strconv_underscoreOK)

-- NOT PRINTED: function 80 (strconv_ParseUint)

-- NOT PRINTED: function 66 (strconv_ParseInt_66)

-- NOT PRINTED: function 97 (stringslite_Clone)

-- NOT PRINTED: function 81 (strconv_syntaxError)

-- NOT PRINTED: function 82 (strconv_rangeError)

-- NOT PRINTED: function 98 (errors_New)

-- NOT PRINTED: function 104 (strconv_Itoa_104)

-- NOT PRINTED: function 99 (strconv_Itoa_99)

-- NOT PRINTED: function 83 (strconv_baseError)

-- NOT PRINTED: function 84 (strconv_bitSizeError)

-- NOT PRINTED: function 67 (strconv_toError)

-- NOT PRINTED: function 53 (strconv_ParseInt_53)

/-! ### impl_number: function 40 -/
def impl_number.f (a0 : ByteArray) : Option (Int × Bool) := if a0.size ≤ 281474976710656 then (if ((Go.Lib.trimPrefix a0.data.toList [45]).length : Int) > 10 then some (0, false) else match Go.Lib.parseIntB 64 a0.data.toList with
  | .ok v => (impl_decimal.f v).bind fun s => some (v, s.toList == a0.toList)
  | .range => some (Go.Lib.intSat 64 a0.data.toList, false)
  | _ => some (0, false)) else none
set_option maxHeartbeats 8000000 in
set_option maxRecDepth 100000 in
theorem impl_number.calls (a0 : ByteArray) (r1 : Int) (r2 : Bool) (w : World) (htb : Aside0 (Tb w)) (h : impl_number.f a0 = some (r1, r2)) :
    Calls Tryz.prog 40 #[.string a0] w fun e w' => e = .returned (.tuple #[.int .i64 r1, .bool r2]) ∧ Below w.heap.size w w' := by
 unfold impl_number.f at h
 by_cases h0 : a0.size ≤ 281474976710656
 ·rw [if_pos h0] at h
  have HT := Aside0.mk (Go.Proofs.YtnilfnkdgdfnnaaGreatDoor.Shelf.strings_TrimPrefix a0 ⟨#[45]⟩ w)
  have hsz : ((⟨(Go.Lib.trimPrefix a0.data.toList [45]).toArray⟩ : ByteArray).size : Int) = ((Go.Lib.trimPrefix a0.data.toList [45]).length : Int) := by simp [ByteArray.size]
  by_cases h1 : ((Go.Lib.trimPrefix a0.data.toList [45]).length : Int) > 10
  ·rw [if_pos h1] at h
   simp only [Option.some.injEq,Prod.mk.injEq] at h
   obtain ⟨rfl,rfl⟩ := h
   have h1b : decide ((10 : Int) < ((⟨(Go.Lib.trimPrefix a0.data.toList [45]).toArray⟩ : ByteArray).size : Int)) = true := by rw [hsz];exact decide_eq_true h1
   have h1c := decide_eq_true h1
   clear hsz
   go_enter Tryz.func40,Tryz.ntmps40
   go_wp2_with (go_at_call 52;refine HT.out.mono ?_;rintro e w1 ⟨rfl,hw1⟩;obtain rfl : w = w1 := hw1.symm)
   all_goals first | (exfalso;omega) | (go_ret2;exact ⟨rfl,Below.refl _ _⟩)
  ·rw [if_neg h1] at h
   have h1b : decide ((10 : Int) < ((⟨(Go.Lib.trimPrefix a0.data.toList [45]).toArray⟩ : ByteArray).size : Int)) = false := by rw [hsz];exact decide_eq_false h1
   have h1c := decide_eq_false h1
   clear hsz
   cases hp : Go.Lib.parseIntB 64 a0.data.toList with
   | ok v =>
    rw [hp] at h
    simp only at h
    obtain ⟨s,hd,h2⟩ := Option.bind_eq_some_iff.1 h
    clear h
    simp only [Option.some.injEq,Prod.mk.injEq] at h2
    obtain ⟨rfl,rfl⟩ := h2
    have HP := Aside0.mk (Go.Proofs.YtnilfnkdgdfnnaaGreatDoor.Shelf.strconv_ParseInt_10_at64_ok a0 (by omega) v hp w)
    have HD := Aside0.mk hd
    have H0 := Aside0.mk h0
    clear hp hd h0
    go_enter Tryz.func40,Tryz.ntmps40
    go_wp2_with (first
     | (go_at_call 52;refine HT.out.mono ?_;rintro e w1 ⟨rfl,hw1⟩;obtain rfl : w = w1 := hw1.symm)
     | (go_at_call 53;refine HP.out.mono ?_;rintro e w2 ⟨rfl,hw⟩;have B : Aside0 (Below w.heap.size w w2) := ⟨by rcases hw with h_ | ⟨t_,h_⟩ <;> rw [h_] <;> first | exact Below.refl _ _ | exact ⟨rfl,rfl,rfl,by rw [Go.Lib.bytesWorld_size];omega,fun k hk => Go.Lib.bytesWorld_at_old w 5 t_ k (by omega)⟩⟩;clear hw)
     | (go_at_call 33;refine (impl_decimal.calls v s _ ⟨tb_on htb.out B.out⟩ HD.out).mono ?_;rintro e w3 ⟨rfl,B3⟩;have B := Aside0.mk (below_step B.out B3);clear B3))
    all_goals (first | (exfalso;omega) | skip);all_goals (go_ret2;first | exact ⟨rfl,B.out⟩ | (refine ⟨?_,B.out⟩;simp))
   | range =>
    rw [hp] at h
    simp only [Option.some.injEq,Prod.mk.injEq] at h
    obtain ⟨rfl,rfl⟩ := h
    obtain ⟨tp,p,hv⟩ := htb.out.ran
    have HP := Aside0.mk (Go.Proofs.YtnilfnkdgdfnnaaGreatDoor.Shelf.strconv_ParseInt_10_at64_range_var a0 h0 hp tp p w (hv w (Below.refl _ _)))
    have H0 := Aside0.mk h0
    clear hp h0 hv
    go_enter Tryz.func40,Tryz.ntmps40
    go_wp2_with (first
     | (go_at_call 52;refine HT.out.mono ?_;rintro e w1 ⟨rfl,hw1⟩;obtain rfl : w = w1 := hw1.symm)
     | (go_at_call 53;refine HP.out.mono ?_;rintro e w2 ⟨M_,rfl,_,_,B_⟩;have B := Aside0.mk B_;clear B_))
    all_goals (first | (exfalso;omega) | skip);all_goals (go_ret2;first | exact ⟨rfl,B.out⟩ | (refine ⟨?_,B.out⟩;simp))
   | _ =>
    rw [hp] at h
    simp only [Option.some.injEq,Prod.mk.injEq] at h
    obtain ⟨rfl,rfl⟩ := h
    obtain ⟨tp,p,hv⟩ := htb.out.syn
    have HP := Aside0.mk (Go.Proofs.YtnilfnkdgdfnnaaGreatDoor.Shelf.strconv_ParseInt_10_at64_syntax_var a0 h0 (fun v e => by rw [hp] at e; cases e) (fun e => by rw [hp] at e; cases e) tp p w (hv w (Below.refl _ _)))
    have H0 := Aside0.mk h0
    clear hp h0 hv
    go_enter Tryz.func40,Tryz.ntmps40
    go_wp2_with (first
     | (go_at_call 52;refine HT.out.mono ?_;rintro e w1 ⟨rfl,hw1⟩;obtain rfl : w = w1 := hw1.symm)
     | (go_at_call 53;refine HP.out.mono ?_;rintro e w2 ⟨M_,rfl,_,_,B_⟩;have B := Aside0.mk B_;clear B_))
    all_goals (first | (exfalso;omega) | skip);all_goals (go_ret2;first | exact ⟨rfl,B.out⟩ | (refine ⟨?_,B.out⟩;simp))
 ·rw [if_neg h0] at h;cases h

end Go.Proofs.YtnilfnkdgdfnnaaGreatDoor.XRe
