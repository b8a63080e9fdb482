/- Proved: of each Go function here that a call comes to what the Lean function of its name tells. Written by a program of this session over the translation. No conditions beyond each theorem's own. -/
import Derived.Test.YtodgacnioeoogaaXRm0
import Derived.Test.YtodgacnioeoogaaXRm1
import Derived.Test.YtodgacnioeoogaaXRm2
import Derived.Test.YtodgacnioeoogaaXRm4
import Derived.Test.YtodgacnioeoogaaXRm5
import Derived.Test.YtodgacnioeoogaaXRm6
namespace Go.Proofs.Ytodgacnioeoogaa.XRm
open Go.RowKit Go.Proofs.Ytodgacnioeoogaa.Aid Go.Proofs.YtodgacnioeoogaaW.PrintWords Go.Proofs.YtodgacnioeoogaaW.PrintLast Go.Proofs.YtodgacnioeoogaaW.PrintMore
set_option linter.unusedVariables false
set_option linter.unusedSimpArgs false

/-! ### laws_FnExactRemap: function 14 -/
theorem hold_14 {p : Prop} (h : Aside0 p) : p := h.out
theorem ite_some_14 {α : Type} {c : Prop} [Decidable c] {x : Option α} {r : α} (h : (if c then x else none) = some r) : c ∧ x = some r := by
 by_cases hc : c
 ·rw [if_pos hc] at h;exact ⟨hc,h⟩
 ·rw [if_neg hc] at h;cases h
theorem ite_none_14 {α : Type} {c : Prop} [Decidable c] {x : Option α} {r : α} (h : (if c then none else x) = some r) : ¬ c ∧ x = some r := by
 by_cases hc : c
 ·rw [if_pos hc] at h;cases h
 ·rw [if_neg hc] at h;exact ⟨hc,h⟩
def laws_FnExactRemap.f (k : Nat) (l0 : List (S110)) (l1 : List Bool) : Option (Bool) := if (l1.length : Int) > 1048576 then some true else (laws_szPlaceS.f k l0 1048576).bind fun s => if s < 0 then some true else (laws_toPlaceS.f k l0).bind fun p => (laws_toBoolS.f k l1).bind fun b => (spec_Remap.f k p b).bind fun u => (impl_Remap.f k p b).bind fun v => (laws_eqPlaceS.f k v.1 u.1).bind fun e1 => if e1 = true then ((laws_eqInt64S.f k v.2 u.2).bind fun e2 => if e2 = true then ((laws_eqPlaceS.f k p p).bind fun e3 => if e3 = true then ((laws_eqBoolS.f k b b).bind fun e4 => if e4 = true then ((laws_markPlaceS.f k p 1).bind fun mx => (laws_markBoolS.f k b mx.1).bind fun my => if my.1 < 0 then none else ((laws_markPlaceS.f k v.1 1).bind fun mg => (laws_markInt64S.f k v.2 mg.1).bind fun mh => (laws_heldPlaceS.f k mg.2 1).bind fun q1 => if q1 < 0 then none else ((laws_heldInt64S.f k mh.2 q1).bind fun q2 => if q2 < 0 then none else if q2 = mh.1 then some true else none))) else none) else none) else none) else none
set_option maxHeartbeats 8000000 in
set_option maxRecDepth 100000 in
theorem laws_FnExactRemap.calls (k : Nat) (A0 : Option Addr) (c0 : Nat) (l0 : List (S110)) (A1 : Option Addr) (c1 : Nat) (l1 : List Bool) (r : Bool) (w : World) (hr0 : Kd.C k110 w A0 l0.length l0) (hc0 : l0.length ≤ c0) (hr1 : Kd.C Kd.bool w A1 l1.length l1) (hc1 : l1.length ≤ c1) (h : laws_FnExactRemap.f k l0 l1 = some r) :
    Calls Try.prog 14 #[.slice A0 l0.length c0, .slice A1 l1.length c1] w fun e w' => e = .returned (.bool r) ∧ Below w.heap.size w w' := by
 have HR := Aside0.mk hr0
 have HC := Aside0.mk hc0
 have HR1 := Aside0.mk hr1
 have HC1 := Aside0.mk hc1
 clear hr0 hc0 hr1 hc1
 by_cases hbig : (l1.length : Int) > 1048576
 ·have h0 : (if (l1.length : Int) > 1048576 then some true else _) = some r := h;rw [if_pos hbig] at h0;obtain rfl := Option.some.inj h0;clear h0 h;go_enter Try.func14,Try.ntmps14;go_wp2;go_ret;exact ⟨rfl,Below.refl _ _⟩
 have h1 : (if (l1.length : Int) > 1048576 then some true else _) = some r := h
 rw [if_neg hbig] at h1
 clear h
 obtain ⟨s,E0,h2⟩ := Option.bind_eq_some_iff.1 h1
 clear h1
 have H2 := Aside0.mk h2
 have F0 := Aside0.mk E0
 clear h2 E0
 have hbig' : (l1.length : Int) ≤ 1048576 := Int.not_lt.1 hbig
 clear hbig
 go_enter Try.func14,Try.ntmps14
 go_wp2_with ((with_reducible refine gcal_ (f := 48) rfl ?_);refine goesL_ (some 22) rfl rfl Try.func48 (by kernel_rfl) rfl #[.slice A0 l0.length c0,.int .i64 1048576] rfl (by (try simp only [List.map_toArray,List.map_cons,List.map_nil]);first|done|rfl) ?_;refine (laws_szPlaceS.calls k A0 c0 l0 1048576 s _ HR.out HC.out F0.out).mono ?_;rintro e w1 ⟨rfl,B⟩;refine ⟨_,rfl,?_⟩;refine hold_14 ?_)
 refine ⟨?_⟩
 have D1 := Aside0.mk B
 clear B
 by_cases hs : s < 0
 ·have h1 := H2.out;rw [if_pos hs] at h1;obtain rfl := Option.some.inj h1;clear h1 H2;go_wp2;go_ret;exact ⟨rfl,D1.out⟩
 have h2 := H2.out
 rw [if_neg hs] at h2
 clear H2
 obtain ⟨p,E1,h3⟩ := Option.bind_eq_some_iff.1 h2
 clear h2
 obtain ⟨b,E2,h4⟩ := Option.bind_eq_some_iff.1 h3
 clear h3
 obtain ⟨⟨u1,u2⟩,E3,h5⟩ := Option.bind_eq_some_iff.1 h4
 clear h4
 obtain ⟨⟨v1,v2⟩,E4,h6⟩ := Option.bind_eq_some_iff.1 h5
 clear h5
 obtain ⟨e5,E5,h7⟩ := Option.bind_eq_some_iff.1 h6
 clear h6
 obtain ⟨he5,h8⟩ := ite_some_14 h7
 clear h7
 subst he5
 obtain ⟨e6,E6,h9⟩ := Option.bind_eq_some_iff.1 h8
 clear h8
 obtain ⟨he6,h10⟩ := ite_some_14 h9
 clear h9
 subst he6
 obtain ⟨e7,E7,h11⟩ := Option.bind_eq_some_iff.1 h10
 clear h10
 obtain ⟨he7,h12⟩ := ite_some_14 h11
 clear h11
 subst he7
 obtain ⟨e8,E8,h13⟩ := Option.bind_eq_some_iff.1 h12
 clear h12
 obtain ⟨he8,h14⟩ := ite_some_14 h13
 clear h13
 subst he8
 obtain ⟨⟨mx,px⟩,E9,h15⟩ := Option.bind_eq_some_iff.1 h14
 clear h14
 obtain ⟨⟨my,bx⟩,E10,h16⟩ := Option.bind_eq_some_iff.1 h15
 clear h15
 obtain ⟨hmy,h17⟩ := ite_none_14 h16
 clear h16
 obtain ⟨⟨mg,pg⟩,E11,h18⟩ := Option.bind_eq_some_iff.1 h17
 clear h17
 obtain ⟨⟨mh,ig⟩,E12,h19⟩ := Option.bind_eq_some_iff.1 h18
 clear h18
 obtain ⟨q1,E13,h20⟩ := Option.bind_eq_some_iff.1 h19
 clear h19
 obtain ⟨hq1,h21⟩ := ite_none_14 h20
 clear h20
 obtain ⟨q2,E14,h22⟩ := Option.bind_eq_some_iff.1 h21
 clear h21
 obtain ⟨hq2,h23⟩ := ite_none_14 h22
 clear h22
 obtain ⟨hqm,h24⟩ := ite_some_14 h23
 clear h23
 replace hqm : q2 = mh := hqm
 subst hqm
 obtain rfl := Option.some.inj h24
 clear h24
 have F1 := Aside0.mk E1
 have F2 := Aside0.mk E2
 have F3 := Aside0.mk E3
 have F4 := Aside0.mk E4
 have F5 := Aside0.mk E5
 have F6 := Aside0.mk E6
 have F7 := Aside0.mk E7
 have F8 := Aside0.mk E8
 have F9 := Aside0.mk E9
 have F10 := Aside0.mk E10
 have F11 := Aside0.mk E11
 have F12 := Aside0.mk E12
 have F13 := Aside0.mk E13
 have F14 := Aside0.mk E14
 replace hmy : ¬ my < 0 := hmy
 have fmy : 0 ≤ my := Int.not_lt.1 hmy
 have fq1 : 0 ≤ q1 := Int.not_lt.1 hq1
 have fq2 : 0 ≤ q2 := Int.not_lt.1 hq2
 clear E1 E2 E3 E4 E5 E6 E7 E8 E9 E10 E11 E12 E13 E14 hmy hq1 hq2
 go_wp2_with ((with_reducible refine gcal_ (f := 50) rfl ?_);refine goesL_ (some 27) rfl rfl Try.func50 (by kernel_rfl) rfl #[.slice A0 l0.length c0] rfl (by (try simp only [List.map_toArray,List.map_cons,List.map_nil]);first|done|rfl) ?_;refine (laws_toPlaceS.calls k A0 c0 l0 p _ (Kd.C_below HR.out D1.out) HC.out F1.out).mono ?_;rintro e w2 ⟨va,rfl,S,B⟩;refine ⟨_,rfl,?_⟩;refine hold_14 ?_)
 refine ⟨?_⟩
 have T1 := Aside0.mk S
 have D2 := Aside0.mk (below_step D1.out B)
 clear S B
 go_wp2_with ((with_reducible refine gcal_ (f := 69) rfl ?_);refine goesL_ (some 29) rfl rfl Try.func69 (by kernel_rfl) rfl #[.slice A1 l1.length c1] rfl (by (try simp only [List.map_toArray,List.map_cons,List.map_nil]);first|done|rfl) ?_;refine (laws_toBoolS.calls k A1 c1 l1 b _ (Kd.C_below HR1.out D2.out) HC1.out F2.out).mono ?_;rintro e w3 ⟨vb,rfl,S,B⟩;refine ⟨_,rfl,?_⟩;refine hold_14 ?_)
 refine ⟨?_⟩
 have T2 := Aside0.mk S
 have T1 := Aside0.mk (Kd.S_below T1.out B)
 have D3 := Aside0.mk (below_step D2.out B)
 clear S B
 obtain ⟨Ava,cva,eva⟩ := Kd.S_slice T1.out
 subst eva
 obtain ⟨Avb,cvb,evb⟩ := Kd.R_slice T2.out
 subst evb
 go_wp2_with ((with_reducible refine gcal_ (f := 68) rfl ?_);refine goesL_ (some 30) rfl rfl Try.func68 (by kernel_rfl) rfl #[.slice Ava p.length cva,.slice Avb b.length cvb] rfl (by (try simp only [List.map_toArray,List.map_cons,List.map_nil]);first|done|rfl) ?_;refine (spec_Remap.calls k Ava cva p Avb cvb b u1 u2 _ (Kd.S_reads' T1.out).2.2 (Kd.S_reads' T1.out).2.1 (Kd.R_reads' T2.out).2.2 (Kd.R_reads' T2.out).2.1 F3.out).mono ?_;rintro e w4 ⟨vc,vd,rfl,S,R,B⟩;refine ⟨_,rfl,?_⟩;refine hold_14 ?_)
 refine ⟨?_⟩
 have U1 := Aside0.mk S
 have U2 := Aside0.mk R
 have D4 := Aside0.mk (below_step D3.out B)
 clear S R B T1 T2
 obtain ⟨Avc,cvc,evc⟩ := Kd.S_slice U1.out
 subst evc
 obtain ⟨Avd,cvd,evd⟩ := Kd.R_slice U2.out
 subst evd
 go_wp2_with ((with_reducible refine gcal_ (f := 50) rfl ?_);refine goesL_ (some 34) rfl rfl Try.func50 (by kernel_rfl) rfl #[.slice A0 l0.length c0] rfl (by (try simp only [List.map_toArray,List.map_cons,List.map_nil]);first|done|rfl) ?_;refine (laws_toPlaceS.calls k A0 c0 l0 p _ (Kd.C_below HR.out D4.out) HC.out F1.out).mono ?_;rintro e w5 ⟨ve,rfl,S,B⟩;refine ⟨_,rfl,?_⟩;refine hold_14 ?_)
 refine ⟨?_⟩
 have T5 := Aside0.mk S
 have D5 := Aside0.mk (below_step D4.out B)
 have G5 := Aside0.mk B
 clear S B
 obtain ⟨Ave,cve,eve⟩ := Kd.S_slice T5.out
 subst eve
 go_wp2_with ((with_reducible refine gcal_ (f := 69) rfl ?_);refine goesL_ (some 36) rfl rfl Try.func69 (by kernel_rfl) rfl #[.slice A1 l1.length c1] rfl (by (try simp only [List.map_toArray,List.map_cons,List.map_nil]);first|done|rfl) ?_;refine (laws_toBoolS.calls k A1 c1 l1 b _ (Kd.C_below HR1.out D5.out) HC1.out F2.out).mono ?_;rintro e w6 ⟨vf,rfl,S,B⟩;refine ⟨_,rfl,?_⟩;refine hold_14 ?_)
 refine ⟨?_⟩
 have X6 := Aside0.mk (Kd.S_old T5.out B)
 have T6 := Aside0.mk S
 have D6 := Aside0.mk (below_step D5.out B)
 have G6 := Aside0.mk (below_step G5.out B)
 have Z6 := Aside0.mk B.size
 clear S B T5
 obtain ⟨Avf,cvf,evf⟩ := Kd.R_slice T6.out
 subst evf
 go_wp2_with ((with_reducible refine gcal_ (f := 70) rfl ?_);refine goesL_ (some 40) rfl rfl Try.func70 (by kernel_rfl) rfl #[.slice Ave p.length cve,.slice Avf b.length cvf] rfl (by (try simp only [List.map_toArray,List.map_cons,List.map_nil]);first|done|rfl) ?_;refine (impl_Remap.calls k Ave cve p Avf cvf b v1 v2 _ (Kd.S_reads' X6.out).2.2 (Kd.S_reads' X6.out).2.1 (Kd.R_reads' T6.out).2.2 (Kd.R_reads' T6.out).2.1 F4.out).mono ?_;rintro e w7 ⟨vg,vh,rfl,S,R,B⟩;refine ⟨_,rfl,?_⟩;refine hold_14 ?_)
 refine ⟨?_⟩
 have X7 := Aside0.mk (Kd.S_below X6.out B)
 have Y7 := Aside0.mk (Kd.R_old T6.out B)
 have I7 := Aside0.mk S
 have J7 := Aside0.mk R
 have D7 := Aside0.mk (below_step D6.out B)
 have G7 := Aside0.mk (below_step G6.out B)
 clear S R B X6 T6
 obtain ⟨Avg,cvg,evg⟩ := Kd.S_slice I7.out
 subst evg
 obtain ⟨Avh,cvh,evh⟩ := Kd.R_slice J7.out
 subst evh
 have C7 := Aside0.mk (Kd.S_below U1.out G7.out)
 have E7 := Aside0.mk (Kd.R_below U2.out G7.out)
 go_wp2_with ((with_reducible refine gcal_ (f := 26) rfl ?_);refine goesL_ (some 45) rfl rfl Try.func26 (by kernel_rfl) rfl #[.slice Avg v1.length cvg,.slice Avc u1.length cvc] rfl (by (try simp only [List.map_toArray,List.map_cons,List.map_nil]);first|done|rfl) ?_;refine (laws_eqPlaceS.calls k Avg cvg v1 Avc cvc u1 true _ (Kd.S_reads' I7.out).2.2 (Kd.S_reads' I7.out).2.1 (Kd.S_reads' C7.out).2.2 (Kd.S_reads' C7.out).2.1 F5.out).mono ?_;rintro e w8 ⟨rfl,B⟩;refine ⟨_,rfl,?_⟩;refine hold_14 ?_)
 refine ⟨?_⟩
 have X8 := Aside0.mk (Kd.S_below X7.out B)
 have Y8 := Aside0.mk (Kd.R_below Y7.out B)
 have I8 := Aside0.mk (Kd.S_below I7.out B)
 have J8 := Aside0.mk (Kd.R_below J7.out B)
 have G8 := Aside0.mk (below_step G7.out B)
 have E8 := Aside0.mk (Kd.R_below E7.out B)
 clear B
 go_wp2_with (go_at_call 56;refine (laws_eqInt64S.calls k Avh cvh v2 Avd cvd u2 true _ (Kd.R_reads' J8.out).2.2 (Kd.R_reads' J8.out).2.1 (Kd.R_reads' E8.out).2.2 (Kd.R_reads' E8.out).2.1 F6.out).mono ?_;rintro e w9 ⟨rfl,B⟩;(try dsimp only);refine hold_14 ?_)
 refine ⟨?_⟩
 have X9 := Aside0.mk (Kd.S_below X8.out B.below)
 have Y9 := Aside0.mk (Kd.R_below Y8.out B.below)
 have I9 := Aside0.mk (Kd.S_below I8.out B.below)
 have J9 := Aside0.mk (Kd.R_below J8.out B.below)
 have G9 := Aside0.mk (below_step G8.out B.below)
 have D9 := Aside0.mk (below_step D4.out G9.out)
 clear B
 go_wp2_with ((with_reducible refine gcal_ (f := 50) rfl ?_);refine goesL_ (some 55) rfl rfl Try.func50 (by kernel_rfl) rfl #[.slice A0 l0.length c0] rfl (by (try simp only [List.map_toArray,List.map_cons,List.map_nil]);first|done|rfl) ?_;refine (laws_toPlaceS.calls k A0 c0 l0 p _ (Kd.C_below HR.out D9.out) HC.out F1.out).mono ?_;rintro e w10 ⟨vi,rfl,S,B⟩;refine ⟨_,rfl,?_⟩;refine hold_14 ?_)
 refine ⟨?_⟩
 have X10 := Aside0.mk (Kd.S_below X9.out B)
 have Y10 := Aside0.mk (Kd.R_below Y9.out B)
 have I10 := Aside0.mk (Kd.S_below I9.out B)
 have J10 := Aside0.mk (Kd.R_below J9.out B)
 have G10 := Aside0.mk (below_step G9.out B)
 have K10 := Aside0.mk S
 clear S B
 obtain ⟨Avi,cvi,evi⟩ := Kd.S_slice K10.out
 subst evi
 go_wp2_with ((with_reducible refine gcal_ (f := 26) rfl ?_);refine goesL_ (some 56) rfl rfl Try.func26 (by kernel_rfl) rfl #[.slice Ave p.length cve,.slice Avi p.length cvi] rfl (by (try simp only [List.map_toArray,List.map_cons,List.map_nil]);first|done|rfl) ?_;refine (laws_eqPlaceS.calls k Ave cve p Avi cvi p true _ (Kd.S_reads' X10.out).2.2 (Kd.S_reads' X10.out).2.1 (Kd.S_reads' K10.out).2.2 (Kd.S_reads' K10.out).2.1 F7.out).mono ?_;rintro e w11 ⟨rfl,B⟩;refine ⟨_,rfl,?_⟩;refine hold_14 ?_)
 refine ⟨?_⟩
 have X11 := Aside0.mk (Kd.S_below X10.out B)
 have Y11 := Aside0.mk (Kd.R_below Y10.out B)
 have I11 := Aside0.mk (Kd.S_below I10.out B)
 have J11 := Aside0.mk (Kd.R_below J10.out B)
 have G11 := Aside0.mk (below_step G10.out B)
 have D11 := Aside0.mk (below_step D4.out G11.out)
 clear B
 go_wp2_with ((with_reducible refine gcal_ (f := 69) rfl ?_);refine goesL_ (some 60) rfl rfl Try.func69 (by kernel_rfl) rfl #[.slice A1 l1.length c1] rfl (by (try simp only [List.map_toArray,List.map_cons,List.map_nil]);first|done|rfl) ?_;refine (laws_toBoolS.calls k A1 c1 l1 b _ (Kd.C_below HR1.out D11.out) HC1.out F2.out).mono ?_;rintro e w12 ⟨vj,rfl,S,B⟩;refine ⟨_,rfl,?_⟩;refine hold_14 ?_)
 refine ⟨?_⟩
 have X12 := Aside0.mk (Kd.S_below X11.out B)
 have Y12 := Aside0.mk (Kd.R_below Y11.out B)
 have I12 := Aside0.mk (Kd.S_below I11.out B)
 have J12 := Aside0.mk (Kd.R_below J11.out B)
 have G12 := Aside0.mk (below_step G11.out B)
 have K12 := Aside0.mk S
 clear S B
 obtain ⟨Avj,cvj,evj⟩ := Kd.R_slice K12.out
 subst evj
 go_wp2_with ((with_reducible refine gcal_ (f := 71) rfl ?_);refine goesL_ (some 61) rfl rfl Try.func71 (by kernel_rfl) rfl #[.slice Avf b.length cvf,.slice Avj b.length cvj] rfl (by (try simp only [List.map_toArray,List.map_cons,List.map_nil]);first|done|rfl) ?_;refine (laws_eqBoolS.calls k Avf cvf b Avj cvj b true _ (Kd.R_reads' Y12.out).2.2 (Kd.R_reads' Y12.out).2.1 (Kd.R_reads' K12.out).2.2 (Kd.R_reads' K12.out).2.1 F8.out).mono ?_;rintro e w13 ⟨rfl,B⟩;refine ⟨_,rfl,?_⟩;refine hold_14 ?_)
 refine ⟨?_⟩
 have X13 := Aside0.mk (Kd.S_below X12.out B.below)
 have Y13 := Aside0.mk (Kd.R_below Y12.out B.below)
 have I13 := Aside0.mk (Kd.S_below I12.out B.below)
 have J13 := Aside0.mk (Kd.R_below J12.out B.below)
 have G13 := Aside0.mk (below_step G12.out B.below)
 clear B
 go_wp2_with ((with_reducible refine gcal_ (f := 27) rfl ?_);refine goesL_ (some 65) rfl rfl Try.func27 (by kernel_rfl) rfl #[.slice Ave p.length cve,.int .i64 1] rfl (by (try simp only [List.map_toArray,List.map_cons,List.map_nil]);first|done|rfl) ?_;refine (laws_markPlaceS.calls k (fun k_ => True ∧ k_ < w5.heap.size) (.slice Ave p.length cve) p 1 mx px w4 _ G13.out X13.out F9.out).mono ?_;rintro e w14 ⟨rfl,S,B,K⟩;refine ⟨_,rfl,?_⟩;refine hold_14 ?_)
 refine ⟨?_⟩
 have G14 := Aside0.mk B
 have Y14 := Aside0.mk (Kd.R_mono (ok' := fun k_ => True ∧ k_ < w6.heap.size) (Kd.R_kept (Kd.R_bound Y13.out) K (fun k_ hk_ hs_ => absurd hs_.2 (Nat.not_lt.2 hk_.2.1))) (fun _ h_ => h_.1))
 have I14 := Aside0.mk (Kd.S_mono (ok' := fun k_ => some k_ ≠ (.slice Avh v2.length cvh : Value).ownBlock) (Kd.S_step (Kd.S_bound I13.out) (fun k_ hk_ hlt_ => K.2 k_ hlt_ (fun hs_ => absurd hs_.2 (Nat.not_lt.2 (Nat.le_trans Z6.out hk_.2.1))))) (fun _ h_ => h_.1))
 have J14 := Aside0.mk (Kd.R_mono (ok' := fun _ => True) (Kd.R_kept (Kd.R_bound J13.out) K (fun k_ hk_ hs_ => absurd hs_.2 (Nat.not_lt.2 (Nat.le_trans Z6.out hk_.2.1)))) (fun _ _ => trivial))
 clear S B K
 go_wp2_with ((with_reducible refine gcal_ (f := 72) rfl ?_);refine goesL_ (some 68) rfl rfl Try.func72 (by kernel_rfl) rfl #[.slice Avf b.length cvf,.int .i64 mx] rfl (by (try simp only [List.map_toArray,List.map_cons,List.map_nil]);first|done|rfl) ?_;refine (laws_markBoolS.calls k (fun k_ => True ∧ k_ < w6.heap.size) (.slice Avf b.length cvf) b mx my bx w4 _ G14.out (Kd.R_lower Y14.out G5.out.size) F10.out).mono ?_;rintro e w15 ⟨rfl,S,B,K⟩;refine ⟨_,rfl,?_⟩;refine hold_14 ?_)
 refine ⟨?_⟩
 have G15 := Aside0.mk B
 have I15 := Aside0.mk (Kd.S_mono (ok' := fun k_ => some k_ ≠ (.slice Avh v2.length cvh : Value).ownBlock) (Kd.S_step (Kd.S_bound I14.out) (fun k_ hk_ hlt_ => K.2 k_ hlt_ (fun hs_ => absurd hs_.2 (Nat.not_lt.2 hk_.2.1)))) (fun _ h_ => h_.1))
 have J15 := Aside0.mk (Kd.R_mono (ok' := fun _ => True) (Kd.R_kept (Kd.R_bound J14.out) K (fun k_ hk_ hs_ => absurd hs_.2 (Nat.not_lt.2 hk_.2.1))) (fun _ _ => trivial))
 have C15 := Aside0.mk (Kd.S_below U1.out B)
 have E15 := Aside0.mk (Kd.R_below U2.out B)
 clear S B K
 go_wp2_with (go_at_call 26;refine (laws_eqPlaceS.calls k Avg cvg v1 Avc cvc u1 true _ (Kd.S_reads' I15.out).2.2 (Kd.S_reads' I15.out).2.1 (Kd.S_reads' C15.out).2.2 (Kd.S_reads' C15.out).2.1 F5.out).mono ?_;rintro e w16 ⟨rfl,B⟩;(try dsimp only);refine hold_14 ?_)
 refine ⟨?_⟩
 have I16 := Aside0.mk (Kd.S_below I15.out B)
 have J16 := Aside0.mk (Kd.R_below J15.out B)
 have G16 := Aside0.mk (below_step G15.out B)
 have E16 := Aside0.mk (Kd.R_below E15.out B)
 clear B
 go_wp2_with (go_at_call 56;refine (laws_eqInt64S.calls k Avh cvh v2 Avd cvd u2 true _ (Kd.R_reads' J16.out).2.2 (Kd.R_reads' J16.out).2.1 (Kd.R_reads' E16.out).2.2 (Kd.R_reads' E16.out).2.1 F6.out).mono ?_;rintro e w17 ⟨rfl,B⟩;(try dsimp only);refine hold_14 ?_)
 refine ⟨?_⟩
 have I17 := Aside0.mk (Kd.S_below I16.out B.below)
 have J17 := Aside0.mk (Kd.R_below J16.out B.below)
 have G17 := Aside0.mk (below_step G16.out B.below)
 clear B
 have Z7 := Aside0.mk (Nat.le_trans G5.out.size Z6.out)
 go_wp2_with ((with_reducible refine gcal_ (f := 27) rfl ?_);refine goesL_ (some 85) rfl rfl Try.func27 (by kernel_rfl) rfl #[.slice Avg v1.length cvg,.int .i64 1] rfl (by (try simp only [List.map_toArray,List.map_cons,List.map_nil]);first|done|rfl) ?_;refine (laws_markPlaceS.calls k (fun k_ => some k_ ≠ (.slice Avh v2.length cvh : Value).ownBlock) (.slice Avg v1.length cvg) v1 1 mg pg w4 _ G17.out (Kd.S_lower I17.out Z7.out) F11.out).mono ?_;rintro e w18 ⟨rfl,S,B,K⟩;refine ⟨_,rfl,?_⟩;refine hold_14 ?_)
 refine ⟨?_⟩
 have G18 := Aside0.mk B
 have I18 := Aside0.mk S
 have J18 := Aside0.mk (Kd.R_lower (Kd.R_kept (Kd.R_tight rfl J17.out) K (fun k_ hk_ hs_ => hs_ hk_)) Z7.out)
 have V18 := Aside0.mk (fun k_ (h_ : some k_ = (.slice Avh v2.length cvh : Value).ownBlock) => Kd.R_lt J17.out k_ h_.symm)
 have LG := Aside0.mk (Kd.S_reads' I18.out).1
 have MG : Aside0 (pg.length ≤ cvg) := ⟨by rw [← LG.out];exact (Kd.S_reads' I18.out).2.1⟩
 clear S B K
 go_wp2_with ((with_reducible refine gcal_ (f := 57) rfl ?_);refine goesL_ (some 88) rfl rfl Try.func57 (by kernel_rfl) rfl #[.slice Avh v2.length cvh,.int .i64 mg] rfl (by (try simp only [List.map_toArray,List.map_cons,List.map_nil]);first|done|rfl) ?_;refine (laws_markInt64S.calls k (fun k_ => some k_ = (.slice Avh v2.length cvh : Value).ownBlock) (.slice Avh v2.length cvh) v2 mg q2 ig w4 _ G18.out J18.out F12.out).mono ?_;rintro e w19 ⟨rfl,S,B,K⟩;refine ⟨_,rfl,?_⟩;refine hold_14 ?_)
 refine ⟨?_⟩
 have G19 := Aside0.mk B
 have J19 := Aside0.mk S
 have I19 := Aside0.mk (Kd.S_step I18.out (fun k_ hk_ hlt_ => K.2 k_ hlt_ (fun hs_ => hk_.elim (fun h1_ => h1_ hs_) (fun h1_ => absurd (V18.out k_ hs_) (Nat.not_lt.2 h1_)))))
 have LH := Aside0.mk (Kd.R_reads' J19.out).1
 have MH : Aside0 (ig.length ≤ cvh) := ⟨by rw [← LH.out];exact (Kd.R_reads' J19.out).2.1⟩
 clear S B K
 go_wp2_with ((with_reducible refine gcal_ (f := 28) rfl ?_);refine goesL_ (some 91) rfl rfl Try.func28 (by kernel_rfl) rfl #[.slice Avg v1.length cvg,.int .i64 1] rfl (by (try simp only [List.map_toArray,List.map_cons,List.map_nil]);first|done|rfl) ?_;refine calls_arr (by rw [LG.out]) ((laws_heldPlaceS.calls k Avg cvg pg 1 q1 _ (Kd.S_reads' I19.out).2.2 MG.out F13.out).mono ?_);rintro e w20 ⟨rfl,B⟩;refine ⟨_,rfl,?_⟩;refine hold_14 ?_)
 refine ⟨?_⟩
 have I20 := Aside0.mk (Kd.S_below I19.out B.below)
 have J20 := Aside0.mk (Kd.R_below J19.out B.below)
 have G20 := Aside0.mk (below_step G19.out B.below)
 clear B
 go_wp2_with ((with_reducible refine gcal_ (f := 58) rfl ?_);refine goesL_ (some 96) rfl rfl Try.func58 (by kernel_rfl) rfl #[.slice Avh v2.length cvh,.int .i64 q1] rfl (by (try simp only [List.map_toArray,List.map_cons,List.map_nil]);first|done|rfl) ?_;refine calls_arr (by rw [LH.out]) ((laws_heldInt64S.calls k Avh cvh ig q1 q2 _ (Kd.R_reads' J20.out).2.2 MH.out F14.out).mono ?_);rintro e w21 ⟨rfl,B⟩;refine ⟨_,rfl,?_⟩;refine hold_14 ?_)
 refine ⟨?_⟩
 have I21 := Aside0.mk (Kd.S_below I20.out B.below)
 have J21 := Aside0.mk (Kd.R_below J20.out B.below)
 have G21 := Aside0.mk (below_step G20.out B.below)
 have D21 := Aside0.mk (below_step D4.out G21.out)
 clear B
 go_wp2_with ((with_reducible refine gcal_ (f := 50) rfl ?_);refine goesL_ (some 104) rfl rfl Try.func50 (by kernel_rfl) rfl #[.slice A0 l0.length c0] rfl (by (try simp only [List.map_toArray,List.map_cons,List.map_nil]);first|done|rfl) ?_;refine (laws_toPlaceS.calls k A0 c0 l0 p _ (Kd.C_below HR.out D21.out) HC.out F1.out).mono ?_;rintro e w22 ⟨vk,rfl,S,B⟩;refine ⟨_,rfl,?_⟩;refine hold_14 ?_)
 refine ⟨?_⟩
 have I22 := Aside0.mk (Kd.S_below I21.out B)
 have J22 := Aside0.mk (Kd.R_below J21.out B)
 have G22 := Aside0.mk (below_step G21.out B)
 have N22 := Aside0.mk S
 have D22 := Aside0.mk (below_step D21.out B)
 clear S B
 go_wp2_with ((with_reducible refine gcal_ (f := 69) rfl ?_);refine goesL_ (some 106) rfl rfl Try.func69 (by kernel_rfl) rfl #[.slice A1 l1.length c1] rfl (by (try simp only [List.map_toArray,List.map_cons,List.map_nil]);first|done|rfl) ?_;refine (laws_toBoolS.calls k A1 c1 l1 b _ (Kd.C_below HR1.out D22.out) HC1.out F2.out).mono ?_;rintro e w23 ⟨vl,rfl,S,B⟩;refine ⟨_,rfl,?_⟩;refine hold_14 ?_)
 refine ⟨?_⟩
 have I23 := Aside0.mk (Kd.S_below I22.out B)
 have J23 := Aside0.mk (Kd.R_below J22.out B)
 have G23 := Aside0.mk (below_step G22.out B)
 have O23 := Aside0.mk S
 have N23 := Aside0.mk (Kd.S_below N22.out B)
 clear S B
 obtain ⟨Avk,cvk,evk⟩ := Kd.S_slice N23.out
 subst evk
 obtain ⟨Avl,cvl,evl⟩ := Kd.R_slice O23.out
 subst evl
 go_wp2_with ((with_reducible refine gcal_ (f := 70) rfl ?_);refine goesL_ (some 107) rfl rfl Try.func70 (by kernel_rfl) rfl #[.slice Avk p.length cvk,.slice Avl b.length cvl] rfl (by (try simp only [List.map_toArray,List.map_cons,List.map_nil]);first|done|rfl) ?_;refine (impl_Remap.calls k Avk cvk p Avl cvl b v1 v2 _ (Kd.S_reads' N23.out).2.2 (Kd.S_reads' N23.out).2.1 (Kd.R_reads' O23.out).2.2 (Kd.R_reads' O23.out).2.1 F4.out).mono ?_;rintro e w24 ⟨vm,vn,rfl,S,R,B⟩;refine ⟨_,rfl,?_⟩;refine hold_14 ?_)
 refine ⟨?_⟩
 have I24 := Aside0.mk (Kd.S_below I23.out B)
 have J24 := Aside0.mk (Kd.R_below J23.out B)
 have G24 := Aside0.mk (below_step G23.out B)
 have N24 := Aside0.mk S
 have O24 := Aside0.mk R
 clear S R B
 obtain ⟨Avm,cvm,evm⟩ := Kd.S_slice N24.out
 subst evm
 obtain ⟨Avn,cvn,evn⟩ := Kd.R_slice O24.out
 subst evn
 have C24 := Aside0.mk (Kd.S_below U1.out G24.out)
 have E24 := Aside0.mk (Kd.R_below U2.out G24.out)
 go_wp2_with ((with_reducible refine gcal_ (f := 26) rfl ?_);refine goesL_ (some 112) rfl rfl Try.func26 (by kernel_rfl) rfl #[.slice Avm v1.length cvm,.slice Avc u1.length cvc] rfl (by (try simp only [List.map_toArray,List.map_cons,List.map_nil]);first|done|rfl) ?_;refine (laws_eqPlaceS.calls k Avm cvm v1 Avc cvc u1 true _ (Kd.S_reads' N24.out).2.2 (Kd.S_reads' N24.out).2.1 (Kd.S_reads' C24.out).2.2 (Kd.S_reads' C24.out).2.1 F5.out).mono ?_;rintro e w25 ⟨rfl,B⟩;refine ⟨_,rfl,?_⟩;refine hold_14 ?_)
 refine ⟨?_⟩
 have I25 := Aside0.mk (Kd.S_below I24.out B)
 have J25 := Aside0.mk (Kd.R_below J24.out B)
 have G25 := Aside0.mk (below_step G24.out B)
 have O25 := Aside0.mk (Kd.R_below O24.out B)
 have E25 := Aside0.mk (Kd.R_below E24.out B)
 clear B
 go_wp2_with (go_at_call 56;refine (laws_eqInt64S.calls k Avn cvn v2 Avd cvd u2 true _ (Kd.R_reads' O25.out).2.2 (Kd.R_reads' O25.out).2.1 (Kd.R_reads' E25.out).2.2 (Kd.R_reads' E25.out).2.1 F6.out).mono ?_;rintro e w26 ⟨rfl,B⟩;(try dsimp only);refine hold_14 ?_)
 refine ⟨?_⟩
 have I26 := Aside0.mk (Kd.S_below I25.out B.below)
 have J26 := Aside0.mk (Kd.R_below J25.out B.below)
 have G26 := Aside0.mk (below_step G25.out B.below)
 clear B
 go_wp2_with ((with_reducible refine gcal_ (f := 28) rfl ?_);refine goesL_ (some 122) rfl rfl Try.func28 (by kernel_rfl) rfl #[.slice Avg v1.length cvg,.int .i64 1] rfl (by (try simp only [List.map_toArray,List.map_cons,List.map_nil]);first|done|rfl) ?_;refine calls_arr (by rw [LG.out]) ((laws_heldPlaceS.calls k Avg cvg pg 1 q1 _ (Kd.S_reads' I26.out).2.2 MG.out F13.out).mono ?_);rintro e w27 ⟨rfl,B⟩;refine ⟨_,rfl,?_⟩;refine hold_14 ?_)
 refine ⟨?_⟩
 have I27 := Aside0.mk (Kd.S_below I26.out B.below)
 have J27 := Aside0.mk (Kd.R_below J26.out B.below)
 have G27 := Aside0.mk (below_step G26.out B.below)
 clear B
 go_wp2_with ((with_reducible refine gcal_ (f := 58) rfl ?_);refine goesL_ (some 127) rfl rfl Try.func58 (by kernel_rfl) rfl #[.slice Avh v2.length cvh,.int .i64 q1] rfl (by (try simp only [List.map_toArray,List.map_cons,List.map_nil]);first|done|rfl) ?_;refine calls_arr (by rw [LH.out]) ((laws_heldInt64S.calls k Avh cvh ig q1 q2 _ (Kd.R_reads' J27.out).2.2 MH.out F14.out).mono ?_);rintro e w28 ⟨rfl,B⟩;refine ⟨_,rfl,?_⟩;refine hold_14 ?_)
 refine ⟨?_⟩
 have D28 := Aside0.mk (below_step D4.out (below_step G27.out B.below))
 clear B
 go_wp2
 go_ret
 exact ⟨rfl,D28.out⟩

end Go.Proofs.Ytodgacnioeoogaa.XRm
