/- Proved: of each Go function here that a call comes to what the Lean function of its name tells. Written by a program of this session over the translation. No conditions beyond each theorem's own. -/
import Derived.Test.YthplaakckfhaaaaXRp0
import Derived.Test.YthplaakckfhaaaaXRp1
import Derived.Test.YthplaakckfhaaaaXRp2
import Derived.Test.YthplaakckfhaaaaXRp4
import Derived.Test.YthplaakckfhaaaaXRp5
import Derived.Test.YthplaakckfhaaaaXRp6
import Derived.Test.YthplaakckfhaaaaXRp17
import Derived.Test.YthplaakckfhaaaaXRp24
namespace Go.Proofs.Ythplaakckfhaaaa.XRp
open Go.RowKit Go.Proofs.Ythplaakckfhaaaa.Aid Go.Proofs.YthplaakckfhaaaaW.PrintWords Go.Proofs.YthplaakckfhaaaaW.PrintLast Go.Proofs.YthplaakckfhaaaaW.PrintMore
set_option linter.unusedVariables false
set_option linter.unusedSimpArgs false

/-! ### laws_FnExactReplace: function 8 -/
theorem hold_8 {p : Prop} (h : Aside0 p) : p := h.out
theorem ty_8 {w : World} {k : Nat} {a b : List Nat} (h1 : ∃ q, q ∈ a ∧ ∃ cs, w.heap[k]? = some (.cells cs q (0, 0))) (h2 : ∃ q, q ∈ b ∧ ∃ cs, w.heap[k]? = some (.cells cs q (0, 0))) (hd : ∀ q, q ∈ a → ¬ q ∈ b) : False := by
 obtain ⟨q,hq,cs,h1⟩ := h1
 obtain ⟨q2,hq2,cs2,h2⟩ := h2
 rw [h1] at h2
 injection h2 with h2
 injection h2 with _ h2
 exact hd q hq (h2 ▸ hq2)
theorem ite_some_8 {α : Type} {c : Prop} [Decidable c] {x : Option α} {r : α} (h : (if c then x else none) = some r) : c ∧ x = some r := by
 by_cases hc : c
 ·rw [if_pos hc] at h;exact ⟨hc,h⟩
 ·rw [if_neg hc] at h;cases h
theorem ite_none_8 {α : Type} {c : Prop} [Decidable c] {x : Option α} {r : α} (h : (if c then none else x) = some r) : ¬ c ∧ x = some r := by
 by_cases hc : c
 ·rw [if_pos hc] at h;cases h
 ·rw [if_neg hc] at h;exact ⟨hc,h⟩
def laws_FnExactReplace.f (k : Nat) (a0_0 : Bool) (l0_1 : List (S123)) (l0_2 : List (S53)) (l0_3 : List Int) (a1 : Int) (l2 : List (S110)) : Option (Bool) := (laws_szMachine.f k a0_0 l0_1 l0_2 l0_3 1048576).bind fun s => if s < 0 then some true else (laws_szCellS.f l2 s).bind fun s2 => if s2 < 0 then some true else (laws_toMachine.f k a0_0 l0_1 l0_2 l0_3).bind fun p => (laws_toCellS.f k l2).bind fun n => (spec_Replace.f k p.1 p.2.1 p.2.2.1 p.2.2.2 a1 n).bind fun u => (impl_Replace.f k p.1 p.2.1 p.2.2.1 p.2.2.2 a1 n).bind fun v => (laws_eqMachine.f k v.1 v.2.1 v.2.2.1 v.2.2.2.1 u.1 u.2.1 u.2.2.1 u.2.2.2.1).bind fun e1 => if e1 = true then (if v.2.2.2.2 = u.2.2.2.2 then ((laws_eqMachine.f k p.1 p.2.1 p.2.2.1 p.2.2.2 p.1 p.2.1 p.2.2.1 p.2.2.2).bind fun e2 => if e2 = true then ((laws_eqCellS.f k n n).bind fun e3 => if e3 = true then ((laws_markMachine.f k p.2.1 p.2.2.1 p.2.2.2 1).bind fun mx => (laws_markCellS.f k n mx.1).bind fun mr => if mr.1 < 0 then none else ((laws_markMachine.f k v.2.1 v.2.2.1 v.2.2.2.1 1).bind fun m => (laws_heldMachine.f k v.1 m.2.1 m.2.2.1 m.2.2.2 1).bind fun q => if q < 0 then none else if q = m.1 then some true else none)) else none) else none) else none) else none
set_option maxHeartbeats 8000000 in
set_option maxRecDepth 100000 in
theorem laws_FnExactReplace.calls (k : Nat) (a0_0 : Bool) (A0_1 : Option Addr) (c0_1 : Nat) (l0_1 : List (S123)) (A0_2 : Option Addr) (c0_2 : Nat) (l0_2 : List (S53)) (A0_3 : Option Addr) (c0_3 : Nat) (l0_3 : List Int) (a1 : Int) (A2 : Option Addr) (c2 : Nat) (l2 : List (S110)) (r : Bool) (w : World) (hr0_1 : Kd.C k123 w A0_1 l0_1.length l0_1) (hc0_1 : l0_1.length ≤ c0_1) (hr0_2 : Kd.C k53 w A0_2 l0_2.length l0_2) (hc0_2 : l0_2.length ≤ c0_2) (hr0_3 : Kd.C (Kd.int .i64) w A0_3 l0_3.length l0_3) (hc0_3 : l0_3.length ≤ c0_3) (hr2 : Kd.C k110 w A2 l2.length l2) (hc2 : l2.length ≤ c2) (h : laws_FnExactReplace.f k a0_0 l0_1 l0_2 l0_3 a1 l2 = some r) :
    Calls Try.prog 8 #[.agg #[.bool a0_0, .slice A0_1 l0_1.length c0_1, .slice A0_2 l0_2.length c0_2, .slice A0_3 l0_3.length c0_3], .int .i64 a1, .slice A2 l2.length c2] w fun e w' => e = .returned (.bool r) ∧ Below w.heap.size w w' := by
 have hu1 := Try.underlying26
 have hu2 := Try.underlying32
 have HR1 := Aside0.mk hr0_1
 have HC1 := Aside0.mk hc0_1
 have HR2 := Aside0.mk hr0_2
 have HC2 := Aside0.mk hc0_2
 have HR3 := Aside0.mk hr0_3
 have HC3 := Aside0.mk hc0_3
 have HR4 := Aside0.mk hr2
 have HC4 := Aside0.mk hc2
 clear hr0_1 hc0_1 hr0_2 hc0_2 hr0_3 hc0_3 hr2 hc2
 obtain ⟨s,E0,h1⟩ := Option.bind_eq_some_iff.1 h
 clear h
 have H2 := Aside0.mk h1
 have F0 := Aside0.mk E0
 clear h1 E0
 go_enter Try.func8,Try.ntmps8
 go_wp2_with ((with_reducible refine gate_dst (N := 3) rfl ?_);refine bx_ 3 #[.bool a0_0,.slice A0_1 l0_1.length c0_1,.slice A0_2 l0_2.length c0_2,.slice A0_3 l0_3.length c0_3] 26 ?_;intro ga hg wb hbox hb;have hge := Aside0.mk (Nat.le_of_eq hg.symm);clear hg;refine hold_8 ?_)
 refine ⟨?_⟩
 have BA := Aside0.mk hbox
 have D0 := Aside0.mk hb
 have HR1 := Aside0.mk (Kd.C_below HR1.out hb)
 have HR2 := Aside0.mk (Kd.C_below HR2.out hb)
 have HR3 := Aside0.mk (Kd.C_below HR3.out hb)
 have HR4 := Aside0.mk (Kd.C_below HR4.out hb)
 clear hbox hb hge
 have hcga1_0 : wb.cell? ⟨ga,0,none⟩ = some (.bool a0_0) := (blk_cell BA.out 0).trans rfl
 have hcga1_1 : wb.cell? ⟨ga,1,none⟩ = some (.slice A0_1 l0_1.length c0_1) := (blk_cell BA.out 1).trans rfl
 have hcga1_2 : wb.cell? ⟨ga,2,none⟩ = some (.slice A0_2 l0_2.length c0_2) := (blk_cell BA.out 2).trans rfl
 have hcga1_3 : wb.cell? ⟨ga,3,none⟩ = some (.slice A0_3 l0_3.length c0_3) := (blk_cell BA.out 3).trans rfl
 go_wp2_with ((with_reducible refine gcal_ (f := 10) rfl ?_);refine goesL_ (some 21) rfl rfl Try.func10 (by kernel_rfl) rfl #[.agg #[.bool a0_0,.slice A0_1 l0_1.length c0_1,.slice A0_2 l0_2.length c0_2,.slice A0_3 l0_3.length c0_3],.int .i64 1048576] rfl (by (try simp only [List.map_toArray,List.map_cons,List.map_nil]);first|done|rfl) ?_;refine (laws_szMachine.calls k a0_0 A0_1 c0_1 l0_1 A0_2 c0_2 l0_2 A0_3 c0_3 l0_3 1048576 s _ HR1.out HC1.out HR2.out HC2.out HR3.out HC3.out F0.out).mono ?_;rintro e w0a ⟨rfl,B⟩;refine ⟨_,rfl,?_⟩;refine hold_8 ?_)
 refine ⟨?_⟩
 have D1 := Aside0.mk B
 clear B
 by_cases hs : s < 0
 ·have h1 := H2.out;rw [if_pos hs] at h1;obtain rfl := Option.some.inj h1;clear h1 H2;go_wp2;go_ret;exact ⟨rfl,below_step D0.out D1.out⟩
 have h2 := H2.out
 rw [if_neg hs] at h2
 clear H2
 obtain ⟨s2,E01,h3⟩ := Option.bind_eq_some_iff.1 h2
 clear h2
 have H2 := Aside0.mk h3
 have F01 := Aside0.mk E01
 clear h3 E01
 go_wp2_with ((with_reducible refine gcal_ (f := 33) rfl ?_);refine goesL_ (some 26) rfl rfl Try.func33 (by kernel_rfl) rfl #[.slice A2 l2.length c2,.int .i64 s] rfl (by (try simp only [List.map_toArray,List.map_cons,List.map_nil]);first|done|rfl) ?_;refine (laws_szCellS.calls A2 c2 l2 s s2 _ (Kd.C_below HR4.out D1.out) HC4.out F01.out).mono ?_;rintro e w1 ⟨rfl,B0⟩;refine ⟨_,rfl,?_⟩;refine hold_8 ?_)
 refine ⟨?_⟩
 have B := B0.below
 have D1 := Aside0.mk (below_step D1.out B)
 clear B
 clear B0
 by_cases hs : s2 < 0
 ·have h1 := H2.out;rw [if_pos hs] at h1;obtain rfl := Option.some.inj h1;clear h1 H2;go_wp2;go_ret;exact ⟨rfl,below_step D0.out D1.out⟩
 have h2 := H2.out
 rw [if_neg hs] at h2
 clear H2
 obtain ⟨⟨b,p1,p2,p3⟩,E1,h3⟩ := Option.bind_eq_some_iff.1 h2
 clear h2
 obtain ⟨nc,E2,h4⟩ := Option.bind_eq_some_iff.1 h3
 clear h3
 obtain ⟨⟨ub,u1,u2,u3,u4⟩,E3,h5⟩ := Option.bind_eq_some_iff.1 h4
 clear h4
 obtain ⟨⟨vb,v1,v2,v3,v4⟩,E4,h6⟩ := Option.bind_eq_some_iff.1 h5
 clear h5
 obtain ⟨e1,E5,h7⟩ := Option.bind_eq_some_iff.1 h6
 clear h6
 obtain ⟨he1,h8⟩ := ite_some_8 h7
 clear h7
 subst he1
 obtain ⟨hv,h9⟩ := ite_some_8 h8
 clear h8
 replace hv : v4 = u4 := hv
 subst hv
 obtain ⟨e2,E6,h10⟩ := Option.bind_eq_some_iff.1 h9
 clear h9
 obtain ⟨he2,h11⟩ := ite_some_8 h10
 clear h10
 subst he2
 obtain ⟨e3,E7,h12⟩ := Option.bind_eq_some_iff.1 h11
 clear h11
 obtain ⟨he3,h13⟩ := ite_some_8 h12
 clear h12
 subst he3
 obtain ⟨⟨mx,mx1,mx2,mx3⟩,E8,h14⟩ := Option.bind_eq_some_iff.1 h13
 clear h13
 obtain ⟨⟨mr,mr1⟩,E9,h15⟩ := Option.bind_eq_some_iff.1 h14
 clear h14
 obtain ⟨hmx,h16⟩ := ite_none_8 h15
 clear h15
 obtain ⟨⟨m,y1,y2,y3⟩,E10,h17⟩ := Option.bind_eq_some_iff.1 h16
 clear h16
 obtain ⟨q,E11,h18⟩ := Option.bind_eq_some_iff.1 h17
 clear h17
 obtain ⟨hq,h19⟩ := ite_none_8 h18
 clear h18
 obtain ⟨hqm,h20⟩ := ite_some_8 h19
 clear h19
 replace hqm : q = m := hqm
 subst hqm
 obtain rfl := Option.some.inj h20
 clear h20
 have F1 := Aside0.mk E1
 have F2 := Aside0.mk E2
 have F3 := Aside0.mk E3
 have F4 := Aside0.mk E4
 have F5 := Aside0.mk E5
 have F6 := Aside0.mk E6
 have F7 := Aside0.mk E7
 have F8 := Aside0.mk E8
 have F9 := Aside0.mk E9
 have F10 := Aside0.mk E10
 have F11 := Aside0.mk E11
 replace hmx : ¬ mr < 0 := hmx
 have fmx : 0 ≤ mr := Int.not_lt.1 hmx
 have fq : 0 ≤ q := Int.not_lt.1 hq
 clear E1 E2 E3 E4 E5 E6 E7 E8 E9 E10 E11 hmx hq
 have hcga2_0 : w1.cell? ⟨ga,0,none⟩ = some (.bool a0_0) := (blk_cell (blk_below BA.out D1.out) 0).trans rfl
 have hcga2_1 : w1.cell? ⟨ga,1,none⟩ = some (.slice A0_1 l0_1.length c0_1) := (blk_cell (blk_below BA.out D1.out) 1).trans rfl
 have hcga2_2 : w1.cell? ⟨ga,2,none⟩ = some (.slice A0_2 l0_2.length c0_2) := (blk_cell (blk_below BA.out D1.out) 2).trans rfl
 have hcga2_3 : w1.cell? ⟨ga,3,none⟩ = some (.slice A0_3 l0_3.length c0_3) := (blk_cell (blk_below BA.out D1.out) 3).trans rfl
 go_wp2_with ((with_reducible refine gcal_ (f := 12) rfl ?_);refine goesL_ (some 31) rfl rfl Try.func12 (by kernel_rfl) rfl #[.agg #[.bool a0_0,.slice A0_1 l0_1.length c0_1,.slice A0_2 l0_2.length c0_2,.slice A0_3 l0_3.length c0_3]] rfl (by (try simp only [List.map_toArray,List.map_cons,List.map_nil]);first|done|rfl) ?_;refine (laws_toMachine.calls k a0_0 A0_1 c0_1 l0_1 A0_2 c0_2 l0_2 A0_3 c0_3 l0_3 b p1 p2 p3 _ (Kd.C_below HR1.out D1.out) HC1.out (Kd.C_below HR2.out D1.out) HC2.out (Kd.C_below HR3.out D1.out) HC3.out F1.out).mono ?_;rintro e w2 ⟨va1,va2,va3,rfl,S1,S2,S3,B⟩;refine ⟨_,rfl,?_⟩;refine hold_8 ?_)
 refine ⟨?_⟩
 have Ta1 := Aside0.mk S1
 have Ta2 := Aside0.mk S2
 have Ta3 := Aside0.mk S3
 clear S1 S2 S3
 have D2 := Aside0.mk (below_step D1.out B)
 clear B
 obtain ⟨Aa1,ca1,ea1⟩ := Kd.S_slice Ta1.out
 subst ea1
 obtain ⟨Aa2,ca2,ea2⟩ := Kd.S_slice Ta2.out
 subst ea2
 obtain ⟨Aa3,ca3,ea3⟩ := Kd.R_slice Ta3.out
 subst ea3
 go_wp2_with ((with_reducible refine gcal_ (f := 35) rfl ?_);refine goesL_ (some 34) rfl rfl Try.func35 (by kernel_rfl) rfl #[.slice A2 l2.length c2] rfl (by (try simp only [List.map_toArray,List.map_cons,List.map_nil]);first|done|rfl) ?_;refine (laws_toCellS.calls k A2 c2 l2 nc _ (Kd.C_below HR4.out D2.out) HC4.out F2.out).mono ?_;rintro e w2b ⟨vra,rfl,S,B⟩;refine ⟨_,rfl,?_⟩;refine hold_8 ?_)
 refine ⟨?_⟩
 have Tqa := Aside0.mk S
 have D2 := Aside0.mk (below_step D2.out B)
 have Ta1 := Aside0.mk (Kd.S_below Ta1.out B)
 have Ta2 := Aside0.mk (Kd.S_below Ta2.out B)
 have Ta3 := Aside0.mk (Kd.R_below Ta3.out B)
 clear S B
 obtain ⟨Ara,cra,era⟩ := Kd.R_slice Tqa.out
 subst era
 go_wp2_with ((with_reducible refine gcal_ (f := 34) rfl ?_);refine goesL_ (some 35) rfl rfl Try.func34 (by kernel_rfl) rfl #[.agg #[.bool b,.slice Aa1 p1.length ca1,.slice Aa2 p2.length ca2,.slice Aa3 p3.length ca3],.int .i64 a1,.slice Ara nc.length cra] rfl (by (try simp only [List.map_toArray,List.map_cons,List.map_nil]);first|done|rfl) ?_;refine (spec_Replace.calls k b Aa1 ca1 p1 Aa2 ca2 p2 Aa3 ca3 p3 a1 Ara cra nc ub u1 u2 u3 v4 _ (Kd.S_reads' Ta1.out).2.2 (Kd.S_reads' Ta1.out).2.1 (Kd.S_reads' Ta2.out).2.2 (Kd.S_reads' Ta2.out).2.1 (Kd.R_reads' Ta3.out).2.2 (Kd.R_reads' Ta3.out).2.1 (Kd.R_reads' Tqa.out).2.2 (Kd.R_reads' Tqa.out).2.1 F3.out).mono ?_;rintro e w3 ⟨vu1,vu2,vu3,rfl,S1,S2,S3,B⟩;refine ⟨_,rfl,?_⟩;refine hold_8 ?_)
 refine ⟨?_⟩
 have Tu1 := Aside0.mk S1
 have Tu2 := Aside0.mk S2
 have Tu3 := Aside0.mk S3
 clear S1 S2 S3
 have D3 := Aside0.mk (below_step D2.out B)
 clear B Tqa
 clear Ta1 Ta2 Ta3
 obtain ⟨Au1,cu1,eu1⟩ := Kd.S_slice Tu1.out
 subst eu1
 obtain ⟨Au2,cu2,eu2⟩ := Kd.S_slice Tu2.out
 subst eu2
 obtain ⟨Au3,cu3,eu3⟩ := Kd.R_slice Tu3.out
 subst eu3
 go_wp2_with ((with_reducible refine gate_dst (N := 8) rfl ?_);refine bx_ 8 #[.bool false,.slice none 0 0,.slice none 0 0,.slice none 0 0] 32 ?_;intro gw hg wd hbox hb;have hge := Aside0.mk (Nat.le_of_eq hg.symm);clear hg;refine hold_8 ?_)
 refine ⟨?_⟩
 have BZ := Aside0.mk hbox
 have Q0 := Aside0.mk hb
 have HGE := hge
 clear hbox hb hge
 have hcgwy_0 : wd.cell? ⟨gw,0,none⟩ = some (.bool false) := (blk_cell BZ.out 0).trans rfl
 have hcgwy_1 : wd.cell? ⟨gw,1,none⟩ = some (.slice none 0 0) := (blk_cell BZ.out 1).trans rfl
 have hcgwy_2 : wd.cell? ⟨gw,2,none⟩ = some (.slice none 0 0) := (blk_cell BZ.out 2).trans rfl
 have hcgwy_3 : wd.cell? ⟨gw,3,none⟩ = some (.slice none 0 0) := (blk_cell BZ.out 3).trans rfl
 have hfy_0 := blk_frozen BZ.out 0
 have hfy_1 := blk_frozen BZ.out 1
 have hfy_2 := blk_frozen BZ.out 2
 have hfy_3 := blk_frozen BZ.out 3
 go_upto_region 9 with (fail)
 have n0_ : Aside0 (Below w3.heap.size w3 ((((wd.setCell ⟨gw,0,none⟩ (.bool ub)).setCell ⟨gw,1,none⟩ (.slice Au1 u1.length cu1)).setCell ⟨gw,2,none⟩ (.slice Au2 u2.length cu2)).setCell ⟨gw,3,none⟩ (.slice Au3 u3.length cu3))) := ⟨below_set (below_set (below_set (below_set Q0.out HGE.out) HGE.out) HGE.out) HGE.out⟩
 have n1_ : Aside0 (((((wd.setCell ⟨gw,0,none⟩ (.bool ub)).setCell ⟨gw,1,none⟩ (.slice Au1 u1.length cu1)).setCell ⟨gw,2,none⟩ (.slice Au2 u2.length cu2)).setCell ⟨gw,3,none⟩ (.slice Au3 u3.length cu3)).heap[gw]? = some (.cells #[.bool ub,.slice Au1 u1.length cu1,.slice Au2 u2.length cu2,.slice Au3 u3.length cu3] 32 (0,0))) := ⟨by refine blk_put (cs := #[.bool ub,.slice Au1 u1.length cu1,.slice Au2 u2.length cu2,.slice none 0 0]) ?_ 3 _ rfl;refine blk_put (cs := #[.bool ub,.slice Au1 u1.length cu1,.slice none 0 0,.slice none 0 0]) ?_ 2 _ rfl;refine blk_put (cs := #[.bool ub,.slice none 0 0,.slice none 0 0,.slice none 0 0]) ?_ 1 _ rfl;refine blk_put (cs := #[.bool false,.slice none 0 0,.slice none 0 0,.slice none 0 0]) ?_ 0 _ rfl;exact BZ.out⟩
 clear BZ Q0
 clear hcgwy_0 hfy_0 hcgwy_1 hfy_1 hcgwy_2 hfy_2 hcgwy_3 hfy_3
 generalize ((((wd.setCell ⟨gw,0,none⟩ (.bool ub)).setCell ⟨gw,1,none⟩ (.slice Au1 u1.length cu1)).setCell ⟨gw,2,none⟩ (.slice Au2 u2.length cu2)).setCell ⟨gw,3,none⟩ (.slice Au3 u3.length cu3)) = w3b at n0_ n1_ ⊢
 have B := n0_.out
 have BW := n1_
 clear n0_ n1_
 have Tu1 := Aside0.mk (Kd.S_below Tu1.out B)
 have Tu2 := Aside0.mk (Kd.S_below Tu2.out B)
 have Tu3 := Aside0.mk (Kd.R_below Tu3.out B)
 have D3 := Aside0.mk (below_step D3.out B)
 have hcga3_0 : w3b.cell? ⟨ga,0,none⟩ = some (.bool a0_0) := (blk_cell (blk_below BA.out D3.out) 0).trans rfl
 have hcga3_1 : w3b.cell? ⟨ga,1,none⟩ = some (.slice A0_1 l0_1.length c0_1) := (blk_cell (blk_below BA.out D3.out) 1).trans rfl
 have hcga3_2 : w3b.cell? ⟨ga,2,none⟩ = some (.slice A0_2 l0_2.length c0_2) := (blk_cell (blk_below BA.out D3.out) 2).trans rfl
 have hcga3_3 : w3b.cell? ⟨ga,3,none⟩ = some (.slice A0_3 l0_3.length c0_3) := (blk_cell (blk_below BA.out D3.out) 3).trans rfl
 clear B
 go_wp2_with ((with_reducible refine gcal_ (f := 12) rfl ?_);refine goesL_ (some 39) rfl rfl Try.func12 (by kernel_rfl) rfl #[.agg #[.bool a0_0,.slice A0_1 l0_1.length c0_1,.slice A0_2 l0_2.length c0_2,.slice A0_3 l0_3.length c0_3]] rfl (by (try simp only [List.map_toArray,List.map_cons,List.map_nil]);first|done|rfl) ?_;refine (laws_toMachine.calls k a0_0 A0_1 c0_1 l0_1 A0_2 c0_2 l0_2 A0_3 c0_3 l0_3 b p1 p2 p3 _ (Kd.C_below HR1.out D3.out) HC1.out (Kd.C_below HR2.out D3.out) HC2.out (Kd.C_below HR3.out D3.out) HC3.out F1.out).mono ?_;rintro e w4 ⟨vx1,vx2,vx3,rfl,S1,S2,S3,B⟩;refine ⟨_,rfl,?_⟩;refine hold_8 ?_)
 refine ⟨?_⟩
 have Tx1 := Aside0.mk S1
 have Tx2 := Aside0.mk S2
 have Tx3 := Aside0.mk S3
 clear S1 S2 S3
 have G := Aside0.mk B
 clear B
 obtain ⟨Ax1,cx1,ex1⟩ := Kd.S_slice Tx1.out
 subst ex1
 obtain ⟨Ax2,cx2,ex2⟩ := Kd.S_slice Tx2.out
 subst ex2
 obtain ⟨Ax3,cx3,ex3⟩ := Kd.R_slice Tx3.out
 subst ex3
 go_wp2_with ((with_reducible refine gate_dst (N := 10) rfl ?_);refine bx_ 10 #[.bool false,.slice none 0 0,.slice none 0 0,.slice none 0 0] 32 ?_;intro gx hg wc hbox hb;have hge := Aside0.mk (Nat.le_of_eq hg.symm);clear hg;refine hold_8 ?_)
 refine ⟨?_⟩
 have BZ := Aside0.mk hbox
 have Q0 := Aside0.mk hb
 have HGE := hge
 clear hbox hb hge
 have hcgxy_0 : wc.cell? ⟨gx,0,none⟩ = some (.bool false) := (blk_cell BZ.out 0).trans rfl
 have hcgxy_1 : wc.cell? ⟨gx,1,none⟩ = some (.slice none 0 0) := (blk_cell BZ.out 1).trans rfl
 have hcgxy_2 : wc.cell? ⟨gx,2,none⟩ = some (.slice none 0 0) := (blk_cell BZ.out 2).trans rfl
 have hcgxy_3 : wc.cell? ⟨gx,3,none⟩ = some (.slice none 0 0) := (blk_cell BZ.out 3).trans rfl
 have hfy_0 := blk_frozen BZ.out 0
 have hfy_1 := blk_frozen BZ.out 1
 have hfy_2 := blk_frozen BZ.out 2
 have hfy_3 := blk_frozen BZ.out 3
 go_upto_region 10 with (fail)
 have n0_ : Aside0 (Below w4.heap.size w4 ((((wc.setCell ⟨gx,0,none⟩ (.bool b)).setCell ⟨gx,1,none⟩ (.slice Ax1 p1.length cx1)).setCell ⟨gx,2,none⟩ (.slice Ax2 p2.length cx2)).setCell ⟨gx,3,none⟩ (.slice Ax3 p3.length cx3))) := ⟨below_set (below_set (below_set (below_set Q0.out HGE.out) HGE.out) HGE.out) HGE.out⟩
 have n1_ : Aside0 (((((wc.setCell ⟨gx,0,none⟩ (.bool b)).setCell ⟨gx,1,none⟩ (.slice Ax1 p1.length cx1)).setCell ⟨gx,2,none⟩ (.slice Ax2 p2.length cx2)).setCell ⟨gx,3,none⟩ (.slice Ax3 p3.length cx3)).heap[gx]? = some (.cells #[.bool b,.slice Ax1 p1.length cx1,.slice Ax2 p2.length cx2,.slice Ax3 p3.length cx3] 32 (0,0))) := ⟨by refine blk_put (cs := #[.bool b,.slice Ax1 p1.length cx1,.slice Ax2 p2.length cx2,.slice none 0 0]) ?_ 3 _ rfl;refine blk_put (cs := #[.bool b,.slice Ax1 p1.length cx1,.slice none 0 0,.slice none 0 0]) ?_ 2 _ rfl;refine blk_put (cs := #[.bool b,.slice none 0 0,.slice none 0 0,.slice none 0 0]) ?_ 1 _ rfl;refine blk_put (cs := #[.bool false,.slice none 0 0,.slice none 0 0,.slice none 0 0]) ?_ 0 _ rfl;exact BZ.out⟩
 clear BZ Q0
 clear hcgxy_0 hfy_0 hcgxy_1 hfy_1 hcgxy_2 hfy_2 hcgxy_3 hfy_3
 generalize ((((wc.setCell ⟨gx,0,none⟩ (.bool b)).setCell ⟨gx,1,none⟩ (.slice Ax1 p1.length cx1)).setCell ⟨gx,2,none⟩ (.slice Ax2 p2.length cx2)).setCell ⟨gx,3,none⟩ (.slice Ax3 p3.length cx3)) = w4c at n0_ n1_ ⊢
 have B := n0_.out
 have BX := n1_
 clear n0_ n1_
 have Tx1 := Aside0.mk (Kd.S_mono (ok' := fun k_ => True ∧ k_ < w4.heap.size) (Kd.S_below (Kd.S_bound Tx1.out) B) (fun _ h_ => ⟨h_.1,h_.2.2.1⟩))
 have Tx2 := Aside0.mk (Kd.S_mono (ok' := fun k_ => True ∧ k_ < w4.heap.size) (Kd.S_below (Kd.S_bound Tx2.out) B) (fun _ h_ => ⟨h_.1,h_.2.2.1⟩))
 have Tx3 := Aside0.mk (Kd.R_mono (ok' := fun k_ => True ∧ k_ < w4.heap.size) (Kd.R_below (Kd.R_bound Tx3.out) B) (fun _ h_ => ⟨h_.1,h_.2.2.1⟩))
 have G := Aside0.mk (below_step G.out B)
 have Z4 := Aside0.mk G.out.size
 have Z44 := Aside0.mk B.size
 have D4 := Aside0.mk (below_step D3.out G.out)
 clear B
 go_wp2_with ((with_reducible refine gcal_ (f := 35) rfl ?_);refine goesL_ (some 41) rfl rfl Try.func35 (by kernel_rfl) rfl #[.slice A2 l2.length c2] rfl (by (try simp only [List.map_toArray,List.map_cons,List.map_nil]);first|done|rfl) ?_;refine (laws_toCellS.calls k A2 c2 l2 nc _ (Kd.C_below HR4.out D4.out) HC4.out F2.out).mono ?_;rintro e w5 ⟨vry,rfl,S,B⟩;refine ⟨_,rfl,?_⟩;refine hold_8 ?_)
 refine ⟨?_⟩
 have Tqy := Aside0.mk (Kd.R_mono (ok' := fun k_ => w4c.heap.size ≤ k_ ∧ k_ < w5.heap.size) (Kd.R_bound S) (fun _ h_ => ⟨h_.2.1,h_.2.2.1⟩))
 have Z45 := Aside0.mk (Nat.le_trans Z44.out B.size)
 have Tx1 := Aside0.mk (Kd.S_below Tx1.out B)
 have Tx2 := Aside0.mk (Kd.S_below Tx2.out B)
 have Tx3 := Aside0.mk (Kd.R_below Tx3.out B)
 have G := Aside0.mk (below_step G.out B)
 have BX := Aside0.mk (blk_below BX.out B)
 have Z6 := Aside0.mk G.out.size
 clear S B
 obtain ⟨Ary,cry,ery⟩ := Kd.R_slice Tqy.out
 subst ery
 have hcgx4_0 : w5.cell? ⟨gx,0,none⟩ = some (.bool b) := (blk_cell BX.out 0).trans rfl
 have hcgx4_1 : w5.cell? ⟨gx,1,none⟩ = some (.slice Ax1 p1.length cx1) := (blk_cell BX.out 1).trans rfl
 have hcgx4_2 : w5.cell? ⟨gx,2,none⟩ = some (.slice Ax2 p2.length cx2) := (blk_cell BX.out 2).trans rfl
 have hcgx4_3 : w5.cell? ⟨gx,3,none⟩ = some (.slice Ax3 p3.length cx3) := (blk_cell BX.out 3).trans rfl
 go_wp2_with ((with_reducible refine gcal_ (f := 36) rfl ?_);refine goesL_ (some 46) rfl rfl Try.func36 (by kernel_rfl) rfl #[.agg #[.bool b,.slice Ax1 p1.length cx1,.slice Ax2 p2.length cx2,.slice Ax3 p3.length cx3],.int .i64 a1,.slice Ary nc.length cry] rfl (by (try simp only [List.map_toArray,List.map_cons,List.map_nil]);first|done|rfl) ?_;refine (impl_Replace.calls k b Ax1 cx1 p1 Ax2 cx2 p2 Ax3 cx3 p3 a1 Ary cry nc vb v1 v2 v3 v4 _ (Kd.S_reads' Tx1.out).2.2 (Kd.S_reads' Tx1.out).2.1 (Kd.S_reads' Tx2.out).2.2 (Kd.S_reads' Tx2.out).2.1 (Kd.R_reads' Tx3.out).2.2 (Kd.R_reads' Tx3.out).2.1 (Kd.R_reads' Tqy.out).2.2 (Kd.R_reads' Tqy.out).2.1 F4.out).mono ?_;rintro e w6 ⟨vv1,vv2,vv3,rfl,S1,S2,S3,B⟩;refine ⟨_,rfl,?_⟩;refine hold_8 ?_)
 refine ⟨?_⟩
 have Tv1 := Aside0.mk S1
 have Tv2 := Aside0.mk S2
 have Tv3 := Aside0.mk S3
 clear S1 S2 S3
 have Tx1 := Aside0.mk (Kd.S_below Tx1.out B)
 have Tx2 := Aside0.mk (Kd.S_below Tx2.out B)
 have Tx3 := Aside0.mk (Kd.R_below Tx3.out B)
 have Tqy := Aside0.mk (Kd.R_below Tqy.out B)
 have G := Aside0.mk (below_step G.out B)
 have BX := Aside0.mk (blk_below BX.out B)
 have Z56 := Aside0.mk B.size
 clear B
 obtain ⟨Av1,cv1,ev1⟩ := Kd.S_slice Tv1.out
 subst ev1
 obtain ⟨Av2,cv2,ev2⟩ := Kd.S_slice Tv2.out
 subst ev2
 obtain ⟨Av3,cv3,ev3⟩ := Kd.R_slice Tv3.out
 subst ev3
 go_wp2_with ((with_reducible refine gate_dst (N := 12) rfl ?_);refine bx_ 12 #[.bool false,.slice none 0 0,.slice none 0 0,.slice none 0 0] 32 ?_;intro gg hg we hbox hb;have hge := Aside0.mk (Nat.le_of_eq hg.symm);clear hg;refine hold_8 ?_)
 refine ⟨?_⟩
 have BZ := Aside0.mk hbox
 have Q0 := Aside0.mk hb
 have HGE := hge
 clear hbox hb hge
 have hcggy_0 : we.cell? ⟨gg,0,none⟩ = some (.bool false) := (blk_cell BZ.out 0).trans rfl
 have hcggy_1 : we.cell? ⟨gg,1,none⟩ = some (.slice none 0 0) := (blk_cell BZ.out 1).trans rfl
 have hcggy_2 : we.cell? ⟨gg,2,none⟩ = some (.slice none 0 0) := (blk_cell BZ.out 2).trans rfl
 have hcggy_3 : we.cell? ⟨gg,3,none⟩ = some (.slice none 0 0) := (blk_cell BZ.out 3).trans rfl
 have hfy_0 := blk_frozen BZ.out 0
 have hfy_1 := blk_frozen BZ.out 1
 have hfy_2 := blk_frozen BZ.out 2
 have hfy_3 := blk_frozen BZ.out 3
 go_upto_region 12 with (fail)
 have n0_ : Aside0 (Below w6.heap.size w6 ((((we.setCell ⟨gg,0,none⟩ (.bool vb)).setCell ⟨gg,1,none⟩ (.slice Av1 v1.length cv1)).setCell ⟨gg,2,none⟩ (.slice Av2 v2.length cv2)).setCell ⟨gg,3,none⟩ (.slice Av3 v3.length cv3))) := ⟨below_set (below_set (below_set (below_set Q0.out HGE.out) HGE.out) HGE.out) HGE.out⟩
 have n1_ : Aside0 (((((we.setCell ⟨gg,0,none⟩ (.bool vb)).setCell ⟨gg,1,none⟩ (.slice Av1 v1.length cv1)).setCell ⟨gg,2,none⟩ (.slice Av2 v2.length cv2)).setCell ⟨gg,3,none⟩ (.slice Av3 v3.length cv3)).heap[gg]? = some (.cells #[.bool vb,.slice Av1 v1.length cv1,.slice Av2 v2.length cv2,.slice Av3 v3.length cv3] 32 (0,0))) := ⟨by refine blk_put (cs := #[.bool vb,.slice Av1 v1.length cv1,.slice Av2 v2.length cv2,.slice none 0 0]) ?_ 3 _ rfl;refine blk_put (cs := #[.bool vb,.slice Av1 v1.length cv1,.slice none 0 0,.slice none 0 0]) ?_ 2 _ rfl;refine blk_put (cs := #[.bool vb,.slice none 0 0,.slice none 0 0,.slice none 0 0]) ?_ 1 _ rfl;refine blk_put (cs := #[.bool false,.slice none 0 0,.slice none 0 0,.slice none 0 0]) ?_ 0 _ rfl;exact BZ.out⟩
 clear BZ Q0
 clear hcggy_0 hfy_0 hcggy_1 hfy_1 hcggy_2 hfy_2 hcggy_3 hfy_3
 generalize ((((we.setCell ⟨gg,0,none⟩ (.bool vb)).setCell ⟨gg,1,none⟩ (.slice Av1 v1.length cv1)).setCell ⟨gg,2,none⟩ (.slice Av2 v2.length cv2)).setCell ⟨gg,3,none⟩ (.slice Av3 v3.length cv3)) = w6b at n0_ n1_ ⊢
 have B := n0_.out
 have BG := n1_
 clear n0_ n1_
 have Tx1 := Aside0.mk (Kd.S_below Tx1.out B)
 have Tx2 := Aside0.mk (Kd.S_below Tx2.out B)
 have Tx3 := Aside0.mk (Kd.R_below Tx3.out B)
 have Tv1 := Aside0.mk (Kd.S_below Tv1.out B)
 have Tv2 := Aside0.mk (Kd.S_below Tv2.out B)
 have Tv3 := Aside0.mk (Kd.R_below Tv3.out B)
 have Tqy := Aside0.mk (Kd.R_below Tqy.out B)
 have G := Aside0.mk (below_step G.out B)
 have BX := Aside0.mk (blk_below BX.out B)
 have GG5 := Aside0.mk (Nat.le_trans Z56.out HGE.out)
 have GG4 := Aside0.mk (Nat.le_trans (Nat.le_trans Z45.out Z56.out) HGE.out)
 have Tm1 := Aside0.mk (Kd.S_below Tu1.out G.out)
 have Tm2 := Aside0.mk (Kd.S_below Tu2.out G.out)
 have Tm3 := Aside0.mk (Kd.R_below Tu3.out G.out)
 have hcgg5_0 : w6b.cell? ⟨gg,0,none⟩ = some (.bool vb) := (blk_cell BG.out 0).trans rfl
 have hcgg5_1 : w6b.cell? ⟨gg,1,none⟩ = some (.slice Av1 v1.length cv1) := (blk_cell BG.out 1).trans rfl
 have hcgg5_2 : w6b.cell? ⟨gg,2,none⟩ = some (.slice Av2 v2.length cv2) := (blk_cell BG.out 2).trans rfl
 have hcgg5_3 : w6b.cell? ⟨gg,3,none⟩ = some (.slice Av3 v3.length cv3) := (blk_cell BG.out 3).trans rfl
 have hcgw6_0 : w6b.cell? ⟨gw,0,none⟩ = some (.bool ub) := (blk_cell (blk_below BW.out G.out) 0).trans rfl
 have hcgw6_1 : w6b.cell? ⟨gw,1,none⟩ = some (.slice Au1 u1.length cu1) := (blk_cell (blk_below BW.out G.out) 1).trans rfl
 have hcgw6_2 : w6b.cell? ⟨gw,2,none⟩ = some (.slice Au2 u2.length cu2) := (blk_cell (blk_below BW.out G.out) 2).trans rfl
 have hcgw6_3 : w6b.cell? ⟨gw,3,none⟩ = some (.slice Au3 u3.length cu3) := (blk_cell (blk_below BW.out G.out) 3).trans rfl
 clear B
 go_wp2_with ((with_reducible refine gcal_ (f := 14) rfl ?_);refine goesL_ (some 51) rfl rfl Try.func14 (by kernel_rfl) rfl #[.agg #[.bool vb,.slice Av1 v1.length cv1,.slice Av2 v2.length cv2,.slice Av3 v3.length cv3],.agg #[.bool ub,.slice Au1 u1.length cu1,.slice Au2 u2.length cu2,.slice Au3 u3.length cu3]] rfl (by (try simp only [List.map_toArray,List.map_cons,List.map_nil]);first|done|rfl) ?_;refine (laws_eqMachine.calls k vb Av1 cv1 v1 Av2 cv2 v2 Av3 cv3 v3 ub Au1 cu1 u1 Au2 cu2 u2 Au3 cu3 u3 true _ (Kd.S_reads' Tv1.out).2.2 (Kd.S_reads' Tv1.out).2.1 (Kd.S_reads' Tv2.out).2.2 (Kd.S_reads' Tv2.out).2.1 (Kd.R_reads' Tv3.out).2.2 (Kd.R_reads' Tv3.out).2.1 (Kd.S_reads' Tm1.out).2.2 (Kd.S_reads' Tm1.out).2.1 (Kd.S_reads' Tm2.out).2.2 (Kd.S_reads' Tm2.out).2.1 (Kd.R_reads' Tm3.out).2.2 (Kd.R_reads' Tm3.out).2.1 F5.out).mono ?_;rintro e w7 ⟨rfl,B⟩;refine ⟨_,rfl,?_⟩;refine hold_8 ?_)
 refine ⟨?_⟩
 have Tx1 := Aside0.mk (Kd.S_below Tx1.out B)
 have Tx2 := Aside0.mk (Kd.S_below Tx2.out B)
 have Tx3 := Aside0.mk (Kd.R_below Tx3.out B)
 have Tv1 := Aside0.mk (Kd.S_below Tv1.out B)
 have Tv2 := Aside0.mk (Kd.S_below Tv2.out B)
 have Tv3 := Aside0.mk (Kd.R_below Tv3.out B)
 have Tqy := Aside0.mk (Kd.R_below Tqy.out B)
 have G := Aside0.mk (below_step G.out B)
 have BX := Aside0.mk (blk_below BX.out B)
 have BG := Aside0.mk (blk_below BG.out B)
 clear B
 clear Tm1 Tm2 Tm3
 go_upto_region 14 with (fail)
 have B : Below w7.heap.size w7 w7.drew := below_drew1 (Below.refl _ _)
 have Tx1 := Aside0.mk (Kd.S_below Tx1.out B)
 have Tx2 := Aside0.mk (Kd.S_below Tx2.out B)
 have Tx3 := Aside0.mk (Kd.R_below Tx3.out B)
 have Tv1 := Aside0.mk (Kd.S_below Tv1.out B)
 have Tv2 := Aside0.mk (Kd.S_below Tv2.out B)
 have Tv3 := Aside0.mk (Kd.R_below Tv3.out B)
 have Tqy := Aside0.mk (Kd.R_below Tqy.out B)
 have G := Aside0.mk (below_step G.out B)
 have BX := Aside0.mk (blk_below BX.out B)
 have BG := Aside0.mk (blk_below BG.out B)
 clear B
 have D6 := Aside0.mk (below_step D3.out G.out)
 refine start_ (n := 5) (S := fun w' => w'.cell? ⟨gx,0,none⟩ = some (.bool b) ∧ w'.cell? ⟨gx,1,none⟩ = some (.slice Ax1 p1.length cx1) ∧ w'.cell? ⟨gx,2,none⟩ = some (.slice Ax2 p2.length cx2) ∧ w'.cell? ⟨gx,3,none⟩ = some (.slice Ax3 p3.length cx3) ∧ w'.cell? ⟨ga,0,none⟩ = some (.bool a0_0) ∧ w'.cell? ⟨ga,1,none⟩ = some (.slice A0_1 l0_1.length c0_1) ∧ w'.cell? ⟨ga,2,none⟩ = some (.slice A0_2 l0_2.length c0_2) ∧ w'.cell? ⟨ga,3,none⟩ = some (.slice A0_3 l0_3.length c0_3)) (ds := []) #[false,false,false,false,false] (by kernel_rfl) rfl rfl ⟨(blk_cell BX.out 0).trans rfl,(blk_cell BX.out 1).trans rfl,(blk_cell BX.out 2).trans rfl,(blk_cell BX.out 3).trans rfl,(blk_cell (blk_below BA.out D6.out) 0).trans rfl,(blk_cell (blk_below BA.out D6.out) 1).trans rfl,(blk_cell (blk_below BA.out D6.out) 2).trans rfl,(blk_cell (blk_below BA.out D6.out) 3).trans rfl⟩ (fun hHeld => ?_)
 generalize w7.drew = w7d at Tx1 Tx2 Tx3 Tv1 Tv2 Tv3 Tqy G BX BG D6 hHeld ⊢
 refine take_ (i := 0) (N := some 58) (v := ?_) (a' := ?_) #[true,false,false,false,false] rfl rfl (by kernel_rfl) (fun _ _ _ h => h) (Or.inl ⟨by rfl,?_⟩) hHeld ?_ ?_
 rotate_left
 ·rintro w' ⟨s0,s1,s2,s3,s4,s5,s6,s7⟩
  go_simp
  with_reducible rfl
 rotate_left
 ·simp only [Act.put,q1,q2,q3,i64_w,i32_w]
  rfl
 refine take_ (i := 1) (N := some 59) (v := ?_) (a' := ?_) #[true,true,false,false,false] rfl rfl (by kernel_rfl) (fun _ _ _ h => h) (Or.inl ⟨by rfl,?_⟩) hHeld ?_ ?_
 rotate_left
 ·rintro w' ⟨s0,s1,s2,s3,s4,s5,s6,s7⟩
  go_simp
  with_reducible rfl
 rotate_left
 ·simp only [Act.put,q1,q2,q3,i64_w,i32_w]
  rfl
 refine one_ (i := 2) (N := some 60) #[true,true,true,false,false] rfl rfl (by kernel_rfl) (by decide) (fun K hK => ?_)
 refine goes_ Try.func12 (by kernel_rfl) rfl #[.agg #[.bool a0_0,.slice A0_1 l0_1.length c0_1,.slice A0_2 l0_2.length c0_2,.slice A0_3 l0_3.length c0_3]] (by rfl) rfl rfl (by (try simp only [List.map_toArray,List.map_cons,List.map_nil]);first|done|rfl) ?_
 refine (laws_toMachine.calls k a0_0 A0_1 c0_1 l0_1 A0_2 c0_2 l0_2 A0_3 c0_3 l0_3 b p1 p2 p3 _ (Kd.C_below HR1.out D6.out) HC1.out (Kd.C_below HR2.out D6.out) HC2.out (Kd.C_below HR3.out D6.out) HC3.out F1.out).mono ?_
 rintro e w8 ⟨vy1,vy2,vy3,rfl,S1,S2,S3,B⟩
 refine ⟨_,rfl,?_⟩
 have Ty1 := Aside0.mk S1
 have Ty2 := Aside0.mk S2
 have Ty3 := Aside0.mk S3
 clear S1 S2 S3
 have Tx1 := Aside0.mk (Kd.S_below Tx1.out B)
 have Tx2 := Aside0.mk (Kd.S_below Tx2.out B)
 have Tx3 := Aside0.mk (Kd.R_below Tx3.out B)
 have Tv1 := Aside0.mk (Kd.S_below Tv1.out B)
 have Tv2 := Aside0.mk (Kd.S_below Tv2.out B)
 have Tv3 := Aside0.mk (Kd.R_below Tv3.out B)
 have Tqy := Aside0.mk (Kd.R_below Tqy.out B)
 have G := Aside0.mk (below_step G.out B)
 have BX := Aside0.mk (blk_below BX.out B)
 have BG := Aside0.mk (blk_below BG.out B)
 clear B
 obtain ⟨Ay1,cy1,ey1⟩ := Kd.S_slice Ty1.out
 subst ey1
 obtain ⟨Ay2,cy2,ey2⟩ := Kd.S_slice Ty2.out
 subst ey2
 obtain ⟨Ay3,cy3,ey3⟩ := Kd.R_slice Ty3.out
 subst ey3
 have D6 := Aside0.mk (below_step D3.out G.out)
 refine hK.out _ _ ⟨(blk_cell BX.out 0).trans rfl,(blk_cell BX.out 1).trans rfl,(blk_cell BX.out 2).trans rfl,(blk_cell BX.out 3).trans rfl,(blk_cell (blk_below BA.out D6.out) 0).trans rfl,(blk_cell (blk_below BA.out D6.out) 1).trans rfl,(blk_cell (blk_below BA.out D6.out) 2).trans rfl,(blk_cell (blk_below BA.out D6.out) 3).trans rfl⟩ (fun hHeld => ?_)
 clear hK K
 refine nr_ (some 60) _ ?_
 refine one_ (i := 3) (N := some 61) #[true,true,true,true,false] rfl rfl (by kernel_rfl) (by decide) (fun K hK => ?_)
 refine goes_ Try.func14 (by kernel_rfl) rfl #[.agg #[.bool b,.slice Ax1 p1.length cx1,.slice Ax2 p2.length cx2,.slice Ax3 p3.length cx3],.agg #[.bool b,.slice Ay1 p1.length cy1,.slice Ay2 p2.length cy2,.slice Ay3 p3.length cy3]] (by rfl) rfl rfl (by (try simp only [List.map_toArray,List.map_cons,List.map_nil]);first|done|rfl) ?_
 refine (laws_eqMachine.calls k b Ax1 cx1 p1 Ax2 cx2 p2 Ax3 cx3 p3 b Ay1 cy1 p1 Ay2 cy2 p2 Ay3 cy3 p3 true _ (Kd.S_reads' Tx1.out).2.2 (Kd.S_reads' Tx1.out).2.1 (Kd.S_reads' Tx2.out).2.2 (Kd.S_reads' Tx2.out).2.1 (Kd.R_reads' Tx3.out).2.2 (Kd.R_reads' Tx3.out).2.1 (Kd.S_reads' Ty1.out).2.2 (Kd.S_reads' Ty1.out).2.1 (Kd.S_reads' Ty2.out).2.2 (Kd.S_reads' Ty2.out).2.1 (Kd.R_reads' Ty3.out).2.2 (Kd.R_reads' Ty3.out).2.1 F6.out).mono ?_
 rintro e w9 ⟨rfl,B⟩
 refine ⟨_,rfl,?_⟩
 have Tx1 := Aside0.mk (Kd.S_below Tx1.out B)
 have Tx2 := Aside0.mk (Kd.S_below Tx2.out B)
 have Tx3 := Aside0.mk (Kd.R_below Tx3.out B)
 have Tv1 := Aside0.mk (Kd.S_below Tv1.out B)
 have Tv2 := Aside0.mk (Kd.S_below Tv2.out B)
 have Tv3 := Aside0.mk (Kd.R_below Tv3.out B)
 have Tqy := Aside0.mk (Kd.R_below Tqy.out B)
 have G := Aside0.mk (below_step G.out B)
 have BX := Aside0.mk (blk_below BX.out B)
 have BG := Aside0.mk (blk_below BG.out B)
 clear B
 clear Ty1 Ty2 Ty3
 clear D6
 have D6 := Aside0.mk (below_step D3.out G.out)
 refine hK.out _ _ ⟨(blk_cell BX.out 0).trans rfl,(blk_cell BX.out 1).trans rfl,(blk_cell BX.out 2).trans rfl,(blk_cell BX.out 3).trans rfl,(blk_cell (blk_below BA.out D6.out) 0).trans rfl,(blk_cell (blk_below BA.out D6.out) 1).trans rfl,(blk_cell (blk_below BA.out D6.out) 2).trans rfl,(blk_cell (blk_below BA.out D6.out) 3).trans rfl⟩ (fun hHeld => ?_)
 clear hK K
 refine nr_ (some 61) _ ?_
 refine pure_ (i := 4) (N := some 62) (v := ?_) (a' := ?_) #[true,true,true,true,true] rfl rfl (by kernel_rfl) (fun _ _ _ h => h) (Or.inl ⟨by rfl,?_⟩) ?_ ?_
 rotate_left
 ·intro w'
  go_simp
  with_reducible rfl
 rotate_left
 ·simp only [Act.put,q1,q2,q3,i64_w,i32_w]
  rfl
 refine done_ (by kernel_rfl) ?_
 clear hHeld
 have D6 := Aside0.mk (below_step D3.out G.out)
 go_wp2_with ((with_reducible refine gcal_ (f := 35) rfl ?_);refine goesL_ (some 65) rfl rfl Try.func35 (by kernel_rfl) rfl #[.slice A2 l2.length c2] rfl (by (try simp only [List.map_toArray,List.map_cons,List.map_nil]);first|done|rfl) ?_;refine (laws_toCellS.calls k A2 c2 l2 nc _ (Kd.C_below HR4.out D6.out) HC4.out F2.out).mono ?_;rintro e w10 ⟨vrk,rfl,S,B⟩;refine ⟨_,rfl,?_⟩;refine hold_8 ?_)
 refine ⟨?_⟩
 have Tqk := Aside0.mk S
 clear S
 have Tx1 := Aside0.mk (Kd.S_below Tx1.out B)
 have Tx2 := Aside0.mk (Kd.S_below Tx2.out B)
 have Tx3 := Aside0.mk (Kd.R_below Tx3.out B)
 have Tv1 := Aside0.mk (Kd.S_below Tv1.out B)
 have Tv2 := Aside0.mk (Kd.S_below Tv2.out B)
 have Tv3 := Aside0.mk (Kd.R_below Tv3.out B)
 have Tqy := Aside0.mk (Kd.R_below Tqy.out B)
 have G := Aside0.mk (below_step G.out B)
 have BX := Aside0.mk (blk_below BX.out B)
 have BG := Aside0.mk (blk_below BG.out B)
 clear B D6
 obtain ⟨Ark,crk,erk⟩ := Kd.R_slice Tqk.out
 subst erk
 go_wp2_with ((with_reducible refine gcal_ (f := 17) rfl ?_);refine goesL_ (some 66) rfl rfl Try.func17 (by kernel_rfl) rfl #[.slice Ary nc.length cry,.slice Ark nc.length crk] rfl (by (try simp only [List.map_toArray,List.map_cons,List.map_nil]);first|done|rfl) ?_;refine (laws_eqCellS.calls k Ary cry nc Ark crk nc true _ (Kd.R_reads' Tqy.out).2.2 (Kd.R_reads' Tqy.out).2.1 (Kd.R_reads' Tqk.out).2.2 (Kd.R_reads' Tqk.out).2.1 F7.out).mono ?_;rintro e w11 ⟨rfl,B⟩;refine ⟨_,rfl,?_⟩;refine hold_8 ?_)
 refine ⟨?_⟩
 have Tx1 := Aside0.mk (Kd.S_below Tx1.out B)
 have Tx2 := Aside0.mk (Kd.S_below Tx2.out B)
 have Tx3 := Aside0.mk (Kd.R_below Tx3.out B)
 have Tv1 := Aside0.mk (Kd.S_below Tv1.out B)
 have Tv2 := Aside0.mk (Kd.S_below Tv2.out B)
 have Tv3 := Aside0.mk (Kd.R_below Tv3.out B)
 have Tqy := Aside0.mk (Kd.R_below Tqy.out B)
 have G := Aside0.mk (below_step G.out B)
 have BX := Aside0.mk (blk_below BX.out B)
 have BG := Aside0.mk (blk_below BG.out B)
 clear B Tqk
 have hcgx7_0 : w11.cell? ⟨gx,0,none⟩ = some (.bool b) := (blk_cell BX.out 0).trans rfl
 have hcgx7_1 : w11.cell? ⟨gx,1,none⟩ = some (.slice Ax1 p1.length cx1) := (blk_cell BX.out 1).trans rfl
 have hcgx7_2 : w11.cell? ⟨gx,2,none⟩ = some (.slice Ax2 p2.length cx2) := (blk_cell BX.out 2).trans rfl
 have hcgx7_3 : w11.cell? ⟨gx,3,none⟩ = some (.slice Ax3 p3.length cx3) := (blk_cell BX.out 3).trans rfl
 go_wp2_with ((with_reducible refine gcal_ (f := 18) rfl ?_);refine goesL_ (some 70) rfl rfl Try.func18 (by kernel_rfl) rfl #[.agg #[.bool b,.slice Ax1 p1.length cx1,.slice Ax2 p2.length cx2,.slice Ax3 p3.length cx3],.int .i64 1] rfl (by (try simp only [List.map_toArray,List.map_cons,List.map_nil]);first|done|rfl) ?_;refine (laws_markMachine.calls k (fun k_ => True ∧ k_ < w4.heap.size) b (.slice Ax1 p1.length cx1) (.slice Ax2 p2.length cx2) (.slice Ax3 p3.length cx3) p1 p2 p3 1 mx mx1 mx2 mx3 w3b _ G.out Tx1.out Tx2.out Tx3.out F8.out).mono ?_;rintro e w12 ⟨rfl,S1,S2,S3,B,K⟩;refine ⟨_,rfl,?_⟩;refine hold_8 ?_)
 refine ⟨?_⟩
 have G := Aside0.mk B
 have Tv1 := Aside0.mk (Kd.S_step (Kd.S_bound Tv1.out) (fun k_ hk_ hlt_ => K.2 k_ hlt_ (fun hs_ => absurd hs_.2 (Nat.not_lt.2 (Nat.le_trans Z45.out hk_.2.1)))))
 have Tv2 := Aside0.mk (Kd.S_step (Kd.S_bound Tv2.out) (fun k_ hk_ hlt_ => K.2 k_ hlt_ (fun hs_ => absurd hs_.2 (Nat.not_lt.2 (Nat.le_trans Z45.out hk_.2.1)))))
 have Tv3 := Aside0.mk (Kd.R_step (Kd.R_bound Tv3.out) (fun k_ hk_ hlt_ => K.2 k_ hlt_ (fun hs_ => absurd hs_.2 (Nat.not_lt.2 (Nat.le_trans Z45.out hk_.2.1)))))
 have Tqy := Aside0.mk (Kd.R_step Tqy.out (fun k_ hk_ hlt_ => K.2 k_ hlt_ (fun hs_ => absurd hs_.2 (Nat.not_lt.2 (Nat.le_trans Z44.out hk_.1)))))
 have BG := Aside0.mk ((K.2 gg (blk_lt BG.out) (fun hs_ => absurd hs_.2 (Nat.not_lt.2 GG4.out))).trans BG.out)
 clear B K S1 S2 S3
 clear Tx1 Tx2 Tx3
 go_wp2_with ((with_reducible refine gcal_ (f := 19) rfl ?_);refine goesL_ (some 73) rfl rfl Try.func19 (by kernel_rfl) rfl #[.slice Ary nc.length cry,.int .i64 mx] rfl (by (try simp only [List.map_toArray,List.map_cons,List.map_nil]);first|done|rfl) ?_;refine (laws_markCellS.calls k (fun k_ => w4c.heap.size ≤ k_ ∧ k_ < w5.heap.size) (.slice Ary nc.length cry) nc mx mr mr1 w3b _ G.out (Kd.R_lower Tqy.out Z4.out) F9.out).mono ?_;rintro e w13 ⟨rfl,S,B,K⟩;refine ⟨_,rfl,?_⟩;refine hold_8 ?_)
 refine ⟨?_⟩
 have G := Aside0.mk B
 have Tv1 := Aside0.mk (Kd.S_step Tv1.out (fun k_ hk_ hlt_ => K.2 k_ hlt_ (fun hs_ => absurd hs_.2 (Nat.not_lt.2 (Nat.le_trans (Nat.le_refl _) hk_.2.1)))))
 have Tv2 := Aside0.mk (Kd.S_step Tv2.out (fun k_ hk_ hlt_ => K.2 k_ hlt_ (fun hs_ => absurd hs_.2 (Nat.not_lt.2 (Nat.le_trans (Nat.le_refl _) hk_.2.1)))))
 have Tv3 := Aside0.mk (Kd.R_step Tv3.out (fun k_ hk_ hlt_ => K.2 k_ hlt_ (fun hs_ => absurd hs_.2 (Nat.not_lt.2 (Nat.le_trans (Nat.le_refl _) hk_.2.1)))))
 have BG := Aside0.mk ((K.2 gg (blk_lt BG.out) (fun hs_ => absurd hs_.2 (Nat.not_lt.2 GG5.out))).trans BG.out)
 have Tm1 := Aside0.mk (Kd.S_below Tu1.out B)
 have Tm2 := Aside0.mk (Kd.S_below Tu2.out B)
 have Tm3 := Aside0.mk (Kd.R_below Tu3.out B)
 clear B K S Tqy
 have hcgg8_0 : w13.cell? ⟨gg,0,none⟩ = some (.bool vb) := (blk_cell BG.out 0).trans rfl
 have hcgg8_1 : w13.cell? ⟨gg,1,none⟩ = some (.slice Av1 v1.length cv1) := (blk_cell BG.out 1).trans rfl
 have hcgg8_2 : w13.cell? ⟨gg,2,none⟩ = some (.slice Av2 v2.length cv2) := (blk_cell BG.out 2).trans rfl
 have hcgg8_3 : w13.cell? ⟨gg,3,none⟩ = some (.slice Av3 v3.length cv3) := (blk_cell BG.out 3).trans rfl
 have hcgw9_0 : w13.cell? ⟨gw,0,none⟩ = some (.bool ub) := (blk_cell (blk_below BW.out G.out) 0).trans rfl
 have hcgw9_1 : w13.cell? ⟨gw,1,none⟩ = some (.slice Au1 u1.length cu1) := (blk_cell (blk_below BW.out G.out) 1).trans rfl
 have hcgw9_2 : w13.cell? ⟨gw,2,none⟩ = some (.slice Au2 u2.length cu2) := (blk_cell (blk_below BW.out G.out) 2).trans rfl
 have hcgw9_3 : w13.cell? ⟨gw,3,none⟩ = some (.slice Au3 u3.length cu3) := (blk_cell (blk_below BW.out G.out) 3).trans rfl
 go_wp2_with (go_at_call 14;refine (laws_eqMachine.calls k vb Av1 cv1 v1 Av2 cv2 v2 Av3 cv3 v3 ub Au1 cu1 u1 Au2 cu2 u2 Au3 cu3 u3 true _ (Kd.S_reads' Tv1.out).2.2 (Kd.S_reads' Tv1.out).2.1 (Kd.S_reads' Tv2.out).2.2 (Kd.S_reads' Tv2.out).2.1 (Kd.R_reads' Tv3.out).2.2 (Kd.R_reads' Tv3.out).2.1 (Kd.S_reads' Tm1.out).2.2 (Kd.S_reads' Tm1.out).2.1 (Kd.S_reads' Tm2.out).2.2 (Kd.S_reads' Tm2.out).2.1 (Kd.R_reads' Tm3.out).2.2 (Kd.R_reads' Tm3.out).2.1 F5.out).mono ?_;rintro e w14 ⟨rfl,B⟩;(try dsimp only);refine hold_8 ?_)
 refine ⟨?_⟩
 have Tv1 := Aside0.mk (Kd.S_below Tv1.out B)
 have Tv2 := Aside0.mk (Kd.S_below Tv2.out B)
 have Tv3 := Aside0.mk (Kd.R_below Tv3.out B)
 have G := Aside0.mk (below_step G.out B)
 have BG := Aside0.mk (blk_below BG.out B)
 clear B
 clear Tm1 Tm2 Tm3
 have Tv1 := Aside0.mk (Kd.S_mono (ok' := (fun k_ => ∃ q,q ∈ ((79 :: (k79).E) ++ (45 :: (k45).E) ++ (2 :: ((Kd.int .i64)).E)) ∧ ∃ cells,w14.heap[k_]? = some (.cells cells q (0,0)))) (Kd.S_bound (Kd.S_lower Tv1.out Z6.out)) (fun k_ h_ => (by obtain ⟨q_,hq_,hr_⟩ := h_.2.2.2;exact ⟨q_,(List.mem_append_left _ (List.mem_append_left _ hq_)),hr_⟩)))
 have Tv2 := Aside0.mk (Kd.S_mono (ok' := (fun k_ => ∃ q,q ∈ ((79 :: (k79).E) ++ (45 :: (k45).E) ++ (2 :: ((Kd.int .i64)).E)) ∧ ∃ cells,w14.heap[k_]? = some (.cells cells q (0,0)))) (Kd.S_bound (Kd.S_lower Tv2.out Z6.out)) (fun k_ h_ => (by obtain ⟨q_,hq_,hr_⟩ := h_.2.2.2;exact ⟨q_,(List.mem_append_left _ (List.mem_append_right _ hq_)),hr_⟩)))
 have Tv3 := Aside0.mk (Kd.R_mono (ok' := (fun k_ => ∃ q,q ∈ ((79 :: (k79).E) ++ (45 :: (k45).E) ++ (2 :: ((Kd.int .i64)).E)) ∧ ∃ cells,w14.heap[k_]? = some (.cells cells q (0,0)))) (Kd.R_bound (Kd.R_lower Tv3.out Z6.out)) (fun k_ h_ => (by obtain ⟨q_,hq_,hr_⟩ := h_.2.2.2;exact ⟨q_,(List.mem_append_right _ hq_),hr_⟩)))
 have hcgg10_0 : w14.cell? ⟨gg,0,none⟩ = some (.bool vb) := (blk_cell BG.out 0).trans rfl
 have hcgg10_1 : w14.cell? ⟨gg,1,none⟩ = some (.slice Av1 v1.length cv1) := (blk_cell BG.out 1).trans rfl
 have hcgg10_2 : w14.cell? ⟨gg,2,none⟩ = some (.slice Av2 v2.length cv2) := (blk_cell BG.out 2).trans rfl
 have hcgg10_3 : w14.cell? ⟨gg,3,none⟩ = some (.slice Av3 v3.length cv3) := (blk_cell BG.out 3).trans rfl
 go_wp2_with ((with_reducible refine gcal_ (f := 18) rfl ?_);refine goesL_ (some 89) rfl rfl Try.func18 (by kernel_rfl) rfl #[.agg #[.bool vb,.slice Av1 v1.length cv1,.slice Av2 v2.length cv2,.slice Av3 v3.length cv3],.int .i64 1] rfl (by (try simp only [List.map_toArray,List.map_cons,List.map_nil]);first|done|rfl) ?_;refine (laws_markMachine.calls k (fun k_ => ∃ q,q ∈ ((79 :: (k79).E) ++ (45 :: (k45).E) ++ (2 :: ((Kd.int .i64)).E)) ∧ ∃ cells,w14.heap[k_]? = some (.cells cells q (0,0))) vb (.slice Av1 v1.length cv1) (.slice Av2 v2.length cv2) (.slice Av3 v3.length cv3) v1 v2 v3 1 q y1 y2 y3 w3b _ G.out Tv1.out Tv2.out Tv3.out F10.out).mono ?_;rintro e w15 ⟨rfl,S1,S2,S3,B,K⟩;refine ⟨_,rfl,?_⟩;refine hold_8 ?_)
 refine ⟨?_⟩
 have BG := Aside0.mk ((K.2 gg (blk_lt BG.out) (fun hs_ => ty_8 ⟨32,List.mem_singleton.2 rfl,_,BG.out⟩ hs_ (by decide))).trans BG.out)
 have G := Aside0.mk B
 have L1 := (Kd.S_reads' S1).1
 have L2 := (Kd.S_reads' S2).1
 have L3 := (Kd.R_reads' S3).1
 rw [L1] at S1 BG
 rw [L2] at S2 BG
 rw [L3] at S3 BG
 clear Tv1 Tv2 Tv3
 have Tv1 := Aside0.mk S1
 have Tv2 := Aside0.mk S2
 have Tv3 := Aside0.mk S3
 clear S1 S2 S3
 clear B K L1 L2 L3
 have hcgg11_0 : w15.cell? ⟨gg,0,none⟩ = some (.bool vb) := (blk_cell BG.out 0).trans rfl
 have hcgg11_1 : w15.cell? ⟨gg,1,none⟩ = some (.slice Av1 y1.length cv1) := (blk_cell BG.out 1).trans rfl
 have hcgg11_2 : w15.cell? ⟨gg,2,none⟩ = some (.slice Av2 y2.length cv2) := (blk_cell BG.out 2).trans rfl
 have hcgg11_3 : w15.cell? ⟨gg,3,none⟩ = some (.slice Av3 y3.length cv3) := (blk_cell BG.out 3).trans rfl
 go_wp2_with ((with_reducible refine gcal_ (f := 30) rfl ?_);refine goesL_ (some 92) rfl rfl Try.func30 (by kernel_rfl) rfl #[.agg #[.bool vb,.slice Av1 y1.length cv1,.slice Av2 y2.length cv2,.slice Av3 y3.length cv3],.int .i64 1] rfl (by (try simp only [List.map_toArray,List.map_cons,List.map_nil]);first|done|rfl) ?_;refine (laws_heldMachine.calls k vb Av1 cv1 y1 Av2 cv2 y2 Av3 cv3 y3 1 q _ (Kd.S_reads' Tv1.out).2.2 (Kd.S_reads' Tv1.out).2.1 (Kd.S_reads' Tv2.out).2.2 (Kd.S_reads' Tv2.out).2.1 (Kd.R_reads' Tv3.out).2.2 (Kd.R_reads' Tv3.out).2.1 F11.out).mono ?_;rintro e w16 ⟨rfl,B⟩;refine ⟨_,rfl,?_⟩;refine hold_8 ?_)
 refine ⟨?_⟩
 have Tv1 := Aside0.mk (Kd.S_below Tv1.out B)
 have Tv2 := Aside0.mk (Kd.S_below Tv2.out B)
 have Tv3 := Aside0.mk (Kd.R_below Tv3.out B)
 have G := Aside0.mk (below_step G.out B)
 have BG := Aside0.mk (blk_below BG.out B)
 clear B
 have D12 := Aside0.mk (below_step D3.out G.out)
 have hcga12_0 : w16.cell? ⟨ga,0,none⟩ = some (.bool a0_0) := (blk_cell (blk_below BA.out D12.out) 0).trans rfl
 have hcga12_1 : w16.cell? ⟨ga,1,none⟩ = some (.slice A0_1 l0_1.length c0_1) := (blk_cell (blk_below BA.out D12.out) 1).trans rfl
 have hcga12_2 : w16.cell? ⟨ga,2,none⟩ = some (.slice A0_2 l0_2.length c0_2) := (blk_cell (blk_below BA.out D12.out) 2).trans rfl
 have hcga12_3 : w16.cell? ⟨ga,3,none⟩ = some (.slice A0_3 l0_3.length c0_3) := (blk_cell (blk_below BA.out D12.out) 3).trans rfl
 go_wp2_with ((with_reducible refine gcal_ (f := 12) rfl ?_);refine goesL_ (some 100) rfl rfl Try.func12 (by kernel_rfl) rfl #[.agg #[.bool a0_0,.slice A0_1 l0_1.length c0_1,.slice A0_2 l0_2.length c0_2,.slice A0_3 l0_3.length c0_3]] rfl (by (try simp only [List.map_toArray,List.map_cons,List.map_nil]);first|done|rfl) ?_;refine (laws_toMachine.calls k a0_0 A0_1 c0_1 l0_1 A0_2 c0_2 l0_2 A0_3 c0_3 l0_3 b p1 p2 p3 _ (Kd.C_below HR1.out D12.out) HC1.out (Kd.C_below HR2.out D12.out) HC2.out (Kd.C_below HR3.out D12.out) HC3.out F1.out).mono ?_;rintro e w17 ⟨vz1,vz2,vz3,rfl,S1,S2,S3,B⟩;refine ⟨_,rfl,?_⟩;refine hold_8 ?_)
 refine ⟨?_⟩
 have Tz1 := Aside0.mk S1
 have Tz2 := Aside0.mk S2
 have Tz3 := Aside0.mk S3
 clear S1 S2 S3
 have Tv1 := Aside0.mk (Kd.S_below Tv1.out B)
 have Tv2 := Aside0.mk (Kd.S_below Tv2.out B)
 have Tv3 := Aside0.mk (Kd.R_below Tv3.out B)
 have G := Aside0.mk (below_step G.out B)
 have BG := Aside0.mk (blk_below BG.out B)
 clear B
 have D12 := Aside0.mk (below_step D3.out G.out)
 obtain ⟨Az1,cz1,ez1⟩ := Kd.S_slice Tz1.out
 subst ez1
 obtain ⟨Az2,cz2,ez2⟩ := Kd.S_slice Tz2.out
 subst ez2
 obtain ⟨Az3,cz3,ez3⟩ := Kd.R_slice Tz3.out
 subst ez3
 go_wp2_with ((with_reducible refine gcal_ (f := 35) rfl ?_);refine goesL_ (some 103) rfl rfl Try.func35 (by kernel_rfl) rfl #[.slice A2 l2.length c2] rfl (by (try simp only [List.map_toArray,List.map_cons,List.map_nil]);first|done|rfl) ?_;refine (laws_toCellS.calls k A2 c2 l2 nc _ (Kd.C_below HR4.out D12.out) HC4.out F2.out).mono ?_;rintro e w18 ⟨vrj,rfl,S,B⟩;refine ⟨_,rfl,?_⟩;refine hold_8 ?_)
 refine ⟨?_⟩
 have Tqj := Aside0.mk S
 clear S
 have Tz1 := Aside0.mk (Kd.S_below Tz1.out B)
 have Tz2 := Aside0.mk (Kd.S_below Tz2.out B)
 have Tz3 := Aside0.mk (Kd.R_below Tz3.out B)
 have Tv1 := Aside0.mk (Kd.S_below Tv1.out B)
 have Tv2 := Aside0.mk (Kd.S_below Tv2.out B)
 have Tv3 := Aside0.mk (Kd.R_below Tv3.out B)
 have G := Aside0.mk (below_step G.out B)
 have BG := Aside0.mk (blk_below BG.out B)
 clear B
 obtain ⟨Arj,crj,erj⟩ := Kd.R_slice Tqj.out
 subst erj
 go_wp2_with ((with_reducible refine gcal_ (f := 36) rfl ?_);refine goesL_ (some 104) rfl rfl Try.func36 (by kernel_rfl) rfl #[.agg #[.bool b,.slice Az1 p1.length cz1,.slice Az2 p2.length cz2,.slice Az3 p3.length cz3],.int .i64 a1,.slice Arj nc.length crj] rfl (by (try simp only [List.map_toArray,List.map_cons,List.map_nil]);first|done|rfl) ?_;refine (impl_Replace.calls k b Az1 cz1 p1 Az2 cz2 p2 Az3 cz3 p3 a1 Arj crj nc vb v1 v2 v3 v4 _ (Kd.S_reads' Tz1.out).2.2 (Kd.S_reads' Tz1.out).2.1 (Kd.S_reads' Tz2.out).2.2 (Kd.S_reads' Tz2.out).2.1 (Kd.R_reads' Tz3.out).2.2 (Kd.R_reads' Tz3.out).2.1 (Kd.R_reads' Tqj.out).2.2 (Kd.R_reads' Tqj.out).2.1 F4.out).mono ?_;rintro e w19 ⟨vh1,vh2,vh3,rfl,S1,S2,S3,B⟩;refine ⟨_,rfl,?_⟩;refine hold_8 ?_)
 refine ⟨?_⟩
 have Th1 := Aside0.mk S1
 have Th2 := Aside0.mk S2
 have Th3 := Aside0.mk S3
 clear S1 S2 S3
 have Tv1 := Aside0.mk (Kd.S_below Tv1.out B)
 have Tv2 := Aside0.mk (Kd.S_below Tv2.out B)
 have Tv3 := Aside0.mk (Kd.R_below Tv3.out B)
 have G := Aside0.mk (below_step G.out B)
 have BG := Aside0.mk (blk_below BG.out B)
 clear B
 clear Tqj
 clear Tz1 Tz2 Tz3
 obtain ⟨Ah1,ch1,eh1⟩ := Kd.S_slice Th1.out
 subst eh1
 obtain ⟨Ah2,ch2,eh2⟩ := Kd.S_slice Th2.out
 subst eh2
 obtain ⟨Ah3,ch3,eh3⟩ := Kd.R_slice Th3.out
 subst eh3
 go_wp2_with ((with_reducible refine gate_dst (N := 17) rfl ?_);refine bx_ 17 #[.bool false,.slice none 0 0,.slice none 0 0,.slice none 0 0] 32 ?_;intro gh hg wf hbox hb;have hge := Aside0.mk (Nat.le_of_eq hg.symm);clear hg;refine hold_8 ?_)
 refine ⟨?_⟩
 have BZ := Aside0.mk hbox
 have Q0 := Aside0.mk hb
 have HGE := hge
 clear hbox hb hge
 have hcghy_0 : wf.cell? ⟨gh,0,none⟩ = some (.bool false) := (blk_cell BZ.out 0).trans rfl
 have hcghy_1 : wf.cell? ⟨gh,1,none⟩ = some (.slice none 0 0) := (blk_cell BZ.out 1).trans rfl
 have hcghy_2 : wf.cell? ⟨gh,2,none⟩ = some (.slice none 0 0) := (blk_cell BZ.out 2).trans rfl
 have hcghy_3 : wf.cell? ⟨gh,3,none⟩ = some (.slice none 0 0) := (blk_cell BZ.out 3).trans rfl
 have hfy_0 := blk_frozen BZ.out 0
 have hfy_1 := blk_frozen BZ.out 1
 have hfy_2 := blk_frozen BZ.out 2
 have hfy_3 := blk_frozen BZ.out 3
 go_upto_region 32 with (fail)
 have n0_ : Aside0 (Below w19.heap.size w19 ((((wf.setCell ⟨gh,0,none⟩ (.bool vb)).setCell ⟨gh,1,none⟩ (.slice Ah1 v1.length ch1)).setCell ⟨gh,2,none⟩ (.slice Ah2 v2.length ch2)).setCell ⟨gh,3,none⟩ (.slice Ah3 v3.length ch3))) := ⟨below_set (below_set (below_set (below_set Q0.out HGE.out) HGE.out) HGE.out) HGE.out⟩
 have n1_ : Aside0 (((((wf.setCell ⟨gh,0,none⟩ (.bool vb)).setCell ⟨gh,1,none⟩ (.slice Ah1 v1.length ch1)).setCell ⟨gh,2,none⟩ (.slice Ah2 v2.length ch2)).setCell ⟨gh,3,none⟩ (.slice Ah3 v3.length ch3)).heap[gh]? = some (.cells #[.bool vb,.slice Ah1 v1.length ch1,.slice Ah2 v2.length ch2,.slice Ah3 v3.length ch3] 32 (0,0))) := ⟨by refine blk_put (cs := #[.bool vb,.slice Ah1 v1.length ch1,.slice Ah2 v2.length ch2,.slice none 0 0]) ?_ 3 _ rfl;refine blk_put (cs := #[.bool vb,.slice Ah1 v1.length ch1,.slice none 0 0,.slice none 0 0]) ?_ 2 _ rfl;refine blk_put (cs := #[.bool vb,.slice none 0 0,.slice none 0 0,.slice none 0 0]) ?_ 1 _ rfl;refine blk_put (cs := #[.bool false,.slice none 0 0,.slice none 0 0,.slice none 0 0]) ?_ 0 _ rfl;exact BZ.out⟩
 clear BZ Q0
 clear hcghy_0 hfy_0 hcghy_1 hfy_1 hcghy_2 hfy_2 hcghy_3 hfy_3
 generalize ((((wf.setCell ⟨gh,0,none⟩ (.bool vb)).setCell ⟨gh,1,none⟩ (.slice Ah1 v1.length ch1)).setCell ⟨gh,2,none⟩ (.slice Ah2 v2.length ch2)).setCell ⟨gh,3,none⟩ (.slice Ah3 v3.length ch3)) = w19b at n0_ n1_ ⊢
 have B := n0_.out
 have BH := n1_
 clear n0_ n1_
 have Tv1 := Aside0.mk (Kd.S_below Tv1.out B)
 have Tv2 := Aside0.mk (Kd.S_below Tv2.out B)
 have Tv3 := Aside0.mk (Kd.R_below Tv3.out B)
 have G := Aside0.mk (below_step G.out B)
 have BG := Aside0.mk (blk_below BG.out B)
 have Th1 := Aside0.mk (Kd.S_below Th1.out B)
 have Th2 := Aside0.mk (Kd.S_below Th2.out B)
 have Th3 := Aside0.mk (Kd.R_below Th3.out B)
 have Tm1 := Aside0.mk (Kd.S_below Tu1.out G.out)
 have Tm2 := Aside0.mk (Kd.S_below Tu2.out G.out)
 have Tm3 := Aside0.mk (Kd.R_below Tu3.out G.out)
 have hcgh13_0 : w19b.cell? ⟨gh,0,none⟩ = some (.bool vb) := (blk_cell BH.out 0).trans rfl
 have hcgh13_1 : w19b.cell? ⟨gh,1,none⟩ = some (.slice Ah1 v1.length ch1) := (blk_cell BH.out 1).trans rfl
 have hcgh13_2 : w19b.cell? ⟨gh,2,none⟩ = some (.slice Ah2 v2.length ch2) := (blk_cell BH.out 2).trans rfl
 have hcgh13_3 : w19b.cell? ⟨gh,3,none⟩ = some (.slice Ah3 v3.length ch3) := (blk_cell BH.out 3).trans rfl
 have hcgw14_0 : w19b.cell? ⟨gw,0,none⟩ = some (.bool ub) := (blk_cell (blk_below BW.out G.out) 0).trans rfl
 have hcgw14_1 : w19b.cell? ⟨gw,1,none⟩ = some (.slice Au1 u1.length cu1) := (blk_cell (blk_below BW.out G.out) 1).trans rfl
 have hcgw14_2 : w19b.cell? ⟨gw,2,none⟩ = some (.slice Au2 u2.length cu2) := (blk_cell (blk_below BW.out G.out) 2).trans rfl
 have hcgw14_3 : w19b.cell? ⟨gw,3,none⟩ = some (.slice Au3 u3.length cu3) := (blk_cell (blk_below BW.out G.out) 3).trans rfl
 clear B
 go_wp2_with ((with_reducible refine gcal_ (f := 14) rfl ?_);refine goesL_ (some 109) rfl rfl Try.func14 (by kernel_rfl) rfl #[.agg #[.bool vb,.slice Ah1 v1.length ch1,.slice Ah2 v2.length ch2,.slice Ah3 v3.length ch3],.agg #[.bool ub,.slice Au1 u1.length cu1,.slice Au2 u2.length cu2,.slice Au3 u3.length cu3]] rfl (by (try simp only [List.map_toArray,List.map_cons,List.map_nil]);first|done|rfl) ?_;refine (laws_eqMachine.calls k vb Ah1 ch1 v1 Ah2 ch2 v2 Ah3 ch3 v3 ub Au1 cu1 u1 Au2 cu2 u2 Au3 cu3 u3 true _ (Kd.S_reads' Th1.out).2.2 (Kd.S_reads' Th1.out).2.1 (Kd.S_reads' Th2.out).2.2 (Kd.S_reads' Th2.out).2.1 (Kd.R_reads' Th3.out).2.2 (Kd.R_reads' Th3.out).2.1 (Kd.S_reads' Tm1.out).2.2 (Kd.S_reads' Tm1.out).2.1 (Kd.S_reads' Tm2.out).2.2 (Kd.S_reads' Tm2.out).2.1 (Kd.R_reads' Tm3.out).2.2 (Kd.R_reads' Tm3.out).2.1 F5.out).mono ?_;rintro e w20 ⟨rfl,B⟩;refine ⟨_,rfl,?_⟩;refine hold_8 ?_)
 refine ⟨?_⟩
 have Tv1 := Aside0.mk (Kd.S_below Tv1.out B)
 have Tv2 := Aside0.mk (Kd.S_below Tv2.out B)
 have Tv3 := Aside0.mk (Kd.R_below Tv3.out B)
 have G := Aside0.mk (below_step G.out B)
 have BG := Aside0.mk (blk_below BG.out B)
 clear B
 have hcgg15_0 : w20.cell? ⟨gg,0,none⟩ = some (.bool vb) := (blk_cell BG.out 0).trans rfl
 have hcgg15_1 : w20.cell? ⟨gg,1,none⟩ = some (.slice Av1 y1.length cv1) := (blk_cell BG.out 1).trans rfl
 have hcgg15_2 : w20.cell? ⟨gg,2,none⟩ = some (.slice Av2 y2.length cv2) := (blk_cell BG.out 2).trans rfl
 have hcgg15_3 : w20.cell? ⟨gg,3,none⟩ = some (.slice Av3 y3.length cv3) := (blk_cell BG.out 3).trans rfl
 go_wp2_with ((with_reducible refine gcal_ (f := 30) rfl ?_);refine goesL_ (some 118) rfl rfl Try.func30 (by kernel_rfl) rfl #[.agg #[.bool vb,.slice Av1 y1.length cv1,.slice Av2 y2.length cv2,.slice Av3 y3.length cv3],.int .i64 1] rfl (by (try simp only [List.map_toArray,List.map_cons,List.map_nil]);first|done|rfl) ?_;refine (laws_heldMachine.calls k vb Av1 cv1 y1 Av2 cv2 y2 Av3 cv3 y3 1 q _ (Kd.S_reads' Tv1.out).2.2 (Kd.S_reads' Tv1.out).2.1 (Kd.S_reads' Tv2.out).2.2 (Kd.S_reads' Tv2.out).2.1 (Kd.R_reads' Tv3.out).2.2 (Kd.R_reads' Tv3.out).2.1 F11.out).mono ?_;rintro e w21 ⟨rfl,B⟩;refine ⟨_,rfl,?_⟩;refine hold_8 ?_)
 refine ⟨?_⟩
 have D16 := Aside0.mk (below_step D0.out (below_step D3.out (below_step G.out B)))
 clear B
 go_wp2
 go_ret
 exact ⟨rfl,D16.out⟩

end Go.Proofs.Ythplaakckfhaaaa.XRp
