/- Proved: of each Go function here that a call comes to what the Lean function of its name tells. Written by a program of this session over the translation. No conditions beyond each theorem's own. -/
import Derived.Test.YthplaakckfhaaaaXLg0
import Derived.Test.YthplaakckfhaaaaXLg1
import Derived.Test.YthplaakckfhaaaaXLg2
import Derived.Test.YthplaakckfhaaaaXLg4
import Derived.Test.YthplaakckfhaaaaXLg5
import Derived.Test.YthplaakckfhaaaaXLg11
import Derived.Test.YthplaakckfhaaaaXLg15
namespace Go.Proofs.Ythplaakckfhaaaa.XLg
open Go.RowKit Go.Proofs.Ythplaakckfhaaaa.Aid Go.Proofs.YthplaakckfhaaaaW.PrintWords Go.Proofs.YthplaakckfhaaaaW.PrintLast Go.Proofs.YthplaakckfhaaaaW.PrintMore
set_option linter.unusedVariables false
set_option linter.unusedSimpArgs false

/-! ### laws_FnExactLogged: function 5 -/
theorem hold_5 {p : Prop} (h : Aside0 p) : p := h.out
theorem ite_some_5 {α : Type} {c : Prop} [Decidable c] {x : Option α} {r : α} (h : (if c then x else none) = some r) : c ∧ x = some r := by
 by_cases hc : c
 ·rw [if_pos hc] at h;exact ⟨hc,h⟩
 ·rw [if_neg hc] at h;cases h
theorem ite_none_5 {α : Type} {c : Prop} [Decidable c] {x : Option α} {r : α} (h : (if c then none else x) = some r) : ¬ c ∧ x = some r := by
 by_cases hc : c
 ·rw [if_pos hc] at h;cases h
 ·rw [if_neg hc] at h;exact ⟨hc,h⟩
def laws_FnExactLogged.f (k : Nat) (a0_0 : Bool) (l0_1 : List (S123)) (l0_2 : List (S53)) (l0_3 : List Int) (a1 : Int) (a2 : Int) (a3 : Int) : Option (Bool) := (laws_szMachine.f k a0_0 l0_1 l0_2 l0_3 1048576).bind fun s => if s < 0 then some true else (laws_toMachine.f k a0_0 l0_1 l0_2 l0_3).bind fun p => (spec_Logged.f k p.1 p.2.1 p.2.2.1 p.2.2.2 a1 a2 a3).bind fun u => (impl_Logged.f k p.1 p.2.1 p.2.2.1 p.2.2.2 a1 a2 a3).bind fun v => (laws_eqRecord.f k v.1 v.2.1 v.2.2.1 v.2.2.2.1 u.1 u.2.1 u.2.2.1 u.2.2.2.1).bind fun e1 => if e1 = true then (if v.2.2.2.2 = u.2.2.2.2 then ((laws_eqMachine.f k p.1 p.2.1 p.2.2.1 p.2.2.2 p.1 p.2.1 p.2.2.1 p.2.2.2).bind fun e2 => if e2 = true then ((laws_markMachine.f k p.2.1 p.2.2.1 p.2.2.2 1).bind fun mx => if mx < 0 then none else ((laws_markRecord.f k v.1 v.2.1 v.2.2.1 v.2.2.2.1 1).bind fun m => (laws_heldRecord.f k v.1 v.2.1 v.2.2.1 m.2 1).bind fun q => if q < 0 then none else if q = m.1 then some true else none)) else none) else none) else none
set_option maxHeartbeats 8000000 in
set_option maxRecDepth 100000 in
theorem laws_FnExactLogged.calls (k : Nat) (a0_0 : Bool) (A0_1 : Option Addr) (c0_1 : Nat) (l0_1 : List (S123)) (A0_2 : Option Addr) (c0_2 : Nat) (l0_2 : List (S53)) (A0_3 : Option Addr) (c0_3 : Nat) (l0_3 : List Int) (a1 : Int) (a2 : Int) (a3 : Int) (r : Bool) (w : World) (hr0_1 : Kd.C k123 w A0_1 l0_1.length l0_1) (hc0_1 : l0_1.length ≤ c0_1) (hr0_2 : Kd.C k53 w A0_2 l0_2.length l0_2) (hc0_2 : l0_2.length ≤ c0_2) (hr0_3 : Kd.C (Kd.int .i64) w A0_3 l0_3.length l0_3) (hc0_3 : l0_3.length ≤ c0_3) (h : laws_FnExactLogged.f k a0_0 l0_1 l0_2 l0_3 a1 a2 a3 = some r) :
    Calls Try.prog 5 #[.agg #[.bool a0_0, .slice A0_1 l0_1.length c0_1, .slice A0_2 l0_2.length c0_2, .slice A0_3 l0_3.length c0_3], .int .i64 a1, .int .i64 a2, .int .i64 a3] w fun e w' => e = .returned (.bool r) ∧ Below w.heap.size w w' := by
 have hu1 := Try.underlying26
 have hu2 := Try.underlying32
 have hu3 := Try.underlying45
 have HR1 := Aside0.mk hr0_1
 have HC1 := Aside0.mk hc0_1
 have HR2 := Aside0.mk hr0_2
 have HC2 := Aside0.mk hc0_2
 have HR3 := Aside0.mk hr0_3
 have HC3 := Aside0.mk hc0_3
 clear hr0_1 hc0_1 hr0_2 hc0_2 hr0_3 hc0_3
 obtain ⟨s,E0,h1⟩ := Option.bind_eq_some_iff.1 h
 clear h
 have H2 := Aside0.mk h1
 have F0 := Aside0.mk E0
 clear h1 E0
 go_enter Try.func5,Try.ntmps5
 go_wp2_with ((with_reducible refine gate_dst (N := 4) rfl ?_);refine box_event ?hg (N := 4) ?hd (cs := #[.bool a0_0,.slice A0_1 l0_1.length c0_1,.slice A0_2 l0_2.length c0_2,.slice A0_3 l0_3.length c0_3]) (t := 26) ?hr ?_;(case hd => rfl);(case hg => rfl);(case hr => first|(go_simp;done)|(go_simp;rfl));intro ga hg wb hbox hb;have hge := Aside0.mk (Nat.le_of_eq hg.symm);clear hg;refine hold_5 ?_)
 refine ⟨?_⟩
 have BA := Aside0.mk hbox
 have D0 := Aside0.mk hb
 have HR1 := Aside0.mk (Kd.C_below HR1.out hb)
 have HR2 := Aside0.mk (Kd.C_below HR2.out hb)
 have HR3 := Aside0.mk (Kd.C_below HR3.out hb)
 clear hbox hb hge
 have hcga1_0 : wb.cell? ⟨ga,0,none⟩ = some (.bool a0_0) := (blk_cell BA.out 0).trans rfl
 have hcga1_1 : wb.cell? ⟨ga,1,none⟩ = some (.slice A0_1 l0_1.length c0_1) := (blk_cell BA.out 1).trans rfl
 have hcga1_2 : wb.cell? ⟨ga,2,none⟩ = some (.slice A0_2 l0_2.length c0_2) := (blk_cell BA.out 2).trans rfl
 have hcga1_3 : wb.cell? ⟨ga,3,none⟩ = some (.slice A0_3 l0_3.length c0_3) := (blk_cell BA.out 3).trans rfl
 go_wp2_with ((with_reducible refine gcal_ (f := 10) rfl ?_);refine goesL_ (some 22) rfl rfl Try.func10 (by kernel_rfl) rfl #[.agg #[.bool a0_0,.slice A0_1 l0_1.length c0_1,.slice A0_2 l0_2.length c0_2,.slice A0_3 l0_3.length c0_3],.int .i64 1048576] rfl (by (try simp only [List.map_toArray,List.map_cons,List.map_nil]);first|done|rfl) ?_;refine (laws_szMachine.calls k a0_0 A0_1 c0_1 l0_1 A0_2 c0_2 l0_2 A0_3 c0_3 l0_3 1048576 s _ HR1.out HC1.out HR2.out HC2.out HR3.out HC3.out F0.out).mono ?_;rintro e w1 ⟨rfl,B⟩;refine ⟨_,rfl,?_⟩;refine hold_5 ?_)
 refine ⟨?_⟩
 have D1 := Aside0.mk B
 clear B
 by_cases hs : s < 0
 ·have h1 := H2.out;rw [if_pos hs] at h1;obtain rfl := Option.some.inj h1;clear h1 H2;go_wp2;go_ret;exact ⟨rfl,below_step D0.out D1.out⟩
 have h2 := H2.out
 rw [if_neg hs] at h2
 clear H2
 obtain ⟨⟨b,p1,p2,p3⟩,E1,h3⟩ := Option.bind_eq_some_iff.1 h2
 clear h2
 obtain ⟨⟨u1,u2,u3,u4,u5⟩,E2,h4⟩ := Option.bind_eq_some_iff.1 h3
 clear h3
 obtain ⟨⟨v1,v2,v3,v4,v5⟩,E3,h5⟩ := Option.bind_eq_some_iff.1 h4
 clear h4
 obtain ⟨e1,E4,h6⟩ := Option.bind_eq_some_iff.1 h5
 clear h5
 obtain ⟨he1,h7⟩ := ite_some_5 h6
 clear h6
 subst he1
 obtain ⟨hv,h8⟩ := ite_some_5 h7
 clear h7
 replace hv : v5 = u5 := hv
 subst hv
 obtain ⟨e2,E5,h9⟩ := Option.bind_eq_some_iff.1 h8
 clear h8
 obtain ⟨he2,h10⟩ := ite_some_5 h9
 clear h9
 subst he2
 obtain ⟨mx,E6,h11⟩ := Option.bind_eq_some_iff.1 h10
 clear h10
 obtain ⟨hmx,h12⟩ := ite_none_5 h11
 clear h11
 obtain ⟨⟨m,y⟩,E7,h13⟩ := Option.bind_eq_some_iff.1 h12
 clear h12
 obtain ⟨q,E8,h14⟩ := Option.bind_eq_some_iff.1 h13
 clear h13
 obtain ⟨hq,h15⟩ := ite_none_5 h14
 clear h14
 obtain ⟨hqm,h16⟩ := ite_some_5 h15
 clear h15
 replace hqm : q = m := hqm
 subst hqm
 obtain rfl := Option.some.inj h16
 clear h16
 have F1 := Aside0.mk E1
 have F2 := Aside0.mk E2
 have F3 := Aside0.mk E3
 have F4 := Aside0.mk E4
 have F5 := Aside0.mk E5
 have F6 := Aside0.mk E6
 have F7 := Aside0.mk E7
 have F8 := Aside0.mk E8
 replace hmx : ¬ mx < 0 := hmx
 have fmx : 0 ≤ mx := Int.not_lt.1 hmx
 have fq : 0 ≤ q := Int.not_lt.1 hq
 clear E1 E2 E3 E4 E5 E6 E7 E8 hmx hq
 have hcga2_0 : w1.cell? ⟨ga,0,none⟩ = some (.bool a0_0) := (blk_cell (blk_below BA.out D1.out) 0).trans rfl
 have hcga2_1 : w1.cell? ⟨ga,1,none⟩ = some (.slice A0_1 l0_1.length c0_1) := (blk_cell (blk_below BA.out D1.out) 1).trans rfl
 have hcga2_2 : w1.cell? ⟨ga,2,none⟩ = some (.slice A0_2 l0_2.length c0_2) := (blk_cell (blk_below BA.out D1.out) 2).trans rfl
 have hcga2_3 : w1.cell? ⟨ga,3,none⟩ = some (.slice A0_3 l0_3.length c0_3) := (blk_cell (blk_below BA.out D1.out) 3).trans rfl
 go_wp2_with ((with_reducible refine gcal_ (f := 12) rfl ?_);refine goesL_ (some 27) rfl rfl Try.func12 (by kernel_rfl) rfl #[.agg #[.bool a0_0,.slice A0_1 l0_1.length c0_1,.slice A0_2 l0_2.length c0_2,.slice A0_3 l0_3.length c0_3]] rfl (by (try simp only [List.map_toArray,List.map_cons,List.map_nil]);first|done|rfl) ?_;refine (laws_toMachine.calls k a0_0 A0_1 c0_1 l0_1 A0_2 c0_2 l0_2 A0_3 c0_3 l0_3 b p1 p2 p3 _ (Kd.C_below HR1.out D1.out) HC1.out (Kd.C_below HR2.out D1.out) HC2.out (Kd.C_below HR3.out D1.out) HC3.out F1.out).mono ?_;rintro e w2 ⟨va1,va2,va3,rfl,S1,S2,S3,B⟩;refine ⟨_,rfl,?_⟩;refine hold_5 ?_)
 refine ⟨?_⟩
 have Ta1 := Aside0.mk S1
 have Ta2 := Aside0.mk S2
 have Ta3 := Aside0.mk S3
 clear S1 S2 S3
 have D2 := Aside0.mk (below_step D1.out B)
 clear B
 obtain ⟨Aa1,ca1,ea1⟩ := Kd.S_slice Ta1.out
 subst ea1
 obtain ⟨Aa2,ca2,ea2⟩ := Kd.S_slice Ta2.out
 subst ea2
 obtain ⟨Aa3,ca3,ea3⟩ := Kd.R_slice Ta3.out
 subst ea3
 go_wp2_with ((with_reducible refine gcal_ (f := 21) rfl ?_);refine goesL_ (some 31) rfl rfl Try.func21 (by kernel_rfl) rfl #[.agg #[.bool b,.slice Aa1 p1.length ca1,.slice Aa2 p2.length ca2,.slice Aa3 p3.length ca3],.int .i64 a1,.int .i64 a2,.int .i64 a3] rfl (by (try simp only [List.map_toArray,List.map_cons,List.map_nil]);first|done|rfl) ?_;refine (spec_Logged.calls k b Aa1 ca1 p1 Aa2 ca2 p2 Aa3 ca3 p3 a1 a2 a3 u1 u2 u3 u4 v5 _ (Kd.S_reads' Ta1.out).2.2 (Kd.S_reads' Ta1.out).2.1 (Kd.S_reads' Ta2.out).2.2 (Kd.S_reads' Ta2.out).2.1 (Kd.R_reads' Ta3.out).2.2 (Kd.R_reads' Ta3.out).2.1 F2.out).mono ?_;rintro e w3 ⟨vu,rfl,S,B⟩;refine ⟨_,rfl,?_⟩;refine hold_5 ?_)
 refine ⟨?_⟩
 have U := Aside0.mk S
 have D3 := Aside0.mk (below_step D2.out B)
 clear S B Ta1 Ta2 Ta3
 obtain ⟨Avu,cvu,evu⟩ := Kd.R_slice U.out
 subst evu
 go_wp2_with ((with_reducible refine gate_dst (N := 10) rfl ?_);refine box_event ?hg (N := 10) ?hd (cs := #[.int .i64 0,.int .i64 0,.int .i64 0,.slice none 0 0]) (t := 45) ?hr ?_;(case hd => rfl);(case hg => rfl);(case hr => first|(go_simp;done)|(go_simp;rfl));intro gw hg wd hbox hb;have hge := Aside0.mk (Nat.le_of_eq hg.symm);clear hg;refine hold_5 ?_)
 refine ⟨?_⟩
 have BZ := Aside0.mk hbox
 have Q0 := Aside0.mk hb
 have HGE := hge
 clear hbox hb hge
 have hcy_0 : wd.cell? ⟨gw,0,none⟩ = some (.int .i64 0) := (blk_cell BZ.out 0).trans rfl
 have hcy_1 : wd.cell? ⟨gw,1,none⟩ = some (.int .i64 0) := (blk_cell BZ.out 1).trans rfl
 have hcy_2 : wd.cell? ⟨gw,2,none⟩ = some (.int .i64 0) := (blk_cell BZ.out 2).trans rfl
 have hcy_3 : wd.cell? ⟨gw,3,none⟩ = some (.slice none 0 0) := (blk_cell BZ.out 3).trans rfl
 have hfy_0 := blk_frozen BZ.out 0
 have hfy_1 := blk_frozen BZ.out 1
 have hfy_2 := blk_frozen BZ.out 2
 have hfy_3 := blk_frozen BZ.out 3
 go_upto_region 6 with (fail)
 have n0_ : Aside0 (Below w3.heap.size w3 ((((wd.setCell ⟨gw,0,none⟩ (.int .i64 u1)).setCell ⟨gw,1,none⟩ (.int .i64 u2)).setCell ⟨gw,2,none⟩ (.int .i64 u3)).setCell ⟨gw,3,none⟩ (.slice Avu u4.length cvu))) := ⟨below_set (below_set (below_set (below_set Q0.out HGE.out) HGE.out) HGE.out) HGE.out⟩
 have n1_ : Aside0 (((((wd.setCell ⟨gw,0,none⟩ (.int .i64 u1)).setCell ⟨gw,1,none⟩ (.int .i64 u2)).setCell ⟨gw,2,none⟩ (.int .i64 u3)).setCell ⟨gw,3,none⟩ (.slice Avu u4.length cvu)).heap[gw]? = some (.cells #[.int .i64 u1,.int .i64 u2,.int .i64 u3,.slice Avu u4.length cvu] 45 (0,0))) := ⟨by refine blk_put (cs := #[.int .i64 u1,.int .i64 u2,.int .i64 u3,.slice none 0 0]) ?_ 3 _ rfl;refine blk_put (cs := #[.int .i64 u1,.int .i64 u2,.int .i64 0,.slice none 0 0]) ?_ 2 _ rfl;refine blk_put (cs := #[.int .i64 u1,.int .i64 0,.int .i64 0,.slice none 0 0]) ?_ 1 _ rfl;refine blk_put (cs := #[.int .i64 0,.int .i64 0,.int .i64 0,.slice none 0 0]) ?_ 0 _ rfl;exact BZ.out⟩
 clear BZ Q0
 clear hcy_0 hfy_0 hcy_1 hfy_1 hcy_2 hfy_2 hcy_3 hfy_3
 generalize ((((wd.setCell ⟨gw,0,none⟩ (.int .i64 u1)).setCell ⟨gw,1,none⟩ (.int .i64 u2)).setCell ⟨gw,2,none⟩ (.int .i64 u3)).setCell ⟨gw,3,none⟩ (.slice Avu u4.length cvu)) = w3b at n0_ n1_ ⊢
 have B := n0_.out
 have BW := n1_
 clear n0_ n1_
 have U := Aside0.mk (Kd.R_below U.out B)
 have D3 := Aside0.mk (below_step D3.out B)
 have hcga3_0 : w3b.cell? ⟨ga,0,none⟩ = some (.bool a0_0) := (blk_cell (blk_below BA.out D3.out) 0).trans rfl
 have hcga3_1 : w3b.cell? ⟨ga,1,none⟩ = some (.slice A0_1 l0_1.length c0_1) := (blk_cell (blk_below BA.out D3.out) 1).trans rfl
 have hcga3_2 : w3b.cell? ⟨ga,2,none⟩ = some (.slice A0_2 l0_2.length c0_2) := (blk_cell (blk_below BA.out D3.out) 2).trans rfl
 have hcga3_3 : w3b.cell? ⟨ga,3,none⟩ = some (.slice A0_3 l0_3.length c0_3) := (blk_cell (blk_below BA.out D3.out) 3).trans rfl
 clear B
 go_wp2_with ((with_reducible refine gcal_ (f := 12) rfl ?_);refine goesL_ (some 35) rfl rfl Try.func12 (by kernel_rfl) rfl #[.agg #[.bool a0_0,.slice A0_1 l0_1.length c0_1,.slice A0_2 l0_2.length c0_2,.slice A0_3 l0_3.length c0_3]] rfl (by (try simp only [List.map_toArray,List.map_cons,List.map_nil]);first|done|rfl) ?_;refine (laws_toMachine.calls k a0_0 A0_1 c0_1 l0_1 A0_2 c0_2 l0_2 A0_3 c0_3 l0_3 b p1 p2 p3 _ (Kd.C_below HR1.out D3.out) HC1.out (Kd.C_below HR2.out D3.out) HC2.out (Kd.C_below HR3.out D3.out) HC3.out F1.out).mono ?_;rintro e w4 ⟨vx1,vx2,vx3,rfl,S1,S2,S3,B⟩;refine ⟨_,rfl,?_⟩;refine hold_5 ?_)
 refine ⟨?_⟩
 have Tx1 := Aside0.mk S1
 have Tx2 := Aside0.mk S2
 have Tx3 := Aside0.mk S3
 clear S1 S2 S3
 have G := Aside0.mk B
 clear B
 obtain ⟨Ax1,cx1,ex1⟩ := Kd.S_slice Tx1.out
 subst ex1
 obtain ⟨Ax2,cx2,ex2⟩ := Kd.S_slice Tx2.out
 subst ex2
 obtain ⟨Ax3,cx3,ex3⟩ := Kd.R_slice Tx3.out
 subst ex3
 go_wp2_with ((with_reducible refine gate_dst (N := 12) rfl ?_);refine box_event ?hg (N := 12) ?hd (cs := #[.bool false,.slice none 0 0,.slice none 0 0,.slice none 0 0]) (t := 32) ?hr ?_;(case hd => rfl);(case hg => rfl);(case hr => first|(go_simp;done)|(go_simp;rfl));intro gx hg wc hbox hb;have hge := Aside0.mk (Nat.le_of_eq hg.symm);clear hg;refine hold_5 ?_)
 refine ⟨?_⟩
 have BZ := Aside0.mk hbox
 have Q0 := Aside0.mk hb
 have HGE := hge
 clear hbox hb hge
 have hcy_0 : wc.cell? ⟨gx,0,none⟩ = some (.bool false) := (blk_cell BZ.out 0).trans rfl
 have hcy_1 : wc.cell? ⟨gx,1,none⟩ = some (.slice none 0 0) := (blk_cell BZ.out 1).trans rfl
 have hcy_2 : wc.cell? ⟨gx,2,none⟩ = some (.slice none 0 0) := (blk_cell BZ.out 2).trans rfl
 have hcy_3 : wc.cell? ⟨gx,3,none⟩ = some (.slice none 0 0) := (blk_cell BZ.out 3).trans rfl
 have hfy_0 := blk_frozen BZ.out 0
 have hfy_1 := blk_frozen BZ.out 1
 have hfy_2 := blk_frozen BZ.out 2
 have hfy_3 := blk_frozen BZ.out 3
 go_upto_region 7 with (fail)
 have n0_ : Aside0 (Below w4.heap.size w4 ((((wc.setCell ⟨gx,0,none⟩ (.bool b)).setCell ⟨gx,1,none⟩ (.slice Ax1 p1.length cx1)).setCell ⟨gx,2,none⟩ (.slice Ax2 p2.length cx2)).setCell ⟨gx,3,none⟩ (.slice Ax3 p3.length cx3))) := ⟨below_set (below_set (below_set (below_set Q0.out HGE.out) HGE.out) HGE.out) HGE.out⟩
 have n1_ : Aside0 (((((wc.setCell ⟨gx,0,none⟩ (.bool b)).setCell ⟨gx,1,none⟩ (.slice Ax1 p1.length cx1)).setCell ⟨gx,2,none⟩ (.slice Ax2 p2.length cx2)).setCell ⟨gx,3,none⟩ (.slice Ax3 p3.length cx3)).heap[gx]? = some (.cells #[.bool b,.slice Ax1 p1.length cx1,.slice Ax2 p2.length cx2,.slice Ax3 p3.length cx3] 32 (0,0))) := ⟨by refine blk_put (cs := #[.bool b,.slice Ax1 p1.length cx1,.slice Ax2 p2.length cx2,.slice none 0 0]) ?_ 3 _ rfl;refine blk_put (cs := #[.bool b,.slice Ax1 p1.length cx1,.slice none 0 0,.slice none 0 0]) ?_ 2 _ rfl;refine blk_put (cs := #[.bool b,.slice none 0 0,.slice none 0 0,.slice none 0 0]) ?_ 1 _ rfl;refine blk_put (cs := #[.bool false,.slice none 0 0,.slice none 0 0,.slice none 0 0]) ?_ 0 _ rfl;exact BZ.out⟩
 clear BZ Q0
 clear hcy_0 hfy_0 hcy_1 hfy_1 hcy_2 hfy_2 hcy_3 hfy_3
 generalize ((((wc.setCell ⟨gx,0,none⟩ (.bool b)).setCell ⟨gx,1,none⟩ (.slice Ax1 p1.length cx1)).setCell ⟨gx,2,none⟩ (.slice Ax2 p2.length cx2)).setCell ⟨gx,3,none⟩ (.slice Ax3 p3.length cx3)) = w4c at n0_ n1_ ⊢
 have B := n0_.out
 have BX := n1_
 clear n0_ n1_
 have Tx1 := Aside0.mk (Kd.S_mono (ok' := fun k_ => True ∧ k_ < w4.heap.size) (Kd.S_below (Kd.S_bound Tx1.out) B) (fun _ h_ => ⟨h_.1,h_.2.2.1⟩))
 have Tx2 := Aside0.mk (Kd.S_mono (ok' := fun k_ => True ∧ k_ < w4.heap.size) (Kd.S_below (Kd.S_bound Tx2.out) B) (fun _ h_ => ⟨h_.1,h_.2.2.1⟩))
 have Tx3 := Aside0.mk (Kd.R_mono (ok' := fun k_ => True ∧ k_ < w4.heap.size) (Kd.R_below (Kd.R_bound Tx3.out) B) (fun _ h_ => ⟨h_.1,h_.2.2.1⟩))
 have G := Aside0.mk (below_step G.out B)
 have Z4 := Aside0.mk G.out.size
 have Z44 := Aside0.mk B.size
 have hcgx4_0 : w4c.cell? ⟨gx,0,none⟩ = some (.bool b) := (blk_cell BX.out 0).trans rfl
 have hcgx4_1 : w4c.cell? ⟨gx,1,none⟩ = some (.slice Ax1 p1.length cx1) := (blk_cell BX.out 1).trans rfl
 have hcgx4_2 : w4c.cell? ⟨gx,2,none⟩ = some (.slice Ax2 p2.length cx2) := (blk_cell BX.out 2).trans rfl
 have hcgx4_3 : w4c.cell? ⟨gx,3,none⟩ = some (.slice Ax3 p3.length cx3) := (blk_cell BX.out 3).trans rfl
 clear B
 go_wp2_with ((with_reducible refine gcal_ (f := 22) rfl ?_);refine goesL_ (some 41) rfl rfl Try.func22 (by kernel_rfl) rfl #[.agg #[.bool b,.slice Ax1 p1.length cx1,.slice Ax2 p2.length cx2,.slice Ax3 p3.length cx3],.int .i64 a1,.int .i64 a2,.int .i64 a3] rfl (by (try simp only [List.map_toArray,List.map_cons,List.map_nil]);first|done|rfl) ?_;refine (impl_Logged.calls k b Ax1 cx1 p1 Ax2 cx2 p2 Ax3 cx3 p3 a1 a2 a3 v1 v2 v3 v4 v5 _ (Kd.S_reads' Tx1.out).2.2 (Kd.S_reads' Tx1.out).2.1 (Kd.S_reads' Tx2.out).2.2 (Kd.S_reads' Tx2.out).2.1 (Kd.R_reads' Tx3.out).2.2 (Kd.R_reads' Tx3.out).2.1 F3.out).mono ?_;rintro e w5 ⟨vv,rfl,S,B⟩;refine ⟨_,rfl,?_⟩;refine hold_5 ?_)
 refine ⟨?_⟩
 have V := Aside0.mk S
 have Tx1 := Aside0.mk (Kd.S_below Tx1.out B)
 have Tx2 := Aside0.mk (Kd.S_below Tx2.out B)
 have Tx3 := Aside0.mk (Kd.R_below Tx3.out B)
 have G := Aside0.mk (below_step G.out B)
 have BX := Aside0.mk (blk_below BX.out B)
 have Z5 := Aside0.mk (Nat.le_trans Z44.out B.size)
 clear S B
 obtain ⟨Avv,cvv,evv⟩ := Kd.R_slice V.out
 subst evv
 go_wp2_with ((with_reducible refine gate_dst (N := 13) rfl ?_);refine box_event ?hg (N := 13) ?hd (cs := #[.int .i64 0,.int .i64 0,.int .i64 0,.slice none 0 0]) (t := 45) ?hr ?_;(case hd => rfl);(case hg => rfl);(case hr => first|(go_simp;done)|(go_simp;rfl));intro gg hg we hbox hb;have hge := Aside0.mk (Nat.le_of_eq hg.symm);clear hg;refine hold_5 ?_)
 refine ⟨?_⟩
 have BZ := Aside0.mk hbox
 have Q0 := Aside0.mk hb
 have HGE := hge
 clear hbox hb hge
 have hcy_0 : we.cell? ⟨gg,0,none⟩ = some (.int .i64 0) := (blk_cell BZ.out 0).trans rfl
 have hcy_1 : we.cell? ⟨gg,1,none⟩ = some (.int .i64 0) := (blk_cell BZ.out 1).trans rfl
 have hcy_2 : we.cell? ⟨gg,2,none⟩ = some (.int .i64 0) := (blk_cell BZ.out 2).trans rfl
 have hcy_3 : we.cell? ⟨gg,3,none⟩ = some (.slice none 0 0) := (blk_cell BZ.out 3).trans rfl
 have hfy_0 := blk_frozen BZ.out 0
 have hfy_1 := blk_frozen BZ.out 1
 have hfy_2 := blk_frozen BZ.out 2
 have hfy_3 := blk_frozen BZ.out 3
 go_upto_region 8 with (fail)
 have n0_ : Aside0 (Below w5.heap.size w5 ((((we.setCell ⟨gg,0,none⟩ (.int .i64 v1)).setCell ⟨gg,1,none⟩ (.int .i64 v2)).setCell ⟨gg,2,none⟩ (.int .i64 v3)).setCell ⟨gg,3,none⟩ (.slice Avv v4.length cvv))) := ⟨below_set (below_set (below_set (below_set Q0.out HGE.out) HGE.out) HGE.out) HGE.out⟩
 have n1_ : Aside0 (((((we.setCell ⟨gg,0,none⟩ (.int .i64 v1)).setCell ⟨gg,1,none⟩ (.int .i64 v2)).setCell ⟨gg,2,none⟩ (.int .i64 v3)).setCell ⟨gg,3,none⟩ (.slice Avv v4.length cvv)).heap[gg]? = some (.cells #[.int .i64 v1,.int .i64 v2,.int .i64 v3,.slice Avv v4.length cvv] 45 (0,0))) := ⟨by refine blk_put (cs := #[.int .i64 v1,.int .i64 v2,.int .i64 v3,.slice none 0 0]) ?_ 3 _ rfl;refine blk_put (cs := #[.int .i64 v1,.int .i64 v2,.int .i64 0,.slice none 0 0]) ?_ 2 _ rfl;refine blk_put (cs := #[.int .i64 v1,.int .i64 0,.int .i64 0,.slice none 0 0]) ?_ 1 _ rfl;refine blk_put (cs := #[.int .i64 0,.int .i64 0,.int .i64 0,.slice none 0 0]) ?_ 0 _ rfl;exact BZ.out⟩
 clear BZ Q0
 clear hcy_0 hfy_0 hcy_1 hfy_1 hcy_2 hfy_2 hcy_3 hfy_3
 generalize ((((we.setCell ⟨gg,0,none⟩ (.int .i64 v1)).setCell ⟨gg,1,none⟩ (.int .i64 v2)).setCell ⟨gg,2,none⟩ (.int .i64 v3)).setCell ⟨gg,3,none⟩ (.slice Avv v4.length cvv)) = w5b at n0_ n1_ ⊢
 have B := n0_.out
 have BG := n1_
 clear n0_ n1_
 have Tx1 := Aside0.mk (Kd.S_below Tx1.out B)
 have Tx2 := Aside0.mk (Kd.S_below Tx2.out B)
 have Tx3 := Aside0.mk (Kd.R_below Tx3.out B)
 have V := Aside0.mk (Kd.R_below V.out B)
 have G := Aside0.mk (below_step G.out B)
 have BX := Aside0.mk (blk_below BX.out B)
 have GG4 := Aside0.mk (Nat.le_trans Z5.out HGE.out)
 have U5 := Aside0.mk (Kd.R_below U.out G.out)
 have hcgg5_0 : w5b.cell? ⟨gg,0,none⟩ = some (.int .i64 v1) := (blk_cell BG.out 0).trans rfl
 have hcgg5_1 : w5b.cell? ⟨gg,1,none⟩ = some (.int .i64 v2) := (blk_cell BG.out 1).trans rfl
 have hcgg5_2 : w5b.cell? ⟨gg,2,none⟩ = some (.int .i64 v3) := (blk_cell BG.out 2).trans rfl
 have hcgg5_3 : w5b.cell? ⟨gg,3,none⟩ = some (.slice Avv v4.length cvv) := (blk_cell BG.out 3).trans rfl
 have hcgw6_0 : w5b.cell? ⟨gw,0,none⟩ = some (.int .i64 u1) := (blk_cell (blk_below BW.out G.out) 0).trans rfl
 have hcgw6_1 : w5b.cell? ⟨gw,1,none⟩ = some (.int .i64 u2) := (blk_cell (blk_below BW.out G.out) 1).trans rfl
 have hcgw6_2 : w5b.cell? ⟨gw,2,none⟩ = some (.int .i64 u3) := (blk_cell (blk_below BW.out G.out) 2).trans rfl
 have hcgw6_3 : w5b.cell? ⟨gw,3,none⟩ = some (.slice Avu u4.length cvu) := (blk_cell (blk_below BW.out G.out) 3).trans rfl
 clear B
 go_wp2_with ((with_reducible refine gcal_ (f := 23) rfl ?_);refine goesL_ (some 46) rfl rfl Try.func23 (by kernel_rfl) rfl #[.agg #[.int .i64 v1,.int .i64 v2,.int .i64 v3,.slice Avv v4.length cvv],.agg #[.int .i64 u1,.int .i64 u2,.int .i64 u3,.slice Avu u4.length cvu]] rfl (by (try simp only [List.map_toArray,List.map_cons,List.map_nil]);first|done|rfl) ?_;refine (laws_eqRecord.calls k v1 v2 v3 Avv cvv v4 u1 u2 u3 Avu cvu u4 true _ (Kd.R_reads' V.out).2.2 (Kd.R_reads' V.out).2.1 (Kd.R_reads' U5.out).2.2 (Kd.R_reads' U5.out).2.1 F4.out).mono ?_;rintro e w6 ⟨rfl,B⟩;refine ⟨_,rfl,?_⟩;refine hold_5 ?_)
 refine ⟨?_⟩
 have Tx1 := Aside0.mk (Kd.S_below Tx1.out B)
 have Tx2 := Aside0.mk (Kd.S_below Tx2.out B)
 have Tx3 := Aside0.mk (Kd.R_below Tx3.out B)
 have V := Aside0.mk (Kd.R_below V.out B)
 have G := Aside0.mk (below_step G.out B)
 have BX := Aside0.mk (blk_below BX.out B)
 have BG := Aside0.mk (blk_below BG.out B)
 clear B
 go_upto_region 10 with (fail)
 have B : Below w6.heap.size w6 w6.drew := below_drew1 (Below.refl _ _)
 have Tx1 := Aside0.mk (Kd.S_below Tx1.out B)
 have Tx2 := Aside0.mk (Kd.S_below Tx2.out B)
 have Tx3 := Aside0.mk (Kd.R_below Tx3.out B)
 have V := Aside0.mk (Kd.R_below V.out B)
 have G := Aside0.mk (below_step G.out B)
 have BX := Aside0.mk (blk_below BX.out B)
 have BG := Aside0.mk (blk_below BG.out B)
 clear B
 have D6 := Aside0.mk (below_step D3.out G.out)
 refine start_ (n := 5) (S := fun w' => w'.cell? ⟨gx,0,none⟩ = some (.bool b) ∧ w'.cell? ⟨gx,1,none⟩ = some (.slice Ax1 p1.length cx1) ∧ w'.cell? ⟨gx,2,none⟩ = some (.slice Ax2 p2.length cx2) ∧ w'.cell? ⟨gx,3,none⟩ = some (.slice Ax3 p3.length cx3) ∧ w'.cell? ⟨ga,0,none⟩ = some (.bool a0_0) ∧ w'.cell? ⟨ga,1,none⟩ = some (.slice A0_1 l0_1.length c0_1) ∧ w'.cell? ⟨ga,2,none⟩ = some (.slice A0_2 l0_2.length c0_2) ∧ w'.cell? ⟨ga,3,none⟩ = some (.slice A0_3 l0_3.length c0_3)) (ds := []) #[false,false,false,false,false] (by kernel_rfl) rfl rfl ⟨(blk_cell BX.out 0).trans rfl,(blk_cell BX.out 1).trans rfl,(blk_cell BX.out 2).trans rfl,(blk_cell BX.out 3).trans rfl,(blk_cell (blk_below BA.out D6.out) 0).trans rfl,(blk_cell (blk_below BA.out D6.out) 1).trans rfl,(blk_cell (blk_below BA.out D6.out) 2).trans rfl,(blk_cell (blk_below BA.out D6.out) 3).trans rfl⟩ (fun hHeld => ?_)
 generalize w6.drew = w6d at Tx1 Tx2 Tx3 V G BX BG D6 hHeld ⊢
 refine take_ (i := 0) (N := some 53) (v := ?_) (a' := ?_) #[true,false,false,false,false] rfl rfl (by kernel_rfl) (fun _ _ _ h => h) (Or.inl ⟨by rfl,?_⟩) hHeld ?_ ?_
 rotate_left
 ·rintro w' ⟨s0,s1,s2,s3,s4,s5,s6,s7⟩
  go_simp
  with_reducible rfl
 rotate_left
 ·simp only [Act.put,q1,q2,q3,i64_w,i32_w]
  rfl
 refine take_ (i := 1) (N := some 54) (v := ?_) (a' := ?_) #[true,true,false,false,false] rfl rfl (by kernel_rfl) (fun _ _ _ h => h) (Or.inl ⟨by rfl,?_⟩) hHeld ?_ ?_
 rotate_left
 ·rintro w' ⟨s0,s1,s2,s3,s4,s5,s6,s7⟩
  go_simp
  with_reducible rfl
 rotate_left
 ·simp only [Act.put,q1,q2,q3,i64_w,i32_w]
  rfl
 refine one_ (i := 2) (N := some 55) #[true,true,true,false,false] rfl rfl (by kernel_rfl) (by decide) (fun K hK => ?_)
 refine goes_ Try.func12 (by kernel_rfl) rfl #[.agg #[.bool a0_0,.slice A0_1 l0_1.length c0_1,.slice A0_2 l0_2.length c0_2,.slice A0_3 l0_3.length c0_3]] (by rfl) rfl rfl (by (try simp only [List.map_toArray,List.map_cons,List.map_nil]);first|done|rfl) ?_
 refine (laws_toMachine.calls k a0_0 A0_1 c0_1 l0_1 A0_2 c0_2 l0_2 A0_3 c0_3 l0_3 b p1 p2 p3 _ (Kd.C_below HR1.out D6.out) HC1.out (Kd.C_below HR2.out D6.out) HC2.out (Kd.C_below HR3.out D6.out) HC3.out F1.out).mono ?_
 rintro e w7 ⟨vy1,vy2,vy3,rfl,S1,S2,S3,B⟩
 refine ⟨_,rfl,?_⟩
 have Ty1 := Aside0.mk S1
 have Ty2 := Aside0.mk S2
 have Ty3 := Aside0.mk S3
 clear S1 S2 S3
 have Tx1 := Aside0.mk (Kd.S_below Tx1.out B)
 have Tx2 := Aside0.mk (Kd.S_below Tx2.out B)
 have Tx3 := Aside0.mk (Kd.R_below Tx3.out B)
 have V := Aside0.mk (Kd.R_below V.out B)
 have G := Aside0.mk (below_step G.out B)
 have BX := Aside0.mk (blk_below BX.out B)
 have BG := Aside0.mk (blk_below BG.out B)
 clear B
 obtain ⟨Ay1,cy1,ey1⟩ := Kd.S_slice Ty1.out
 subst ey1
 obtain ⟨Ay2,cy2,ey2⟩ := Kd.S_slice Ty2.out
 subst ey2
 obtain ⟨Ay3,cy3,ey3⟩ := Kd.R_slice Ty3.out
 subst ey3
 have D7 := Aside0.mk (below_step D3.out G.out)
 refine hK.out _ _ ⟨(blk_cell BX.out 0).trans rfl,(blk_cell BX.out 1).trans rfl,(blk_cell BX.out 2).trans rfl,(blk_cell BX.out 3).trans rfl,(blk_cell (blk_below BA.out D7.out) 0).trans rfl,(blk_cell (blk_below BA.out D7.out) 1).trans rfl,(blk_cell (blk_below BA.out D7.out) 2).trans rfl,(blk_cell (blk_below BA.out D7.out) 3).trans rfl⟩ (fun hHeld => ?_)
 clear hK K
 refine norm_ (a' := ?_) ?_ ?_
 rotate_left
 ·show Act.put _ (some 55) _ = _
  simp only [Act.put,q1,q2,q3,i64_w,i32_w]
  rfl
 refine one_ (i := 3) (N := some 56) #[true,true,true,true,false] rfl rfl (by kernel_rfl) (by decide) (fun K hK => ?_)
 refine goes_ Try.func14 (by kernel_rfl) rfl #[.agg #[.bool b,.slice Ax1 p1.length cx1,.slice Ax2 p2.length cx2,.slice Ax3 p3.length cx3],.agg #[.bool b,.slice Ay1 p1.length cy1,.slice Ay2 p2.length cy2,.slice Ay3 p3.length cy3]] (by rfl) rfl rfl (by (try simp only [List.map_toArray,List.map_cons,List.map_nil]);first|done|rfl) ?_
 refine (laws_eqMachine.calls k b Ax1 cx1 p1 Ax2 cx2 p2 Ax3 cx3 p3 b Ay1 cy1 p1 Ay2 cy2 p2 Ay3 cy3 p3 true _ (Kd.S_reads' Tx1.out).2.2 (Kd.S_reads' Tx1.out).2.1 (Kd.S_reads' Tx2.out).2.2 (Kd.S_reads' Tx2.out).2.1 (Kd.R_reads' Tx3.out).2.2 (Kd.R_reads' Tx3.out).2.1 (Kd.S_reads' Ty1.out).2.2 (Kd.S_reads' Ty1.out).2.1 (Kd.S_reads' Ty2.out).2.2 (Kd.S_reads' Ty2.out).2.1 (Kd.R_reads' Ty3.out).2.2 (Kd.R_reads' Ty3.out).2.1 F5.out).mono ?_
 rintro e w8 ⟨rfl,B⟩
 refine ⟨_,rfl,?_⟩
 have Tx1 := Aside0.mk (Kd.S_below Tx1.out B)
 have Tx2 := Aside0.mk (Kd.S_below Tx2.out B)
 have Tx3 := Aside0.mk (Kd.R_below Tx3.out B)
 have V := Aside0.mk (Kd.R_below V.out B)
 have G := Aside0.mk (below_step G.out B)
 have BX := Aside0.mk (blk_below BX.out B)
 have BG := Aside0.mk (blk_below BG.out B)
 clear B
 have D8 := Aside0.mk (below_step D3.out G.out)
 refine hK.out _ _ ⟨(blk_cell BX.out 0).trans rfl,(blk_cell BX.out 1).trans rfl,(blk_cell BX.out 2).trans rfl,(blk_cell BX.out 3).trans rfl,(blk_cell (blk_below BA.out D8.out) 0).trans rfl,(blk_cell (blk_below BA.out D8.out) 1).trans rfl,(blk_cell (blk_below BA.out D8.out) 2).trans rfl,(blk_cell (blk_below BA.out D8.out) 3).trans rfl⟩ (fun hHeld => ?_)
 clear hK K
 refine norm_ (a' := ?_) ?_ ?_
 rotate_left
 ·show Act.put _ (some 56) _ = _
  simp only [Act.put,q1,q2,q3,i64_w,i32_w]
  rfl
 refine pure_ (i := 4) (N := some 57) (v := ?_) (a' := ?_) #[true,true,true,true,true] rfl rfl (by kernel_rfl) (fun _ _ _ h => h) (Or.inl ⟨by rfl,?_⟩) ?_ ?_
 rotate_left
 ·intro w'
  go_simp
  with_reducible rfl
 rotate_left
 ·simp only [Act.put,q1,q2,q3,i64_w,i32_w]
  rfl
 refine done_ (by kernel_rfl) ?_
 clear hHeld
 have hcgx7_0 : w8.cell? ⟨gx,0,none⟩ = some (.bool b) := (blk_cell BX.out 0).trans rfl
 have hcgx7_1 : w8.cell? ⟨gx,1,none⟩ = some (.slice Ax1 p1.length cx1) := (blk_cell BX.out 1).trans rfl
 have hcgx7_2 : w8.cell? ⟨gx,2,none⟩ = some (.slice Ax2 p2.length cx2) := (blk_cell BX.out 2).trans rfl
 have hcgx7_3 : w8.cell? ⟨gx,3,none⟩ = some (.slice Ax3 p3.length cx3) := (blk_cell BX.out 3).trans rfl
 go_wp2_with ((with_reducible refine gcal_ (f := 18) rfl ?_);refine goesL_ (some 60) rfl rfl Try.func18 (by kernel_rfl) rfl #[.agg #[.bool b,.slice Ax1 p1.length cx1,.slice Ax2 p2.length cx2,.slice Ax3 p3.length cx3],.int .i64 1] rfl (by (try simp only [List.map_toArray,List.map_cons,List.map_nil]);first|done|rfl) ?_;refine (laws_markMachine.calls k (fun k_ => True ∧ k_ < w4.heap.size) b (.slice Ax1 p1.length cx1) (.slice Ax2 p2.length cx2) (.slice Ax3 p3.length cx3) p1 p2 p3 1 mx w3b _ G.out Tx1.out Tx2.out Tx3.out F6.out).mono ?_;rintro e w9 ⟨rfl,B,K⟩;refine ⟨_,rfl,?_⟩;refine hold_5 ?_)
 refine ⟨?_⟩
 have G := Aside0.mk B
 have V := Aside0.mk (Kd.R_mono (ok' := fun _ => True) (Kd.R_step (Kd.R_bound V.out) (fun k_ hk_ hlt_ => K.2 k_ hlt_ (fun hs_ => absurd hs_.2 (Nat.not_lt.2 (Nat.le_trans Z44.out hk_.2.1))))) (fun _ _ => trivial))
 have BG := Aside0.mk ((K.2 gg (blk_lt BG.out) (fun hs_ => absurd hs_.2 (Nat.not_lt.2 GG4.out))).trans BG.out)
 have U9 := Aside0.mk (Kd.R_below U.out B)
 clear B K
 have hcgg8_0 : w9.cell? ⟨gg,0,none⟩ = some (.int .i64 v1) := (blk_cell BG.out 0).trans rfl
 have hcgg8_1 : w9.cell? ⟨gg,1,none⟩ = some (.int .i64 v2) := (blk_cell BG.out 1).trans rfl
 have hcgg8_2 : w9.cell? ⟨gg,2,none⟩ = some (.int .i64 v3) := (blk_cell BG.out 2).trans rfl
 have hcgg8_3 : w9.cell? ⟨gg,3,none⟩ = some (.slice Avv v4.length cvv) := (blk_cell BG.out 3).trans rfl
 have hcgw9_0 : w9.cell? ⟨gw,0,none⟩ = some (.int .i64 u1) := (blk_cell (blk_below BW.out G.out) 0).trans rfl
 have hcgw9_1 : w9.cell? ⟨gw,1,none⟩ = some (.int .i64 u2) := (blk_cell (blk_below BW.out G.out) 1).trans rfl
 have hcgw9_2 : w9.cell? ⟨gw,2,none⟩ = some (.int .i64 u3) := (blk_cell (blk_below BW.out G.out) 2).trans rfl
 have hcgw9_3 : w9.cell? ⟨gw,3,none⟩ = some (.slice Avu u4.length cvu) := (blk_cell (blk_below BW.out G.out) 3).trans rfl
 go_wp2_with (go_at_call 23;refine (laws_eqRecord.calls k v1 v2 v3 Avv cvv v4 u1 u2 u3 Avu cvu u4 true _ (Kd.R_reads' V.out).2.2 (Kd.R_reads' V.out).2.1 (Kd.R_reads' U9.out).2.2 (Kd.R_reads' U9.out).2.1 F4.out).mono ?_;rintro e w10 ⟨rfl,B⟩;(try dsimp only);refine hold_5 ?_)
 refine ⟨?_⟩
 have V := Aside0.mk (Kd.R_below V.out B)
 have G := Aside0.mk (below_step G.out B)
 have BG := Aside0.mk (blk_below BG.out B)
 clear B
 have V := Aside0.mk (Kd.R_tight rfl (Kd.R_lower V.out Z4.out))
 have hcgg10_0 : w10.cell? ⟨gg,0,none⟩ = some (.int .i64 v1) := (blk_cell BG.out 0).trans rfl
 have hcgg10_1 : w10.cell? ⟨gg,1,none⟩ = some (.int .i64 v2) := (blk_cell BG.out 1).trans rfl
 have hcgg10_2 : w10.cell? ⟨gg,2,none⟩ = some (.int .i64 v3) := (blk_cell BG.out 2).trans rfl
 have hcgg10_3 : w10.cell? ⟨gg,3,none⟩ = some (.slice Avv v4.length cvv) := (blk_cell BG.out 3).trans rfl
 go_wp2_with ((with_reducible refine gcal_ (f := 24) rfl ?_);refine goesL_ (some 76) rfl rfl Try.func24 (by kernel_rfl) rfl #[.agg #[.int .i64 v1,.int .i64 v2,.int .i64 v3,.slice Avv v4.length cvv],.int .i64 1] rfl (by (try simp only [List.map_toArray,List.map_cons,List.map_nil]);first|done|rfl) ?_;refine (laws_markRecord.calls k v1 v2 v3 (fun k_ => some k_ = (.slice Avv v4.length cvv : Value).ownBlock) (.slice Avv v4.length cvv) v4 1 q y w3b _ G.out V.out F7.out).mono ?_;rintro e w11 ⟨rfl,S,B,K⟩;refine ⟨_,rfl,?_⟩;refine hold_5 ?_)
 refine ⟨?_⟩
 have BG := Aside0.mk ((K.2 gg (blk_lt BG.out) (fun hs_ => Kd.R_ne V.out BG.out (by decide) hs_)).trans BG.out)
 have V := Aside0.mk S
 have G := Aside0.mk B
 have LG := Aside0.mk (Kd.R_reads' V.out).1
 have MG : Aside0 (y.length ≤ cvv) := ⟨by rw [← LG.out];exact (Kd.R_reads' V.out).2.1⟩
 clear S B K
 have hcgg11_0 : w11.cell? ⟨gg,0,none⟩ = some (.int .i64 v1) := (blk_cell BG.out 0).trans rfl
 have hcgg11_1 : w11.cell? ⟨gg,1,none⟩ = some (.int .i64 v2) := (blk_cell BG.out 1).trans rfl
 have hcgg11_2 : w11.cell? ⟨gg,2,none⟩ = some (.int .i64 v3) := (blk_cell BG.out 2).trans rfl
 have hcgg11_3 : w11.cell? ⟨gg,3,none⟩ = some (.slice Avv v4.length cvv) := (blk_cell BG.out 3).trans rfl
 go_wp2_with ((with_reducible refine gcal_ (f := 25) rfl ?_);refine goesL_ (some 79) rfl rfl Try.func25 (by kernel_rfl) rfl #[.agg #[.int .i64 v1,.int .i64 v2,.int .i64 v3,.slice Avv v4.length cvv],.int .i64 1] rfl (by (try simp only [List.map_toArray,List.map_cons,List.map_nil]);first|done|rfl) ?_;refine calls_arr (by rw [LG.out]) ((laws_heldRecord.calls k v1 v2 v3 Avv cvv y 1 q _ (Kd.R_reads' V.out).2.2 MG.out F8.out).mono ?_);rintro e w12 ⟨rfl,B⟩;refine ⟨_,rfl,?_⟩;refine hold_5 ?_)
 refine ⟨?_⟩
 have V := Aside0.mk (Kd.R_below V.out B)
 have G := Aside0.mk (below_step G.out B)
 have BG := Aside0.mk (blk_below BG.out B)
 clear B
 have D12 := Aside0.mk (below_step D3.out G.out)
 have hcga12_0 : w12.cell? ⟨ga,0,none⟩ = some (.bool a0_0) := (blk_cell (blk_below BA.out D12.out) 0).trans rfl
 have hcga12_1 : w12.cell? ⟨ga,1,none⟩ = some (.slice A0_1 l0_1.length c0_1) := (blk_cell (blk_below BA.out D12.out) 1).trans rfl
 have hcga12_2 : w12.cell? ⟨ga,2,none⟩ = some (.slice A0_2 l0_2.length c0_2) := (blk_cell (blk_below BA.out D12.out) 2).trans rfl
 have hcga12_3 : w12.cell? ⟨ga,3,none⟩ = some (.slice A0_3 l0_3.length c0_3) := (blk_cell (blk_below BA.out D12.out) 3).trans rfl
 go_wp2_with ((with_reducible refine gcal_ (f := 12) rfl ?_);refine goesL_ (some 87) rfl rfl Try.func12 (by kernel_rfl) rfl #[.agg #[.bool a0_0,.slice A0_1 l0_1.length c0_1,.slice A0_2 l0_2.length c0_2,.slice A0_3 l0_3.length c0_3]] rfl (by (try simp only [List.map_toArray,List.map_cons,List.map_nil]);first|done|rfl) ?_;refine (laws_toMachine.calls k a0_0 A0_1 c0_1 l0_1 A0_2 c0_2 l0_2 A0_3 c0_3 l0_3 b p1 p2 p3 _ (Kd.C_below HR1.out D12.out) HC1.out (Kd.C_below HR2.out D12.out) HC2.out (Kd.C_below HR3.out D12.out) HC3.out F1.out).mono ?_;rintro e w13 ⟨vz1,vz2,vz3,rfl,S1,S2,S3,B⟩;refine ⟨_,rfl,?_⟩;refine hold_5 ?_)
 refine ⟨?_⟩
 have Tz1 := Aside0.mk S1
 have Tz2 := Aside0.mk S2
 have Tz3 := Aside0.mk S3
 clear S1 S2 S3
 have V := Aside0.mk (Kd.R_below V.out B)
 have G := Aside0.mk (below_step G.out B)
 have BG := Aside0.mk (blk_below BG.out B)
 clear B
 obtain ⟨Az1,cz1,ez1⟩ := Kd.S_slice Tz1.out
 subst ez1
 obtain ⟨Az2,cz2,ez2⟩ := Kd.S_slice Tz2.out
 subst ez2
 obtain ⟨Az3,cz3,ez3⟩ := Kd.R_slice Tz3.out
 subst ez3
 go_wp2_with ((with_reducible refine gcal_ (f := 22) rfl ?_);refine goesL_ (some 91) rfl rfl Try.func22 (by kernel_rfl) rfl #[.agg #[.bool b,.slice Az1 p1.length cz1,.slice Az2 p2.length cz2,.slice Az3 p3.length cz3],.int .i64 a1,.int .i64 a2,.int .i64 a3] rfl (by (try simp only [List.map_toArray,List.map_cons,List.map_nil]);first|done|rfl) ?_;refine (impl_Logged.calls k b Az1 cz1 p1 Az2 cz2 p2 Az3 cz3 p3 a1 a2 a3 v1 v2 v3 v4 v5 _ (Kd.S_reads' Tz1.out).2.2 (Kd.S_reads' Tz1.out).2.1 (Kd.S_reads' Tz2.out).2.2 (Kd.S_reads' Tz2.out).2.1 (Kd.R_reads' Tz3.out).2.2 (Kd.R_reads' Tz3.out).2.1 F3.out).mono ?_;rintro e w14 ⟨vh,rfl,S,B⟩;refine ⟨_,rfl,?_⟩;refine hold_5 ?_)
 refine ⟨?_⟩
 have H := Aside0.mk S
 have V := Aside0.mk (Kd.R_below V.out B)
 have G := Aside0.mk (below_step G.out B)
 have BG := Aside0.mk (blk_below BG.out B)
 clear B
 clear S Tz1 Tz2 Tz3
 obtain ⟨Avh,cvh,evh⟩ := Kd.R_slice H.out
 subst evh
 go_wp2_with ((with_reducible refine gate_dst (N := 18) rfl ?_);refine box_event ?hg (N := 18) ?hd (cs := #[.int .i64 0,.int .i64 0,.int .i64 0,.slice none 0 0]) (t := 45) ?hr ?_;(case hd => rfl);(case hg => rfl);(case hr => first|(go_simp;done)|(go_simp;rfl));intro gh hg wf hbox hb;have hge := Aside0.mk (Nat.le_of_eq hg.symm);clear hg;refine hold_5 ?_)
 refine ⟨?_⟩
 have BZ := Aside0.mk hbox
 have Q0 := Aside0.mk hb
 have HGE := hge
 clear hbox hb hge
 have hcy_0 : wf.cell? ⟨gh,0,none⟩ = some (.int .i64 0) := (blk_cell BZ.out 0).trans rfl
 have hcy_1 : wf.cell? ⟨gh,1,none⟩ = some (.int .i64 0) := (blk_cell BZ.out 1).trans rfl
 have hcy_2 : wf.cell? ⟨gh,2,none⟩ = some (.int .i64 0) := (blk_cell BZ.out 2).trans rfl
 have hcy_3 : wf.cell? ⟨gh,3,none⟩ = some (.slice none 0 0) := (blk_cell BZ.out 3).trans rfl
 have hfy_0 := blk_frozen BZ.out 0
 have hfy_1 := blk_frozen BZ.out 1
 have hfy_2 := blk_frozen BZ.out 2
 have hfy_3 := blk_frozen BZ.out 3
 go_upto_region 25 with (fail)
 have n0_ : Aside0 (Below w14.heap.size w14 ((((wf.setCell ⟨gh,0,none⟩ (.int .i64 v1)).setCell ⟨gh,1,none⟩ (.int .i64 v2)).setCell ⟨gh,2,none⟩ (.int .i64 v3)).setCell ⟨gh,3,none⟩ (.slice Avh v4.length cvh))) := ⟨below_set (below_set (below_set (below_set Q0.out HGE.out) HGE.out) HGE.out) HGE.out⟩
 have n1_ : Aside0 (((((wf.setCell ⟨gh,0,none⟩ (.int .i64 v1)).setCell ⟨gh,1,none⟩ (.int .i64 v2)).setCell ⟨gh,2,none⟩ (.int .i64 v3)).setCell ⟨gh,3,none⟩ (.slice Avh v4.length cvh)).heap[gh]? = some (.cells #[.int .i64 v1,.int .i64 v2,.int .i64 v3,.slice Avh v4.length cvh] 45 (0,0))) := ⟨by refine blk_put (cs := #[.int .i64 v1,.int .i64 v2,.int .i64 v3,.slice none 0 0]) ?_ 3 _ rfl;refine blk_put (cs := #[.int .i64 v1,.int .i64 v2,.int .i64 0,.slice none 0 0]) ?_ 2 _ rfl;refine blk_put (cs := #[.int .i64 v1,.int .i64 0,.int .i64 0,.slice none 0 0]) ?_ 1 _ rfl;refine blk_put (cs := #[.int .i64 0,.int .i64 0,.int .i64 0,.slice none 0 0]) ?_ 0 _ rfl;exact BZ.out⟩
 clear BZ Q0
 clear hcy_0 hfy_0 hcy_1 hfy_1 hcy_2 hfy_2 hcy_3 hfy_3
 generalize ((((wf.setCell ⟨gh,0,none⟩ (.int .i64 v1)).setCell ⟨gh,1,none⟩ (.int .i64 v2)).setCell ⟨gh,2,none⟩ (.int .i64 v3)).setCell ⟨gh,3,none⟩ (.slice Avh v4.length cvh)) = w14b at n0_ n1_ ⊢
 have B := n0_.out
 have BH := n1_
 clear n0_ n1_
 have V := Aside0.mk (Kd.R_below V.out B)
 have G := Aside0.mk (below_step G.out B)
 have BG := Aside0.mk (blk_below BG.out B)
 have H := Aside0.mk (Kd.R_below H.out B)
 have U14 := Aside0.mk (Kd.R_below U.out G.out)
 have hcgh13_0 : w14b.cell? ⟨gh,0,none⟩ = some (.int .i64 v1) := (blk_cell BH.out 0).trans rfl
 have hcgh13_1 : w14b.cell? ⟨gh,1,none⟩ = some (.int .i64 v2) := (blk_cell BH.out 1).trans rfl
 have hcgh13_2 : w14b.cell? ⟨gh,2,none⟩ = some (.int .i64 v3) := (blk_cell BH.out 2).trans rfl
 have hcgh13_3 : w14b.cell? ⟨gh,3,none⟩ = some (.slice Avh v4.length cvh) := (blk_cell BH.out 3).trans rfl
 have hcgw14_0 : w14b.cell? ⟨gw,0,none⟩ = some (.int .i64 u1) := (blk_cell (blk_below BW.out G.out) 0).trans rfl
 have hcgw14_1 : w14b.cell? ⟨gw,1,none⟩ = some (.int .i64 u2) := (blk_cell (blk_below BW.out G.out) 1).trans rfl
 have hcgw14_2 : w14b.cell? ⟨gw,2,none⟩ = some (.int .i64 u3) := (blk_cell (blk_below BW.out G.out) 2).trans rfl
 have hcgw14_3 : w14b.cell? ⟨gw,3,none⟩ = some (.slice Avu u4.length cvu) := (blk_cell (blk_below BW.out G.out) 3).trans rfl
 clear B
 go_wp2_with ((with_reducible refine gcal_ (f := 23) rfl ?_);refine goesL_ (some 96) rfl rfl Try.func23 (by kernel_rfl) rfl #[.agg #[.int .i64 v1,.int .i64 v2,.int .i64 v3,.slice Avh v4.length cvh],.agg #[.int .i64 u1,.int .i64 u2,.int .i64 u3,.slice Avu u4.length cvu]] rfl (by (try simp only [List.map_toArray,List.map_cons,List.map_nil]);first|done|rfl) ?_;refine (laws_eqRecord.calls k v1 v2 v3 Avh cvh v4 u1 u2 u3 Avu cvu u4 true _ (Kd.R_reads' H.out).2.2 (Kd.R_reads' H.out).2.1 (Kd.R_reads' U14.out).2.2 (Kd.R_reads' U14.out).2.1 F4.out).mono ?_;rintro e w15 ⟨rfl,B⟩;refine ⟨_,rfl,?_⟩;refine hold_5 ?_)
 refine ⟨?_⟩
 have V := Aside0.mk (Kd.R_below V.out B)
 have G := Aside0.mk (below_step G.out B)
 have BG := Aside0.mk (blk_below BG.out B)
 clear B
 have hcgg15_0 : w15.cell? ⟨gg,0,none⟩ = some (.int .i64 v1) := (blk_cell BG.out 0).trans rfl
 have hcgg15_1 : w15.cell? ⟨gg,1,none⟩ = some (.int .i64 v2) := (blk_cell BG.out 1).trans rfl
 have hcgg15_2 : w15.cell? ⟨gg,2,none⟩ = some (.int .i64 v3) := (blk_cell BG.out 2).trans rfl
 have hcgg15_3 : w15.cell? ⟨gg,3,none⟩ = some (.slice Avv v4.length cvv) := (blk_cell BG.out 3).trans rfl
 go_wp2_with ((with_reducible refine gcal_ (f := 25) rfl ?_);refine goesL_ (some 105) rfl rfl Try.func25 (by kernel_rfl) rfl #[.agg #[.int .i64 v1,.int .i64 v2,.int .i64 v3,.slice Avv v4.length cvv],.int .i64 1] rfl (by (try simp only [List.map_toArray,List.map_cons,List.map_nil]);first|done|rfl) ?_;refine calls_arr (by rw [LG.out]) ((laws_heldRecord.calls k v1 v2 v3 Avv cvv y 1 q _ (Kd.R_reads' V.out).2.2 MG.out F8.out).mono ?_);rintro e w16 ⟨rfl,B⟩;refine ⟨_,rfl,?_⟩;refine hold_5 ?_)
 refine ⟨?_⟩
 have D16 := Aside0.mk (below_step D0.out (below_step D3.out (below_step G.out B)))
 clear B
 go_wp2
 go_ret
 exact ⟨rfl,D16.out⟩

end Go.Proofs.Ythplaakckfhaaaa.XLg
