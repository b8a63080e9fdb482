/- Proved: of each Go function here that a call comes to what the Lean function of its name tells. Written by a program of this session over the translation. No conditions beyond each theorem's own. -/
import Derived.Test.YthplaakckfhaaaaXRp0
import Derived.Test.YthplaakckfhaaaaXRp16
import Derived.Test.YthplaakckfhaaaaXRp18
import Derived.Test.YthplaakckfhaaaaXRp21
import Derived.Test.YthplaakckfhaaaaXRp23
namespace Go.Proofs.Ythplaakckfhaaaa.XRp
open Go.RowKit Go.Proofs.Ythplaakckfhaaaa.Aid Go.Proofs.YthplaakckfhaaaaW.PrintWords Go.Proofs.YthplaakckfhaaaaW.PrintLast Go.Proofs.YthplaakckfhaaaaW.PrintMore
set_option linter.unusedVariables false
set_option linter.unusedSimpArgs false

/-! ### impl_Replace: function 36 -/
theorem hold_36 {p : Prop} (h : Aside0 p) : p := h.out
theorem ty_36 {w : World} {k : Nat} {a b : List Nat} (h1 : ∃ q, q ∈ a ∧ ∃ cs, w.heap[k]? = some (.cells cs q (0, 0))) (h2 : ∃ q, q ∈ b ∧ ∃ cs, w.heap[k]? = some (.cells cs q (0, 0))) (hd : ∀ q, q ∈ a → ¬ q ∈ b) : False := by
 obtain ⟨q,hq,cs,h1⟩ := h1
 obtain ⟨q2,hq2,cs2,h2⟩ := h2
 rw [h1] at h2
 injection h2 with h2
 injection h2 with _ h2
 exact hd q hq (h2 ▸ hq2)
def impl_Replace.f (k : Nat) (a0_0 : Bool) (l0_1 : List (S79)) (l0_2 : List (S45)) (l0_3 : List Int) (a1 : Int) (l2 : List (S92)) : Option (Bool × (List (S79)) × (List (S45)) × List Int × Bool) := (impl_isMachineOk.f k a0_0 l0_1 l0_2 l0_3).bind fun t => if t = true then ((impl_isRegion.f a1).bind fun t2 => if t2 = true then ((impl_areCells.f l2).bind fun t3 => if t3 = true then ((impl_cloneMachine.f k a0_0 l0_1 l0_2 l0_3).bind fun c => (impl_Machine_replace.f c.2.1 a1 l2).bind fun q => some (c.1, q, c.2.2.1, c.2.2.2, true)) else some (false, [], [], [], false)) else some (false, [], [], [], false)) else some (false, [], [], [], false)
set_option maxHeartbeats 8000000 in
set_option maxRecDepth 100000 in
theorem impl_Replace.calls (k : Nat) (a0_0 : Bool) (A0_1 : Option Addr) (c0_1 : Nat) (l0_1 : List (S79)) (A0_2 : Option Addr) (c0_2 : Nat) (l0_2 : List (S45)) (A0_3 : Option Addr) (c0_3 : Nat) (l0_3 : List Int) (a1 : Int) (A2 : Option Addr) (c2 : Nat) (l2 : List (S92)) (r1 : Bool) (r2 : List (S79)) (r3 : List (S45)) (r4 : List Int) (r5 : Bool) (w : World) (hr0_1 : Kd.C k79 w A0_1 l0_1.length l0_1) (hc0_1 : l0_1.length ≤ c0_1) (hr0_2 : Kd.C k45 w A0_2 l0_2.length l0_2) (hc0_2 : l0_2.length ≤ c0_2) (hr0_3 : Kd.C (Kd.int .i64) w A0_3 l0_3.length l0_3) (hc0_3 : l0_3.length ≤ c0_3) (hr2 : Kd.C k92 w A2 l2.length l2) (hc2 : l2.length ≤ c2) (h : impl_Replace.f k a0_0 l0_1 l0_2 l0_3 a1 l2 = some (r1, r2, r3, r4, r5)) :
    Calls Try.prog 36 #[.agg #[.bool a0_0, .slice A0_1 l0_1.length c0_1, .slice A0_2 l0_2.length c0_2, .slice A0_3 l0_3.length c0_3], .int .i64 a1, .slice A2 l2.length c2] w fun e w' => ∃ v1_ v2_ v3_ : Value, e = .returned (.tuple #[.agg #[.bool r1, v1_, v2_, v3_], .bool r5]) ∧ Kd.S k79 79 w' w.heap.size (fun _ => True) v1_ r2 ∧ Kd.S k45 45 w' w.heap.size (fun _ => True) v2_ r3 ∧ Kd.R (Kd.int .i64) 2 w' w.heap.size (fun _ => True) v3_ r4 ∧ Below w.heap.size w w' := by
 have hu := Try.underlying32
 have HR1 := Aside0.mk hr0_1
 have HC1 := Aside0.mk hc0_1
 clear hr0_1 hc0_1
 have HR2 := Aside0.mk hr0_2
 have HC2 := Aside0.mk hc0_2
 clear hr0_2 hc0_2
 have HR3 := Aside0.mk hr0_3
 have HC3 := Aside0.mk hc0_3
 clear hr0_3 hc0_3
 have HRR := Aside0.mk hr2
 have HRC := Aside0.mk hc2
 clear hr2 hc2
 obtain ⟨t,E0,h1⟩ := Option.bind_eq_some_iff.1 h
 clear h
 have H1 := Aside0.mk h1
 have F0 := Aside0.mk E0
 clear h1 E0
 go_enter Try.func36,Try.ntmps36
 go_wp2_with ((with_reducible refine gate_dst (N := 3) rfl ?_);refine bx_ 3 #[.bool a0_0,.slice A0_1 l0_1.length c0_1,.slice A0_2 l0_2.length c0_2,.slice A0_3 l0_3.length c0_3] 32 ?_;intro ga hg w1 hbox hb;have hge := Aside0.mk (Nat.le_of_eq hg.symm);clear hg;refine hold_36 ?_)
 refine ⟨?_⟩
 have D1 := Aside0.mk hb
 have BM := Aside0.mk hbox
 clear hb hbox hge
 go_wp2_with ((with_reducible refine gate_dst (N := 6) rfl ?_);refine bx_ 6 #[.bool false,.slice none 0 0,.slice none 0 0,.slice none 0 0] 32 ?_;intro gr hg w2 hbox hb;have hge := Aside0.mk (Nat.le_of_eq hg.symm);clear hg;refine hold_36 ?_)
 refine ⟨?_⟩
 have GR : Aside0 (w.heap.size ≤ gr) := ⟨Nat.le_trans D1.out.size hge.out⟩
 have D2 := Aside0.mk (below_step D1.out hb)
 have BM := Aside0.mk (blk_below BM.out hb)
 have BR := Aside0.mk hbox
 clear hb hbox hge
 have hcga2_0 : w2.cell? ⟨ga,0,none⟩ = some (.bool a0_0) := (blk_cell BM.out 0).trans rfl
 have hcga2_1 : w2.cell? ⟨ga,1,none⟩ = some (.slice A0_1 l0_1.length c0_1) := (blk_cell BM.out 1).trans rfl
 have hcga2_2 : w2.cell? ⟨ga,2,none⟩ = some (.slice A0_2 l0_2.length c0_2) := (blk_cell BM.out 2).trans rfl
 have hcga2_3 : w2.cell? ⟨ga,3,none⟩ = some (.slice A0_3 l0_3.length c0_3) := (blk_cell BM.out 3).trans rfl
 go_wp2_with ((with_reducible refine gcal_ (f := 53) rfl ?_);refine goesL_ (some 10) rfl rfl Try.func53 (by kernel_rfl) rfl #[.agg #[.bool a0_0,.slice A0_1 l0_1.length c0_1,.slice A0_2 l0_2.length c0_2,.slice A0_3 l0_3.length c0_3]] rfl (by (try simp only [List.map_toArray,List.map_cons,List.map_nil]);first|done|rfl) ?_;refine (impl_isMachineOk.calls k a0_0 A0_1 c0_1 l0_1 A0_2 c0_2 l0_2 A0_3 c0_3 l0_3 t _ (Kd.C_below HR1.out D2.out) HC1.out (Kd.C_below HR2.out D2.out) HC2.out (Kd.C_below HR3.out D2.out) HC3.out F0.out).mono ?_;rintro e w2b ⟨rfl,B⟩;refine ⟨_,rfl,?_⟩;refine hold_36 ?_)
 refine ⟨?_⟩
 have D3 := Aside0.mk (below_step D2.out B)
 have BM := Aside0.mk (blk_below BM.out B)
 have BR := Aside0.mk (blk_below BR.out B)
 clear B
 have hcgr3_0 : w2b.cell? ⟨gr,0,none⟩ = some (.bool false) := (blk_cell BR.out 0).trans rfl
 have hcgr3_1 : w2b.cell? ⟨gr,1,none⟩ = some (.slice none 0 0) := (blk_cell BR.out 1).trans rfl
 have hcgr3_2 : w2b.cell? ⟨gr,2,none⟩ = some (.slice none 0 0) := (blk_cell BR.out 2).trans rfl
 have hcgr3_3 : w2b.cell? ⟨gr,3,none⟩ = some (.slice none 0 0) := (blk_cell BR.out 3).trans rfl
 have hfr3_0 := blk_frozen BR.out 0
 have hfr3_1 := blk_frozen BR.out 1
 have hfr3_2 := blk_frozen BR.out 2
 have hfr3_3 := blk_frozen BR.out 3
 cases t with
  | false =>
  have h1 := H1.out
  rw [if_neg (by simp)] at h1
  clear H1
  simp only [Option.some.injEq,Prod.mk.injEq] at h1
  obtain ⟨rfl,rfl,rfl,rfl,rfl⟩ := h1
  go_wp2
  refine bodyPost_ret (results_ct rfl _ _ gr 32 #[.bool false,.slice none 0 0,.slice none 0 0,.slice none 0 0] (0,0) _ rfl (by refine blk_put (cs := #[.bool false,.slice none 0 0,.slice none 0 0,.slice none 0 0]) ?_ 3 _ rfl;refine blk_put (cs := #[.bool false,.slice none 0 0,.slice none 0 0,.slice none 0 0]) ?_ 2 _ rfl;refine blk_put (cs := #[.bool false,.slice none 0 0,.slice none 0 0,.slice none 0 0]) ?_ 1 _ rfl;refine blk_put (cs := #[.bool false,.slice none 0 0,.slice none 0 0,.slice none 0 0]) ?_ 0 _ rfl;exact BR.out) Try.underlying32 rfl (by kernel_rfl)) rfl ?_
  exact ⟨.slice none 0 0,.slice none 0 0,.slice none 0 0,by first|rfl|(simp;done),Kd.S_nil _ _ _ _ _,Kd.S_nil _ _ _ _ _,Kd.R_nil _ _ _ _ _,below_set (below_set (below_set (below_set D3.out GR.out) GR.out) GR.out) GR.out⟩
  | true =>
 have h1 := H1.out
 rw [if_pos rfl] at h1
 clear H1
 obtain ⟨t2,E9,h2⟩ := Option.bind_eq_some_iff.1 h1
 clear h1
 have H1 := Aside0.mk h2
 have F9 := Aside0.mk E9
 clear h2 E9
 go_wp2_with (go_at_call 85;refine (impl_isRegion.calls a1 t2 _ F9.out).mono ?_;rintro e w3a ⟨rfl,B0⟩;(try dsimp only);refine hold_36 ?_)
 refine ⟨?_⟩
 have B := B0.below
 have D3 := Aside0.mk (below_step D3.out B)
 have BM := Aside0.mk (blk_below BM.out B)
 have BR := Aside0.mk (blk_below BR.out B)
 clear B B0
 clear hcgr3_0 hfr3_0 hcgr3_1 hfr3_1 hcgr3_2 hfr3_2 hcgr3_3 hfr3_3
 clear F9
 have hcgr4_0 : w3a.cell? ⟨gr,0,none⟩ = some (.bool false) := (blk_cell BR.out 0).trans rfl
 have hcgr4_1 : w3a.cell? ⟨gr,1,none⟩ = some (.slice none 0 0) := (blk_cell BR.out 1).trans rfl
 have hcgr4_2 : w3a.cell? ⟨gr,2,none⟩ = some (.slice none 0 0) := (blk_cell BR.out 2).trans rfl
 have hcgr4_3 : w3a.cell? ⟨gr,3,none⟩ = some (.slice none 0 0) := (blk_cell BR.out 3).trans rfl
 have hfr4_0 := blk_frozen BR.out 0
 have hfr4_1 := blk_frozen BR.out 1
 have hfr4_2 := blk_frozen BR.out 2
 have hfr4_3 := blk_frozen BR.out 3
 cases t2 with
  | false =>
  have h1 := H1.out
  rw [if_neg (by simp)] at h1
  clear H1
  simp only [Option.some.injEq,Prod.mk.injEq] at h1
  obtain ⟨rfl,rfl,rfl,rfl,rfl⟩ := h1
  go_wp2
  refine bodyPost_ret (results_ct rfl _ _ gr 32 #[.bool false,.slice none 0 0,.slice none 0 0,.slice none 0 0] (0,0) _ rfl (by refine blk_put (cs := #[.bool false,.slice none 0 0,.slice none 0 0,.slice none 0 0]) ?_ 3 _ rfl;refine blk_put (cs := #[.bool false,.slice none 0 0,.slice none 0 0,.slice none 0 0]) ?_ 2 _ rfl;refine blk_put (cs := #[.bool false,.slice none 0 0,.slice none 0 0,.slice none 0 0]) ?_ 1 _ rfl;refine blk_put (cs := #[.bool false,.slice none 0 0,.slice none 0 0,.slice none 0 0]) ?_ 0 _ rfl;exact BR.out) Try.underlying32 rfl (by kernel_rfl)) rfl ?_
  exact ⟨.slice none 0 0,.slice none 0 0,.slice none 0 0,by first|rfl|(simp;done),Kd.S_nil _ _ _ _ _,Kd.S_nil _ _ _ _ _,Kd.R_nil _ _ _ _ _,below_set (below_set (below_set (below_set D3.out GR.out) GR.out) GR.out) GR.out⟩
  | true =>
 have h1 := H1.out
 rw [if_pos rfl] at h1
 clear H1
 obtain ⟨t3,E9,h2⟩ := Option.bind_eq_some_iff.1 h1
 clear h1
 have H1 := Aside0.mk h2
 have F9 := Aside0.mk E9
 clear h2 E9
 go_wp2_with (go_at_call 86;refine (impl_areCells.calls A2 c2 l2 t3 _ (Kd.C_below HRR.out D3.out) HRC.out F9.out).mono ?_;rintro e w3 ⟨rfl,B⟩;(try dsimp only);refine hold_36 ?_)
 refine ⟨?_⟩
 have D3 := Aside0.mk (below_step D3.out B)
 have BM := Aside0.mk (blk_below BM.out B)
 have BR := Aside0.mk (blk_below BR.out B)
 clear B
 clear hcgr4_0 hfr4_0 hcgr4_1 hfr4_1 hcgr4_2 hfr4_2 hcgr4_3 hfr4_3
 clear F9
 have hcgr5_0 : w3.cell? ⟨gr,0,none⟩ = some (.bool false) := (blk_cell BR.out 0).trans rfl
 have hcgr5_1 : w3.cell? ⟨gr,1,none⟩ = some (.slice none 0 0) := (blk_cell BR.out 1).trans rfl
 have hcgr5_2 : w3.cell? ⟨gr,2,none⟩ = some (.slice none 0 0) := (blk_cell BR.out 2).trans rfl
 have hcgr5_3 : w3.cell? ⟨gr,3,none⟩ = some (.slice none 0 0) := (blk_cell BR.out 3).trans rfl
 have hfr5_0 := blk_frozen BR.out 0
 have hfr5_1 := blk_frozen BR.out 1
 have hfr5_2 := blk_frozen BR.out 2
 have hfr5_3 := blk_frozen BR.out 3
 have hcga5_0 : w3.cell? ⟨ga,0,none⟩ = some (.bool a0_0) := (blk_cell BM.out 0).trans rfl
 have hcga5_1 : w3.cell? ⟨ga,1,none⟩ = some (.slice A0_1 l0_1.length c0_1) := (blk_cell BM.out 1).trans rfl
 have hcga5_2 : w3.cell? ⟨ga,2,none⟩ = some (.slice A0_2 l0_2.length c0_2) := (blk_cell BM.out 2).trans rfl
 have hcga5_3 : w3.cell? ⟨ga,3,none⟩ = some (.slice A0_3 l0_3.length c0_3) := (blk_cell BM.out 3).trans rfl
 cases t3 with
  | false =>
  have h1 := H1.out
  rw [if_neg (by simp)] at h1
  clear H1
  simp only [Option.some.injEq,Prod.mk.injEq] at h1
  obtain ⟨rfl,rfl,rfl,rfl,rfl⟩ := h1
  go_wp2
  refine bodyPost_ret (results_ct rfl _ _ gr 32 #[.bool false,.slice none 0 0,.slice none 0 0,.slice none 0 0] (0,0) _ rfl (by refine blk_put (cs := #[.bool false,.slice none 0 0,.slice none 0 0,.slice none 0 0]) ?_ 3 _ rfl;refine blk_put (cs := #[.bool false,.slice none 0 0,.slice none 0 0,.slice none 0 0]) ?_ 2 _ rfl;refine blk_put (cs := #[.bool false,.slice none 0 0,.slice none 0 0,.slice none 0 0]) ?_ 1 _ rfl;refine blk_put (cs := #[.bool false,.slice none 0 0,.slice none 0 0,.slice none 0 0]) ?_ 0 _ rfl;exact BR.out) Try.underlying32 rfl (by kernel_rfl)) rfl ?_
  exact ⟨.slice none 0 0,.slice none 0 0,.slice none 0 0,by first|rfl|(simp;done),Kd.S_nil _ _ _ _ _,Kd.S_nil _ _ _ _ _,Kd.R_nil _ _ _ _ _,below_set (below_set (below_set (below_set D3.out GR.out) GR.out) GR.out) GR.out⟩
  | true =>
 have h1 := H1.out
 rw [if_pos rfl] at h1
 clear H1
 obtain ⟨⟨b,p1,p2,p3⟩,E1,h2⟩ := Option.bind_eq_some_iff.1 h1
 clear h1
 obtain ⟨q1,E2,h3⟩ := Option.bind_eq_some_iff.1 h2
 clear h2
 simp only [Option.some.injEq,Prod.mk.injEq] at h3
 obtain ⟨rfl,rfl,rfl,rfl,rfl⟩ := h3
 have F1 := Aside0.mk E1
 have F2 := Aside0.mk E2
 clear E1 E2
 go_wp2_with ((with_reducible refine gcal_ (f := 76) rfl ?_);refine goesL_ (some 24) rfl rfl Try.func76 (by kernel_rfl) rfl #[.agg #[.bool a0_0,.slice A0_1 l0_1.length c0_1,.slice A0_2 l0_2.length c0_2,.slice A0_3 l0_3.length c0_3]] rfl (by (try simp only [List.map_toArray,List.map_cons,List.map_nil]);first|done|rfl) ?_;refine (impl_cloneMachine.calls k a0_0 A0_1 c0_1 l0_1 A0_2 c0_2 l0_2 A0_3 c0_3 l0_3 b p1 p2 p3 _ (Kd.C_below HR1.out D3.out) HC1.out (Kd.C_below HR2.out D3.out) HC2.out (Kd.C_below HR3.out D3.out) HC3.out F1.out).mono ?_;rintro e w4 ⟨v1,v2,v3,rfl,S1,S2,S3,B⟩;refine ⟨_,rfl,?_⟩;refine hold_36 ?_)
 refine ⟨?_⟩
 clear hcgr5_0 hfr5_0 hcgr5_1 hfr5_1 hcgr5_2 hfr5_2 hcgr5_3 hfr5_3 hcga5_0 hcga5_1 hcga5_2 hcga5_3
 have T1 := Aside0.mk S1
 have T2 := Aside0.mk S2
 have T3 := Aside0.mk S3
 have LG := Aside0.mk (blk_lt BR.out)
 have G := Aside0.mk B
 have D4 := Aside0.mk (below_step D3.out B)
 have BR := Aside0.mk (blk_below BR.out B)
 clear S1 S2 S3 B BM
 obtain ⟨B1,d1,e1_⟩ := Kd.S_slice T1.out
 subst e1_
 obtain ⟨B2,d2,e2_⟩ := Kd.S_slice T2.out
 subst e2_
 obtain ⟨B3,d3,e3_⟩ := Kd.R_slice T3.out
 subst e3_
 go_wp2_with ((with_reducible refine gate_dst (N := 8) rfl ?_);refine bx_ 8 #[.bool false,.slice none 0 0,.slice none 0 0,.slice none 0 0] 32 ?_;intro go hg w5 hbox hb;have hge := Aside0.mk (Nat.le_of_eq hg.symm);clear hg;refine hold_36 ?_)
 refine ⟨?_⟩
 have BZ := Aside0.mk hbox
 have Q0 := Aside0.mk hb
 have HGE := hge
 clear hbox hb hge
 have hcgoy_0 : w5.cell? ⟨go,0,none⟩ = some (.bool false) := (blk_cell BZ.out 0).trans rfl
 have hcgoy_1 : w5.cell? ⟨go,1,none⟩ = some (.slice none 0 0) := (blk_cell BZ.out 1).trans rfl
 have hcgoy_2 : w5.cell? ⟨go,2,none⟩ = some (.slice none 0 0) := (blk_cell BZ.out 2).trans rfl
 have hcgoy_3 : w5.cell? ⟨go,3,none⟩ = some (.slice none 0 0) := (blk_cell BZ.out 3).trans rfl
 have hfy_0 := blk_frozen BZ.out 0
 have hfy_1 := blk_frozen BZ.out 1
 have hfy_2 := blk_frozen BZ.out 2
 have hfy_3 := blk_frozen BZ.out 3
 go_upto_region 4 with (fail)
 have n0_ : Aside0 (Below w4.heap.size w4 ((((w5.setCell ⟨go,0,none⟩ (.bool b)).setCell ⟨go,1,none⟩ (.slice B1 p1.length d1)).setCell ⟨go,2,none⟩ (.slice B2 p2.length d2)).setCell ⟨go,3,none⟩ (.slice B3 p3.length d3))) := ⟨below_set (below_set (below_set (below_set Q0.out HGE.out) HGE.out) HGE.out) HGE.out⟩
 have n1_ : Aside0 (((((w5.setCell ⟨go,0,none⟩ (.bool b)).setCell ⟨go,1,none⟩ (.slice B1 p1.length d1)).setCell ⟨go,2,none⟩ (.slice B2 p2.length d2)).setCell ⟨go,3,none⟩ (.slice B3 p3.length d3)).heap[go]? = some (.cells #[.bool b,.slice B1 p1.length d1,.slice B2 p2.length d2,.slice B3 p3.length d3] 32 (0,0))) := ⟨by refine blk_put (cs := #[.bool b,.slice B1 p1.length d1,.slice B2 p2.length d2,.slice none 0 0]) ?_ 3 _ rfl;refine blk_put (cs := #[.bool b,.slice B1 p1.length d1,.slice none 0 0,.slice none 0 0]) ?_ 2 _ rfl;refine blk_put (cs := #[.bool b,.slice none 0 0,.slice none 0 0,.slice none 0 0]) ?_ 1 _ rfl;refine blk_put (cs := #[.bool false,.slice none 0 0,.slice none 0 0,.slice none 0 0]) ?_ 0 _ rfl;exact BZ.out⟩
 clear BZ Q0
 clear hcgoy_0 hfy_0 hcgoy_1 hfy_1 hcgoy_2 hfy_2 hcgoy_3 hfy_3
 generalize ((((w5.setCell ⟨go,0,none⟩ (.bool b)).setCell ⟨go,1,none⟩ (.slice B1 p1.length d1)).setCell ⟨go,2,none⟩ (.slice B2 p2.length d2)).setCell ⟨go,3,none⟩ (.slice B3 p3.length d3)) = w6 at n0_ n1_ ⊢
 have B := n0_.out
 have BG := n1_
 clear n0_ n1_
 have T1 := Aside0.mk (Kd.S_bound (Kd.S_below T1.out B))
 have T2 := Aside0.mk (Kd.S_bound (Kd.S_below T2.out B))
 have T3 := Aside0.mk (Kd.R_bound (Kd.R_below T3.out B))
 have GO : Aside0 (w3.heap.size ≤ go) := ⟨Nat.le_trans G.out.size HGE.out⟩
 have G := Aside0.mk (below_step G.out B)
 have D6 := Aside0.mk (below_step D4.out B)
 have BR := Aside0.mk (blk_below BR.out B)
 clear B D4
 have NG : Aside0 (gr ≠ go) := ⟨Nat.ne_of_lt (Nat.lt_of_lt_of_le LG.out GO.out)⟩
 go_wp2_with ((with_reducible refine gcal_ (f := 87) rfl ?_);refine goesL_ (some 27) rfl rfl Try.func87 (by kernel_rfl) rfl #[.pointer (some ⟨go,0,none⟩),.int .i64 a1,.slice A2 l2.length c2] rfl (by (try simp only [List.map_toArray,List.map_cons,List.map_nil]);first|done|rfl) ?_;refine (impl_Machine_replace.calls (fun k_ => True ∧ w3.heap.size ≤ k_ ∧ k_ < w6.heap.size ∧ ∃ q,q ∈ 79 :: (k79).E ∧ ∃ cells,w6.heap[k_]? = some (.cells cells q (0,0))) go b (.slice B2 p2.length d2) (.slice B3 p3.length d3) B1 d1 p1 a1 A2 c2 l2 q1 w3 _ G.out GO.out BG.out (fun hs_ => ty_36 ⟨32,List.mem_singleton.2 rfl,_,BG.out⟩ hs_.2.2.2 (by decide)) T1.out (Kd.C_below HRR.out D6.out) HRC.out F2.out).mono ?_;rintro e w7 ⟨rfl,B4,d4,BG2,S,B,K⟩;refine ⟨_,rfl,?_⟩;refine hold_36 ?_)
 refine ⟨?_⟩
 have T2 := Aside0.mk (Kd.S_kept T2.out K (fun k_ hk_ hs_ => hs_.elim (fun h_ => ty_36 hk_.2.2.2 h_.2.2.2 (by decide)) (fun e_ => ty_36 (e_ ▸ hk_.2.2.2) ⟨32,List.mem_singleton.2 rfl,_,BG.out⟩ (by decide))))
 have T3 := Aside0.mk (Kd.R_kept T3.out K (fun k_ hk_ hs_ => hs_.elim (fun h_ => ty_36 hk_.2.2.2 h_.2.2.2 (by decide)) (fun e_ => ty_36 (e_ ▸ hk_.2.2.2) ⟨32,List.mem_singleton.2 rfl,_,BG.out⟩ (by decide))))
 have T1 := Aside0.mk S
 have BR2 := Aside0.mk (blk_kept BR.out K (fun hs_ => hs_.elim (fun hs_ => ty_36 ⟨32,List.mem_singleton.2 rfl,_,BR.out⟩ hs_.2.2.2 (by decide)) NG.out))
 have BG := Aside0.mk BG2
 have D7 := Aside0.mk (below_step D3.out B)
 clear S B K BG2 BR
 have BR := BR2
 clear BR2
 have hcgo7_0 : w7.cell? ⟨go,0,none⟩ = some (.bool b) := (blk_cell BG.out 0).trans rfl
 have hcgo7_1 : w7.cell? ⟨go,1,none⟩ = some (.slice B4 q1.length d4) := (blk_cell BG.out 1).trans rfl
 have hcgo7_2 : w7.cell? ⟨go,2,none⟩ = some (.slice B2 p2.length d2) := (blk_cell BG.out 2).trans rfl
 have hcgo7_3 : w7.cell? ⟨go,3,none⟩ = some (.slice B3 p3.length d3) := (blk_cell BG.out 3).trans rfl
 have hcgr7_0 : w7.cell? ⟨gr,0,none⟩ = some (.bool false) := (blk_cell BR.out 0).trans rfl
 have hcgr7_1 : w7.cell? ⟨gr,1,none⟩ = some (.slice none 0 0) := (blk_cell BR.out 1).trans rfl
 have hcgr7_2 : w7.cell? ⟨gr,2,none⟩ = some (.slice none 0 0) := (blk_cell BR.out 2).trans rfl
 have hcgr7_3 : w7.cell? ⟨gr,3,none⟩ = some (.slice none 0 0) := (blk_cell BR.out 3).trans rfl
 have hfr7_0 := blk_frozen BR.out 0
 have hfr7_1 := blk_frozen BR.out 1
 have hfr7_2 := blk_frozen BR.out 2
 have hfr7_3 := blk_frozen BR.out 3
 go_wp2
 refine bodyPost_ret (results_ct rfl _ _ gr 32 #[.bool b,.slice B4 q1.length d4,.slice B2 p2.length d2,.slice B3 p3.length d3] (0,0) _ rfl (by refine blk_put (cs := #[.bool b,.slice B4 q1.length d4,.slice B2 p2.length d2,.slice none 0 0]) ?_ 3 _ rfl;refine blk_put (cs := #[.bool b,.slice B4 q1.length d4,.slice none 0 0,.slice none 0 0]) ?_ 2 _ rfl;refine blk_put (cs := #[.bool b,.slice none 0 0,.slice none 0 0,.slice none 0 0]) ?_ 1 _ rfl;refine blk_put (cs := #[.bool false,.slice none 0 0,.slice none 0 0,.slice none 0 0]) ?_ 0 _ rfl;exact BR.out) Try.underlying32 rfl (by kernel_rfl)) rfl ?_
 exact ⟨.slice B4 q1.length d4,.slice B2 p2.length d2,.slice B3 p3.length d3,by first|rfl|(simp;done),Kd.S_mono (Kd.S_far (p := ⟨gr,3,none⟩) (Kd.S_far (p := ⟨gr,2,none⟩) (Kd.S_far (p := ⟨gr,1,none⟩) (Kd.S_far (p := ⟨gr,0,none⟩) (Kd.S_types (Kd.S_lower T1.out D3.out.size) BR.out (by decide)) (fun _ h_ => h_.2) (.bool b)) (fun _ h_ => h_.2) (.slice B4 q1.length d4)) (fun _ h_ => h_.2) (.slice B2 p2.length d2)) (fun _ h_ => h_.2) (.slice B3 p3.length d3)) (fun _ _ => trivial),Kd.S_mono (Kd.S_far (p := ⟨gr,3,none⟩) (Kd.S_far (p := ⟨gr,2,none⟩) (Kd.S_far (p := ⟨gr,1,none⟩) (Kd.S_far (p := ⟨gr,0,none⟩) (Kd.S_types (Kd.S_lower T2.out D3.out.size) BR.out (by decide)) (fun _ h_ => h_.2) (.bool b)) (fun _ h_ => h_.2) (.slice B4 q1.length d4)) (fun _ h_ => h_.2) (.slice B2 p2.length d2)) (fun _ h_ => h_.2) (.slice B3 p3.length d3)) (fun _ _ => trivial),Kd.R_mono (Kd.R_far (p := ⟨gr,3,none⟩) (Kd.R_far (p := ⟨gr,2,none⟩) (Kd.R_far (p := ⟨gr,1,none⟩) (Kd.R_far (p := ⟨gr,0,none⟩) (Kd.R_types (Kd.R_lower T3.out D3.out.size) BR.out (by decide)) (fun _ h_ => h_.2) (.bool b)) (fun _ h_ => h_.2) (.slice B4 q1.length d4)) (fun _ h_ => h_.2) (.slice B2 p2.length d2)) (fun _ h_ => h_.2) (.slice B3 p3.length d3)) (fun _ _ => trivial),below_set (below_set (below_set (below_set D7.out GR.out) GR.out) GR.out) GR.out⟩

end Go.Proofs.Ythplaakckfhaaaa.XRp
