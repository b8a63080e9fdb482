/- Proved: of each Go function here that a call comes to what the Lean function of its name tells. Written by a program of this session over the translation. No conditions beyond each theorem's own. -/
import Derived.Test.YthplaakckfhaaaaXCd0
import Derived.Test.YthplaakckfhaaaaXCd7
import Derived.Test.YthplaakckfhaaaaXCd12
import Derived.Test.YthplaakckfhaaaaXCd14
import Derived.Test.YthplaakckfhaaaaXCd24
import Derived.Test.YthplaakckfhaaaaXCd25
namespace Go.Proofs.Ythplaakckfhaaaa.XCd
open Go.RowKit Go.Proofs.Ythplaakckfhaaaa.Aid Go.Proofs.YthplaakckfhaaaaW.PrintWords Go.Proofs.YthplaakckfhaaaaW.PrintLast Go.Proofs.YthplaakckfhaaaaW.PrintMore
set_option linter.unusedVariables false
set_option linter.unusedSimpArgs false
theorem fl4_ {w W : World} {b : Nat} {t : TypeId} {a0 a1 a2 a3 : Value} (q : Below w.heap.size w W) (hg : w.heap.size ≤ b) (h : W.heap[b]? = some (.cells #[a0, a1, a2, a3] t (0, 0))) (x0 x1 x2 x3 : Value) : Aside0 (Below w.heap.size w ((((W.setCell ⟨b, 0, none⟩ x0).setCell ⟨b, 1, none⟩ x1).setCell ⟨b, 2, none⟩ x2).setCell ⟨b, 3, none⟩ x3)) ∧ Aside0 (((((W.setCell ⟨b, 0, none⟩ x0).setCell ⟨b, 1, none⟩ x1).setCell ⟨b, 2, none⟩ x2).setCell ⟨b, 3, none⟩ x3).heap[b]? = some (.cells #[x0, x1, x2, x3] t (0, 0))) :=
 ⟨⟨below_set (below_set (below_set (below_set q hg) hg) hg) hg⟩, ⟨pt4_ h x0 x1 x2 x3⟩⟩
theorem eqA92 (d : Nat) (w : World) (x0 y0 : Int) (x1 y1 : Int) :
  (Op.equalIn (d + 2) 92 (.agg #[.int .i64 x0,.int .i64 x1]) (.agg #[.int .i64 y0,.int .i64 y1])).run Try.prog w = .ok (x0 == y0 && (x1 == y1)) w := by
 refine eqA_of Try.underlying92 (by kernel_rfl) ?_
 refine eqf_cons (by rfl) (by go_simp;rfl) (by go_simp;rfl) (by go_simp) ?_
 exact eqf_last (by rfl) (by go_simp;rfl) (by go_simp;rfl) (by go_simp)
theorem eqA127 (d : Nat) (w : World) (x0 y0 : Int) (x1 y1 : Int) (x2 y2 : Int) (x3 y3 : Bool) (x4 y4 : Int) :
  (Op.equalIn (d + 2) 127 (.agg #[.int .i64 x0,.int .i64 x1,.int .i64 x2,.bool x3,.int .i64 x4]) (.agg #[.int .i64 y0,.int .i64 y1,.int .i64 y2,.bool y3,.int .i64 y4])).run Try.prog w = .ok (x0 == y0 && (x1 == y1 && (x2 == y2 && (x3 == y3 && (x4 == y4))))) w := by
 refine eqA_of Try.underlying127 (by kernel_rfl) ?_
 refine eqf_cons (by rfl) (by go_simp;rfl) (by go_simp;rfl) (by go_simp) ?_
 refine eqf_cons (by rfl) (by go_simp;rfl) (by go_simp;rfl) (by go_simp) ?_
 refine eqf_cons (by rfl) (by go_simp;rfl) (by go_simp;rfl) (by go_simp) ?_
 refine eqf_cons (by rfl) (by go_simp;rfl) (by go_simp;rfl) (by go_simp) ?_
 exact eqf_last (by rfl) (by go_simp;rfl) (by go_simp;rfl) (by go_simp)
attribute [local go_sem high] eqA92 eqA127
/-! ### spec_Clear: function 40 -/
theorem hold_40 {p : Prop} (h : Aside0 p) : p := h.out
theorem ty_40 {w : World} {k : Nat} {a b : List Nat} (h1 : ∃ q, q ∈ a ∧ ∃ cs, w.heap[k]? = some (.cells cs q (0, 0))) (h2 : ∃ q, q ∈ b ∧ ∃ cs, w.heap[k]? = some (.cells cs q (0, 0))) (hd : ∀ q, q ∈ a → ¬ q ∈ b) : False := by
 obtain ⟨q,hq,cs,h1⟩ := h1
 obtain ⟨q2,hq2,cs2,h2⟩ := h2
 rw [h1] at h2
 injection h2 with h2
 injection h2 with _ h2
 exact hd q hq (h2 ▸ hq2)
def spec_Clear.f (k : Nat) (a0_0 : Bool) (l0_1 : List (S79)) (l0_2 : List (S45)) (l0_3 : List Int) (a1 a2 : Int) (d : Bool) : Option (Bool × (List (S79)) × (List (S45)) × List Int × Bool) := (spec_MachineOk.f k a0_0 l0_1 l0_2 l0_3).bind fun t => if t = true then ((spec_l1Id.f a1).bind fun t2 => if t2 = true then ((if d = true then ((spec_l3Has.f k l0_3 a1).bind fun v => some (v || !decide ((l0_3.length : Int) = 60))) else some true).bind fun t3 => if t3 = true then ((spec_l6Copy.f k a0_0 l0_1 l0_2 l0_3).bind fun c => (spec_l6Clear.f k c.2.2.1 c.2.2.2 a1 a2 d).bind fun q => some (c.1, c.2.1, q.1, q.2, true)) else some (false, [], [], [], false)) else some (false, [], [], [], false)) else some (false, [], [], [], false)
set_option maxHeartbeats 8000000 in
set_option maxRecDepth 100000 in
theorem spec_Clear.calls (k : Nat) (a0_0 : Bool) (A0_1 : Option Addr) (c0_1 : Nat) (l0_1 : List (S79)) (A0_2 : Option Addr) (c0_2 : Nat) (l0_2 : List (S45)) (A0_3 : Option Addr) (c0_3 : Nat) (l0_3 : List Int) (a1 a2 : Int) (d : Bool) (r1 : Bool) (r2 : List (S79)) (r3 : List (S45)) (r4 : List Int) (r5 : Bool) (w : World) (hr0_1 : Kd.C k79 w A0_1 l0_1.length l0_1) (hc0_1 : l0_1.length ≤ c0_1) (hr0_2 : Kd.C k45 w A0_2 l0_2.length l0_2) (hc0_2 : l0_2.length ≤ c0_2) (hr0_3 : Kd.C (Kd.int .i64) w A0_3 l0_3.length l0_3) (hc0_3 : l0_3.length ≤ c0_3) (h : spec_Clear.f k a0_0 l0_1 l0_2 l0_3 a1 a2 d = some (r1, r2, r3, r4, r5)) :
    Calls Try.prog 40 #[.agg #[.bool a0_0, .slice A0_1 l0_1.length c0_1, .slice A0_2 l0_2.length c0_2, .slice A0_3 l0_3.length c0_3], .int .i64 a1, .int .i64 a2, .bool d] w fun e w' => ∃ v1_ v2_ v3_ : Value, e = .returned (.tuple #[.agg #[.bool r1, v1_, v2_, v3_], .bool r5]) ∧ Kd.S k79 79 w' w.heap.size (fun _ => True) v1_ r2 ∧ Kd.S k45 45 w' w.heap.size (fun _ => True) v2_ r3 ∧ Kd.R (Kd.int .i64) 2 w' w.heap.size (fun _ => True) v3_ r4 ∧ Below w.heap.size w w' := by
 have hu := Try.underlying32
 have HR1 := ak hr0_1
 have HC1 := ak hc0_1
 clear hr0_1 hc0_1
 have HR2 := ak hr0_2
 have HC2 := ak hc0_2
 clear hr0_2 hc0_2
 have HR3 := ak hr0_3
 have HC3 := ak hc0_3
 clear hr0_3 hc0_3
 obtain ⟨t,E0,h1⟩ := Option.bind_eq_some_iff.1 h
 clear h
 have H1 := ak h1
 have F0 := ak E0
 clear h1 E0
 go_enter Try.func40,Try.ntmps40
 go_wp2_with ((with_reducible refine gate_dst (N := 4) rfl ?_);refine bx_ 4 #[.bool a0_0,.slice A0_1 l0_1.length c0_1,.slice A0_2 l0_2.length c0_2,.slice A0_3 l0_3.length c0_3] 32 ?_;intro ga hg w1 hbox hb;have hge := ak (Nat.le_of_eq hg.symm);clear hg;refine hold_40 ?_)
 refine ⟨?_⟩
 have D1 := ak hb
 have BM := ak hbox
 clear hb hbox hge
 go_wp2_with ((with_reducible refine gate_dst (N := 8) rfl ?_);refine bx_ 8 #[.bool false,.slice none 0 0,.slice none 0 0,.slice none 0 0] 32 ?_;intro gr hg w2 hbox hb;have hge := ak (Nat.le_of_eq hg.symm);clear hg;refine hold_40 ?_)
 refine ⟨?_⟩
 have GR : Aside0 (w.heap.size ≤ gr) := ⟨Nat.le_trans D1.out.size hge.out⟩
 have D2 := ak (below_step D1.out hb)
 have BM := ak (blk_below BM.out hb)
 have BR := ak hbox
 clear hb hbox hge
 have hcga2_0 : w2.cell? ⟨ga,0,none⟩ = some (.bool a0_0) := (blk_cell BM.out 0).trans rfl
 have hcga2_1 : w2.cell? ⟨ga,1,none⟩ = some (.slice A0_1 l0_1.length c0_1) := (blk_cell BM.out 1).trans rfl
 have hcga2_2 : w2.cell? ⟨ga,2,none⟩ = some (.slice A0_2 l0_2.length c0_2) := (blk_cell BM.out 2).trans rfl
 have hcga2_3 : w2.cell? ⟨ga,3,none⟩ = some (.slice A0_3 l0_3.length c0_3) := (blk_cell BM.out 3).trans rfl
 go_wp2_with ((with_reducible refine gcal_ (f := 11) rfl ?_);refine goesL_ (some 12) rfl rfl Try.func11 (by kernel_rfl) rfl #[.agg #[.bool a0_0,.slice A0_1 l0_1.length c0_1,.slice A0_2 l0_2.length c0_2,.slice A0_3 l0_3.length c0_3]] rfl (by (try simp only [List.map_toArray,List.map_cons,List.map_nil]);first|done|rfl) ?_;refine (spec_MachineOk.calls k a0_0 A0_1 c0_1 l0_1 A0_2 c0_2 l0_2 A0_3 c0_3 l0_3 t _ (Kd.C_below HR1.out D2.out) HC1.out (Kd.C_below HR2.out D2.out) HC2.out (Kd.C_below HR3.out D2.out) HC3.out F0.out).mono ?_;rintro e w2b ⟨rfl,B⟩;refine ⟨_,rfl,?_⟩;refine hold_40 ?_)
 refine ⟨?_⟩
 have D3 := ak (below_step D2.out B)
 have BM := ak (blk_below BM.out B)
 have BR := ak (blk_below BR.out B)
 clear B
 have hcgr3_0 : w2b.cell? ⟨gr,0,none⟩ = some (.bool false) := (blk_cell BR.out 0).trans rfl
 have hcgr3_1 : w2b.cell? ⟨gr,1,none⟩ = some (.slice none 0 0) := (blk_cell BR.out 1).trans rfl
 have hcgr3_2 : w2b.cell? ⟨gr,2,none⟩ = some (.slice none 0 0) := (blk_cell BR.out 2).trans rfl
 have hcgr3_3 : w2b.cell? ⟨gr,3,none⟩ = some (.slice none 0 0) := (blk_cell BR.out 3).trans rfl
 have hfr3_0 := blk_frozen BR.out 0
 have hfr3_1 := blk_frozen BR.out 1
 have hfr3_2 := blk_frozen BR.out 2
 have hfr3_3 := blk_frozen BR.out 3
 cases t with
  | false =>
  have h1 := H1.out
  rw [if_neg (by simp)] at h1
  clear H1
  simp only [Option.some.injEq,Prod.mk.injEq] at h1
  obtain ⟨rfl,rfl,rfl,rfl,rfl⟩ := h1
  go_wp2
  refine bodyPost_ret (results_ct rfl _ _ gr 32 #[.bool false,.slice none 0 0,.slice none 0 0,.slice none 0 0] (0,0) _ rfl (pt4_ BR.out _ _ _ _) Try.underlying32 rfl (by kernel_rfl)) rfl ?_
  exact ⟨.slice none 0 0,.slice none 0 0,.slice none 0 0,by first|rfl|(simp;done),Kd.S_nil _ _ _ _ _,Kd.S_nil _ _ _ _ _,Kd.R_nil _ _ _ _ _,below_set (below_set (below_set (below_set D3.out GR.out) GR.out) GR.out) GR.out⟩
  | true =>
 have h1 := H1.out
 rw [if_pos rfl] at h1
 clear H1
 obtain ⟨t2,E9,h2⟩ := Option.bind_eq_some_iff.1 h1
 clear h1
 have H1 := ak h2
 have F9 := ak E9
 clear h2 E9
 go_wp2_with (go_at_call 95;refine (spec_l1Id.calls a1 t2 _ F9.out).mono ?_;rintro e w3a ⟨rfl,B0⟩;(try dsimp only);refine hold_40 ?_)
 refine ⟨?_⟩
 have B := B0.below
 have D3 := ak (below_step D3.out B)
 have BM := ak (blk_below BM.out B)
 have BR := ak (blk_below BR.out B)
 clear B B0
 clear hcgr3_0 hfr3_0 hcgr3_1 hfr3_1 hcgr3_2 hfr3_2 hcgr3_3 hfr3_3
 have hcgr4_0 : w3a.cell? ⟨gr,0,none⟩ = some (.bool false) := (blk_cell BR.out 0).trans rfl
 have hcgr4_1 : w3a.cell? ⟨gr,1,none⟩ = some (.slice none 0 0) := (blk_cell BR.out 1).trans rfl
 have hcgr4_2 : w3a.cell? ⟨gr,2,none⟩ = some (.slice none 0 0) := (blk_cell BR.out 2).trans rfl
 have hcgr4_3 : w3a.cell? ⟨gr,3,none⟩ = some (.slice none 0 0) := (blk_cell BR.out 3).trans rfl
 have hfr4_0 := blk_frozen BR.out 0
 have hfr4_1 := blk_frozen BR.out 1
 have hfr4_2 := blk_frozen BR.out 2
 have hfr4_3 := blk_frozen BR.out 3
 have hcga4_0 : w3a.cell? ⟨ga,0,none⟩ = some (.bool a0_0) := (blk_cell BM.out 0).trans rfl
 have hcga4_1 : w3a.cell? ⟨ga,1,none⟩ = some (.slice A0_1 l0_1.length c0_1) := (blk_cell BM.out 1).trans rfl
 have hcga4_2 : w3a.cell? ⟨ga,2,none⟩ = some (.slice A0_2 l0_2.length c0_2) := (blk_cell BM.out 2).trans rfl
 have hcga4_3 : w3a.cell? ⟨ga,3,none⟩ = some (.slice A0_3 l0_3.length c0_3) := (blk_cell BM.out 3).trans rfl
 cases t2 with
  | false =>
  have h1 := H1.out
  rw [if_neg (by simp)] at h1
  clear H1
  simp only [Option.some.injEq,Prod.mk.injEq] at h1
  obtain ⟨rfl,rfl,rfl,rfl,rfl⟩ := h1
  go_wp2
  refine bodyPost_ret (results_ct rfl _ _ gr 32 #[.bool false,.slice none 0 0,.slice none 0 0,.slice none 0 0] (0,0) _ rfl (pt4_ BR.out _ _ _ _) Try.underlying32 rfl (by kernel_rfl)) rfl ?_
  exact ⟨.slice none 0 0,.slice none 0 0,.slice none 0 0,by first|rfl|(simp;done),Kd.S_nil _ _ _ _ _,Kd.S_nil _ _ _ _ _,Kd.R_nil _ _ _ _ _,below_set (below_set (below_set (below_set D3.out GR.out) GR.out) GR.out) GR.out⟩
  | true =>
 have h1 := H1.out
 rw [if_pos rfl] at h1
 clear H1
 obtain ⟨t3,E9,h2⟩ := Option.bind_eq_some_iff.1 h1
 clear h1
 have H1 := ak h2
 clear h2
 cases d with
  | false =>
  obtain rfl := Option.some.inj E9
  clear E9
  have h1 := H1.out
  rw [if_pos rfl] at h1
  clear H1
  obtain ⟨⟨b,p1,p2,p3⟩,E1,h2⟩ := Option.bind_eq_some_iff.1 h1
  clear h1
  obtain ⟨⟨q2,q3⟩,E2,h3⟩ := Option.bind_eq_some_iff.1 h2
  clear h2
  simp only [Option.some.injEq,Prod.mk.injEq] at h3
  obtain ⟨rfl,rfl,rfl,rfl,rfl⟩ := h3
  have F1 := ak E1
  have F2 := ak E2
  clear E1 E2
  go_wp2_with ((with_reducible refine gcal_ (f := 73) rfl ?_);refine goesL_ (some 37) rfl rfl Try.func73 (by kernel_rfl) rfl #[.agg #[.bool a0_0,.slice A0_1 l0_1.length c0_1,.slice A0_2 l0_2.length c0_2,.slice A0_3 l0_3.length c0_3]] rfl (by (try simp only [List.map_toArray,List.map_cons,List.map_nil]);first|done|rfl) ?_;refine (spec_l6Copy.calls k a0_0 A0_1 c0_1 l0_1 A0_2 c0_2 l0_2 A0_3 c0_3 l0_3 b p1 p2 p3 _ (Kd.C_below HR1.out D3.out) HC1.out (Kd.C_below HR2.out D3.out) HC2.out (Kd.C_below HR3.out D3.out) HC3.out F1.out).mono ?_;rintro e w4 ⟨v1,v2,v3,rfl,S1,S2,S3,B⟩;refine ⟨_,rfl,?_⟩;refine hold_40 ?_)
  refine ⟨?_⟩
  clear hcgr4_0 hfr4_0 hcga4_0 hcgr4_1 hfr4_1 hcga4_1 hcgr4_2 hfr4_2 hcga4_2 hcgr4_3 hfr4_3 hcga4_3
  have T1 := ak S1
  have T2 := ak S2
  have T3 := ak S3
  have LG := ak (blk_lt BR.out)
  have G := ak B
  have D4 := ak (below_step D3.out B)
  have BR := ak (blk_below BR.out B)
  clear S1 S2 S3 B BM
  obtain ⟨A1,c1,e1_⟩ := Kd.S_slice T1.out
  subst e1_
  obtain ⟨A2,c2,e2_⟩ := Kd.S_slice T2.out
  subst e2_
  obtain ⟨A3,c3,e3_⟩ := Kd.R_slice T3.out
  subst e3_
  go_wp2_with ((with_reducible refine gate_dst (N := 10) rfl ?_);refine bx_ 10 #[.bool false,.slice none 0 0,.slice none 0 0,.slice none 0 0] 32 ?_;intro go hg w5 hbox hb;have hge := ak (Nat.le_of_eq hg.symm);clear hg;refine hold_40 ?_)
  refine ⟨?_⟩
  have BZ := ak hbox
  have Q0 := ak hb
  have HGE := hge
  clear hbox hb hge
  obtain ⟨⟨hcgoy_0, hcgoy_1, hcgoy_2, hcgoy_3⟩, hfy_0, hfy_1, hfy_2, hfy_3⟩ := cl4_ BZ.out
  go_upto_region 4 with (fail)
  obtain ⟨n0_, n1_⟩ := fl4_ Q0.out HGE.out BZ.out (.bool b) (.slice A1 p1.length c1) (.slice A2 p2.length c2) (.slice A3 p3.length c3)
  clear BZ Q0
  clear hcgoy_0 hfy_0 hcgoy_1 hfy_1 hcgoy_2 hfy_2 hcgoy_3 hfy_3
  generalize ((((w5.setCell ⟨go,0,none⟩ (.bool b)).setCell ⟨go,1,none⟩ (.slice A1 p1.length c1)).setCell ⟨go,2,none⟩ (.slice A2 p2.length c2)).setCell ⟨go,3,none⟩ (.slice A3 p3.length c3)) = w6 at n0_ n1_ ⊢
  have B := n0_.out
  have BG := n1_
  clear n0_ n1_
  have T1 := ak (Kd.S_bound (Kd.S_below T1.out B))
  have T2 := ak (Kd.S_bound (Kd.S_below T2.out B))
  have T3 := ak (Kd.R_bound (Kd.R_below T3.out B))
  have GO : Aside0 (w3a.heap.size ≤ go) := ⟨Nat.le_trans G.out.size HGE.out⟩
  have G := ak (below_step G.out B)
  have D6 := ak (below_step D4.out B)
  have BR := ak (blk_below BR.out B)
  clear B D4
  have NG : Aside0 (gr ≠ go) := ⟨Nat.ne_of_lt (Nat.lt_of_lt_of_le LG.out GO.out)⟩
  go_wp2_with ((with_reducible refine gcal_ (f := 97) rfl ?_);refine goesL_ (some 41) rfl rfl Try.func97 (by kernel_rfl) rfl #[.pointer (some ⟨go,0,none⟩),.int .i64 a1,.int .i64 a2,.bool false] rfl (by (try simp only [List.map_toArray,List.map_cons,List.map_nil]);first|done|rfl) ?_;refine (spec_l6Clear.calls k (fun k_ => True ∧ w3a.heap.size ≤ k_ ∧ k_ < w6.heap.size ∧ ∃ q,q ∈ 45 :: (k45).E ∧ ∃ cells,w6.heap[k_]? = some (.cells cells q (0,0))) (fun k_ => True ∧ w3a.heap.size ≤ k_ ∧ k_ < w6.heap.size ∧ ∃ q,q ∈ 2 :: ((Kd.int .i64)).E ∧ ∃ cells,w6.heap[k_]? = some (.cells cells q (0,0))) go b (.slice A1 p1.length c1) A2 c2 p2 A3 c3 p3 a1 a2 false q2 q3 w3a _ G.out GO.out BG.out (fun hs_ => ty_40 ⟨32,List.mem_singleton.2 rfl,_,BG.out⟩ hs_.2.2.2 (by decide)) (fun hs_ => ty_40 ⟨32,List.mem_singleton.2 rfl,_,BG.out⟩ hs_.2.2.2 (by decide)) (fun k_ h1_ h2_ => ty_40 h1_.2.2.2 h2_.2.2.2 (by decide)) T2.out T3.out F2.out).mono ?_;rintro e w7 ⟨rfl,A4,c4,A5,c5,BG2,S2,S3,B,K⟩;refine ⟨_,rfl,?_⟩;refine hold_40 ?_)
  refine ⟨?_⟩
  have T1 := ak (Kd.S_kept T1.out K (fun k_ hk_ hs_ => hs_.elim (fun h_ => ty_40 hk_.2.2.2 h_.2.2.2 (by decide)) (fun e_ => ty_40 (e_ ▸ hk_.2.2.2) ⟨32,List.mem_singleton.2 rfl,_,BG.out⟩ (by decide))))
  have T2 := ak S2
  have T3 := ak S3
  have BR2 := ak (blk_kept BR.out K (fun hs_ => hs_.elim (fun h_ => (fun hs_ => ty_40 ⟨32,List.mem_singleton.2 rfl,_,BR.out⟩ hs_.2.2.2 (by decide)) h_) NG.out))
  have BG := ak BG2
  have D7 := ak (below_step D3.out B)
  clear S2 S3 B K BG2 BR
  have BR := BR2
  clear BR2
  have hcgo7_0 : w7.cell? ⟨go,0,none⟩ = some (.bool b) := (blk_cell BG.out 0).trans rfl
  have hcgo7_1 : w7.cell? ⟨go,1,none⟩ = some (.slice A1 p1.length c1) := (blk_cell BG.out 1).trans rfl
  have hcgo7_2 : w7.cell? ⟨go,2,none⟩ = some (.slice A4 q2.length c4) := (blk_cell BG.out 2).trans rfl
  have hcgo7_3 : w7.cell? ⟨go,3,none⟩ = some (.slice A5 q3.length c5) := (blk_cell BG.out 3).trans rfl
  have hcgr7_0 : w7.cell? ⟨gr,0,none⟩ = some (.bool false) := (blk_cell BR.out 0).trans rfl
  have hcgr7_1 : w7.cell? ⟨gr,1,none⟩ = some (.slice none 0 0) := (blk_cell BR.out 1).trans rfl
  have hcgr7_2 : w7.cell? ⟨gr,2,none⟩ = some (.slice none 0 0) := (blk_cell BR.out 2).trans rfl
  have hcgr7_3 : w7.cell? ⟨gr,3,none⟩ = some (.slice none 0 0) := (blk_cell BR.out 3).trans rfl
  have hfr7_0 := blk_frozen BR.out 0
  have hfr7_1 := blk_frozen BR.out 1
  have hfr7_2 := blk_frozen BR.out 2
  have hfr7_3 := blk_frozen BR.out 3
  go_wp2
  refine bodyPost_ret (results_ct rfl _ _ gr 32 #[.bool b,.slice A1 p1.length c1,.slice A4 q2.length c4,.slice A5 q3.length c5] (0,0) _ rfl (pt4_ BR.out _ _ _ _) Try.underlying32 rfl (by kernel_rfl)) rfl ?_
  exact ⟨.slice A1 p1.length c1,.slice A4 q2.length c4,.slice A5 q3.length c5,by first|rfl|(simp;done),Kd.S_mono (Kd.S_far (p := ⟨gr,3,none⟩) (Kd.S_far (p := ⟨gr,2,none⟩) (Kd.S_far (p := ⟨gr,1,none⟩) (Kd.S_far (p := ⟨gr,0,none⟩) (Kd.S_types (Kd.S_lower T1.out D3.out.size) BR.out (by decide)) (fun _ h_ => h_.2) (.bool b)) (fun _ h_ => h_.2) (.slice A1 p1.length c1)) (fun _ h_ => h_.2) (.slice A4 q2.length c4)) (fun _ h_ => h_.2) (.slice A5 q3.length c5)) (fun _ _ => trivial),Kd.S_mono (Kd.S_far (p := ⟨gr,3,none⟩) (Kd.S_far (p := ⟨gr,2,none⟩) (Kd.S_far (p := ⟨gr,1,none⟩) (Kd.S_far (p := ⟨gr,0,none⟩) (Kd.S_types (Kd.S_lower T2.out D3.out.size) BR.out (by decide)) (fun _ h_ => h_.2) (.bool b)) (fun _ h_ => h_.2) (.slice A1 p1.length c1)) (fun _ h_ => h_.2) (.slice A4 q2.length c4)) (fun _ h_ => h_.2) (.slice A5 q3.length c5)) (fun _ _ => trivial),Kd.R_mono (Kd.R_far (p := ⟨gr,3,none⟩) (Kd.R_far (p := ⟨gr,2,none⟩) (Kd.R_far (p := ⟨gr,1,none⟩) (Kd.R_far (p := ⟨gr,0,none⟩) (Kd.R_types (Kd.R_lower T3.out D3.out.size) BR.out (by decide)) (fun _ h_ => h_.2) (.bool b)) (fun _ h_ => h_.2) (.slice A1 p1.length c1)) (fun _ h_ => h_.2) (.slice A4 q2.length c4)) (fun _ h_ => h_.2) (.slice A5 q3.length c5)) (fun _ _ => trivial),below_set (below_set (below_set (below_set D7.out GR.out) GR.out) GR.out) GR.out⟩
  | true =>
 obtain ⟨v,E8,h2⟩ := Option.bind_eq_some_iff.1 (show ((spec_l3Has.f k l0_3 a1).bind fun v => some (v || !decide ((l0_3.length : Int) = 60))) = some t3 from E9)
 clear E9
 have F8 := ak E8
 have H2 := ak h2
 clear E8 h2
 go_wp2_with (go_at_call 96;refine (spec_l3Has.calls k A0_3 c0_3 l0_3 a1 v _ (Kd.C_below HR3.out D3.out) HC3.out F8.out).mono ?_;rintro e w3b ⟨rfl,B0⟩;(try dsimp only);refine hold_40 ?_)
 refine ⟨?_⟩
 have B := B0.below
 have D3 := ak (below_step D3.out B)
 have BM := ak (blk_below BM.out B)
 have BR := ak (blk_below BR.out B)
 clear B B0
 clear hcgr4_0 hfr4_0 hcga4_0 hcgr4_1 hfr4_1 hcga4_1 hcgr4_2 hfr4_2 hcga4_2 hcgr4_3 hfr4_3 hcga4_3
 have hcgr5_0 : w3b.cell? ⟨gr,0,none⟩ = some (.bool false) := (blk_cell BR.out 0).trans rfl
 have hcgr5_1 : w3b.cell? ⟨gr,1,none⟩ = some (.slice none 0 0) := (blk_cell BR.out 1).trans rfl
 have hcgr5_2 : w3b.cell? ⟨gr,2,none⟩ = some (.slice none 0 0) := (blk_cell BR.out 2).trans rfl
 have hcgr5_3 : w3b.cell? ⟨gr,3,none⟩ = some (.slice none 0 0) := (blk_cell BR.out 3).trans rfl
 have hfr5_0 := blk_frozen BR.out 0
 have hfr5_1 := blk_frozen BR.out 1
 have hfr5_2 := blk_frozen BR.out 2
 have hfr5_3 := blk_frozen BR.out 3
 have hcga5_0 : w3b.cell? ⟨ga,0,none⟩ = some (.bool a0_0) := (blk_cell BM.out 0).trans rfl
 have hcga5_1 : w3b.cell? ⟨ga,1,none⟩ = some (.slice A0_1 l0_1.length c0_1) := (blk_cell BM.out 1).trans rfl
 have hcga5_2 : w3b.cell? ⟨ga,2,none⟩ = some (.slice A0_2 l0_2.length c0_2) := (blk_cell BM.out 2).trans rfl
 have hcga5_3 : w3b.cell? ⟨ga,3,none⟩ = some (.slice A0_3 l0_3.length c0_3) := (blk_cell BM.out 3).trans rfl
 cases v with
  | true =>
  have h2 := H2.out
  rw [Bool.true_or] at h2
  obtain rfl := Option.some.inj h2
  clear h2 H2
  have h1 := H1.out
  rw [if_pos rfl] at h1
  clear H1
  obtain ⟨⟨b,p1,p2,p3⟩,E1,h2⟩ := Option.bind_eq_some_iff.1 h1
  clear h1
  obtain ⟨⟨q2,q3⟩,E2,h3⟩ := Option.bind_eq_some_iff.1 h2
  clear h2
  simp only [Option.some.injEq,Prod.mk.injEq] at h3
  obtain ⟨rfl,rfl,rfl,rfl,rfl⟩ := h3
  have F1 := ak E1
  have F2 := ak E2
  clear E1 E2
  go_wp2_with ((with_reducible refine gcal_ (f := 73) rfl ?_);refine goesL_ (some 37) rfl rfl Try.func73 (by kernel_rfl) rfl #[.agg #[.bool a0_0,.slice A0_1 l0_1.length c0_1,.slice A0_2 l0_2.length c0_2,.slice A0_3 l0_3.length c0_3]] rfl (by (try simp only [List.map_toArray,List.map_cons,List.map_nil]);first|done|rfl) ?_;refine (spec_l6Copy.calls k a0_0 A0_1 c0_1 l0_1 A0_2 c0_2 l0_2 A0_3 c0_3 l0_3 b p1 p2 p3 _ (Kd.C_below HR1.out D3.out) HC1.out (Kd.C_below HR2.out D3.out) HC2.out (Kd.C_below HR3.out D3.out) HC3.out F1.out).mono ?_;rintro e w4 ⟨v1,v2,v3,rfl,S1,S2,S3,B⟩;refine ⟨_,rfl,?_⟩;refine hold_40 ?_)
  refine ⟨?_⟩
  clear hcgr5_0 hfr5_0 hcga5_0 hcgr5_1 hfr5_1 hcga5_1 hcgr5_2 hfr5_2 hcga5_2 hcgr5_3 hfr5_3 hcga5_3
  have T1 := ak S1
  have T2 := ak S2
  have T3 := ak S3
  have LG := ak (blk_lt BR.out)
  have G := ak B
  have D4 := ak (below_step D3.out B)
  have BR := ak (blk_below BR.out B)
  clear S1 S2 S3 B BM
  obtain ⟨A1,c1,e1_⟩ := Kd.S_slice T1.out
  subst e1_
  obtain ⟨A2,c2,e2_⟩ := Kd.S_slice T2.out
  subst e2_
  obtain ⟨A3,c3,e3_⟩ := Kd.R_slice T3.out
  subst e3_
  go_wp2_with ((with_reducible refine gate_dst (N := 10) rfl ?_);refine bx_ 10 #[.bool false,.slice none 0 0,.slice none 0 0,.slice none 0 0] 32 ?_;intro go hg w5 hbox hb;have hge := ak (Nat.le_of_eq hg.symm);clear hg;refine hold_40 ?_)
  refine ⟨?_⟩
  have BZ := ak hbox
  have Q0 := ak hb
  have HGE := hge
  clear hbox hb hge
  obtain ⟨⟨hcgoy_0, hcgoy_1, hcgoy_2, hcgoy_3⟩, hfy_0, hfy_1, hfy_2, hfy_3⟩ := cl4_ BZ.out
  go_upto_region 4 with (fail)
  obtain ⟨n0_, n1_⟩ := fl4_ Q0.out HGE.out BZ.out (.bool b) (.slice A1 p1.length c1) (.slice A2 p2.length c2) (.slice A3 p3.length c3)
  clear BZ Q0
  clear hcgoy_0 hfy_0 hcgoy_1 hfy_1 hcgoy_2 hfy_2 hcgoy_3 hfy_3
  generalize ((((w5.setCell ⟨go,0,none⟩ (.bool b)).setCell ⟨go,1,none⟩ (.slice A1 p1.length c1)).setCell ⟨go,2,none⟩ (.slice A2 p2.length c2)).setCell ⟨go,3,none⟩ (.slice A3 p3.length c3)) = w6 at n0_ n1_ ⊢
  have B := n0_.out
  have BG := n1_
  clear n0_ n1_
  have T1 := ak (Kd.S_bound (Kd.S_below T1.out B))
  have T2 := ak (Kd.S_bound (Kd.S_below T2.out B))
  have T3 := ak (Kd.R_bound (Kd.R_below T3.out B))
  have GO : Aside0 (w3b.heap.size ≤ go) := ⟨Nat.le_trans G.out.size HGE.out⟩
  have G := ak (below_step G.out B)
  have D6 := ak (below_step D4.out B)
  have BR := ak (blk_below BR.out B)
  clear B D4
  have NG : Aside0 (gr ≠ go) := ⟨Nat.ne_of_lt (Nat.lt_of_lt_of_le LG.out GO.out)⟩
  go_wp2_with ((with_reducible refine gcal_ (f := 97) rfl ?_);refine goesL_ (some 41) rfl rfl Try.func97 (by kernel_rfl) rfl #[.pointer (some ⟨go,0,none⟩),.int .i64 a1,.int .i64 a2,.bool true] rfl (by (try simp only [List.map_toArray,List.map_cons,List.map_nil]);first|done|rfl) ?_;refine (spec_l6Clear.calls k (fun k_ => True ∧ w3b.heap.size ≤ k_ ∧ k_ < w6.heap.size ∧ ∃ q,q ∈ 45 :: (k45).E ∧ ∃ cells,w6.heap[k_]? = some (.cells cells q (0,0))) (fun k_ => True ∧ w3b.heap.size ≤ k_ ∧ k_ < w6.heap.size ∧ ∃ q,q ∈ 2 :: ((Kd.int .i64)).E ∧ ∃ cells,w6.heap[k_]? = some (.cells cells q (0,0))) go b (.slice A1 p1.length c1) A2 c2 p2 A3 c3 p3 a1 a2 true q2 q3 w3b _ G.out GO.out BG.out (fun hs_ => ty_40 ⟨32,List.mem_singleton.2 rfl,_,BG.out⟩ hs_.2.2.2 (by decide)) (fun hs_ => ty_40 ⟨32,List.mem_singleton.2 rfl,_,BG.out⟩ hs_.2.2.2 (by decide)) (fun k_ h1_ h2_ => ty_40 h1_.2.2.2 h2_.2.2.2 (by decide)) T2.out T3.out F2.out).mono ?_;rintro e w7 ⟨rfl,A4,c4,A5,c5,BG2,S2,S3,B,K⟩;refine ⟨_,rfl,?_⟩;refine hold_40 ?_)
  refine ⟨?_⟩
  have T1 := ak (Kd.S_kept T1.out K (fun k_ hk_ hs_ => hs_.elim (fun h_ => ty_40 hk_.2.2.2 h_.2.2.2 (by decide)) (fun e_ => ty_40 (e_ ▸ hk_.2.2.2) ⟨32,List.mem_singleton.2 rfl,_,BG.out⟩ (by decide))))
  have T2 := ak S2
  have T3 := ak S3
  have BR2 := ak (blk_kept BR.out K (fun hs_ => hs_.elim (fun h_ => (fun hs_ => ty_40 ⟨32,List.mem_singleton.2 rfl,_,BR.out⟩ hs_.2.2.2 (by decide)) h_) NG.out))
  have BG := ak BG2
  have D7 := ak (below_step D3.out B)
  clear S2 S3 B K BG2 BR
  have BR := BR2
  clear BR2
  have hcgo7_0 : w7.cell? ⟨go,0,none⟩ = some (.bool b) := (blk_cell BG.out 0).trans rfl
  have hcgo7_1 : w7.cell? ⟨go,1,none⟩ = some (.slice A1 p1.length c1) := (blk_cell BG.out 1).trans rfl
  have hcgo7_2 : w7.cell? ⟨go,2,none⟩ = some (.slice A4 q2.length c4) := (blk_cell BG.out 2).trans rfl
  have hcgo7_3 : w7.cell? ⟨go,3,none⟩ = some (.slice A5 q3.length c5) := (blk_cell BG.out 3).trans rfl
  have hcgr7_0 : w7.cell? ⟨gr,0,none⟩ = some (.bool false) := (blk_cell BR.out 0).trans rfl
  have hcgr7_1 : w7.cell? ⟨gr,1,none⟩ = some (.slice none 0 0) := (blk_cell BR.out 1).trans rfl
  have hcgr7_2 : w7.cell? ⟨gr,2,none⟩ = some (.slice none 0 0) := (blk_cell BR.out 2).trans rfl
  have hcgr7_3 : w7.cell? ⟨gr,3,none⟩ = some (.slice none 0 0) := (blk_cell BR.out 3).trans rfl
  have hfr7_0 := blk_frozen BR.out 0
  have hfr7_1 := blk_frozen BR.out 1
  have hfr7_2 := blk_frozen BR.out 2
  have hfr7_3 := blk_frozen BR.out 3
  go_wp2
  refine bodyPost_ret (results_ct rfl _ _ gr 32 #[.bool b,.slice A1 p1.length c1,.slice A4 q2.length c4,.slice A5 q3.length c5] (0,0) _ rfl (pt4_ BR.out _ _ _ _) Try.underlying32 rfl (by kernel_rfl)) rfl ?_
  exact ⟨.slice A1 p1.length c1,.slice A4 q2.length c4,.slice A5 q3.length c5,by first|rfl|(simp;done),Kd.S_mono (Kd.S_far (p := ⟨gr,3,none⟩) (Kd.S_far (p := ⟨gr,2,none⟩) (Kd.S_far (p := ⟨gr,1,none⟩) (Kd.S_far (p := ⟨gr,0,none⟩) (Kd.S_types (Kd.S_lower T1.out D3.out.size) BR.out (by decide)) (fun _ h_ => h_.2) (.bool b)) (fun _ h_ => h_.2) (.slice A1 p1.length c1)) (fun _ h_ => h_.2) (.slice A4 q2.length c4)) (fun _ h_ => h_.2) (.slice A5 q3.length c5)) (fun _ _ => trivial),Kd.S_mono (Kd.S_far (p := ⟨gr,3,none⟩) (Kd.S_far (p := ⟨gr,2,none⟩) (Kd.S_far (p := ⟨gr,1,none⟩) (Kd.S_far (p := ⟨gr,0,none⟩) (Kd.S_types (Kd.S_lower T2.out D3.out.size) BR.out (by decide)) (fun _ h_ => h_.2) (.bool b)) (fun _ h_ => h_.2) (.slice A1 p1.length c1)) (fun _ h_ => h_.2) (.slice A4 q2.length c4)) (fun _ h_ => h_.2) (.slice A5 q3.length c5)) (fun _ _ => trivial),Kd.R_mono (Kd.R_far (p := ⟨gr,3,none⟩) (Kd.R_far (p := ⟨gr,2,none⟩) (Kd.R_far (p := ⟨gr,1,none⟩) (Kd.R_far (p := ⟨gr,0,none⟩) (Kd.R_types (Kd.R_lower T3.out D3.out.size) BR.out (by decide)) (fun _ h_ => h_.2) (.bool b)) (fun _ h_ => h_.2) (.slice A1 p1.length c1)) (fun _ h_ => h_.2) (.slice A4 q2.length c4)) (fun _ h_ => h_.2) (.slice A5 q3.length c5)) (fun _ _ => trivial),below_set (below_set (below_set (below_set D7.out GR.out) GR.out) GR.out) GR.out⟩
  | false =>
 have h2 := H2.out
 rw [Bool.false_or] at h2
 clear H2
 by_cases lk : (l0_3.length : Int) = 60
 ·have lkb : ((l0_3.length : Int) == 60) = true := beq_iff_eq.mpr lk
  have lkd : decide ((l0_3.length : Int) = 60) = true := decide_eq_true lk
  rw [lkd] at h2
  obtain rfl := Option.some.inj h2
  clear lk h2
  have h1 := H1.out
  rw [if_neg (by simp)] at h1
  clear H1
  simp only [Option.some.injEq,Prod.mk.injEq] at h1
  obtain ⟨rfl,rfl,rfl,rfl,rfl⟩ := h1
  go_wp2
  refine bodyPost_ret (results_ct rfl _ _ gr 32 #[.bool false,.slice none 0 0,.slice none 0 0,.slice none 0 0] (0,0) _ rfl (pt4_ BR.out _ _ _ _) Try.underlying32 rfl (by kernel_rfl)) rfl ?_
  exact ⟨.slice none 0 0,.slice none 0 0,.slice none 0 0,by first|rfl|(simp;done),Kd.S_nil _ _ _ _ _,Kd.S_nil _ _ _ _ _,Kd.R_nil _ _ _ _ _,below_set (below_set (below_set (below_set D3.out GR.out) GR.out) GR.out) GR.out⟩
 ·have lkb : ((l0_3.length : Int) == 60) = false := beq_eq_false_iff_ne.mpr lk
  have lkd : decide ((l0_3.length : Int) = 60) = false := decide_eq_false lk
  have h2 : some true = some t3 := by rw [lkd] at h2;exact h2
  obtain rfl := Option.some.inj h2
  clear lk h2
  have h1 := H1.out
  rw [if_pos rfl] at h1
  clear H1
  obtain ⟨⟨b,p1,p2,p3⟩,E1,h2⟩ := Option.bind_eq_some_iff.1 h1
  clear h1
  obtain ⟨⟨q2,q3⟩,E2,h3⟩ := Option.bind_eq_some_iff.1 h2
  clear h2
  simp only [Option.some.injEq,Prod.mk.injEq] at h3
  obtain ⟨rfl,rfl,rfl,rfl,rfl⟩ := h3
  have F1 := ak E1
  have F2 := ak E2
  clear E1 E2
  go_wp2_with ((with_reducible refine gcal_ (f := 73) rfl ?_);refine goesL_ (some 37) rfl rfl Try.func73 (by kernel_rfl) rfl #[.agg #[.bool a0_0,.slice A0_1 l0_1.length c0_1,.slice A0_2 l0_2.length c0_2,.slice A0_3 l0_3.length c0_3]] rfl (by (try simp only [List.map_toArray,List.map_cons,List.map_nil]);first|done|rfl) ?_;refine (spec_l6Copy.calls k a0_0 A0_1 c0_1 l0_1 A0_2 c0_2 l0_2 A0_3 c0_3 l0_3 b p1 p2 p3 _ (Kd.C_below HR1.out D3.out) HC1.out (Kd.C_below HR2.out D3.out) HC2.out (Kd.C_below HR3.out D3.out) HC3.out F1.out).mono ?_;rintro e w4 ⟨v1,v2,v3,rfl,S1,S2,S3,B⟩;refine ⟨_,rfl,?_⟩;refine hold_40 ?_)
  refine ⟨?_⟩
  clear hcgr5_0 hfr5_0 hcga5_0 hcgr5_1 hfr5_1 hcga5_1 hcgr5_2 hfr5_2 hcga5_2 hcgr5_3 hfr5_3 hcga5_3 lkb lkd
  have T1 := ak S1
  have T2 := ak S2
  have T3 := ak S3
  have LG := ak (blk_lt BR.out)
  have G := ak B
  have D4 := ak (below_step D3.out B)
  have BR := ak (blk_below BR.out B)
  clear S1 S2 S3 B BM
  obtain ⟨A1,c1,e1_⟩ := Kd.S_slice T1.out
  subst e1_
  obtain ⟨A2,c2,e2_⟩ := Kd.S_slice T2.out
  subst e2_
  obtain ⟨A3,c3,e3_⟩ := Kd.R_slice T3.out
  subst e3_
  go_wp2_with ((with_reducible refine gate_dst (N := 10) rfl ?_);refine bx_ 10 #[.bool false,.slice none 0 0,.slice none 0 0,.slice none 0 0] 32 ?_;intro go hg w5 hbox hb;have hge := ak (Nat.le_of_eq hg.symm);clear hg;refine hold_40 ?_)
  refine ⟨?_⟩
  have BZ := ak hbox
  have Q0 := ak hb
  have HGE := hge
  clear hbox hb hge
  obtain ⟨⟨hcgoy_0, hcgoy_1, hcgoy_2, hcgoy_3⟩, hfy_0, hfy_1, hfy_2, hfy_3⟩ := cl4_ BZ.out
  go_upto_region 4 with (fail)
  obtain ⟨n0_, n1_⟩ := fl4_ Q0.out HGE.out BZ.out (.bool b) (.slice A1 p1.length c1) (.slice A2 p2.length c2) (.slice A3 p3.length c3)
  clear BZ Q0
  clear hcgoy_0 hfy_0 hcgoy_1 hfy_1 hcgoy_2 hfy_2 hcgoy_3 hfy_3
  generalize ((((w5.setCell ⟨go,0,none⟩ (.bool b)).setCell ⟨go,1,none⟩ (.slice A1 p1.length c1)).setCell ⟨go,2,none⟩ (.slice A2 p2.length c2)).setCell ⟨go,3,none⟩ (.slice A3 p3.length c3)) = w6 at n0_ n1_ ⊢
  have B := n0_.out
  have BG := n1_
  clear n0_ n1_
  have T1 := ak (Kd.S_bound (Kd.S_below T1.out B))
  have T2 := ak (Kd.S_bound (Kd.S_below T2.out B))
  have T3 := ak (Kd.R_bound (Kd.R_below T3.out B))
  have GO : Aside0 (w3b.heap.size ≤ go) := ⟨Nat.le_trans G.out.size HGE.out⟩
  have G := ak (below_step G.out B)
  have D6 := ak (below_step D4.out B)
  have BR := ak (blk_below BR.out B)
  clear B D4
  have NG : Aside0 (gr ≠ go) := ⟨Nat.ne_of_lt (Nat.lt_of_lt_of_le LG.out GO.out)⟩
  go_wp2_with ((with_reducible refine gcal_ (f := 97) rfl ?_);refine goesL_ (some 41) rfl rfl Try.func97 (by kernel_rfl) rfl #[.pointer (some ⟨go,0,none⟩),.int .i64 a1,.int .i64 a2,.bool true] rfl (by (try simp only [List.map_toArray,List.map_cons,List.map_nil]);first|done|rfl) ?_;refine (spec_l6Clear.calls k (fun k_ => True ∧ w3b.heap.size ≤ k_ ∧ k_ < w6.heap.size ∧ ∃ q,q ∈ 45 :: (k45).E ∧ ∃ cells,w6.heap[k_]? = some (.cells cells q (0,0))) (fun k_ => True ∧ w3b.heap.size ≤ k_ ∧ k_ < w6.heap.size ∧ ∃ q,q ∈ 2 :: ((Kd.int .i64)).E ∧ ∃ cells,w6.heap[k_]? = some (.cells cells q (0,0))) go b (.slice A1 p1.length c1) A2 c2 p2 A3 c3 p3 a1 a2 true q2 q3 w3b _ G.out GO.out BG.out (fun hs_ => ty_40 ⟨32,List.mem_singleton.2 rfl,_,BG.out⟩ hs_.2.2.2 (by decide)) (fun hs_ => ty_40 ⟨32,List.mem_singleton.2 rfl,_,BG.out⟩ hs_.2.2.2 (by decide)) (fun k_ h1_ h2_ => ty_40 h1_.2.2.2 h2_.2.2.2 (by decide)) T2.out T3.out F2.out).mono ?_;rintro e w7 ⟨rfl,A4,c4,A5,c5,BG2,S2,S3,B,K⟩;refine ⟨_,rfl,?_⟩;refine hold_40 ?_)
  refine ⟨?_⟩
  have T1 := ak (Kd.S_kept T1.out K (fun k_ hk_ hs_ => hs_.elim (fun h_ => ty_40 hk_.2.2.2 h_.2.2.2 (by decide)) (fun e_ => ty_40 (e_ ▸ hk_.2.2.2) ⟨32,List.mem_singleton.2 rfl,_,BG.out⟩ (by decide))))
  have T2 := ak S2
  have T3 := ak S3
  have BR2 := ak (blk_kept BR.out K (fun hs_ => hs_.elim (fun h_ => (fun hs_ => ty_40 ⟨32,List.mem_singleton.2 rfl,_,BR.out⟩ hs_.2.2.2 (by decide)) h_) NG.out))
  have BG := ak BG2
  have D7 := ak (below_step D3.out B)
  clear S2 S3 B K BG2 BR
  have BR := BR2
  clear BR2
  have hcgo7_0 : w7.cell? ⟨go,0,none⟩ = some (.bool b) := (blk_cell BG.out 0).trans rfl
  have hcgo7_1 : w7.cell? ⟨go,1,none⟩ = some (.slice A1 p1.length c1) := (blk_cell BG.out 1).trans rfl
  have hcgo7_2 : w7.cell? ⟨go,2,none⟩ = some (.slice A4 q2.length c4) := (blk_cell BG.out 2).trans rfl
  have hcgo7_3 : w7.cell? ⟨go,3,none⟩ = some (.slice A5 q3.length c5) := (blk_cell BG.out 3).trans rfl
  have hcgr7_0 : w7.cell? ⟨gr,0,none⟩ = some (.bool false) := (blk_cell BR.out 0).trans rfl
  have hcgr7_1 : w7.cell? ⟨gr,1,none⟩ = some (.slice none 0 0) := (blk_cell BR.out 1).trans rfl
  have hcgr7_2 : w7.cell? ⟨gr,2,none⟩ = some (.slice none 0 0) := (blk_cell BR.out 2).trans rfl
  have hcgr7_3 : w7.cell? ⟨gr,3,none⟩ = some (.slice none 0 0) := (blk_cell BR.out 3).trans rfl
  have hfr7_0 := blk_frozen BR.out 0
  have hfr7_1 := blk_frozen BR.out 1
  have hfr7_2 := blk_frozen BR.out 2
  have hfr7_3 := blk_frozen BR.out 3
  go_wp2
  refine bodyPost_ret (results_ct rfl _ _ gr 32 #[.bool b,.slice A1 p1.length c1,.slice A4 q2.length c4,.slice A5 q3.length c5] (0,0) _ rfl (pt4_ BR.out _ _ _ _) Try.underlying32 rfl (by kernel_rfl)) rfl ?_
  exact ⟨.slice A1 p1.length c1,.slice A4 q2.length c4,.slice A5 q3.length c5,by first|rfl|(simp;done),Kd.S_mono (Kd.S_far (p := ⟨gr,3,none⟩) (Kd.S_far (p := ⟨gr,2,none⟩) (Kd.S_far (p := ⟨gr,1,none⟩) (Kd.S_far (p := ⟨gr,0,none⟩) (Kd.S_types (Kd.S_lower T1.out D3.out.size) BR.out (by decide)) (fun _ h_ => h_.2) (.bool b)) (fun _ h_ => h_.2) (.slice A1 p1.length c1)) (fun _ h_ => h_.2) (.slice A4 q2.length c4)) (fun _ h_ => h_.2) (.slice A5 q3.length c5)) (fun _ _ => trivial),Kd.S_mono (Kd.S_far (p := ⟨gr,3,none⟩) (Kd.S_far (p := ⟨gr,2,none⟩) (Kd.S_far (p := ⟨gr,1,none⟩) (Kd.S_far (p := ⟨gr,0,none⟩) (Kd.S_types (Kd.S_lower T2.out D3.out.size) BR.out (by decide)) (fun _ h_ => h_.2) (.bool b)) (fun _ h_ => h_.2) (.slice A1 p1.length c1)) (fun _ h_ => h_.2) (.slice A4 q2.length c4)) (fun _ h_ => h_.2) (.slice A5 q3.length c5)) (fun _ _ => trivial),Kd.R_mono (Kd.R_far (p := ⟨gr,3,none⟩) (Kd.R_far (p := ⟨gr,2,none⟩) (Kd.R_far (p := ⟨gr,1,none⟩) (Kd.R_far (p := ⟨gr,0,none⟩) (Kd.R_types (Kd.R_lower T3.out D3.out.size) BR.out (by decide)) (fun _ h_ => h_.2) (.bool b)) (fun _ h_ => h_.2) (.slice A1 p1.length c1)) (fun _ h_ => h_.2) (.slice A4 q2.length c4)) (fun _ h_ => h_.2) (.slice A5 q3.length c5)) (fun _ _ => trivial),below_set (below_set (below_set (below_set D7.out GR.out) GR.out) GR.out) GR.out⟩

/-! ### laws_likeInts: function 98 -/
def laws_likeInts.l0 : Nat → List Int → List Int → Int → Option (Bool)
  | 0, _, _, _ => none
  | k + 1, x0, x1, x5 => if x5 < (x0.length : Int) then (if 0 ≤ x5 then (if x5 < (x1.length : Int) then (if (rd x0 x5) = (rd x1 x5) then (laws_likeInts.l0 k x0 x1 (wrap64 (x5 + 1))) else (some false)) else (none)) else (none)) else (some true)
def laws_likeInts.f (k : Nat) (l0 : List Int) (l1 : List Int) : Option (Bool) := if (l0.length : Int) = (l1.length : Int) then (laws_likeInts.l0 k l0 l1 0) else (some false)

set_option maxHeartbeats 8000000 in
set_option maxRecDepth 100000 in
theorem laws_likeInts.calls (k : Nat) (A0 : Option Addr) (c0 : Nat) (l0 : List Int) (A1 : Option Addr) (c1 : Nat) (l1 : List Int) (r : Bool) (w : World) (hr0 : Kd.C (Kd.int .i64) w A0 l0.length l0) (hc0 : l0.length ≤ c0) (hr1 : Kd.C (Kd.int .i64) w A1 l1.length l1) (hc1 : l1.length ≤ c1) (h : laws_likeInts.f k l0 l1 = some r) :
    Calls Try.prog 98 #[.slice A0 l0.length c0, .slice A1 l1.length c1] w fun e w' => e = .returned (.bool r) ∧ Drawn0 w w' := by
 have HR0 := ak hr0
 have HC0 := ak hc0
 clear hr0 hc0
 have HR1 := ak hr1
 have HC1 := ak hc1
 clear hr1 hc1
 have H : (if (l0.length : Int) = (l1.length : Int) then (laws_likeInts.l0 k l0 l1 0) else (some false)) = some r := h
 clear h
 by_cases c3 : (l0.length : Int) = (l1.length : Int)
 ·rw [if_pos c3] at H
  have c3b0 : ((l0.length : Int) == (l1.length : Int)) = true := beq_iff_eq.mpr c3
  have c3b1 : ((l0.length : Int) != (l1.length : Int)) = false := bne_eq_false_iff_eq.mpr c3
  have c3b2 : (l0.length == l1.length) = true := by first|simpa using c3|(simp at c3 ⊢;omega)
  clear c3
  have H' := ak H
  clear H
  go_enter Try.func98,Try.ntmps98
  go_wp2
  repeat (go_quiet (fail);try go_wp2)
  go_loopg [5] k (fun kq v5 w' => ∃ (x5_1 : Int),v5 = .int .i64 x5_1 ∧ Aside0 (laws_likeInts.l0 kq l0 l1 x5_1 = some r) ∧ Aside0 (kq ≤ k) ∧ Drawn0 w w')
  case atStart => exact ⟨(0),rs_,H',⟨Nat.le_refl _⟩,by repeat (first|exact Drawn0.refl _|apply Drawn0.step)⟩
  case round =>
   clear H'
   try clear c1
   try clear p2
   try clear c3
   try clear c3b0
   try clear c3b1
   try clear c3b2
   obtain ⟨x5_1,rfl,HA,HK1,⟨m1,rfl⟩⟩ := hrel
   cases gk with
   | zero => exact absurd HA.out (by simp [laws_likeInts.l0])
   | succ k1 =>
    have H := HA.out
    clear HA
    simp only [laws_likeInts.l0] at H
    by_cases c4 : x5_1 < (l0.length : Int)
    ·rw [if_pos c4] at H
     have c4b0 : decide (x5_1 < (l0.length : Int)) = true := decide_eq_true c4
     clear c4
     by_cases c5 : 0 ≤ x5_1
     ·rw [if_pos c5] at H
      have c5b0 : decide (0 ≤ x5_1) = true := decide_eq_true c5
      clear c5
      by_cases c6 : x5_1 < (l1.length : Int)
      ·rw [if_pos c6] at H
       have c6b0 : decide (x5_1 < (l1.length : Int)) = true := decide_eq_true c6
       clear c6
       by_cases c7 : (rd l0 x5_1) = (rd l1 x5_1)
       ·rw [if_pos c7] at H
        have c7b0 : ((rd l0 x5_1) == (rd l1 x5_1)) = true := beq_iff_eq.mpr c7
        have c7b1 : ((rd l0 x5_1) != (rd l1 x5_1)) = false := bne_eq_false_iff_eq.mpr c7
        clear c7
        have H' := ak H
        clear H
        have p348 : 0 ≤ (x5_1 : Int) := od_
        have q348 : x5_1 < (l0.length : Int) := od_
        obtain ⟨ad348,e348,hx348_0⟩ := Kd.at_int HR0.out x5_1 p348 q348
        cases e348
        replace p348 := eq_true p348
        replace q348 := eq_true q348
        have p349 : 0 ≤ (x5_1 : Int) := od_
        have q349 : x5_1 < (l1.length : Int) := od_
        obtain ⟨ad349,e349,hx349_0⟩ := Kd.at_int HR1.out x5_1 p349 q349
        cases e349
        replace p349 := eq_true p349
        replace q349 := eq_true q349
        go_wp2
        repeat (go_quiet (fail);try go_wp2)
        go_roundg k1
        case measure => have := HK1.out;omega
        case rel => exact ⟨(wrap64 (x5_1 + 1)),rs_,H',⟨by have := HK1.out;omega⟩,by repeat (first|exact Drawn0.refl _|apply Drawn0.step)⟩
       ·rw [if_neg c7] at H
        have c7b0 : ((rd l0 x5_1) == (rd l1 x5_1)) = false := beq_eq_false_iff_ne.mpr c7
        have c7b1 : ((rd l0 x5_1) != (rd l1 x5_1)) = true := bne_iff_ne.mpr c7
        obtain rfl := Option.some.inj H
        have p348 : 0 ≤ (x5_1 : Int) := od_
        have q348 : x5_1 < (l0.length : Int) := od_
        obtain ⟨ad348,e348,hx348_0⟩ := Kd.at_int HR0.out x5_1 p348 q348
        cases e348
        replace p348 := eq_true p348
        replace q348 := eq_true q348
        have p349 : 0 ≤ (x5_1 : Int) := od_
        have q349 : x5_1 < (l1.length : Int) := od_
        obtain ⟨ad349,e349,hx349_0⟩ := Kd.at_int HR1.out x5_1 p349 q349
        cases e349
        replace p349 := eq_true p349
        replace q349 := eq_true q349
        go_wp2
        repeat (go_quiet (fail);try go_wp2)
        go_ret
        exact ⟨rs_,by repeat (first|exact Drawn0.refl _|apply Drawn0.step)⟩
      ·rw [if_neg c6] at H
       exact absurd H (by simp)
     ·rw [if_neg c5] at H
      exact absurd H (by simp)
    ·rw [if_neg c4] at H
     have c4b0 : decide (x5_1 < (l0.length : Int)) = false := decide_eq_false c4
     clear c4
     obtain rfl := Option.some.inj H
     go_wp2
     repeat (go_quiet (fail);try go_wp2)
     go_ret
     exact ⟨rs_,by repeat (first|exact Drawn0.refl _|apply Drawn0.step)⟩
 ·rw [if_neg c3] at H
  have c3b0 : ((l0.length : Int) == (l1.length : Int)) = false := beq_eq_false_iff_ne.mpr c3
  have c3b1 : ((l0.length : Int) != (l1.length : Int)) = true := bne_iff_ne.mpr c3
  have c3b2 : (l0.length == l1.length) = false := by first|simpa using c3|(simp at c3 ⊢;omega)
  obtain rfl := Option.some.inj H
  go_enter Try.func98,Try.ntmps98
  go_wp2
  repeat (go_quiet (fail);try go_wp2)
  go_ret
  exact ⟨rs_,by repeat (first|exact Drawn0.refl _|apply Drawn0.step)⟩

/-! ### laws_likeCells: function 99 -/
def laws_likeCells.l0 : Nat → List (S92) → List (S92) → Int → Option (Bool)
  | 0, _, _, _ => none
  | k + 1, x0, x1, x5 => if x5 < (x0.length : Int) then (if 0 ≤ x5 then (if x5 < (x1.length : Int) then (if (!(((rd_T92 x0 x5).f0) == ((rd_T92 x1 x5).f0)) || (!(((rd_T92 x0 x5).f1) == ((rd_T92 x1 x5).f1)))) = true then (some false) else (laws_likeCells.l0 k x0 x1 (wrap64 (x5 + 1)))) else (none)) else (none)) else (some true)
def laws_likeCells.f (k : Nat) (l0 : List (S92)) (l1 : List (S92)) : Option (Bool) := if (l0.length : Int) = (l1.length : Int) then (laws_likeCells.l0 k l0 l1 0) else (some false)

set_option maxHeartbeats 8000000 in
set_option maxRecDepth 100000 in
theorem laws_likeCells.calls (k : Nat) (A0 : Option Addr) (c0 : Nat) (l0 : List (S92)) (A1 : Option Addr) (c1 : Nat) (l1 : List (S92)) (r : Bool) (w : World) (hr0 : Kd.C k92 w A0 l0.length l0) (hc0 : l0.length ≤ c0) (hr1 : Kd.C k92 w A1 l1.length l1) (hc1 : l1.length ≤ c1) (h : laws_likeCells.f k l0 l1 = some r) :
    Calls Try.prog 99 #[.slice A0 l0.length c0, .slice A1 l1.length c1] w fun e w' => e = .returned (.bool r) ∧ Drawn0 w w' := by
 have hu92 := Try.underlying92
 have HR0 := ak hr0
 have HC0 := ak hc0
 clear hr0 hc0
 have HR1 := ak hr1
 have HC1 := ak hc1
 clear hr1 hc1
 have H : (if (l0.length : Int) = (l1.length : Int) then (laws_likeCells.l0 k l0 l1 0) else (some false)) = some r := h
 clear h
 by_cases c3 : (l0.length : Int) = (l1.length : Int)
 ·rw [if_pos c3] at H
  have c3b0 : ((l0.length : Int) == (l1.length : Int)) = true := beq_iff_eq.mpr c3
  have c3b1 : ((l0.length : Int) != (l1.length : Int)) = false := bne_eq_false_iff_eq.mpr c3
  have c3b2 : (l0.length == l1.length) = true := by first|simpa using c3|(simp at c3 ⊢;omega)
  clear c3
  have H' := ak H
  clear H
  go_enter Try.func99,Try.ntmps99
  go_wp2
  repeat (go_quiet (fail);try go_wp2)
  go_loopg [5] k (fun kq v5 w' => ∃ (x5_1 : Int),v5 = .int .i64 x5_1 ∧ Aside0 (laws_likeCells.l0 kq l0 l1 x5_1 = some r) ∧ Aside0 (kq ≤ k) ∧ Drawn0 w w')
  case atStart => exact ⟨(0),rs_,H',⟨Nat.le_refl _⟩,by repeat (first|exact Drawn0.refl _|apply Drawn0.step)⟩
  case round =>
   clear H'
   try clear c1
   try clear p2
   try clear c3
   try clear c3b0
   try clear c3b1
   try clear c3b2
   obtain ⟨x5_1,rfl,HA,HK1,⟨m1,rfl⟩⟩ := hrel
   cases gk with
   | zero => exact absurd HA.out (by simp [laws_likeCells.l0])
   | succ k1 =>
    have H := HA.out
    clear HA
    simp only [laws_likeCells.l0] at H
    by_cases c4 : x5_1 < (l0.length : Int)
    ·rw [if_pos c4] at H
     have c4b0 : decide (x5_1 < (l0.length : Int)) = true := decide_eq_true c4
     clear c4
     by_cases c5 : 0 ≤ x5_1
     ·rw [if_pos c5] at H
      have c5b0 : decide (0 ≤ x5_1) = true := decide_eq_true c5
      clear c5
      by_cases c6 : x5_1 < (l1.length : Int)
      ·rw [if_pos c6] at H
       have c6b0 : decide (x5_1 < (l1.length : Int)) = true := decide_eq_true c6
       clear c6
       by_cases c7 : (!(((rd_T92 l0 x5_1).f0) == ((rd_T92 l1 x5_1).f0)) || (!(((rd_T92 l0 x5_1).f1) == ((rd_T92 l1 x5_1).f1)))) = true
       ·rw [if_pos c7] at H
        have c7b0 : (!(((rd_T92 l0 x5_1).f0) == ((rd_T92 l1 x5_1).f0)) || (!(((rd_T92 l0 x5_1).f1) == ((rd_T92 l1 x5_1).f1)))) = true := c7
        clear c7
        obtain rfl := Option.some.inj H
        have p350 : 0 ≤ (x5_1 : Int) := od_
        have q350 : x5_1 < (l0.length : Int) := od_
        obtain ⟨ad350,e350,hx350_0,hx350_1⟩ := at_T92 HR0.out x5_1 p350 q350
        cases e350
        replace p350 := eq_true p350
        replace q350 := eq_true q350
        have p351 : 0 ≤ (x5_1 : Int) := od_
        have q351 : x5_1 < (l1.length : Int) := od_
        obtain ⟨ad351,e351,hx351_0,hx351_1⟩ := at_T92 HR1.out x5_1 p351 q351
        cases e351
        replace p351 := eq_true p351
        replace q351 := eq_true q351
        go_wp2
        repeat (go_quiet (fail);try go_wp2)
        go_ret
        exact ⟨rs_,by repeat (first|exact Drawn0.refl _|apply Drawn0.step)⟩
       ·rw [if_neg c7] at H
        have c7b0 : (!(((rd_T92 l0 x5_1).f0) == ((rd_T92 l1 x5_1).f0)) || (!(((rd_T92 l0 x5_1).f1) == ((rd_T92 l1 x5_1).f1)))) = false := by simpa using c7
        clear c7
        have H' := ak H
        clear H
        have p350 : 0 ≤ (x5_1 : Int) := od_
        have q350 : x5_1 < (l0.length : Int) := od_
        obtain ⟨ad350,e350,hx350_0,hx350_1⟩ := at_T92 HR0.out x5_1 p350 q350
        cases e350
        replace p350 := eq_true p350
        replace q350 := eq_true q350
        have p351 : 0 ≤ (x5_1 : Int) := od_
        have q351 : x5_1 < (l1.length : Int) := od_
        obtain ⟨ad351,e351,hx351_0,hx351_1⟩ := at_T92 HR1.out x5_1 p351 q351
        cases e351
        replace p351 := eq_true p351
        replace q351 := eq_true q351
        go_wp2
        repeat (go_quiet (fail);try go_wp2)
        go_roundg k1
        case measure => have := HK1.out;omega
        case rel => exact ⟨(wrap64 (x5_1 + 1)),rs_,H',⟨by have := HK1.out;omega⟩,by repeat (first|exact Drawn0.refl _|apply Drawn0.step)⟩
      ·rw [if_neg c6] at H
       exact absurd H (by simp)
     ·rw [if_neg c5] at H
      exact absurd H (by simp)
    ·rw [if_neg c4] at H
     have c4b0 : decide (x5_1 < (l0.length : Int)) = false := decide_eq_false c4
     clear c4
     obtain rfl := Option.some.inj H
     go_wp2
     repeat (go_quiet (fail);try go_wp2)
     go_ret
     exact ⟨rs_,by repeat (first|exact Drawn0.refl _|apply Drawn0.step)⟩
 ·rw [if_neg c3] at H
  have c3b0 : ((l0.length : Int) == (l1.length : Int)) = false := beq_eq_false_iff_ne.mpr c3
  have c3b1 : ((l0.length : Int) != (l1.length : Int)) = true := bne_iff_ne.mpr c3
  have c3b2 : (l0.length == l1.length) = false := by first|simpa using c3|(simp at c3 ⊢;omega)
  obtain rfl := Option.some.inj H
  go_enter Try.func99,Try.ntmps99
  go_wp2
  repeat (go_quiet (fail);try go_wp2)
  go_ret
  exact ⟨rs_,by repeat (first|exact Drawn0.refl _|apply Drawn0.step)⟩

/-! ### laws_likeSets: function 139 -/
def laws_likeSets.l0 : Nat → List (S127) → List (S127) → Int → Option (Bool)
  | 0, _, _, _ => none
  | k + 1, x0, x1, x5 => if x5 < (x0.length : Int) then (if 0 ≤ x5 then (if x5 < (x1.length : Int) then (if (!(((rd_T127 x0 x5).f0) == ((rd_T127 x1 x5).f0)) || (!(((rd_T127 x0 x5).f1) == ((rd_T127 x1 x5).f1)) || (!(((rd_T127 x0 x5).f2) == ((rd_T127 x1 x5).f2)) || (!(((rd_T127 x0 x5).f3) == ((rd_T127 x1 x5).f3)) || (!(((rd_T127 x0 x5).f4) == ((rd_T127 x1 x5).f4))))))) = true then (some false) else (laws_likeSets.l0 k x0 x1 (wrap64 (x5 + 1)))) else (none)) else (none)) else (some true)
def laws_likeSets.f (k : Nat) (l0 : List (S127)) (l1 : List (S127)) : Option (Bool) := if (l0.length : Int) = (l1.length : Int) then (laws_likeSets.l0 k l0 l1 0) else (some false)

set_option maxHeartbeats 8000000 in
set_option maxRecDepth 100000 in
theorem laws_likeSets.calls (k : Nat) (A0 : Option Addr) (c0 : Nat) (l0 : List (S127)) (A1 : Option Addr) (c1 : Nat) (l1 : List (S127)) (r : Bool) (w : World) (hr0 : Kd.C k127 w A0 l0.length l0) (hc0 : l0.length ≤ c0) (hr1 : Kd.C k127 w A1 l1.length l1) (hc1 : l1.length ≤ c1) (h : laws_likeSets.f k l0 l1 = some r) :
    Calls Try.prog 139 #[.slice A0 l0.length c0, .slice A1 l1.length c1] w fun e w' => e = .returned (.bool r) ∧ Drawn0 w w' := by
 have hu127 := Try.underlying127
 have HR0 := ak hr0
 have HC0 := ak hc0
 clear hr0 hc0
 have HR1 := ak hr1
 have HC1 := ak hc1
 clear hr1 hc1
 have H : (if (l0.length : Int) = (l1.length : Int) then (laws_likeSets.l0 k l0 l1 0) else (some false)) = some r := h
 clear h
 by_cases c3 : (l0.length : Int) = (l1.length : Int)
 ·rw [if_pos c3] at H
  have c3b0 : ((l0.length : Int) == (l1.length : Int)) = true := beq_iff_eq.mpr c3
  have c3b1 : ((l0.length : Int) != (l1.length : Int)) = false := bne_eq_false_iff_eq.mpr c3
  have c3b2 : (l0.length == l1.length) = true := by first|simpa using c3|(simp at c3 ⊢;omega)
  clear c3
  have H' := ak H
  clear H
  go_enter Try.func139,Try.ntmps139
  go_wp2
  repeat (go_quiet (fail);try go_wp2)
  go_loopg [5] k (fun kq v5 w' => ∃ (x5_1 : Int),v5 = .int .i64 x5_1 ∧ Aside0 (laws_likeSets.l0 kq l0 l1 x5_1 = some r) ∧ Aside0 (kq ≤ k) ∧ Drawn0 w w')
  case atStart => exact ⟨(0),rs_,H',⟨Nat.le_refl _⟩,by repeat (first|exact Drawn0.refl _|apply Drawn0.step)⟩
  case round =>
   clear H'
   try clear c1
   try clear p2
   try clear c3
   try clear c3b0
   try clear c3b1
   try clear c3b2
   obtain ⟨x5_1,rfl,HA,HK1,⟨m1,rfl⟩⟩ := hrel
   cases gk with
   | zero => exact absurd HA.out (by simp [laws_likeSets.l0])
   | succ k1 =>
    have H := HA.out
    clear HA
    simp only [laws_likeSets.l0] at H
    by_cases c4 : x5_1 < (l0.length : Int)
    ·rw [if_pos c4] at H
     have c4b0 : decide (x5_1 < (l0.length : Int)) = true := decide_eq_true c4
     clear c4
     by_cases c5 : 0 ≤ x5_1
     ·rw [if_pos c5] at H
      have c5b0 : decide (0 ≤ x5_1) = true := decide_eq_true c5
      clear c5
      by_cases c6 : x5_1 < (l1.length : Int)
      ·rw [if_pos c6] at H
       have c6b0 : decide (x5_1 < (l1.length : Int)) = true := decide_eq_true c6
       clear c6
       by_cases c7 : (!(((rd_T127 l0 x5_1).f0) == ((rd_T127 l1 x5_1).f0)) || (!(((rd_T127 l0 x5_1).f1) == ((rd_T127 l1 x5_1).f1)) || (!(((rd_T127 l0 x5_1).f2) == ((rd_T127 l1 x5_1).f2)) || (!(((rd_T127 l0 x5_1).f3) == ((rd_T127 l1 x5_1).f3)) || (!(((rd_T127 l0 x5_1).f4) == ((rd_T127 l1 x5_1).f4))))))) = true
       ·rw [if_pos c7] at H
        have c7b0 : (!(((rd_T127 l0 x5_1).f0) == ((rd_T127 l1 x5_1).f0)) || (!(((rd_T127 l0 x5_1).f1) == ((rd_T127 l1 x5_1).f1)) || (!(((rd_T127 l0 x5_1).f2) == ((rd_T127 l1 x5_1).f2)) || (!(((rd_T127 l0 x5_1).f3) == ((rd_T127 l1 x5_1).f3)) || (!(((rd_T127 l0 x5_1).f4) == ((rd_T127 l1 x5_1).f4))))))) = true := c7
        clear c7
        obtain rfl := Option.some.inj H
        have p352 : 0 ≤ (x5_1 : Int) := od_
        have q352 : x5_1 < (l0.length : Int) := od_
        obtain ⟨ad352,e352,hx352_0,hx352_1,hx352_2,hx352_3,hx352_4⟩ := at_T127 HR0.out x5_1 p352 q352
        cases e352
        replace p352 := eq_true p352
        replace q352 := eq_true q352
        have p353 : 0 ≤ (x5_1 : Int) := od_
        have q353 : x5_1 < (l1.length : Int) := od_
        obtain ⟨ad353,e353,hx353_0,hx353_1,hx353_2,hx353_3,hx353_4⟩ := at_T127 HR1.out x5_1 p353 q353
        cases e353
        replace p353 := eq_true p353
        replace q353 := eq_true q353
        go_wp2
        repeat (go_quiet (fail);try go_wp2)
        go_ret
        exact ⟨rs_,by repeat (first|exact Drawn0.refl _|apply Drawn0.step)⟩
       ·rw [if_neg c7] at H
        have c7b0 : (!(((rd_T127 l0 x5_1).f0) == ((rd_T127 l1 x5_1).f0)) || (!(((rd_T127 l0 x5_1).f1) == ((rd_T127 l1 x5_1).f1)) || (!(((rd_T127 l0 x5_1).f2) == ((rd_T127 l1 x5_1).f2)) || (!(((rd_T127 l0 x5_1).f3) == ((rd_T127 l1 x5_1).f3)) || (!(((rd_T127 l0 x5_1).f4) == ((rd_T127 l1 x5_1).f4))))))) = false := by simpa using c7
        clear c7
        have H' := ak H
        clear H
        have p352 : 0 ≤ (x5_1 : Int) := od_
        have q352 : x5_1 < (l0.length : Int) := od_
        obtain ⟨ad352,e352,hx352_0,hx352_1,hx352_2,hx352_3,hx352_4⟩ := at_T127 HR0.out x5_1 p352 q352
        cases e352
        replace p352 := eq_true p352
        replace q352 := eq_true q352
        have p353 : 0 ≤ (x5_1 : Int) := od_
        have q353 : x5_1 < (l1.length : Int) := od_
        obtain ⟨ad353,e353,hx353_0,hx353_1,hx353_2,hx353_3,hx353_4⟩ := at_T127 HR1.out x5_1 p353 q353
        cases e353
        replace p353 := eq_true p353
        replace q353 := eq_true q353
        go_wp2
        repeat (go_quiet (fail);try go_wp2)
        go_roundg k1
        case measure => have := HK1.out;omega
        case rel => exact ⟨(wrap64 (x5_1 + 1)),rs_,H',⟨by have := HK1.out;omega⟩,by repeat (first|exact Drawn0.refl _|apply Drawn0.step)⟩
      ·rw [if_neg c6] at H
       exact absurd H (by simp)
     ·rw [if_neg c5] at H
      exact absurd H (by simp)
    ·rw [if_neg c4] at H
     have c4b0 : decide (x5_1 < (l0.length : Int)) = false := decide_eq_false c4
     clear c4
     obtain rfl := Option.some.inj H
     go_wp2
     repeat (go_quiet (fail);try go_wp2)
     go_ret
     exact ⟨rs_,by repeat (first|exact Drawn0.refl _|apply Drawn0.step)⟩
 ·rw [if_neg c3] at H
  have c3b0 : ((l0.length : Int) == (l1.length : Int)) = false := beq_eq_false_iff_ne.mpr c3
  have c3b1 : ((l0.length : Int) != (l1.length : Int)) = true := bne_iff_ne.mpr c3
  have c3b2 : (l0.length == l1.length) = false := by first|simpa using c3|(simp at c3 ⊢;omega)
  obtain rfl := Option.some.inj H
  go_enter Try.func139,Try.ntmps139
  go_wp2
  repeat (go_quiet (fail);try go_wp2)
  go_ret
  exact ⟨rs_,by repeat (first|exact Drawn0.refl _|apply Drawn0.step)⟩

/-! ### laws_likeRecord: function 100 -/
def laws_likeRecord.f (k : Nat) (a0_0 : Int) (a0_1 : Int) (a0_2 : Int) (l0_3 : List (S127)) (a1_0 : Int) (a1_1 : Int) (a1_2 : Int) (l1_3 : List (S127)) : Option (Bool) := if a0_0 = a1_0 then (if a0_1 = a1_1 then (if a0_2 = a1_2 then ((laws_likeSets.f k l0_3 l1_3).bind fun t356 => (some t356)) else (some false)) else (some false)) else (some false)

set_option maxHeartbeats 8000000 in
set_option maxRecDepth 100000 in
theorem laws_likeRecord.calls (k : Nat) (a0_0 : Int) (a0_1 : Int) (a0_2 : Int) (A0_3 : Option Addr) (c0_3 : Nat) (l0_3 : List (S127)) (a1_0 : Int) (a1_1 : Int) (a1_2 : Int) (A1_3 : Option Addr) (c1_3 : Nat) (l1_3 : List (S127)) (r : Bool) (w : World) (hr0_3 : Kd.C k127 w A0_3 l0_3.length l0_3) (hc0_3 : l0_3.length ≤ c0_3) (hr1_3 : Kd.C k127 w A1_3 l1_3.length l1_3) (hc1_3 : l1_3.length ≤ c1_3) (h : laws_likeRecord.f k a0_0 a0_1 a0_2 l0_3 a1_0 a1_1 a1_2 l1_3 = some r) :
    Calls Try.prog 100 #[.agg #[.int .i64 a0_0, .int .i64 a0_1, .int .i64 a0_2, .slice A0_3 l0_3.length c0_3], .agg #[.int .i64 a1_0, .int .i64 a1_1, .int .i64 a1_2, .slice A1_3 l1_3.length c1_3]] w fun e w' => e = .returned (.bool r) ∧ Below w.heap.size w w' := by
 have hu45 := Try.underlying45
 have HR0_3 := ak hr0_3
 have HC0_3 := ak hc0_3
 clear hr0_3 hc0_3
 have HR1_3 := ak hr1_3
 have HC1_3 := ak hc1_3
 clear hr1_3 hc1_3
 have HB := ak (Below.refl w.heap.size w)
 have H : (if a0_0 = a1_0 then (if a0_1 = a1_1 then (if a0_2 = a1_2 then ((laws_likeSets.f k l0_3 l1_3).bind fun t356 => (some t356)) else (some false)) else (some false)) else (some false)) = some r := h
 clear h
 by_cases c3 : a0_0 = a1_0
 ·rw [if_pos c3] at H
  have c3b0 : (a0_0 == a1_0) = true := beq_iff_eq.mpr c3
  have c3b1 : (a0_0 != a1_0) = false := bne_eq_false_iff_eq.mpr c3
  clear c3
  by_cases c4 : a0_1 = a1_1
  ·rw [if_pos c4] at H
   have c4b0 : (a0_1 == a1_1) = true := beq_iff_eq.mpr c4
   have c4b1 : (a0_1 != a1_1) = false := bne_eq_false_iff_eq.mpr c4
   clear c4
   by_cases c5 : a0_2 = a1_2
   ·rw [if_pos c5] at H
    have c5b0 : (a0_2 == a1_2) = true := beq_iff_eq.mpr c5
    have c5b1 : (a0_2 != a1_2) = false := bne_eq_false_iff_eq.mpr c5
    clear c5
    replace H := bs_ H
    obtain ⟨t356,A6,H⟩ := H
    obtain rfl := Option.some.inj H
    go_enter Try.func100,Try.ntmps100
    go_wp2_with (first|((with_reducible refine gate_dst (N := 2) rfl ?_);refine bx_ 2 #[.int .i64 a0_0,.int .i64 a0_1,.int .i64 a0_2,.slice A0_3 l0_3.length c0_3] 45 ?_;intro gb354 hg w7 hbox hb;replace HB := nb_ hg hbox hb;obtain ⟨BK354,GW354,GE354,HB⟩ := HB;clear hb hbox hg)|((with_reducible refine gate_dst (N := 3) rfl ?_);refine bx_ 3 #[.int .i64 a1_0,.int .i64 a1_1,.int .i64 a1_2,.slice A1_3 l1_3.length c1_3] 45 ?_;intro gb355 hg w8 hbox hb;replace HB := nb_ hg hbox hb;obtain ⟨BK355,GW355,GE355,HB⟩ := HB;have NB354_355 := ak ((nl_ BK354 hg));have NB355_354 := ak ((ng_ BK354 hg));replace BK354 := ak (blk_below (kb_ BK354) hb);clear hb hbox hg;have hnb9 := NB354_355.out;have hnc9 := NB355_354.out;obtain ⟨⟨hcz10_0,hcz10_1,hcz10_2,hcz10_3⟩,hfz10_0,hfz10_1,hfz10_2,hfz10_3⟩ := cl4_ BK354.out;obtain ⟨⟨hcz11_0,hcz11_1,hcz11_2,hcz11_3⟩,hfz11_0,hfz11_1,hfz11_2,hfz11_3⟩ := cl4_ BK355.out)|(go_at_call 139;(with_reducible refine (laws_likeSets.calls k _ _ l0_3 _ _ l1_3 t356 _ ?side1 ?side2 ?side3 ?side4 A6.out).mono ?_);(case side1 => exact cb_ HR0_3);(case side2 => exact HC0_3.out);(case side3 => exact cb_ HR1_3);(case side4 => exact HC1_3.out);rintro e w' ⟨rfl,⟨nd,rfl⟩⟩))
    go_ret
    exact ⟨rf_,b_⟩
   ·rw [if_neg c5] at H
    have c5b0 : (a0_2 == a1_2) = false := beq_eq_false_iff_ne.mpr c5
    have c5b1 : (a0_2 != a1_2) = true := bne_iff_ne.mpr c5
    obtain rfl := Option.some.inj H
    go_enter Try.func100,Try.ntmps100
    go_wp2_with (first|((with_reducible refine gate_dst (N := 2) rfl ?_);refine bx_ 2 #[.int .i64 a0_0,.int .i64 a0_1,.int .i64 a0_2,.slice A0_3 l0_3.length c0_3] 45 ?_;intro gb354 hg w12 hbox hb;replace HB := nb_ hg hbox hb;obtain ⟨BK354,GW354,GE354,HB⟩ := HB;clear hb hbox hg)|((with_reducible refine gate_dst (N := 3) rfl ?_);refine bx_ 3 #[.int .i64 a1_0,.int .i64 a1_1,.int .i64 a1_2,.slice A1_3 l1_3.length c1_3] 45 ?_;intro gb355 hg w13 hbox hb;replace HB := nb_ hg hbox hb;obtain ⟨BK355,GW355,GE355,HB⟩ := HB;have NB354_355 := ak ((nl_ BK354 hg));have NB355_354 := ak ((ng_ BK354 hg));replace BK354 := ak (blk_below (kb_ BK354) hb);clear hb hbox hg;have hnb14 := NB354_355.out;have hnc14 := NB355_354.out;obtain ⟨⟨hcz15_0,hcz15_1,hcz15_2,hcz15_3⟩,hfz15_0,hfz15_1,hfz15_2,hfz15_3⟩ := cl4_ BK354.out;obtain ⟨⟨hcz16_0,hcz16_1,hcz16_2,hcz16_3⟩,hfz16_0,hfz16_1,hfz16_2,hfz16_3⟩ := cl4_ BK355.out))
    go_ret
    exact ⟨rf_,b_⟩
  ·rw [if_neg c4] at H
   have c4b0 : (a0_1 == a1_1) = false := beq_eq_false_iff_ne.mpr c4
   have c4b1 : (a0_1 != a1_1) = true := bne_iff_ne.mpr c4
   obtain rfl := Option.some.inj H
   go_enter Try.func100,Try.ntmps100
   go_wp2_with (first|((with_reducible refine gate_dst (N := 2) rfl ?_);refine bx_ 2 #[.int .i64 a0_0,.int .i64 a0_1,.int .i64 a0_2,.slice A0_3 l0_3.length c0_3] 45 ?_;intro gb354 hg w17 hbox hb;replace HB := nb_ hg hbox hb;obtain ⟨BK354,GW354,GE354,HB⟩ := HB;clear hb hbox hg)|((with_reducible refine gate_dst (N := 3) rfl ?_);refine bx_ 3 #[.int .i64 a1_0,.int .i64 a1_1,.int .i64 a1_2,.slice A1_3 l1_3.length c1_3] 45 ?_;intro gb355 hg w18 hbox hb;replace HB := nb_ hg hbox hb;obtain ⟨BK355,GW355,GE355,HB⟩ := HB;have NB354_355 := ak ((nl_ BK354 hg));have NB355_354 := ak ((ng_ BK354 hg));replace BK354 := ak (blk_below (kb_ BK354) hb);clear hb hbox hg;have hnb19 := NB354_355.out;have hnc19 := NB355_354.out;obtain ⟨⟨hcz20_0,hcz20_1,hcz20_2,hcz20_3⟩,hfz20_0,hfz20_1,hfz20_2,hfz20_3⟩ := cl4_ BK354.out;obtain ⟨⟨hcz21_0,hcz21_1,hcz21_2,hcz21_3⟩,hfz21_0,hfz21_1,hfz21_2,hfz21_3⟩ := cl4_ BK355.out))
   go_ret
   exact ⟨rf_,b_⟩
 ·rw [if_neg c3] at H
  have c3b0 : (a0_0 == a1_0) = false := beq_eq_false_iff_ne.mpr c3
  have c3b1 : (a0_0 != a1_0) = true := bne_iff_ne.mpr c3
  obtain rfl := Option.some.inj H
  go_enter Try.func100,Try.ntmps100
  go_wp2_with (first|((with_reducible refine gate_dst (N := 2) rfl ?_);refine bx_ 2 #[.int .i64 a0_0,.int .i64 a0_1,.int .i64 a0_2,.slice A0_3 l0_3.length c0_3] 45 ?_;intro gb354 hg w22 hbox hb;replace HB := nb_ hg hbox hb;obtain ⟨BK354,GW354,GE354,HB⟩ := HB;clear hb hbox hg)|((with_reducible refine gate_dst (N := 3) rfl ?_);refine bx_ 3 #[.int .i64 a1_0,.int .i64 a1_1,.int .i64 a1_2,.slice A1_3 l1_3.length c1_3] 45 ?_;intro gb355 hg w23 hbox hb;replace HB := nb_ hg hbox hb;obtain ⟨BK355,GW355,GE355,HB⟩ := HB;have NB354_355 := ak ((nl_ BK354 hg));have NB355_354 := ak ((ng_ BK354 hg));replace BK354 := ak (blk_below (kb_ BK354) hb);clear hb hbox hg;have hnb24 := NB354_355.out;have hnc24 := NB355_354.out;obtain ⟨⟨hcz25_0,hcz25_1,hcz25_2,hcz25_3⟩,hfz25_0,hfz25_1,hfz25_2,hfz25_3⟩ := cl4_ BK354.out;obtain ⟨⟨hcz26_0,hcz26_1,hcz26_2,hcz26_3⟩,hfz26_0,hfz26_1,hfz26_2,hfz26_3⟩ := cl4_ BK355.out))
  go_ret
  exact ⟨rf_,b_⟩
/-! ### laws_likeMachine: function 41 -/
mutual
def laws_likeMachine.j0 : Nat → Bool → Bool → List (S79) → List (S45) → List Int → Bool → List (S79) → List (S45) → List Int → Option (Bool)
  | 0, _, _, _, _, _, _, _, _, _ => none
  | k + 1, x37, x358000, x358001, x358002, x358003, x359000, x359001, x359002, x359003 => if x37 = true then (some false) else (laws_likeMachine.l0 k 0 x358000 x358001 x358002 x358003 x359000 x359001 x359002 x359003)
def laws_likeMachine.l0 : Nat → Int → Bool → List (S79) → List (S45) → List Int → Bool → List (S79) → List (S45) → List Int → Option (Bool)
  | 0, _, _, _, _, _, _, _, _, _ => none
  | k + 1, x5, x358000, x358001, x358002, x358003, x359000, x359001, x359002, x359003 => if x5 < (x358001.length : Int) then (if 0 ≤ x5 then (if x5 < (x359001.length : Int) then (if ((rd_T79 x358001 x5).f0) = ((rd_T79 x359001 x5).f0) then ((laws_likeCells.f k ((rd_T79 x358001 x5).f1) ((rd_T79 x359001 x5).f1)).bind fun t364 => (if t364 = true then (laws_likeMachine.l0 k (wrap64 (x5 + 1)) x358000 x358001 x358002 x358003 x359000 x359001 x359002 x359003) else (some false))) else (some false)) else (none)) else (none)) else (laws_likeMachine.l1 k 0 x358000 x358001 x358002 x358003 x359000 x359001 x359002 x359003)
def laws_likeMachine.l1 : Nat → Int → Bool → List (S79) → List (S45) → List Int → Bool → List (S79) → List (S45) → List Int → Option (Bool)
  | 0, _, _, _, _, _, _, _, _, _ => none
  | k + 1, x6, x358000, x358001, x358002, x358003, x359000, x359001, x359002, x359003 => if x6 < (x358002.length : Int) then (if 0 ≤ x6 then (if x6 < (x359002.length : Int) then ((laws_likeRecord.f k ((rd_T45 x358002 x6).f0) ((rd_T45 x358002 x6).f1) ((rd_T45 x358002 x6).f2) ((rd_T45 x358002 x6).f3) ((rd_T45 x359002 x6).f0) ((rd_T45 x359002 x6).f1) ((rd_T45 x359002 x6).f2) ((rd_T45 x359002 x6).f3)).bind fun t367 => (if t367 = true then (laws_likeMachine.l1 k (wrap64 (x6 + 1)) x358000 x358001 x358002 x358003 x359000 x359001 x359002 x359003) else (some false))) else (none)) else (none)) else (some true)
end
def laws_likeMachine.f (k : Nat) (a0_0 : Bool) (l0_1 : List (S79)) (l0_2 : List (S45)) (l0_3 : List Int) (a1_0 : Bool) (l1_1 : List (S79)) (l1_2 : List (S45)) (l1_3 : List Int) : Option (Bool) := if (a0_0 != a1_0) = true then (laws_likeMachine.j0 k true a0_0 l0_1 l0_2 l0_3 a1_0 l1_1 l1_2 l1_3) else (if (l0_1.length : Int) = (l1_1.length : Int) then (if (l0_2.length : Int) = (l1_2.length : Int) then ((laws_likeInts.f k l0_3 l1_3).bind fun t359 => (laws_likeMachine.j0 k (!t359) a0_0 l0_1 l0_2 l0_3 a1_0 l1_1 l1_2 l1_3)) else (laws_likeMachine.j0 k true a0_0 l0_1 l0_2 l0_3 a1_0 l1_1 l1_2 l1_3)) else (laws_likeMachine.j0 k true a0_0 l0_1 l0_2 l0_3 a1_0 l1_1 l1_2 l1_3))

def laws_likeMachine.T6 : Bool × List (List Nat × List Nat) := (true, [([], []), ([0], [0]), ([], []), ([1, 2], [1, 2]), ([3], [3]), ([4], [4]), ([], []), ([6], [6]), ([], []), ([7, 8], [7, 8]), ([9], [9]), ([10], [10]), ([5, 11], [5, 11]), ([12], [12]), ([13], [13]), ([14, 13], [13, 14]), ([13], [13]), ([15, 16, 13], [13, 15, 16]), ([17, 13], [13, 17]), ([18, 13], [13, 18]), ([13], [13]), ([20, 13], [13, 20]), ([13], [13]), ([21, 22, 13], [13, 21, 22]), ([23, 13], [13, 23]), ([24, 13], [13, 24]), ([19, 25, 13, 13], [13, 19, 25]), ([26, 13], [13, 26]), ([13, 27], [13, 27])])
def laws_likeMachine.B6 : List Nat := [0, 1, 0, 7, 15, 31, 0, 64, 0, 448, 960, 1984, 4095, 8191, 16383, 32767, 16383, 131071, 262143, 524287, 16383, 1064959, 16383, 7356415, 15745023, 32522239, 67108863, 134217727, 268435455]
theorem laws_likeMachine.tab6 : rtab .any (opsOf Try.f41 6) = laws_likeMachine.T6 := by kernel_rfl
theorem laws_likeMachine.bits6 : waitsOk laws_likeMachine.T6.2 laws_likeMachine.B6 = true := by kernel_rfl
def laws_likeMachine.T11 : Bool × List (List Nat × List Nat) := (true, [([], []), ([0], [0]), ([], []), ([1, 2], [1, 2]), ([3], [3]), ([], []), ([5], [5]), ([], []), ([6, 7], [6, 7]), ([8], [8]), ([4, 9], [4, 9]), ([10], [10])])
def laws_likeMachine.B11 : List Nat := [0, 1, 0, 7, 15, 0, 32, 0, 224, 480, 1023, 2047]
theorem laws_likeMachine.tab11 : rtab .any (opsOf Try.f41 11) = laws_likeMachine.T11 := by kernel_rfl
theorem laws_likeMachine.bits11 : waitsOk laws_likeMachine.T11.2 laws_likeMachine.B11 = true := by kernel_rfl
set_option maxHeartbeats 8000000 in
set_option maxRecDepth 100000 in
theorem laws_likeMachine.calls (k : Nat) (a0_0 : Bool) (A0_1 : Option Addr) (c0_1 : Nat) (l0_1 : List (S79)) (A0_2 : Option Addr) (c0_2 : Nat) (l0_2 : List (S45)) (A0_3 : Option Addr) (c0_3 : Nat) (l0_3 : List Int) (a1_0 : Bool) (A1_1 : Option Addr) (c1_1 : Nat) (l1_1 : List (S79)) (A1_2 : Option Addr) (c1_2 : Nat) (l1_2 : List (S45)) (A1_3 : Option Addr) (c1_3 : Nat) (l1_3 : List Int) (r : Bool) (w : World) (hr0_1 : Kd.C k79 w A0_1 l0_1.length l0_1) (hc0_1 : l0_1.length ≤ c0_1) (hr0_2 : Kd.C k45 w A0_2 l0_2.length l0_2) (hc0_2 : l0_2.length ≤ c0_2) (hr0_3 : Kd.C (Kd.int .i64) w A0_3 l0_3.length l0_3) (hc0_3 : l0_3.length ≤ c0_3) (hr1_1 : Kd.C k79 w A1_1 l1_1.length l1_1) (hc1_1 : l1_1.length ≤ c1_1) (hr1_2 : Kd.C k45 w A1_2 l1_2.length l1_2) (hc1_2 : l1_2.length ≤ c1_2) (hr1_3 : Kd.C (Kd.int .i64) w A1_3 l1_3.length l1_3) (hc1_3 : l1_3.length ≤ c1_3) (h : laws_likeMachine.f k a0_0 l0_1 l0_2 l0_3 a1_0 l1_1 l1_2 l1_3 = some r) :
    Calls Try.prog 41 #[.agg #[.bool a0_0, .slice A0_1 l0_1.length c0_1, .slice A0_2 l0_2.length c0_2, .slice A0_3 l0_3.length c0_3], .agg #[.bool a1_0, .slice A1_1 l1_1.length c1_1, .slice A1_2 l1_2.length c1_2, .slice A1_3 l1_3.length c1_3]] w fun e w' => e = .returned (.bool r) ∧ Below w.heap.size w w' := by
 have hu32 := Try.underlying32
 have hu45 := Try.underlying45
 have HR0_1 := ak hr0_1
 have HC0_1 := ak hc0_1
 clear hr0_1 hc0_1
 have HR0_2 := ak hr0_2
 have HC0_2 := ak hc0_2
 clear hr0_2 hc0_2
 have HR0_3 := ak hr0_3
 have HC0_3 := ak hc0_3
 clear hr0_3 hc0_3
 have HR1_1 := ak hr1_1
 have HC1_1 := ak hc1_1
 clear hr1_1 hc1_1
 have HR1_2 := ak hr1_2
 have HC1_2 := ak hc1_2
 clear hr1_2 hc1_2
 have HR1_3 := ak hr1_3
 have HC1_3 := ak hc1_3
 clear hr1_3 hc1_3
 have HB := ak (Below.refl w.heap.size w)
 have H : (if (a0_0 != a1_0) = true then (laws_likeMachine.j0 k true a0_0 l0_1 l0_2 l0_3 a1_0 l1_1 l1_2 l1_3) else (if (l0_1.length : Int) = (l1_1.length : Int) then (if (l0_2.length : Int) = (l1_2.length : Int) then ((laws_likeInts.f k l0_3 l1_3).bind fun t359 => (laws_likeMachine.j0 k (!t359) a0_0 l0_1 l0_2 l0_3 a1_0 l1_1 l1_2 l1_3)) else (laws_likeMachine.j0 k true a0_0 l0_1 l0_2 l0_3 a1_0 l1_1 l1_2 l1_3)) else (laws_likeMachine.j0 k true a0_0 l0_1 l0_2 l0_3 a1_0 l1_1 l1_2 l1_3))) = some r := h
 clear h
 have HC3 := ak H
 clear H
 go_enter Try.func41,Try.ntmps41
 go_upto_region 1 with (first|((with_reducible refine gate_dst (N := 2) rfl ?_);(try (refine gate_guard (by rfl) ?_;dsimp only));refine bx_ 2 #[.bool a0_0,.slice A0_1 l0_1.length c0_1,.slice A0_2 l0_2.length c0_2,.slice A0_3 l0_3.length c0_3] 32 ?_;intro gb357 hg w4 hbox hb;have n0_ := ak (below_step b_ hb);have n1_ := ak (hbox);have n2_ := ak ((gw_ (w := w) hg));have n3_ := ak ((gw_ (w := w) hg));clear HB;have HB := n0_;have BK357 := n1_;have GW357 := n2_;have GE357 := n3_;clear n0_ n1_ n2_ n3_;clear hb hbox hg)|((with_reducible refine gate_dst (N := 3) rfl ?_);(try (refine gate_guard (by rfl) ?_;dsimp only));refine bx_ 3 #[.bool a1_0,.slice A1_1 l1_1.length c1_1,.slice A1_2 l1_2.length c1_2,.slice A1_3 l1_3.length c1_3] 32 ?_;intro gb358 hg w5 hbox hb;have n0_ := ak (blk_below (kb_ BK357) hb);have n1_ := ak (below_step b_ hb);have n2_ := ak (hbox);have n3_ := ak ((gw_ (w := w) hg));have n4_ := ak ((gw_ (w := w) hg));have n5_ := ak ((nl_ BK357 hg));have n6_ := ak ((ng_ BK357 hg));clear BK357;clear HB;have BK357 := n0_;have HB := n1_;have BK358 := n2_;have GW358 := n3_;have GE358 := n4_;have NB357_358 := n5_;have NB358_357 := n6_;clear n0_ n1_ n2_ n3_ n4_ n5_ n6_;clear hb hbox hg))
 (try simp only [Act.put,List.setIfInBounds_toArray,List.set_cons_zero,List.set_cons_succ])
 go_cut [37] (fun v37 wc => ∃ (kq : Nat) (x37_2 : Bool),v37 = .bool x37_2 ∧ Aside0 (laws_likeMachine.j0 kq x37_2 a0_0 l0_1 l0_2 l0_3 a1_0 l1_1 l1_2 l1_3 = some r) ∧ Aside0 (kq ≤ k) ∧ Aside0 (wc.heap[gb357]? = some (.cells #[.bool a0_0,(.slice A0_1 l0_1.length c0_1),(.slice A0_2 l0_2.length c0_2),(.slice A0_3 l0_3.length c0_3)] 32 (0,0))) ∧ Aside0 (wc.heap[gb358]? = some (.cells #[.bool a1_0,(.slice A1_1 l1_1.length c1_1),(.slice A1_2 l1_2.length c1_2),(.slice A1_3 l1_3.length c1_3)] 32 (0,0))) ∧ Aside0 (Below w.heap.size w wc))
 case first =>
  have H := HC3.out
  clear HC3
  by_cases c6 : (a0_0 != a1_0) = true
  ·rw [if_pos c6] at H
   have c6b0 : (a0_0 != a1_0) = true := c6
   (try (have c6b1 : decide (a0_0 = a1_0) = false := by simpa using c6))
   (try (have c6b2 : (a0_0 == a1_0) = false := by simpa using c6))
   (try (have c6b3 : ¬ (a0_0 = a1_0) := by simpa using c6))
   clear c6
   (first|rw [c6b0]|(simp only [i64_w,i32_w];rw [c6b0])|skip)
   have H' := ak H
   clear H
   have hnb7 := NB357_358.out
   have hnc7 := NB358_357.out
   obtain ⟨⟨hcz8_0,hcz8_1,hcz8_2,hcz8_3⟩,hfz8_0,hfz8_1,hfz8_2,hfz8_3⟩ := cl4_ BK357.out
   obtain ⟨⟨hcz9_0,hcz9_1,hcz9_2,hcz9_3⟩,hfz9_0,hfz9_1,hfz9_2,hfz9_3⟩ := cl4_ BK358.out
   go_wp2
   go_meet
   case rel => exact ⟨_,(true),rs_,H',⟨by first|omega|exact Nat.le_refl _⟩,⟨kb_ BK357⟩,⟨kb_ BK358⟩,⟨b_⟩⟩
  ·rw [if_neg c6] at H
   have c6b0 : (a0_0 != a1_0) = false := by simpa using c6
   (try (have c6b1 : decide (a0_0 = a1_0) = true := by simpa using c6))
   (try (have c6b2 : (a0_0 == a1_0) = true := by simpa using c6))
   clear c6
   (first|rw [c6b0]|(simp only [i64_w,i32_w];rw [c6b0])|skip)
   by_cases c10 : (l0_1.length : Int) = (l1_1.length : Int)
   ·rw [if_pos c10] at H
    have c10b0 : ((l0_1.length : Int) == (l1_1.length : Int)) = true := beq_iff_eq.mpr c10
    have c10b1 : ((l0_1.length : Int) != (l1_1.length : Int)) = false := bne_eq_false_iff_eq.mpr c10
    have c10b2 : (l0_1.length == l1_1.length) = true := by first|simpa using c10|(simp at c10 ⊢;omega)
    clear c10
    by_cases c11 : (l0_2.length : Int) = (l1_2.length : Int)
    ·rw [if_pos c11] at H
     have c11b0 : ((l0_2.length : Int) == (l1_2.length : Int)) = true := beq_iff_eq.mpr c11
     have c11b1 : ((l0_2.length : Int) != (l1_2.length : Int)) = false := bne_eq_false_iff_eq.mpr c11
     have c11b2 : (l0_2.length == l1_2.length) = true := by first|simpa using c11|(simp at c11 ⊢;omega)
     clear c11
     replace H := bs_ H
     obtain ⟨t359,A12,H⟩ := H
     have H' := ak H
     clear H
     have hnb13 := NB357_358.out
     have hnc13 := NB358_357.out
     obtain ⟨⟨hcz14_0,hcz14_1,hcz14_2,hcz14_3⟩,hfz14_0,hfz14_1,hfz14_2,hfz14_3⟩ := cl4_ BK357.out
     obtain ⟨⟨hcz15_0,hcz15_1,hcz15_2,hcz15_3⟩,hfz15_0,hfz15_1,hfz15_2,hfz15_3⟩ := cl4_ BK358.out
     go_wp2_with (first|(go_at_call 98;(with_reducible refine (laws_likeInts.calls k _ _ l0_3 _ _ l1_3 t359 _ ?side1 ?side2 ?side3 ?side4 A12.out).mono ?_);(case side1 => exact cb_ HR0_3);(case side2 => exact HC0_3.out);(case side3 => exact cb_ HR1_3);(case side4 => exact HC1_3.out);rintro e w' ⟨rfl,⟨nd,rfl⟩⟩))
     go_meet
     case rel => exact ⟨_,(!t359),rs_,H',⟨by first|omega|exact Nat.le_refl _⟩,⟨kb_ BK357⟩,⟨kb_ BK358⟩,⟨b_⟩⟩
    ·rw [if_neg c11] at H
     have c11b0 : ((l0_2.length : Int) == (l1_2.length : Int)) = false := beq_eq_false_iff_ne.mpr c11
     have c11b1 : ((l0_2.length : Int) != (l1_2.length : Int)) = true := bne_iff_ne.mpr c11
     have c11b2 : (l0_2.length == l1_2.length) = false := by first|simpa using c11|(simp at c11 ⊢;omega)
     have H' := ak H
     clear H
     have hnb16 := NB357_358.out
     have hnc16 := NB358_357.out
     obtain ⟨⟨hcz17_0,hcz17_1,hcz17_2,hcz17_3⟩,hfz17_0,hfz17_1,hfz17_2,hfz17_3⟩ := cl4_ BK357.out
     obtain ⟨⟨hcz18_0,hcz18_1,hcz18_2,hcz18_3⟩,hfz18_0,hfz18_1,hfz18_2,hfz18_3⟩ := cl4_ BK358.out
     go_wp2
     go_meet
     case rel => exact ⟨_,(true),rs_,H',⟨by first|omega|exact Nat.le_refl _⟩,⟨kb_ BK357⟩,⟨kb_ BK358⟩,⟨b_⟩⟩
   ·rw [if_neg c10] at H
    have c10b0 : ((l0_1.length : Int) == (l1_1.length : Int)) = false := beq_eq_false_iff_ne.mpr c10
    have c10b1 : ((l0_1.length : Int) != (l1_1.length : Int)) = true := bne_iff_ne.mpr c10
    have c10b2 : (l0_1.length == l1_1.length) = false := by first|simpa using c10|(simp at c10 ⊢;omega)
    have H' := ak H
    clear H
    have hnb19 := NB357_358.out
    have hnc19 := NB358_357.out
    obtain ⟨⟨hcz20_0,hcz20_1,hcz20_2,hcz20_3⟩,hfz20_0,hfz20_1,hfz20_2,hfz20_3⟩ := cl4_ BK357.out
    obtain ⟨⟨hcz21_0,hcz21_1,hcz21_2,hcz21_3⟩,hfz21_0,hfz21_1,hfz21_2,hfz21_3⟩ := cl4_ BK358.out
    go_wp2
    go_meet
    case rel => exact ⟨_,(true),rs_,H',⟨by first|omega|exact Nat.le_refl _⟩,⟨kb_ BK357⟩,⟨kb_ BK358⟩,⟨b_⟩⟩
 case rest =>
  clear HC3
  try clear c1
  try clear p2
  try clear c4
  try clear c6
  try clear c6b0
  try clear c6b1
  try clear c6b2
  try clear c7
  try clear c10
  try clear c10b0
  try clear c10b1
  try clear c10b2
  try clear c11
  try clear c11b0
  try clear c11b1
  try clear c11b2
  try clear c13
  try clear c16
  try clear c19
  try clear hcz14_0
  try clear hcz14_1
  try clear hcz14_2
  try clear hcz14_3
  try clear hcz15_0
  try clear hcz15_1
  try clear hcz15_2
  try clear hcz15_3
  try clear hcz17_0
  try clear hcz17_1
  try clear hcz17_2
  try clear hcz17_3
  try clear hcz18_0
  try clear hcz18_1
  try clear hcz18_2
  try clear hcz18_3
  try clear hcz20_0
  try clear hcz20_1
  try clear hcz20_2
  try clear hcz20_3
  try clear hcz21_0
  try clear hcz21_1
  try clear hcz21_2
  try clear hcz21_3
  try clear hcz8_0
  try clear hcz8_1
  try clear hcz8_2
  try clear hcz8_3
  try clear hcz9_0
  try clear hcz9_1
  try clear hcz9_2
  try clear hcz9_3
  try clear hfz14_0
  try clear hfz14_1
  try clear hfz14_2
  try clear hfz14_3
  try clear hfz15_0
  try clear hfz15_1
  try clear hfz15_2
  try clear hfz15_3
  try clear hfz17_0
  try clear hfz17_1
  try clear hfz17_2
  try clear hfz17_3
  try clear hfz18_0
  try clear hfz18_1
  try clear hfz18_2
  try clear hfz18_3
  try clear hfz20_0
  try clear hfz20_1
  try clear hfz20_2
  try clear hfz20_3
  try clear hfz21_0
  try clear hfz21_1
  try clear hfz21_2
  try clear hfz21_3
  try clear hfz8_0
  try clear hfz8_1
  try clear hfz8_2
  try clear hfz8_3
  try clear hfz9_0
  try clear hfz9_1
  try clear hfz9_2
  try clear hfz9_3
  obtain ⟨kq,x37_2,rfl,HA,HJ2,BK357,BK358,HB⟩ := hcut
  cases kq with
    | zero => exact absurd HA.out (by simp [laws_likeMachine.j0])
    | succ kj2 =>
   have H := HA.out
   clear HA
   simp only [laws_likeMachine.j0] at H
   by_cases c22 : x37_2 = true
   ·subst c22
    replace H := it_ H
    obtain rfl := Option.some.inj H
    go_wp2
    go_ret
    exact ⟨rf_,b_⟩
   ·replace c22 := Bool.eq_false_iff.mpr c22
    subst c22
    replace H := ie_ H
    have H' := ak H
    clear H
    go_wp2
    go_loopg [5] kj2 (fun kq v5 w' => ∃ (x5_2 : Int),v5 = .int .i64 x5_2 ∧ Aside0 (laws_likeMachine.l0 kq x5_2 a0_0 l0_1 l0_2 l0_3 a1_0 l1_1 l1_2 l1_3 = some r) ∧ Aside0 (kq ≤ kj2) ∧ Aside0 (w'.heap[gb357]? = some (.cells #[.bool a0_0,(.slice A0_1 l0_1.length c0_1),(.slice A0_2 l0_2.length c0_2),(.slice A0_3 l0_3.length c0_3)] 32 (0,0))) ∧ Aside0 (w'.heap[gb358]? = some (.cells #[.bool a1_0,(.slice A1_1 l1_1.length c1_1),(.slice A1_2 l1_2.length c1_2),(.slice A1_3 l1_3.length c1_3)] 32 (0,0))) ∧ Aside0 (Below w.heap.size w w'))
    case atStart => exact ⟨(0),rs_,H',⟨Nat.le_refl _⟩,⟨kb_ BK357⟩,⟨kb_ BK358⟩,⟨b_⟩⟩
    case round =>
     clear H'
     try clear c1
     try clear c2
     try clear p2
     try clear c4
     try clear c6
     try clear c6b0
     try clear c6b1
     try clear c6b2
     try clear c7
     try clear c10
     try clear c10b0
     try clear c10b1
     try clear c10b2
     try clear c11
     try clear c11b0
     try clear c11b1
     try clear c11b2
     try clear c13
     try clear c16
     try clear c19
     try clear c22
     try clear hcz14_0
     try clear hcz14_1
     try clear hcz14_2
     try clear hcz14_3
     try clear hcz15_0
     try clear hcz15_1
     try clear hcz15_2
     try clear hcz15_3
     try clear hcz17_0
     try clear hcz17_1
     try clear hcz17_2
     try clear hcz17_3
     try clear hcz18_0
     try clear hcz18_1
     try clear hcz18_2
     try clear hcz18_3
     try clear hcz20_0
     try clear hcz20_1
     try clear hcz20_2
     try clear hcz20_3
     try clear hcz21_0
     try clear hcz21_1
     try clear hcz21_2
     try clear hcz21_3
     try clear hcz8_0
     try clear hcz8_1
     try clear hcz8_2
     try clear hcz8_3
     try clear hcz9_0
     try clear hcz9_1
     try clear hcz9_2
     try clear hcz9_3
     try clear hfz14_0
     try clear hfz14_1
     try clear hfz14_2
     try clear hfz14_3
     try clear hfz15_0
     try clear hfz15_1
     try clear hfz15_2
     try clear hfz15_3
     try clear hfz17_0
     try clear hfz17_1
     try clear hfz17_2
     try clear hfz17_3
     try clear hfz18_0
     try clear hfz18_1
     try clear hfz18_2
     try clear hfz18_3
     try clear hfz20_0
     try clear hfz20_1
     try clear hfz20_2
     try clear hfz20_3
     try clear hfz21_0
     try clear hfz21_1
     try clear hfz21_2
     try clear hfz21_3
     try clear hfz8_0
     try clear hfz8_1
     try clear hfz8_2
     try clear hfz8_3
     try clear hfz9_0
     try clear hfz9_1
     try clear hfz9_2
     try clear hfz9_3
     try clear p2
     obtain ⟨x5_2,rfl,HA,HK2,BK357,BK358,HB⟩ := hrel
     cases gk with
     | zero => exact absurd HA.out (by simp [laws_likeMachine.l0])
     | succ k2 =>
      have H := HA.out
      clear HA
      simp only [laws_likeMachine.l0] at H
      by_cases c23 : x5_2 < (l0_1.length : Int)
      ·rw [if_pos c23] at H
       have c23b0 : decide (x5_2 < (l0_1.length : Int)) = true := decide_eq_true c23
       clear c23
       by_cases c24 : 0 ≤ x5_2
       ·rw [if_pos c24] at H
        have c24b0 : decide (0 ≤ x5_2) = true := decide_eq_true c24
        clear c24
        by_cases c25 : x5_2 < (l1_1.length : Int)
        ·rw [if_pos c25] at H
         have c25b0 : decide (x5_2 < (l1_1.length : Int)) = true := decide_eq_true c25
         clear c25
         by_cases c26 : ((rd_T79 l0_1 x5_2).f0) = ((rd_T79 l1_1 x5_2).f0)
         ·rw [if_pos c26] at H
          have c26b0 : (((rd_T79 l0_1 x5_2).f0) == ((rd_T79 l1_1 x5_2).f0)) = true := beq_iff_eq.mpr c26
          have c26b1 : (((rd_T79 l0_1 x5_2).f0) != ((rd_T79 l1_1 x5_2).f0)) = false := bne_eq_false_iff_eq.mpr c26
          clear c26
          replace H := bs_ H
          obtain ⟨t364,A27,H⟩ := H
          by_cases c28 : t364 = true
          ·subst c28
           replace H := it_ H
           have H' := ak H
           clear H
           have hnb29 := NB357_358.out
           have hnc29 := NB358_357.out
           obtain ⟨⟨hcz30_0,hcz30_1,hcz30_2,hcz30_3⟩,hfz30_0,hfz30_1,hfz30_2,hfz30_3⟩ := cl4_ BK357.out
           try go_wp2
           replace BK357 := ak (blk_drew BK357.out)
           replace BK358 := ak (blk_drew BK358.out)
           replace HB := ak (below_drew1 HB.out)
           have p360 : 0 ≤ (x5_2 : Int) := od_
           have q360 : x5_2 < (l0_1.length : Int) := od_
           obtain ⟨ad360,A360_1,c360_1,e360,hx360_0,hx360_1,hl360_1,hi360_1⟩ := at_T79 HR0_1.out x5_2 p360 q360
           have hw360_1 := hx360_1
           have hw360_0 := hx360_0
           cases e360
           replace hx360_0 := hx_ HB hx360_0
           replace hx360_1 := hx_ HB hx360_1
           have HR360_1 := ak hi360_1
           have HC360_1 := ak hl360_1
           clear hi360_1 hl360_1
           replace p360 := eq_true p360
           replace q360 := eq_true q360
           have p361 : 0 ≤ (x5_2 : Int) := od_
           have q361 : x5_2 < (l1_1.length : Int) := od_
           obtain ⟨ad361,A361_1,c361_1,e361,hx361_0,hx361_1,hl361_1,hi361_1⟩ := at_T79 HR1_1.out x5_2 p361 q361
           have hw361_1 := hx361_1
           have hw361_0 := hx361_0
           cases e361
           replace hx361_0 := hx_ HB hx361_0
           replace hx361_1 := hx_ HB hx361_1
           have HR361_1 := ak hi361_1
           have HC361_1 := ak hl361_1
           clear hi361_1 hl361_1
           replace p361 := eq_true p361
           replace q361 := eq_true q361
           have p362 : 0 ≤ (x5_2 : Int) := od_
           have q362 : x5_2 < (l0_1.length : Int) := od_
           obtain ⟨ad362,A362_1,c362_1,e362,hx362_0,hx362_1,hl362_1,hi362_1⟩ := at_T79 HR0_1.out x5_2 p362 q362
           have hw362_1 := hx362_1
           have hw362_0 := hx362_0
           obtain rfl : ad360 = ad362 := (by injection e362)
           replace hx362_0 := hx_ HB hx362_0
           replace hx362_1 := hx_ HB hx362_1
           have HR362_1 := ak hi362_1
           have HC362_1 := ak hl362_1
           clear hi362_1 hl362_1
           replace p362 := eq_true p362
           replace q362 := eq_true q362
           have ea_ := Option.some.inj (hx360_1.symm.trans hx362_1)
           injection ea_ with ea_ en_ ec_
           subst ea_
           subst ec_
           clear en_
           have p363 : 0 ≤ (x5_2 : Int) := od_
           have q363 : x5_2 < (l1_1.length : Int) := od_
           obtain ⟨ad363,A363_1,c363_1,e363,hx363_0,hx363_1,hl363_1,hi363_1⟩ := at_T79 HR1_1.out x5_2 p363 q363
           have hw363_1 := hx363_1
           have hw363_0 := hx363_0
           obtain rfl : ad361 = ad363 := (by injection e363)
           replace hx363_0 := hx_ HB hx363_0
           replace hx363_1 := hx_ HB hx363_1
           have HR363_1 := ak hi363_1
           have HC363_1 := ak hl363_1
           clear hi363_1 hl363_1
           replace p363 := eq_true p363
           replace q363 := eq_true q363
           have ea_ := Option.some.inj (hx361_1.symm.trans hx363_1)
           injection ea_ with ea_ en_ ec_
           subst ea_
           subst ec_
           clear en_
           refine st_ 29 (S := fun w' => hc4 w' gb357 (.bool a0_0) (.slice (some ad360) l0_1.length c0_1) (.slice A0_2 l0_2.length c0_2) (.slice A0_3 l0_3.length c0_3) (hc4 w' gb358 (.bool a1_0) (.slice (some ad361) l1_1.length c1_1) (.slice A1_2 l1_2.length c1_2) (.slice A1_3 l1_3.length c1_3) (he2 w' (ad360.add ((x5_2).toNat * 2)) (.int .i64 ((rd_T79 l0_1 x5_2).f0)) (.slice A360_1 ((rd_T79 l0_1 x5_2).f1).length c360_1) (he2 w' (ad361.add ((x5_2).toNat * 2)) (.int .i64 ((rd_T79 l1_1 x5_2).f0)) (.slice A361_1 ((rd_T79 l1_1 x5_2).f1).length c361_1) (he2 w' (ad360.add ((x5_2).toNat * 2)) (.int .i64 ((rd_T79 l0_1 x5_2).f0)) (.slice A360_1 ((rd_T79 l0_1 x5_2).f1).length c360_1) (hf2 w' (ad361.add ((x5_2).toNat * 2)) (.int .i64 ((rd_T79 l1_1 x5_2).f0)) (.slice A361_1 ((rd_T79 l1_1 x5_2).f1).length c361_1))))))) hh_ (fun hHeld => ?_);refine with_tabW laws_likeMachine.tab6 laws_likeMachine.bits6 (fun HT_ HW_ => ?_)
           generalize wr.drew = w31 at BK357 BK358 HB HR360_1 HR361_1 HR362_1 HR363_1 hx360_0 hx360_1 hx361_0 hx361_1 hx362_0 hx362_1 hx363_0 hx363_1 hHeld ⊢
           refine pv_ 0 45 ?_
           refine pv_ 2 47 ?_
           refine pv_ 6 51 ?_
           refine pv_ 8 53 ?_
           refine tx_ 1 46 hHeld ?_
           refine pv_ 3 48 ?_
           refine pv_ 4 49 ?_
           refine tx_ 5 50 hHeld ?_
           refine tx_ 7 52 hHeld ?_
           refine pv_ 9 54 ?_
           refine pv_ 10 55 ?_
           refine tx_ 11 56 hHeld ?_
           refine pv_ 12 57 ?_
           refine pv_ 13 58 ?_
           refine pv_ 14 59 ?_
           refine pv_ 16 61 ?_
           refine pv_ 20 65 ?_
           refine pv_ 22 67 ?_
           refine tx_ 15 60 hHeld ?_
           refine pv_ 17 62 ?_
           refine pv_ 18 63 ?_
           refine tx_ 19 64 hHeld ?_
           refine tx_ 21 66 hHeld ?_
           refine pv_ 23 68 ?_
           refine pv_ 24 69 ?_
           refine tx_ 25 70 hHeld ?_
           refine oy_ 26 71 (fun K hK => ?_)
           refine gs_ Try.func99 #[.slice A360_1 ((rd_T79 l0_1 x5_2).f1).length c360_1,.slice A361_1 ((rd_T79 l1_1 x5_2).f1).length c361_1] ?_
           with_reducible refine (laws_likeCells.calls k2 _ _ ((rd_T79 l0_1 x5_2).f1) _ _ ((rd_T79 l1_1 x5_2).f1) true _ ?side1 ?side2 ?side3 ?side4 A27.out).mono ?_
           (case side1 => exact cb_ HR362_1)
           (case side2 => exact HC362_1.out)
           (case side3 => exact cb_ HR363_1)
           (case side4 => exact HC363_1.out)
           rintro e w' ⟨rfl,⟨nd,rfl⟩⟩
           refine ⟨_,rfl,?_⟩
           refine hK.out _ _ hh_ (fun hHeld => ?_)
           clear hK K
           refine nr_ (some 71) _ ?_
           refine pv_ 27 72 ?_
           refine pv_ 28 73 ?_
           refine done_ (done_of HT_.out (by kernel_rfl)) ?_
           try go_wp2
           go_roundg k2
           case measure => have := HJ2.out;have := HK2.out;omega
           case rel => exact ⟨(wrap64 (x5_2 + 1)),rs_,H',⟨by have := HJ2.out;have := HK2.out;omega⟩,⟨kb_ BK357⟩,⟨kb_ BK358⟩,⟨b_⟩⟩
          ·replace c28 := Bool.eq_false_iff.mpr c28
           subst c28
           replace H := ie_ H
           obtain rfl := Option.some.inj H
           have hnb32 := NB357_358.out
           have hnc32 := NB358_357.out
           obtain ⟨⟨hcz33_0,hcz33_1,hcz33_2,hcz33_3⟩,hfz33_0,hfz33_1,hfz33_2,hfz33_3⟩ := cl4_ BK357.out
           try go_wp2
           replace BK357 := ak (blk_drew BK357.out)
           replace BK358 := ak (blk_drew BK358.out)
           replace HB := ak (below_drew1 HB.out)
           have p360 : 0 ≤ (x5_2 : Int) := od_
           have q360 : x5_2 < (l0_1.length : Int) := od_
           obtain ⟨ad360,A360_1,c360_1,e360,hx360_0,hx360_1,hl360_1,hi360_1⟩ := at_T79 HR0_1.out x5_2 p360 q360
           have hw360_1 := hx360_1
           have hw360_0 := hx360_0
           cases e360
           replace hx360_0 := hx_ HB hx360_0
           replace hx360_1 := hx_ HB hx360_1
           have HR360_1 := ak hi360_1
           have HC360_1 := ak hl360_1
           clear hi360_1 hl360_1
           replace p360 := eq_true p360
           replace q360 := eq_true q360
           have p361 : 0 ≤ (x5_2 : Int) := od_
           have q361 : x5_2 < (l1_1.length : Int) := od_
           obtain ⟨ad361,A361_1,c361_1,e361,hx361_0,hx361_1,hl361_1,hi361_1⟩ := at_T79 HR1_1.out x5_2 p361 q361
           have hw361_1 := hx361_1
           have hw361_0 := hx361_0
           cases e361
           replace hx361_0 := hx_ HB hx361_0
           replace hx361_1 := hx_ HB hx361_1
           have HR361_1 := ak hi361_1
           have HC361_1 := ak hl361_1
           clear hi361_1 hl361_1
           replace p361 := eq_true p361
           replace q361 := eq_true q361
           have p362 : 0 ≤ (x5_2 : Int) := od_
           have q362 : x5_2 < (l0_1.length : Int) := od_
           obtain ⟨ad362,A362_1,c362_1,e362,hx362_0,hx362_1,hl362_1,hi362_1⟩ := at_T79 HR0_1.out x5_2 p362 q362
           have hw362_1 := hx362_1
           have hw362_0 := hx362_0
           obtain rfl : ad360 = ad362 := (by injection e362)
           replace hx362_0 := hx_ HB hx362_0
           replace hx362_1 := hx_ HB hx362_1
           have HR362_1 := ak hi362_1
           have HC362_1 := ak hl362_1
           clear hi362_1 hl362_1
           replace p362 := eq_true p362
           replace q362 := eq_true q362
           have ea_ := Option.some.inj (hx360_1.symm.trans hx362_1)
           injection ea_ with ea_ en_ ec_
           subst ea_
           subst ec_
           clear en_
           have p363 : 0 ≤ (x5_2 : Int) := od_
           have q363 : x5_2 < (l1_1.length : Int) := od_
           obtain ⟨ad363,A363_1,c363_1,e363,hx363_0,hx363_1,hl363_1,hi363_1⟩ := at_T79 HR1_1.out x5_2 p363 q363
           have hw363_1 := hx363_1
           have hw363_0 := hx363_0
           obtain rfl : ad361 = ad363 := (by injection e363)
           replace hx363_0 := hx_ HB hx363_0
           replace hx363_1 := hx_ HB hx363_1
           have HR363_1 := ak hi363_1
           have HC363_1 := ak hl363_1
           clear hi363_1 hl363_1
           replace p363 := eq_true p363
           replace q363 := eq_true q363
           have ea_ := Option.some.inj (hx361_1.symm.trans hx363_1)
           injection ea_ with ea_ en_ ec_
           subst ea_
           subst ec_
           clear en_
           refine st_ 29 (S := fun w' => hc4 w' gb357 (.bool a0_0) (.slice (some ad360) l0_1.length c0_1) (.slice A0_2 l0_2.length c0_2) (.slice A0_3 l0_3.length c0_3) (hc4 w' gb358 (.bool a1_0) (.slice (some ad361) l1_1.length c1_1) (.slice A1_2 l1_2.length c1_2) (.slice A1_3 l1_3.length c1_3) (he2 w' (ad360.add ((x5_2).toNat * 2)) (.int .i64 ((rd_T79 l0_1 x5_2).f0)) (.slice A360_1 ((rd_T79 l0_1 x5_2).f1).length c360_1) (he2 w' (ad361.add ((x5_2).toNat * 2)) (.int .i64 ((rd_T79 l1_1 x5_2).f0)) (.slice A361_1 ((rd_T79 l1_1 x5_2).f1).length c361_1) (he2 w' (ad360.add ((x5_2).toNat * 2)) (.int .i64 ((rd_T79 l0_1 x5_2).f0)) (.slice A360_1 ((rd_T79 l0_1 x5_2).f1).length c360_1) (hf2 w' (ad361.add ((x5_2).toNat * 2)) (.int .i64 ((rd_T79 l1_1 x5_2).f0)) (.slice A361_1 ((rd_T79 l1_1 x5_2).f1).length c361_1))))))) hh_ (fun hHeld => ?_);refine with_tabW laws_likeMachine.tab6 laws_likeMachine.bits6 (fun HT_ HW_ => ?_)
           generalize wr.drew = w34 at BK357 BK358 HB HR360_1 HR361_1 HR362_1 HR363_1 hx360_0 hx360_1 hx361_0 hx361_1 hx362_0 hx362_1 hx363_0 hx363_1 hHeld ⊢
           refine pv_ 0 45 ?_
           refine pv_ 2 47 ?_
           refine pv_ 6 51 ?_
           refine pv_ 8 53 ?_
           refine tx_ 1 46 hHeld ?_
           refine pv_ 3 48 ?_
           refine pv_ 4 49 ?_
           refine tx_ 5 50 hHeld ?_
           refine tx_ 7 52 hHeld ?_
           refine pv_ 9 54 ?_
           refine pv_ 10 55 ?_
           refine tx_ 11 56 hHeld ?_
           refine pv_ 12 57 ?_
           refine pv_ 13 58 ?_
           refine pv_ 14 59 ?_
           refine pv_ 16 61 ?_
           refine pv_ 20 65 ?_
           refine pv_ 22 67 ?_
           refine tx_ 15 60 hHeld ?_
           refine pv_ 17 62 ?_
           refine pv_ 18 63 ?_
           refine tx_ 19 64 hHeld ?_
           refine tx_ 21 66 hHeld ?_
           refine pv_ 23 68 ?_
           refine pv_ 24 69 ?_
           refine tx_ 25 70 hHeld ?_
           refine oy_ 26 71 (fun K hK => ?_)
           refine gs_ Try.func99 #[.slice A360_1 ((rd_T79 l0_1 x5_2).f1).length c360_1,.slice A361_1 ((rd_T79 l1_1 x5_2).f1).length c361_1] ?_
           with_reducible refine (laws_likeCells.calls k2 _ _ ((rd_T79 l0_1 x5_2).f1) _ _ ((rd_T79 l1_1 x5_2).f1) false _ ?side1 ?side2 ?side3 ?side4 A27.out).mono ?_
           (case side1 => exact cb_ HR362_1)
           (case side2 => exact HC362_1.out)
           (case side3 => exact cb_ HR363_1)
           (case side4 => exact HC363_1.out)
           rintro e w' ⟨rfl,⟨nd,rfl⟩⟩
           refine ⟨_,rfl,?_⟩
           refine hK.out _ _ hh_ (fun hHeld => ?_)
           clear hK K
           refine nr_ (some 71) _ ?_
           refine pv_ 27 72 ?_
           refine pv_ 28 73 ?_
           refine done_ (done_of HT_.out (by kernel_rfl)) ?_
           try go_wp2
           go_ret
           exact ⟨rf_,b_⟩
         ·rw [if_neg c26] at H
          have c26b0 : (((rd_T79 l0_1 x5_2).f0) == ((rd_T79 l1_1 x5_2).f0)) = false := beq_eq_false_iff_ne.mpr c26
          have c26b1 : (((rd_T79 l0_1 x5_2).f0) != ((rd_T79 l1_1 x5_2).f0)) = true := bne_iff_ne.mpr c26
          obtain rfl := Option.some.inj H
          have hnb35 := NB357_358.out
          have hnc35 := NB358_357.out
          obtain ⟨⟨hcz36_0,hcz36_1,hcz36_2,hcz36_3⟩,hfz36_0,hfz36_1,hfz36_2,hfz36_3⟩ := cl4_ BK357.out
          try go_wp2
          replace BK357 := ak (blk_drew BK357.out)
          replace BK358 := ak (blk_drew BK358.out)
          replace HB := ak (below_drew1 HB.out)
          have p360 : 0 ≤ (x5_2 : Int) := od_
          have q360 : x5_2 < (l0_1.length : Int) := od_
          obtain ⟨ad360,A360_1,c360_1,e360,hx360_0,hx360_1,hl360_1,hi360_1⟩ := at_T79 HR0_1.out x5_2 p360 q360
          have hw360_1 := hx360_1
          have hw360_0 := hx360_0
          cases e360
          replace hx360_0 := hx_ HB hx360_0
          replace hx360_1 := hx_ HB hx360_1
          have HR360_1 := ak hi360_1
          have HC360_1 := ak hl360_1
          clear hi360_1 hl360_1
          replace p360 := eq_true p360
          replace q360 := eq_true q360
          have p361 : 0 ≤ (x5_2 : Int) := od_
          have q361 : x5_2 < (l1_1.length : Int) := od_
          obtain ⟨ad361,A361_1,c361_1,e361,hx361_0,hx361_1,hl361_1,hi361_1⟩ := at_T79 HR1_1.out x5_2 p361 q361
          have hw361_1 := hx361_1
          have hw361_0 := hx361_0
          cases e361
          replace hx361_0 := hx_ HB hx361_0
          replace hx361_1 := hx_ HB hx361_1
          have HR361_1 := ak hi361_1
          have HC361_1 := ak hl361_1
          clear hi361_1 hl361_1
          replace p361 := eq_true p361
          replace q361 := eq_true q361
          refine st_ 29 (S := fun w' => hc4 w' gb357 (.bool a0_0) (.slice (some ad360) l0_1.length c0_1) (.slice A0_2 l0_2.length c0_2) (.slice A0_3 l0_3.length c0_3) (hc4 w' gb358 (.bool a1_0) (.slice (some ad361) l1_1.length c1_1) (.slice A1_2 l1_2.length c1_2) (.slice A1_3 l1_3.length c1_3) (he2 w' (ad360.add ((x5_2).toNat * 2)) (.int .i64 ((rd_T79 l0_1 x5_2).f0)) (.slice A360_1 ((rd_T79 l0_1 x5_2).f1).length c360_1) (hf2 w' (ad361.add ((x5_2).toNat * 2)) (.int .i64 ((rd_T79 l1_1 x5_2).f0)) (.slice A361_1 ((rd_T79 l1_1 x5_2).f1).length c361_1))))) hh_ (fun hHeld => ?_);refine with_tabW laws_likeMachine.tab6 laws_likeMachine.bits6 (fun HT_ HW_ => ?_)
          generalize wr.drew = w37 at BK357 BK358 HB HR360_1 HR361_1 hx360_0 hx360_1 hx361_0 hx361_1 hHeld ⊢
          refine pv_ 0 45 ?_
          refine pv_ 2 47 ?_
          refine pv_ 6 51 ?_
          refine pv_ 8 53 ?_
          refine tx_ 1 46 hHeld ?_
          refine pv_ 3 48 ?_
          refine pv_ 4 49 ?_
          refine tx_ 5 50 hHeld ?_
          refine tx_ 7 52 hHeld ?_
          refine pv_ 9 54 ?_
          refine pv_ 10 55 ?_
          refine tx_ 11 56 hHeld ?_
          refine pv_ 12 57 ?_
          refine pv_ 13 58 ?_
          refine pn_ 14 59 ?_
          refine pn_ 15 60 ?_
          refine pn_ 16 61 ?_
          refine pn_ 17 62 ?_
          refine pn_ 18 63 ?_
          refine pn_ 19 64 ?_
          refine pn_ 20 65 ?_
          refine pn_ 21 66 ?_
          refine pn_ 22 67 ?_
          refine pn_ 23 68 ?_
          refine pn_ 24 69 ?_
          refine pn_ 25 70 ?_
          refine pn_ 26 71 ?_
          refine pn_ 27 72 ?_
          refine pv_ 28 73 ?_
          refine done_ (done_of HT_.out (by kernel_rfl)) ?_
          try go_wp2
          go_ret
          exact ⟨rf_,b_⟩
        ·rw [if_neg c25] at H
         exact absurd H (by simp)
       ·rw [if_neg c24] at H
        exact absurd H (by simp)
      ·rw [if_neg c23] at H
       have c23b0 : decide (x5_2 < (l0_1.length : Int)) = false := decide_eq_false c23
       clear c23
       have H' := ak H
       clear H
       have hnb38 := NB357_358.out
       have hnc38 := NB358_357.out
       obtain ⟨⟨hcz39_0,hcz39_1,hcz39_2,hcz39_3⟩,hfz39_0,hfz39_1,hfz39_2,hfz39_3⟩ := cl4_ BK357.out
       go_wp2
       go_loopg [6] k2 (fun kq v6 w' => ∃ (x6_3 : Int),v6 = .int .i64 x6_3 ∧ Aside0 (laws_likeMachine.l1 kq x6_3 a0_0 l0_1 l0_2 l0_3 a1_0 l1_1 l1_2 l1_3 = some r) ∧ Aside0 (kq ≤ k2) ∧ Aside0 (w'.heap[gb357]? = some (.cells #[.bool a0_0,(.slice A0_1 l0_1.length c0_1),(.slice A0_2 l0_2.length c0_2),(.slice A0_3 l0_3.length c0_3)] 32 (0,0))) ∧ Aside0 (w'.heap[gb358]? = some (.cells #[.bool a1_0,(.slice A1_1 l1_1.length c1_1),(.slice A1_2 l1_2.length c1_2),(.slice A1_3 l1_3.length c1_3)] 32 (0,0))) ∧ Aside0 (Below w.heap.size w w'))
       case atStart => exact ⟨(0),rs_,H',⟨Nat.le_refl _⟩,⟨kb_ BK357⟩,⟨kb_ BK358⟩,⟨b_⟩⟩
       case round =>
        clear H'
        try clear c1
        try clear c2
        try clear p2
        try clear c3
        try clear p3
        try clear q3
        try clear hx3
        try clear p6
        try clear c9
        try clear c23
        try clear c23b0
        try clear c24
        try clear c25
        try clear c26
        try clear c26b0
        try clear c26b1
        try clear c28
        try clear c32
        try clear c35
        try clear c36
        try clear p36
        try clear q36
        try clear hx36
        try clear c38
        try clear hcz33_0
        try clear hcz33_1
        try clear hcz33_2
        try clear hcz33_3
        try clear hcz36_0
        try clear hcz36_1
        try clear hcz36_2
        try clear hcz36_3
        try clear hcz39_0
        try clear hcz39_1
        try clear hcz39_2
        try clear hcz39_3
        try clear hfz33_0
        try clear hfz33_1
        try clear hfz33_2
        try clear hfz33_3
        try clear hfz36_0
        try clear hfz36_1
        try clear hfz36_2
        try clear hfz36_3
        try clear hfz39_0
        try clear hfz39_1
        try clear hfz39_2
        try clear hfz39_3
        try clear hx360_0
        try clear hx360_1
        try clear hx361_0
        try clear hx361_1
        try clear hx362_0
        try clear hx362_1
        try clear hx363_0
        try clear hx363_1
        try clear p360
        try clear p361
        try clear p362
        try clear p363
        try clear q360
        try clear q361
        try clear q362
        try clear q363
        obtain ⟨x6_3,rfl,HA,HK3,BK357,BK358,HB⟩ := hrel
        cases gk with
        | zero => exact absurd HA.out (by simp [laws_likeMachine.l1])
        | succ k3 =>
         have H := HA.out
         clear HA
         simp only [laws_likeMachine.l1] at H
         by_cases c40 : x6_3 < (l0_2.length : Int)
         ·rw [if_pos c40] at H
          have c40b0 : decide (x6_3 < (l0_2.length : Int)) = true := decide_eq_true c40
          clear c40
          by_cases c41 : 0 ≤ x6_3
          ·rw [if_pos c41] at H
           have c41b0 : decide (0 ≤ x6_3) = true := decide_eq_true c41
           clear c41
           by_cases c42 : x6_3 < (l1_2.length : Int)
           ·rw [if_pos c42] at H
            have c42b0 : decide (x6_3 < (l1_2.length : Int)) = true := decide_eq_true c42
            clear c42
            replace H := bs_ H
            obtain ⟨t367,A43,H⟩ := H
            by_cases c44 : t367 = true
            ·subst c44
             replace H := it_ H
             have H' := ak H
             clear H
             have hnb45 := NB357_358.out
             have hnc45 := NB358_357.out
             obtain ⟨⟨hcz46_0,hcz46_1,hcz46_2,hcz46_3⟩,hfz46_0,hfz46_1,hfz46_2,hfz46_3⟩ := cl4_ BK357.out
             try go_wp2
             replace BK357 := ak (blk_drew BK357.out)
             replace BK358 := ak (blk_drew BK358.out)
             replace HB := ak (below_drew1 HB.out)
             have p365 : 0 ≤ (x6_3 : Int) := od_
             have q365 : x6_3 < (l0_2.length : Int) := od_
             obtain ⟨ad365,A365_3,c365_3,e365,hx365_0,hx365_1,hx365_2,hx365_3,hl365_3,hi365_3⟩ := at_T45 HR0_2.out x6_3 p365 q365
             have hw365_3 := hx365_3
             have hw365_2 := hx365_2
             have hw365_1 := hx365_1
             have hw365_0 := hx365_0
             cases e365
             replace hx365_0 := hx_ HB hx365_0
             replace hx365_1 := hx_ HB hx365_1
             replace hx365_2 := hx_ HB hx365_2
             replace hx365_3 := hx_ HB hx365_3
             have HR365_3 := ak hi365_3
             have HC365_3 := ak hl365_3
             clear hi365_3 hl365_3
             replace p365 := eq_true p365
             replace q365 := eq_true q365
             have p366 : 0 ≤ (x6_3 : Int) := od_
             have q366 : x6_3 < (l1_2.length : Int) := od_
             obtain ⟨ad366,A366_3,c366_3,e366,hx366_0,hx366_1,hx366_2,hx366_3,hl366_3,hi366_3⟩ := at_T45 HR1_2.out x6_3 p366 q366
             have hw366_3 := hx366_3
             have hw366_2 := hx366_2
             have hw366_1 := hx366_1
             have hw366_0 := hx366_0
             cases e366
             replace hx366_0 := hx_ HB hx366_0
             replace hx366_1 := hx_ HB hx366_1
             replace hx366_2 := hx_ HB hx366_2
             replace hx366_3 := hx_ HB hx366_3
             have HR366_3 := ak hi366_3
             have HC366_3 := ak hl366_3
             clear hi366_3 hl366_3
             replace p366 := eq_true p366
             replace q366 := eq_true q366
             refine st_ 12 (S := fun w' => hc4 w' gb357 (.bool a0_0) (.slice A0_1 l0_1.length c0_1) (.slice (some ad365) l0_2.length c0_2) (.slice A0_3 l0_3.length c0_3) (hc4 w' gb358 (.bool a1_0) (.slice A1_1 l1_1.length c1_1) (.slice (some ad366) l1_2.length c1_2) (.slice A1_3 l1_3.length c1_3) (he4 w' (ad365.add ((x6_3).toNat * 4)) (.int .i64 ((rd_T45 l0_2 x6_3).f0)) (.int .i64 ((rd_T45 l0_2 x6_3).f1)) (.int .i64 ((rd_T45 l0_2 x6_3).f2)) (.slice A365_3 ((rd_T45 l0_2 x6_3).f3).length c365_3) (hf4 w' (ad366.add ((x6_3).toNat * 4)) (.int .i64 ((rd_T45 l1_2 x6_3).f0)) (.int .i64 ((rd_T45 l1_2 x6_3).f1)) (.int .i64 ((rd_T45 l1_2 x6_3).f2)) (.slice A366_3 ((rd_T45 l1_2 x6_3).f3).length c366_3))))) hh_ (fun hHeld => ?_);refine with_tabW laws_likeMachine.tab11 laws_likeMachine.bits11 (fun HT_ HW_ => ?_)
             generalize wr.drew = w47 at BK357 BK358 HB HR365_3 HR366_3 hx365_0 hx365_1 hx365_2 hx365_3 hx366_0 hx366_1 hx366_2 hx366_3 hHeld ⊢
             refine pv_ 0 81 ?_
             refine pv_ 2 83 ?_
             refine pv_ 5 86 ?_
             refine pv_ 7 88 ?_
             refine tx_ 1 82 hHeld ?_
             refine pv_ 3 84 ?_
             refine tx_ 4 85 hHeld ?_
             refine tx_ 6 87 hHeld ?_
             refine pv_ 8 89 ?_
             refine tx_ 9 90 hHeld ?_
             refine oy_ 10 91 (fun K hK => ?_)
             refine gs_ Try.func100 #[.agg #[.int .i64 ((rd_T45 l0_2 x6_3).f0),.int .i64 ((rd_T45 l0_2 x6_3).f1),.int .i64 ((rd_T45 l0_2 x6_3).f2),.slice A365_3 ((rd_T45 l0_2 x6_3).f3).length c365_3],.agg #[.int .i64 ((rd_T45 l1_2 x6_3).f0),.int .i64 ((rd_T45 l1_2 x6_3).f1),.int .i64 ((rd_T45 l1_2 x6_3).f2),.slice A366_3 ((rd_T45 l1_2 x6_3).f3).length c366_3]] ?_
             with_reducible refine (laws_likeRecord.calls k3 ((rd_T45 l0_2 x6_3).f0) ((rd_T45 l0_2 x6_3).f1) ((rd_T45 l0_2 x6_3).f2) _ _ ((rd_T45 l0_2 x6_3).f3) ((rd_T45 l1_2 x6_3).f0) ((rd_T45 l1_2 x6_3).f1) ((rd_T45 l1_2 x6_3).f2) _ _ ((rd_T45 l1_2 x6_3).f3) true _ ?side1 ?side2 ?side3 ?side4 A43.out).mono ?_
             (case side1 => exact cb_ HR365_3)
             (case side2 => exact HC365_3.out)
             (case side3 => exact cb_ HR366_3)
             (case side4 => exact HC366_3.out)
             rintro e w48 ⟨rfl,hb⟩
             refine ⟨_,rfl,?_⟩
             replace BK357 := ak (blk_below (kb_ BK357) hb)
             replace BK358 := ak (blk_below (kb_ BK358) hb)
             replace HB := ak (below_step b_ hb)
             (try clear hb)
             (try clear hb2)
             (try clear hk)
             (try clear hi)
             refine hK.out _ _ hh_ (fun hHeld => ?_)
             clear hK K
             refine nr_ (some 91) _ ?_
             refine pv_ 11 92 ?_
             refine done_ (done_of HT_.out (by kernel_rfl)) ?_
             try go_wp2
             go_roundg k3
             case measure => have := HJ2.out;have := HK2.out;have := HK3.out;omega
             case rel => exact ⟨(wrap64 (x6_3 + 1)),rs_,H',⟨by have := HJ2.out;have := HK2.out;have := HK3.out;omega⟩,⟨kb_ BK357⟩,⟨kb_ BK358⟩,⟨b_⟩⟩
            ·replace c44 := Bool.eq_false_iff.mpr c44
             subst c44
             replace H := ie_ H
             obtain rfl := Option.some.inj H
             have hnb49 := NB357_358.out
             have hnc49 := NB358_357.out
             obtain ⟨⟨hcz50_0,hcz50_1,hcz50_2,hcz50_3⟩,hfz50_0,hfz50_1,hfz50_2,hfz50_3⟩ := cl4_ BK357.out
             try go_wp2
             replace BK357 := ak (blk_drew BK357.out)
             replace BK358 := ak (blk_drew BK358.out)
             replace HB := ak (below_drew1 HB.out)
             have p365 : 0 ≤ (x6_3 : Int) := od_
             have q365 : x6_3 < (l0_2.length : Int) := od_
             obtain ⟨ad365,A365_3,c365_3,e365,hx365_0,hx365_1,hx365_2,hx365_3,hl365_3,hi365_3⟩ := at_T45 HR0_2.out x6_3 p365 q365
             have hw365_3 := hx365_3
             have hw365_2 := hx365_2
             have hw365_1 := hx365_1
             have hw365_0 := hx365_0
             cases e365
             replace hx365_0 := hx_ HB hx365_0
             replace hx365_1 := hx_ HB hx365_1
             replace hx365_2 := hx_ HB hx365_2
             replace hx365_3 := hx_ HB hx365_3
             have HR365_3 := ak hi365_3
             have HC365_3 := ak hl365_3
             clear hi365_3 hl365_3
             replace p365 := eq_true p365
             replace q365 := eq_true q365
             have p366 : 0 ≤ (x6_3 : Int) := od_
             have q366 : x6_3 < (l1_2.length : Int) := od_
             obtain ⟨ad366,A366_3,c366_3,e366,hx366_0,hx366_1,hx366_2,hx366_3,hl366_3,hi366_3⟩ := at_T45 HR1_2.out x6_3 p366 q366
             have hw366_3 := hx366_3
             have hw366_2 := hx366_2
             have hw366_1 := hx366_1
             have hw366_0 := hx366_0
             cases e366
             replace hx366_0 := hx_ HB hx366_0
             replace hx366_1 := hx_ HB hx366_1
             replace hx366_2 := hx_ HB hx366_2
             replace hx366_3 := hx_ HB hx366_3
             have HR366_3 := ak hi366_3
             have HC366_3 := ak hl366_3
             clear hi366_3 hl366_3
             replace p366 := eq_true p366
             replace q366 := eq_true q366
             refine st_ 12 (S := fun w' => hc4 w' gb357 (.bool a0_0) (.slice A0_1 l0_1.length c0_1) (.slice (some ad365) l0_2.length c0_2) (.slice A0_3 l0_3.length c0_3) (hc4 w' gb358 (.bool a1_0) (.slice A1_1 l1_1.length c1_1) (.slice (some ad366) l1_2.length c1_2) (.slice A1_3 l1_3.length c1_3) (he4 w' (ad365.add ((x6_3).toNat * 4)) (.int .i64 ((rd_T45 l0_2 x6_3).f0)) (.int .i64 ((rd_T45 l0_2 x6_3).f1)) (.int .i64 ((rd_T45 l0_2 x6_3).f2)) (.slice A365_3 ((rd_T45 l0_2 x6_3).f3).length c365_3) (hf4 w' (ad366.add ((x6_3).toNat * 4)) (.int .i64 ((rd_T45 l1_2 x6_3).f0)) (.int .i64 ((rd_T45 l1_2 x6_3).f1)) (.int .i64 ((rd_T45 l1_2 x6_3).f2)) (.slice A366_3 ((rd_T45 l1_2 x6_3).f3).length c366_3))))) hh_ (fun hHeld => ?_);refine with_tabW laws_likeMachine.tab11 laws_likeMachine.bits11 (fun HT_ HW_ => ?_)
             generalize wr.drew = w51 at BK357 BK358 HB HR365_3 HR366_3 hx365_0 hx365_1 hx365_2 hx365_3 hx366_0 hx366_1 hx366_2 hx366_3 hHeld ⊢
             refine pv_ 0 81 ?_
             refine pv_ 2 83 ?_
             refine pv_ 5 86 ?_
             refine pv_ 7 88 ?_
             refine tx_ 1 82 hHeld ?_
             refine pv_ 3 84 ?_
             refine tx_ 4 85 hHeld ?_
             refine tx_ 6 87 hHeld ?_
             refine pv_ 8 89 ?_
             refine tx_ 9 90 hHeld ?_
             refine oy_ 10 91 (fun K hK => ?_)
             refine gs_ Try.func100 #[.agg #[.int .i64 ((rd_T45 l0_2 x6_3).f0),.int .i64 ((rd_T45 l0_2 x6_3).f1),.int .i64 ((rd_T45 l0_2 x6_3).f2),.slice A365_3 ((rd_T45 l0_2 x6_3).f3).length c365_3],.agg #[.int .i64 ((rd_T45 l1_2 x6_3).f0),.int .i64 ((rd_T45 l1_2 x6_3).f1),.int .i64 ((rd_T45 l1_2 x6_3).f2),.slice A366_3 ((rd_T45 l1_2 x6_3).f3).length c366_3]] ?_
             with_reducible refine (laws_likeRecord.calls k3 ((rd_T45 l0_2 x6_3).f0) ((rd_T45 l0_2 x6_3).f1) ((rd_T45 l0_2 x6_3).f2) _ _ ((rd_T45 l0_2 x6_3).f3) ((rd_T45 l1_2 x6_3).f0) ((rd_T45 l1_2 x6_3).f1) ((rd_T45 l1_2 x6_3).f2) _ _ ((rd_T45 l1_2 x6_3).f3) false _ ?side1 ?side2 ?side3 ?side4 A43.out).mono ?_
             (case side1 => exact cb_ HR365_3)
             (case side2 => exact HC365_3.out)
             (case side3 => exact cb_ HR366_3)
             (case side4 => exact HC366_3.out)
             rintro e w52 ⟨rfl,hb⟩
             refine ⟨_,rfl,?_⟩
             replace BK357 := ak (blk_below (kb_ BK357) hb)
             replace BK358 := ak (blk_below (kb_ BK358) hb)
             replace HB := ak (below_step b_ hb)
             (try clear hb)
             (try clear hb2)
             (try clear hk)
             (try clear hi)
             refine hK.out _ _ hh_ (fun hHeld => ?_)
             clear hK K
             refine nr_ (some 91) _ ?_
             refine pv_ 11 92 ?_
             refine done_ (done_of HT_.out (by kernel_rfl)) ?_
             try go_wp2
             go_ret
             exact ⟨rf_,b_⟩
           ·rw [if_neg c42] at H
            exact absurd H (by simp)
          ·rw [if_neg c41] at H
           exact absurd H (by simp)
         ·rw [if_neg c40] at H
          have c40b0 : decide (x6_3 < (l0_2.length : Int)) = false := decide_eq_false c40
          clear c40
          obtain rfl := Option.some.inj H
          have hnb53 := NB357_358.out
          have hnc53 := NB358_357.out
          obtain ⟨⟨hcz54_0,hcz54_1,hcz54_2,hcz54_3⟩,hfz54_0,hfz54_1,hfz54_2,hfz54_3⟩ := cl4_ BK357.out
          go_wp2
          go_ret
          exact ⟨rf_,b_⟩
end Go.Proofs.Ythplaakckfhaaaa.XCd
