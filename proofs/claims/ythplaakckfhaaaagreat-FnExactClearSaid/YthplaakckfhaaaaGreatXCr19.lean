/- Proved: of each Go function here that a call comes to what the Lean function of its name tells. Written by a program of this session over the translation. No conditions beyond each theorem's own. -/
import Derived.Test.YthplaakckfhaaaaGreatXCr0
import Derived.Test.YthplaakckfhaaaaGreatXCr10
import Derived.Test.YthplaakckfhaaaaGreatXCr14
import Derived.Test.YthplaakckfhaaaaGreatXCr15
import Derived.Test.YthplaakckfhaaaaGreatXCr16
import Derived.Test.YthplaakckfhaaaaGreatXCr18
namespace Go.Proofs.YthplaakckfhaaaaGreat.XCr
open Go.RowKit Go.Proofs.YthplaakckfhaaaaGreat.Aid Go.Proofs.YthplaakckfhaaaaGreatW.PrintWords Go.Proofs.YthplaakckfhaaaaGreatW.PrintLast Go.Proofs.YthplaakckfhaaaaGreatW.PrintMore
set_option linter.unusedVariables false
set_option linter.unusedSimpArgs false

/-! ### impl_Clear: function 8 -/
theorem hold_8 {p : Prop} (h : Aside0 p) : p := h.out
theorem ty_8 {w : World} {k : Nat} {a b : List Nat} (h1 : ∃ q, q ∈ a ∧ ∃ cs, w.heap[k]? = some (.cells cs q (0, 0))) (h2 : ∃ q, q ∈ b ∧ ∃ cs, w.heap[k]? = some (.cells cs q (0, 0))) (hd : ∀ q, q ∈ a → ¬ q ∈ b) : False := by
 obtain ⟨q,hq,cs,h1⟩ := h1
 obtain ⟨q2,hq2,cs2,h2⟩ := h2
 rw [h1] at h2
 injection h2 with h2
 injection h2 with _ h2
 exact hd q hq (h2 ▸ hq2)
def impl_Clear.f (k : Nat) (a0_0 : Bool) (l0_1 : List (S83)) (l0_2 : List (S50)) (l0_3 : List Int) (a1 a2 : Int) (d : Bool) : Option (Bool × (List (S83)) × (List (S50)) × List Int × Bool) := (impl_isMachineOk.f k a0_0 l0_1 l0_2 l0_3).bind fun t => if t = true then ((impl_isId.f a1).bind fun t2 => if t2 = true then ((if d = true then impl_Machine_canClear.f k l0_3 a1 else some true).bind fun t3 => if t3 = true then ((impl_cloneMachine.f k a0_0 l0_1 l0_2 l0_3).bind fun c => (impl_Machine_clear.f k c.2.2.1 c.2.2.2 a1 a2 d).bind fun q => some (c.1, c.2.1, q.1, q.2, true)) else some (false, [], [], [], false)) else some (false, [], [], [], false)) else some (false, [], [], [], false)
set_option maxHeartbeats 8000000 in
set_option maxRecDepth 100000 in
theorem impl_Clear.calls (k : Nat) (a0_0 : Bool) (A0_1 : Option Addr) (c0_1 : Nat) (l0_1 : List (S83)) (A0_2 : Option Addr) (c0_2 : Nat) (l0_2 : List (S50)) (A0_3 : Option Addr) (c0_3 : Nat) (l0_3 : List Int) (a1 a2 : Int) (d : Bool) (r1 : Bool) (r2 : List (S83)) (r3 : List (S50)) (r4 : List Int) (r5 : Bool) (w : World) (hr0_1 : Kd.C k83 w A0_1 l0_1.length l0_1) (hc0_1 : l0_1.length ≤ c0_1) (hr0_2 : Kd.C k50 w A0_2 l0_2.length l0_2) (hc0_2 : l0_2.length ≤ c0_2) (hr0_3 : Kd.C (Kd.int .i64) w A0_3 l0_3.length l0_3) (hc0_3 : l0_3.length ≤ c0_3) (h : impl_Clear.f k a0_0 l0_1 l0_2 l0_3 a1 a2 d = some (r1, r2, r3, r4, r5)) :
    Calls Tryz.prog 8 #[.agg #[.bool a0_0, .slice A0_1 l0_1.length c0_1, .slice A0_2 l0_2.length c0_2, .slice A0_3 l0_3.length c0_3], .int .i64 a1, .int .i64 a2, .bool d] w fun e w' => ∃ v1_ v2_ v3_ : Value, e = .returned (.tuple #[.agg #[.bool r1, v1_, v2_, v3_], .bool r5]) ∧ Kd.S k83 83 w' w.heap.size (fun _ => True) v1_ r2 ∧ Kd.S k50 50 w' w.heap.size (fun _ => True) v2_ r3 ∧ Kd.R (Kd.int .i64) 2 w' w.heap.size (fun _ => True) v3_ r4 ∧ Below w.heap.size w w' := by
 have hu := Tryz.underlying31
 have HR1 := Aside0.mk hr0_1
 have HC1 := Aside0.mk hc0_1
 clear hr0_1 hc0_1
 have HR2 := Aside0.mk hr0_2
 have HC2 := Aside0.mk hc0_2
 clear hr0_2 hc0_2
 have HR3 := Aside0.mk hr0_3
 have HC3 := Aside0.mk hc0_3
 clear hr0_3 hc0_3
 obtain ⟨t,E0,h1⟩ := Option.bind_eq_some_iff.1 h
 clear h
 have H1 := Aside0.mk h1
 have F0 := Aside0.mk E0
 clear h1 E0
 go_enter Tryz.func8,Tryz.ntmps8
 go_wp2_with ((with_reducible refine gate_dst (N := 4) rfl ?_);refine bx_ 4 #[.bool a0_0,.slice A0_1 l0_1.length c0_1,.slice A0_2 l0_2.length c0_2,.slice A0_3 l0_3.length c0_3] 31 ?_;intro ga hg w1 hbox hb;have hge := Aside0.mk (Nat.le_of_eq hg.symm);clear hg;refine hold_8 ?_)
 refine ⟨?_⟩
 have D1 := Aside0.mk hb
 have BM := Aside0.mk hbox
 clear hb hbox hge
 go_wp2_with ((with_reducible refine gate_dst (N := 8) rfl ?_);refine bx_ 8 #[.bool false,.slice none 0 0,.slice none 0 0,.slice none 0 0] 31 ?_;intro gr hg w2 hbox hb;have hge := Aside0.mk (Nat.le_of_eq hg.symm);clear hg;refine hold_8 ?_)
 refine ⟨?_⟩
 have GR : Aside0 (w.heap.size ≤ gr) := ⟨Nat.le_trans D1.out.size hge.out⟩
 have D2 := Aside0.mk (below_step D1.out hb)
 have BM := Aside0.mk (blk_below BM.out hb)
 have BR := Aside0.mk hbox
 clear hb hbox hge
 have hcga2_0 : w2.cell? ⟨ga,0,none⟩ = some (.bool a0_0) := (blk_cell BM.out 0).trans rfl
 have hcga2_1 : w2.cell? ⟨ga,1,none⟩ = some (.slice A0_1 l0_1.length c0_1) := (blk_cell BM.out 1).trans rfl
 have hcga2_2 : w2.cell? ⟨ga,2,none⟩ = some (.slice A0_2 l0_2.length c0_2) := (blk_cell BM.out 2).trans rfl
 have hcga2_3 : w2.cell? ⟨ga,3,none⟩ = some (.slice A0_3 l0_3.length c0_3) := (blk_cell BM.out 3).trans rfl
 go_wp2_with ((with_reducible refine gcal_ (f := 36) rfl ?_);refine goesL_ (some 12) rfl rfl Tryz.func36 (by kernel_rfl) rfl #[.agg #[.bool a0_0,.slice A0_1 l0_1.length c0_1,.slice A0_2 l0_2.length c0_2,.slice A0_3 l0_3.length c0_3]] rfl (by (try simp only [List.map_toArray,List.map_cons,List.map_nil]);first|done|rfl) ?_;refine (impl_isMachineOk.calls k a0_0 A0_1 c0_1 l0_1 A0_2 c0_2 l0_2 A0_3 c0_3 l0_3 t _ (Kd.C_below HR1.out D2.out) HC1.out (Kd.C_below HR2.out D2.out) HC2.out (Kd.C_below HR3.out D2.out) HC3.out F0.out).mono ?_;rintro e w2b ⟨rfl,B⟩;refine ⟨_,rfl,?_⟩;refine hold_8 ?_)
 refine ⟨?_⟩
 have D3 := Aside0.mk (below_step D2.out B)
 have BM := Aside0.mk (blk_below BM.out B)
 have BR := Aside0.mk (blk_below BR.out B)
 clear B
 have hcgr3_0 : w2b.cell? ⟨gr,0,none⟩ = some (.bool false) := (blk_cell BR.out 0).trans rfl
 have hcgr3_1 : w2b.cell? ⟨gr,1,none⟩ = some (.slice none 0 0) := (blk_cell BR.out 1).trans rfl
 have hcgr3_2 : w2b.cell? ⟨gr,2,none⟩ = some (.slice none 0 0) := (blk_cell BR.out 2).trans rfl
 have hcgr3_3 : w2b.cell? ⟨gr,3,none⟩ = some (.slice none 0 0) := (blk_cell BR.out 3).trans rfl
 have hfr3_0 := blk_frozen BR.out 0
 have hfr3_1 := blk_frozen BR.out 1
 have hfr3_2 := blk_frozen BR.out 2
 have hfr3_3 := blk_frozen BR.out 3
 cases t with
  | false =>
  have h1 := H1.out
  rw [if_neg (by simp)] at h1
  clear H1
  simp only [Option.some.injEq,Prod.mk.injEq] at h1
  obtain ⟨rfl,rfl,rfl,rfl,rfl⟩ := h1
  go_wp2
  refine bodyPost_ret (results_ct rfl _ _ gr 31 #[.bool false,.slice none 0 0,.slice none 0 0,.slice none 0 0] (0,0) _ rfl (by refine blk_put (cs := #[.bool false,.slice none 0 0,.slice none 0 0,.slice none 0 0]) ?_ 3 _ rfl;refine blk_put (cs := #[.bool false,.slice none 0 0,.slice none 0 0,.slice none 0 0]) ?_ 2 _ rfl;refine blk_put (cs := #[.bool false,.slice none 0 0,.slice none 0 0,.slice none 0 0]) ?_ 1 _ rfl;refine blk_put (cs := #[.bool false,.slice none 0 0,.slice none 0 0,.slice none 0 0]) ?_ 0 _ rfl;exact BR.out) Tryz.underlying31 rfl (by kernel_rfl)) rfl ?_
  exact ⟨.slice none 0 0,.slice none 0 0,.slice none 0 0,by first|rfl|(simp;done),Kd.S_nil _ _ _ _ _,Kd.S_nil _ _ _ _ _,Kd.R_nil _ _ _ _ _,below_set (below_set (below_set (below_set D3.out GR.out) GR.out) GR.out) GR.out⟩
  | true =>
 have h1 := H1.out
 rw [if_pos rfl] at h1
 clear H1
 obtain ⟨t2,E9,h2⟩ := Option.bind_eq_some_iff.1 h1
 clear h1
 have H1 := Aside0.mk h2
 have F9 := Aside0.mk E9
 clear h2 E9
 go_wp2_with (go_at_call 37;refine (impl_isId.calls a1 t2 _ F9.out).mono ?_;rintro e w3a ⟨rfl,B0⟩;(try dsimp only);refine hold_8 ?_)
 refine ⟨?_⟩
 have B := B0.below
 have D3 := Aside0.mk (below_step D3.out B)
 have BM := Aside0.mk (blk_below BM.out B)
 have BR := Aside0.mk (blk_below BR.out B)
 clear B B0
 clear hcgr3_0 hfr3_0 hcgr3_1 hfr3_1 hcgr3_2 hfr3_2 hcgr3_3 hfr3_3
 have hcgr4_0 : w3a.cell? ⟨gr,0,none⟩ = some (.bool false) := (blk_cell BR.out 0).trans rfl
 have hcgr4_1 : w3a.cell? ⟨gr,1,none⟩ = some (.slice none 0 0) := (blk_cell BR.out 1).trans rfl
 have hcgr4_2 : w3a.cell? ⟨gr,2,none⟩ = some (.slice none 0 0) := (blk_cell BR.out 2).trans rfl
 have hcgr4_3 : w3a.cell? ⟨gr,3,none⟩ = some (.slice none 0 0) := (blk_cell BR.out 3).trans rfl
 have hfr4_0 := blk_frozen BR.out 0
 have hfr4_1 := blk_frozen BR.out 1
 have hfr4_2 := blk_frozen BR.out 2
 have hfr4_3 := blk_frozen BR.out 3
 have hcga4_0 : w3a.cell? ⟨ga,0,none⟩ = some (.bool a0_0) := (blk_cell BM.out 0).trans rfl
 have hcga4_1 : w3a.cell? ⟨ga,1,none⟩ = some (.slice A0_1 l0_1.length c0_1) := (blk_cell BM.out 1).trans rfl
 have hcga4_2 : w3a.cell? ⟨ga,2,none⟩ = some (.slice A0_2 l0_2.length c0_2) := (blk_cell BM.out 2).trans rfl
 have hcga4_3 : w3a.cell? ⟨ga,3,none⟩ = some (.slice A0_3 l0_3.length c0_3) := (blk_cell BM.out 3).trans rfl
 cases t2 with
  | false =>
  have h1 := H1.out
  rw [if_neg (by simp)] at h1
  clear H1
  simp only [Option.some.injEq,Prod.mk.injEq] at h1
  obtain ⟨rfl,rfl,rfl,rfl,rfl⟩ := h1
  go_wp2
  refine bodyPost_ret (results_ct rfl _ _ gr 31 #[.bool false,.slice none 0 0,.slice none 0 0,.slice none 0 0] (0,0) _ rfl (by refine blk_put (cs := #[.bool false,.slice none 0 0,.slice none 0 0,.slice none 0 0]) ?_ 3 _ rfl;refine blk_put (cs := #[.bool false,.slice none 0 0,.slice none 0 0,.slice none 0 0]) ?_ 2 _ rfl;refine blk_put (cs := #[.bool false,.slice none 0 0,.slice none 0 0,.slice none 0 0]) ?_ 1 _ rfl;refine blk_put (cs := #[.bool false,.slice none 0 0,.slice none 0 0,.slice none 0 0]) ?_ 0 _ rfl;exact BR.out) Tryz.underlying31 rfl (by kernel_rfl)) rfl ?_
  exact ⟨.slice none 0 0,.slice none 0 0,.slice none 0 0,by first|rfl|(simp;done),Kd.S_nil _ _ _ _ _,Kd.S_nil _ _ _ _ _,Kd.R_nil _ _ _ _ _,below_set (below_set (below_set (below_set D3.out GR.out) GR.out) GR.out) GR.out⟩
  | true =>
 have h1 := H1.out
 rw [if_pos rfl] at h1
 clear H1
 obtain ⟨t3,E9,h2⟩ := Option.bind_eq_some_iff.1 h1
 clear h1
 have H1 := Aside0.mk h2
 clear h2
 cases d with
  | false =>
  obtain rfl := Option.some.inj E9
  clear E9
  have h1 := H1.out
  rw [if_pos rfl] at h1
  clear H1
  obtain ⟨⟨b,p1,p2,p3⟩,E1,h2⟩ := Option.bind_eq_some_iff.1 h1
  clear h1
  obtain ⟨⟨q2,q3⟩,E2,h3⟩ := Option.bind_eq_some_iff.1 h2
  clear h2
  simp only [Option.some.injEq,Prod.mk.injEq] at h3
  obtain ⟨rfl,rfl,rfl,rfl,rfl⟩ := h3
  have F1 := Aside0.mk E1
  have F2 := Aside0.mk E2
  clear E1 E2
  go_wp2_with ((with_reducible refine gcal_ (f := 39) rfl ?_);refine goesL_ (some 29) rfl rfl Tryz.func39 (by kernel_rfl) rfl #[.agg #[.bool a0_0,.slice A0_1 l0_1.length c0_1,.slice A0_2 l0_2.length c0_2,.slice A0_3 l0_3.length c0_3]] rfl (by (try simp only [List.map_toArray,List.map_cons,List.map_nil]);first|done|rfl) ?_;refine (impl_cloneMachine.calls k a0_0 A0_1 c0_1 l0_1 A0_2 c0_2 l0_2 A0_3 c0_3 l0_3 b p1 p2 p3 _ (Kd.C_below HR1.out D3.out) HC1.out (Kd.C_below HR2.out D3.out) HC2.out (Kd.C_below HR3.out D3.out) HC3.out F1.out).mono ?_;rintro e w4 ⟨v1,v2,v3,rfl,S1,S2,S3,B⟩;refine ⟨_,rfl,?_⟩;refine hold_8 ?_)
  refine ⟨?_⟩
  clear hcgr4_0 hfr4_0 hcga4_0 hcgr4_1 hfr4_1 hcga4_1 hcgr4_2 hfr4_2 hcga4_2 hcgr4_3 hfr4_3 hcga4_3
  have T1 := Aside0.mk S1
  have T2 := Aside0.mk S2
  have T3 := Aside0.mk S3
  have LG := Aside0.mk (blk_lt BR.out)
  have G := Aside0.mk B
  have D4 := Aside0.mk (below_step D3.out B)
  have BR := Aside0.mk (blk_below BR.out B)
  clear S1 S2 S3 B BM
  obtain ⟨A1,c1,e1_⟩ := Kd.S_slice T1.out
  subst e1_
  obtain ⟨A2,c2,e2_⟩ := Kd.S_slice T2.out
  subst e2_
  obtain ⟨A3,c3,e3_⟩ := Kd.R_slice T3.out
  subst e3_
  go_wp2_with ((with_reducible refine gate_dst (N := 10) rfl ?_);refine bx_ 10 #[.bool false,.slice none 0 0,.slice none 0 0,.slice none 0 0] 31 ?_;intro go hg w5 hbox hb;have hge := Aside0.mk (Nat.le_of_eq hg.symm);clear hg;refine hold_8 ?_)
  refine ⟨?_⟩
  have BZ := Aside0.mk hbox
  have Q0 := Aside0.mk hb
  have HGE := hge
  clear hbox hb hge
  have hcgoy_0 : w5.cell? ⟨go,0,none⟩ = some (.bool false) := (blk_cell BZ.out 0).trans rfl
  have hcgoy_1 : w5.cell? ⟨go,1,none⟩ = some (.slice none 0 0) := (blk_cell BZ.out 1).trans rfl
  have hcgoy_2 : w5.cell? ⟨go,2,none⟩ = some (.slice none 0 0) := (blk_cell BZ.out 2).trans rfl
  have hcgoy_3 : w5.cell? ⟨go,3,none⟩ = some (.slice none 0 0) := (blk_cell BZ.out 3).trans rfl
  have hfy_0 := blk_frozen BZ.out 0
  have hfy_1 := blk_frozen BZ.out 1
  have hfy_2 := blk_frozen BZ.out 2
  have hfy_3 := blk_frozen BZ.out 3
  go_upto_region 4 with (fail)
  have n0_ : Aside0 (Below w4.heap.size w4 ((((w5.setCell ⟨go,0,none⟩ (.bool b)).setCell ⟨go,1,none⟩ (.slice A1 p1.length c1)).setCell ⟨go,2,none⟩ (.slice A2 p2.length c2)).setCell ⟨go,3,none⟩ (.slice A3 p3.length c3))) := ⟨below_set (below_set (below_set (below_set Q0.out HGE.out) HGE.out) HGE.out) HGE.out⟩
  have n1_ : Aside0 (((((w5.setCell ⟨go,0,none⟩ (.bool b)).setCell ⟨go,1,none⟩ (.slice A1 p1.length c1)).setCell ⟨go,2,none⟩ (.slice A2 p2.length c2)).setCell ⟨go,3,none⟩ (.slice A3 p3.length c3)).heap[go]? = some (.cells #[.bool b,.slice A1 p1.length c1,.slice A2 p2.length c2,.slice A3 p3.length c3] 31 (0,0))) := ⟨by refine blk_put (cs := #[.bool b,.slice A1 p1.length c1,.slice A2 p2.length c2,.slice none 0 0]) ?_ 3 _ rfl;refine blk_put (cs := #[.bool b,.slice A1 p1.length c1,.slice none 0 0,.slice none 0 0]) ?_ 2 _ rfl;refine blk_put (cs := #[.bool b,.slice none 0 0,.slice none 0 0,.slice none 0 0]) ?_ 1 _ rfl;refine blk_put (cs := #[.bool false,.slice none 0 0,.slice none 0 0,.slice none 0 0]) ?_ 0 _ rfl;exact BZ.out⟩
  clear BZ Q0
  clear hcgoy_0 hfy_0 hcgoy_1 hfy_1 hcgoy_2 hfy_2 hcgoy_3 hfy_3
  generalize ((((w5.setCell ⟨go,0,none⟩ (.bool b)).setCell ⟨go,1,none⟩ (.slice A1 p1.length c1)).setCell ⟨go,2,none⟩ (.slice A2 p2.length c2)).setCell ⟨go,3,none⟩ (.slice A3 p3.length c3)) = w6 at n0_ n1_ ⊢
  have B := n0_.out
  have BG := n1_
  clear n0_ n1_
  have T1 := Aside0.mk (Kd.S_bound (Kd.S_below T1.out B))
  have T2 := Aside0.mk (Kd.S_bound (Kd.S_below T2.out B))
  have T3 := Aside0.mk (Kd.R_bound (Kd.R_below T3.out B))
  have GO : Aside0 (w3a.heap.size ≤ go) := ⟨Nat.le_trans G.out.size HGE.out⟩
  have G := Aside0.mk (below_step G.out B)
  have D6 := Aside0.mk (below_step D4.out B)
  have BR := Aside0.mk (blk_below BR.out B)
  clear B D4
  have NG : Aside0 (gr ≠ go) := ⟨Nat.ne_of_lt (Nat.lt_of_lt_of_le LG.out GO.out)⟩
  go_wp2_with ((with_reducible refine gcal_ (f := 40) rfl ?_);refine goesL_ (some 33) rfl rfl Tryz.func40 (by kernel_rfl) rfl #[.pointer (some ⟨go,0,none⟩),.int .i64 a1,.int .i64 a2,.bool false] rfl (by (try simp only [List.map_toArray,List.map_cons,List.map_nil]);first|done|rfl) ?_;refine (impl_Machine_clear.calls k (fun k_ => True ∧ w3a.heap.size ≤ k_ ∧ k_ < w6.heap.size ∧ ∃ q,q ∈ 50 :: (k50).E ∧ ∃ cells,w6.heap[k_]? = some (.cells cells q (0,0))) (fun k_ => True ∧ w3a.heap.size ≤ k_ ∧ k_ < w6.heap.size ∧ ∃ q,q ∈ 2 :: ((Kd.int .i64)).E ∧ ∃ cells,w6.heap[k_]? = some (.cells cells q (0,0))) go b (.slice A1 p1.length c1) A2 c2 p2 A3 c3 p3 a1 a2 false q2 q3 w3a _ G.out GO.out BG.out (fun hs_ => ty_8 ⟨31,List.mem_singleton.2 rfl,_,BG.out⟩ hs_.2.2.2 (by decide)) (fun hs_ => ty_8 ⟨31,List.mem_singleton.2 rfl,_,BG.out⟩ hs_.2.2.2 (by decide)) (fun k_ h1_ h2_ => ty_8 h1_.2.2.2 h2_.2.2.2 (by decide)) T2.out T3.out F2.out).mono ?_;rintro e w7 ⟨rfl,A4,c4,A5,c5,BG2,S2,S3,B,K⟩;refine ⟨_,rfl,?_⟩;refine hold_8 ?_)
  refine ⟨?_⟩
  have T1 := Aside0.mk (Kd.S_kept T1.out K (fun k_ hk_ hs_ => hs_.elim (fun h_ => h_.elim (fun h_ => ty_8 hk_.2.2.2 h_.2.2.2 (by decide)) (fun h_ => ty_8 hk_.2.2.2 h_.2.2.2 (by decide))) (fun e_ => ty_8 (e_ ▸ hk_.2.2.2) ⟨31,List.mem_singleton.2 rfl,_,BG.out⟩ (by decide))))
  have T2 := Aside0.mk S2
  have T3 := Aside0.mk S3
  have BR2 := Aside0.mk (blk_kept BR.out K (fun hs_ => hs_.elim (fun h_ => h_.elim (fun hs_ => ty_8 ⟨31,List.mem_singleton.2 rfl,_,BR.out⟩ hs_.2.2.2 (by decide)) (fun hs_ => ty_8 ⟨31,List.mem_singleton.2 rfl,_,BR.out⟩ hs_.2.2.2 (by decide))) NG.out))
  have BG := Aside0.mk BG2
  have D7 := Aside0.mk (below_step D3.out B)
  clear S2 S3 B K BG2 BR
  have BR := BR2
  clear BR2
  have hcgo7_0 : w7.cell? ⟨go,0,none⟩ = some (.bool b) := (blk_cell BG.out 0).trans rfl
  have hcgo7_1 : w7.cell? ⟨go,1,none⟩ = some (.slice A1 p1.length c1) := (blk_cell BG.out 1).trans rfl
  have hcgo7_2 : w7.cell? ⟨go,2,none⟩ = some (.slice A4 q2.length c4) := (blk_cell BG.out 2).trans rfl
  have hcgo7_3 : w7.cell? ⟨go,3,none⟩ = some (.slice A5 q3.length c5) := (blk_cell BG.out 3).trans rfl
  have hcgr7_0 : w7.cell? ⟨gr,0,none⟩ = some (.bool false) := (blk_cell BR.out 0).trans rfl
  have hcgr7_1 : w7.cell? ⟨gr,1,none⟩ = some (.slice none 0 0) := (blk_cell BR.out 1).trans rfl
  have hcgr7_2 : w7.cell? ⟨gr,2,none⟩ = some (.slice none 0 0) := (blk_cell BR.out 2).trans rfl
  have hcgr7_3 : w7.cell? ⟨gr,3,none⟩ = some (.slice none 0 0) := (blk_cell BR.out 3).trans rfl
  have hfr7_0 := blk_frozen BR.out 0
  have hfr7_1 := blk_frozen BR.out 1
  have hfr7_2 := blk_frozen BR.out 2
  have hfr7_3 := blk_frozen BR.out 3
  go_wp2
  refine bodyPost_ret (results_ct rfl _ _ gr 31 #[.bool b,.slice A1 p1.length c1,.slice A4 q2.length c4,.slice A5 q3.length c5] (0,0) _ rfl (by refine blk_put (cs := #[.bool b,.slice A1 p1.length c1,.slice A4 q2.length c4,.slice none 0 0]) ?_ 3 _ rfl;refine blk_put (cs := #[.bool b,.slice A1 p1.length c1,.slice none 0 0,.slice none 0 0]) ?_ 2 _ rfl;refine blk_put (cs := #[.bool b,.slice none 0 0,.slice none 0 0,.slice none 0 0]) ?_ 1 _ rfl;refine blk_put (cs := #[.bool false,.slice none 0 0,.slice none 0 0,.slice none 0 0]) ?_ 0 _ rfl;exact BR.out) Tryz.underlying31 rfl (by kernel_rfl)) rfl ?_
  exact ⟨.slice A1 p1.length c1,.slice A4 q2.length c4,.slice A5 q3.length c5,by first|rfl|(simp;done),Kd.S_mono (Kd.S_far (p := ⟨gr,3,none⟩) (Kd.S_far (p := ⟨gr,2,none⟩) (Kd.S_far (p := ⟨gr,1,none⟩) (Kd.S_far (p := ⟨gr,0,none⟩) (Kd.S_types (Kd.S_lower T1.out D3.out.size) BR.out (by decide)) (fun _ h_ => h_.2) (.bool b)) (fun _ h_ => h_.2) (.slice A1 p1.length c1)) (fun _ h_ => h_.2) (.slice A4 q2.length c4)) (fun _ h_ => h_.2) (.slice A5 q3.length c5)) (fun _ _ => trivial),Kd.S_mono (Kd.S_far (p := ⟨gr,3,none⟩) (Kd.S_far (p := ⟨gr,2,none⟩) (Kd.S_far (p := ⟨gr,1,none⟩) (Kd.S_far (p := ⟨gr,0,none⟩) (Kd.S_types (Kd.S_lower T2.out D3.out.size) BR.out (by decide)) (fun _ h_ => h_.2) (.bool b)) (fun _ h_ => h_.2) (.slice A1 p1.length c1)) (fun _ h_ => h_.2) (.slice A4 q2.length c4)) (fun _ h_ => h_.2) (.slice A5 q3.length c5)) (fun _ _ => trivial),Kd.R_mono (Kd.R_far (p := ⟨gr,3,none⟩) (Kd.R_far (p := ⟨gr,2,none⟩) (Kd.R_far (p := ⟨gr,1,none⟩) (Kd.R_far (p := ⟨gr,0,none⟩) (Kd.R_types (Kd.R_lower T3.out D3.out.size) BR.out (by decide)) (fun _ h_ => h_.2) (.bool b)) (fun _ h_ => h_.2) (.slice A1 p1.length c1)) (fun _ h_ => h_.2) (.slice A4 q2.length c4)) (fun _ h_ => h_.2) (.slice A5 q3.length c5)) (fun _ _ => trivial),below_set (below_set (below_set (below_set D7.out GR.out) GR.out) GR.out) GR.out⟩
  | true =>
 have F8 : Aside0 (impl_Machine_canClear.f k l0_3 a1 = some t3) := ⟨E9⟩
 clear E9
 go_wp2_with (go_at_call 38;refine (impl_Machine_canClear.calls k ga (.bool a0_0) (.slice A0_1 l0_1.length c0_1) (.slice A0_2 l0_2.length c0_2) A0_3 c0_3 l0_3 a1 t3 _ BM.out (Kd.C_below HR3.out D3.out) HC3.out F8.out).mono ?_;rintro e w3b ⟨rfl,B⟩;(try dsimp only);refine hold_8 ?_)
 refine ⟨?_⟩
 have D3 := Aside0.mk (below_step D3.out B)
 have BM := Aside0.mk (blk_below BM.out B)
 have BR := Aside0.mk (blk_below BR.out B)
 clear B
 clear hcgr4_0 hfr4_0 hcga4_0 hcgr4_1 hfr4_1 hcga4_1 hcgr4_2 hfr4_2 hcga4_2 hcgr4_3 hfr4_3 hcga4_3
 have hcgr5_0 : w3b.cell? ⟨gr,0,none⟩ = some (.bool false) := (blk_cell BR.out 0).trans rfl
 have hcgr5_1 : w3b.cell? ⟨gr,1,none⟩ = some (.slice none 0 0) := (blk_cell BR.out 1).trans rfl
 have hcgr5_2 : w3b.cell? ⟨gr,2,none⟩ = some (.slice none 0 0) := (blk_cell BR.out 2).trans rfl
 have hcgr5_3 : w3b.cell? ⟨gr,3,none⟩ = some (.slice none 0 0) := (blk_cell BR.out 3).trans rfl
 have hfr5_0 := blk_frozen BR.out 0
 have hfr5_1 := blk_frozen BR.out 1
 have hfr5_2 := blk_frozen BR.out 2
 have hfr5_3 := blk_frozen BR.out 3
 have hcga5_0 : w3b.cell? ⟨ga,0,none⟩ = some (.bool a0_0) := (blk_cell BM.out 0).trans rfl
 have hcga5_1 : w3b.cell? ⟨ga,1,none⟩ = some (.slice A0_1 l0_1.length c0_1) := (blk_cell BM.out 1).trans rfl
 have hcga5_2 : w3b.cell? ⟨ga,2,none⟩ = some (.slice A0_2 l0_2.length c0_2) := (blk_cell BM.out 2).trans rfl
 have hcga5_3 : w3b.cell? ⟨ga,3,none⟩ = some (.slice A0_3 l0_3.length c0_3) := (blk_cell BM.out 3).trans rfl
 cases t3 with
  | false =>
  have h1 := H1.out
  rw [if_neg (by simp)] at h1
  clear H1
  simp only [Option.some.injEq,Prod.mk.injEq] at h1
  obtain ⟨rfl,rfl,rfl,rfl,rfl⟩ := h1
  go_wp2
  refine bodyPost_ret (results_ct rfl _ _ gr 31 #[.bool false,.slice none 0 0,.slice none 0 0,.slice none 0 0] (0,0) _ rfl (by refine blk_put (cs := #[.bool false,.slice none 0 0,.slice none 0 0,.slice none 0 0]) ?_ 3 _ rfl;refine blk_put (cs := #[.bool false,.slice none 0 0,.slice none 0 0,.slice none 0 0]) ?_ 2 _ rfl;refine blk_put (cs := #[.bool false,.slice none 0 0,.slice none 0 0,.slice none 0 0]) ?_ 1 _ rfl;refine blk_put (cs := #[.bool false,.slice none 0 0,.slice none 0 0,.slice none 0 0]) ?_ 0 _ rfl;exact BR.out) Tryz.underlying31 rfl (by kernel_rfl)) rfl ?_
  exact ⟨.slice none 0 0,.slice none 0 0,.slice none 0 0,by first|rfl|(simp;done),Kd.S_nil _ _ _ _ _,Kd.S_nil _ _ _ _ _,Kd.R_nil _ _ _ _ _,below_set (below_set (below_set (below_set D3.out GR.out) GR.out) GR.out) GR.out⟩
  | true =>
  have h1 := H1.out
  rw [if_pos rfl] at h1
  clear H1
  obtain ⟨⟨b,p1,p2,p3⟩,E1,h2⟩ := Option.bind_eq_some_iff.1 h1
  clear h1
  obtain ⟨⟨q2,q3⟩,E2,h3⟩ := Option.bind_eq_some_iff.1 h2
  clear h2
  simp only [Option.some.injEq,Prod.mk.injEq] at h3
  obtain ⟨rfl,rfl,rfl,rfl,rfl⟩ := h3
  have F1 := Aside0.mk E1
  have F2 := Aside0.mk E2
  clear E1 E2
  go_wp2_with ((with_reducible refine gcal_ (f := 39) rfl ?_);refine goesL_ (some 29) rfl rfl Tryz.func39 (by kernel_rfl) rfl #[.agg #[.bool a0_0,.slice A0_1 l0_1.length c0_1,.slice A0_2 l0_2.length c0_2,.slice A0_3 l0_3.length c0_3]] rfl (by (try simp only [List.map_toArray,List.map_cons,List.map_nil]);first|done|rfl) ?_;refine (impl_cloneMachine.calls k a0_0 A0_1 c0_1 l0_1 A0_2 c0_2 l0_2 A0_3 c0_3 l0_3 b p1 p2 p3 _ (Kd.C_below HR1.out D3.out) HC1.out (Kd.C_below HR2.out D3.out) HC2.out (Kd.C_below HR3.out D3.out) HC3.out F1.out).mono ?_;rintro e w4 ⟨v1,v2,v3,rfl,S1,S2,S3,B⟩;refine ⟨_,rfl,?_⟩;refine hold_8 ?_)
  refine ⟨?_⟩
  clear hcgr5_0 hfr5_0 hcga5_0 hcgr5_1 hfr5_1 hcga5_1 hcgr5_2 hfr5_2 hcga5_2 hcgr5_3 hfr5_3 hcga5_3
  have T1 := Aside0.mk S1
  have T2 := Aside0.mk S2
  have T3 := Aside0.mk S3
  have LG := Aside0.mk (blk_lt BR.out)
  have G := Aside0.mk B
  have D4 := Aside0.mk (below_step D3.out B)
  have BR := Aside0.mk (blk_below BR.out B)
  clear S1 S2 S3 B BM
  obtain ⟨A1,c1,e1_⟩ := Kd.S_slice T1.out
  subst e1_
  obtain ⟨A2,c2,e2_⟩ := Kd.S_slice T2.out
  subst e2_
  obtain ⟨A3,c3,e3_⟩ := Kd.R_slice T3.out
  subst e3_
  go_wp2_with ((with_reducible refine gate_dst (N := 10) rfl ?_);refine bx_ 10 #[.bool false,.slice none 0 0,.slice none 0 0,.slice none 0 0] 31 ?_;intro go hg w5 hbox hb;have hge := Aside0.mk (Nat.le_of_eq hg.symm);clear hg;refine hold_8 ?_)
  refine ⟨?_⟩
  have BZ := Aside0.mk hbox
  have Q0 := Aside0.mk hb
  have HGE := hge
  clear hbox hb hge
  have hcgoy_0 : w5.cell? ⟨go,0,none⟩ = some (.bool false) := (blk_cell BZ.out 0).trans rfl
  have hcgoy_1 : w5.cell? ⟨go,1,none⟩ = some (.slice none 0 0) := (blk_cell BZ.out 1).trans rfl
  have hcgoy_2 : w5.cell? ⟨go,2,none⟩ = some (.slice none 0 0) := (blk_cell BZ.out 2).trans rfl
  have hcgoy_3 : w5.cell? ⟨go,3,none⟩ = some (.slice none 0 0) := (blk_cell BZ.out 3).trans rfl
  have hfy_0 := blk_frozen BZ.out 0
  have hfy_1 := blk_frozen BZ.out 1
  have hfy_2 := blk_frozen BZ.out 2
  have hfy_3 := blk_frozen BZ.out 3
  go_upto_region 4 with (fail)
  have n0_ : Aside0 (Below w4.heap.size w4 ((((w5.setCell ⟨go,0,none⟩ (.bool b)).setCell ⟨go,1,none⟩ (.slice A1 p1.length c1)).setCell ⟨go,2,none⟩ (.slice A2 p2.length c2)).setCell ⟨go,3,none⟩ (.slice A3 p3.length c3))) := ⟨below_set (below_set (below_set (below_set Q0.out HGE.out) HGE.out) HGE.out) HGE.out⟩
  have n1_ : Aside0 (((((w5.setCell ⟨go,0,none⟩ (.bool b)).setCell ⟨go,1,none⟩ (.slice A1 p1.length c1)).setCell ⟨go,2,none⟩ (.slice A2 p2.length c2)).setCell ⟨go,3,none⟩ (.slice A3 p3.length c3)).heap[go]? = some (.cells #[.bool b,.slice A1 p1.length c1,.slice A2 p2.length c2,.slice A3 p3.length c3] 31 (0,0))) := ⟨by refine blk_put (cs := #[.bool b,.slice A1 p1.length c1,.slice A2 p2.length c2,.slice none 0 0]) ?_ 3 _ rfl;refine blk_put (cs := #[.bool b,.slice A1 p1.length c1,.slice none 0 0,.slice none 0 0]) ?_ 2 _ rfl;refine blk_put (cs := #[.bool b,.slice none 0 0,.slice none 0 0,.slice none 0 0]) ?_ 1 _ rfl;refine blk_put (cs := #[.bool false,.slice none 0 0,.slice none 0 0,.slice none 0 0]) ?_ 0 _ rfl;exact BZ.out⟩
  clear BZ Q0
  clear hcgoy_0 hfy_0 hcgoy_1 hfy_1 hcgoy_2 hfy_2 hcgoy_3 hfy_3
  generalize ((((w5.setCell ⟨go,0,none⟩ (.bool b)).setCell ⟨go,1,none⟩ (.slice A1 p1.length c1)).setCell ⟨go,2,none⟩ (.slice A2 p2.length c2)).setCell ⟨go,3,none⟩ (.slice A3 p3.length c3)) = w6 at n0_ n1_ ⊢
  have B := n0_.out
  have BG := n1_
  clear n0_ n1_
  have T1 := Aside0.mk (Kd.S_bound (Kd.S_below T1.out B))
  have T2 := Aside0.mk (Kd.S_bound (Kd.S_below T2.out B))
  have T3 := Aside0.mk (Kd.R_bound (Kd.R_below T3.out B))
  have GO : Aside0 (w3b.heap.size ≤ go) := ⟨Nat.le_trans G.out.size HGE.out⟩
  have G := Aside0.mk (below_step G.out B)
  have D6 := Aside0.mk (below_step D4.out B)
  have BR := Aside0.mk (blk_below BR.out B)
  clear B D4
  have NG : Aside0 (gr ≠ go) := ⟨Nat.ne_of_lt (Nat.lt_of_lt_of_le LG.out GO.out)⟩
  go_wp2_with ((with_reducible refine gcal_ (f := 40) rfl ?_);refine goesL_ (some 33) rfl rfl Tryz.func40 (by kernel_rfl) rfl #[.pointer (some ⟨go,0,none⟩),.int .i64 a1,.int .i64 a2,.bool true] rfl (by (try simp only [List.map_toArray,List.map_cons,List.map_nil]);first|done|rfl) ?_;refine (impl_Machine_clear.calls k (fun k_ => True ∧ w3b.heap.size ≤ k_ ∧ k_ < w6.heap.size ∧ ∃ q,q ∈ 50 :: (k50).E ∧ ∃ cells,w6.heap[k_]? = some (.cells cells q (0,0))) (fun k_ => True ∧ w3b.heap.size ≤ k_ ∧ k_ < w6.heap.size ∧ ∃ q,q ∈ 2 :: ((Kd.int .i64)).E ∧ ∃ cells,w6.heap[k_]? = some (.cells cells q (0,0))) go b (.slice A1 p1.length c1) A2 c2 p2 A3 c3 p3 a1 a2 true q2 q3 w3b _ G.out GO.out BG.out (fun hs_ => ty_8 ⟨31,List.mem_singleton.2 rfl,_,BG.out⟩ hs_.2.2.2 (by decide)) (fun hs_ => ty_8 ⟨31,List.mem_singleton.2 rfl,_,BG.out⟩ hs_.2.2.2 (by decide)) (fun k_ h1_ h2_ => ty_8 h1_.2.2.2 h2_.2.2.2 (by decide)) T2.out T3.out F2.out).mono ?_;rintro e w7 ⟨rfl,A4,c4,A5,c5,BG2,S2,S3,B,K⟩;refine ⟨_,rfl,?_⟩;refine hold_8 ?_)
  refine ⟨?_⟩
  have T1 := Aside0.mk (Kd.S_kept T1.out K (fun k_ hk_ hs_ => hs_.elim (fun h_ => h_.elim (fun h_ => ty_8 hk_.2.2.2 h_.2.2.2 (by decide)) (fun h_ => ty_8 hk_.2.2.2 h_.2.2.2 (by decide))) (fun e_ => ty_8 (e_ ▸ hk_.2.2.2) ⟨31,List.mem_singleton.2 rfl,_,BG.out⟩ (by decide))))
  have T2 := Aside0.mk S2
  have T3 := Aside0.mk S3
  have BR2 := Aside0.mk (blk_kept BR.out K (fun hs_ => hs_.elim (fun h_ => h_.elim (fun hs_ => ty_8 ⟨31,List.mem_singleton.2 rfl,_,BR.out⟩ hs_.2.2.2 (by decide)) (fun hs_ => ty_8 ⟨31,List.mem_singleton.2 rfl,_,BR.out⟩ hs_.2.2.2 (by decide))) NG.out))
  have BG := Aside0.mk BG2
  have D7 := Aside0.mk (below_step D3.out B)
  clear S2 S3 B K BG2 BR
  have BR := BR2
  clear BR2
  have hcgo7_0 : w7.cell? ⟨go,0,none⟩ = some (.bool b) := (blk_cell BG.out 0).trans rfl
  have hcgo7_1 : w7.cell? ⟨go,1,none⟩ = some (.slice A1 p1.length c1) := (blk_cell BG.out 1).trans rfl
  have hcgo7_2 : w7.cell? ⟨go,2,none⟩ = some (.slice A4 q2.length c4) := (blk_cell BG.out 2).trans rfl
  have hcgo7_3 : w7.cell? ⟨go,3,none⟩ = some (.slice A5 q3.length c5) := (blk_cell BG.out 3).trans rfl
  have hcgr7_0 : w7.cell? ⟨gr,0,none⟩ = some (.bool false) := (blk_cell BR.out 0).trans rfl
  have hcgr7_1 : w7.cell? ⟨gr,1,none⟩ = some (.slice none 0 0) := (blk_cell BR.out 1).trans rfl
  have hcgr7_2 : w7.cell? ⟨gr,2,none⟩ = some (.slice none 0 0) := (blk_cell BR.out 2).trans rfl
  have hcgr7_3 : w7.cell? ⟨gr,3,none⟩ = some (.slice none 0 0) := (blk_cell BR.out 3).trans rfl
  have hfr7_0 := blk_frozen BR.out 0
  have hfr7_1 := blk_frozen BR.out 1
  have hfr7_2 := blk_frozen BR.out 2
  have hfr7_3 := blk_frozen BR.out 3
  go_wp2
  refine bodyPost_ret (results_ct rfl _ _ gr 31 #[.bool b,.slice A1 p1.length c1,.slice A4 q2.length c4,.slice A5 q3.length c5] (0,0) _ rfl (by refine blk_put (cs := #[.bool b,.slice A1 p1.length c1,.slice A4 q2.length c4,.slice none 0 0]) ?_ 3 _ rfl;refine blk_put (cs := #[.bool b,.slice A1 p1.length c1,.slice none 0 0,.slice none 0 0]) ?_ 2 _ rfl;refine blk_put (cs := #[.bool b,.slice none 0 0,.slice none 0 0,.slice none 0 0]) ?_ 1 _ rfl;refine blk_put (cs := #[.bool false,.slice none 0 0,.slice none 0 0,.slice none 0 0]) ?_ 0 _ rfl;exact BR.out) Tryz.underlying31 rfl (by kernel_rfl)) rfl ?_
  exact ⟨.slice A1 p1.length c1,.slice A4 q2.length c4,.slice A5 q3.length c5,by first|rfl|(simp;done),Kd.S_mono (Kd.S_far (p := ⟨gr,3,none⟩) (Kd.S_far (p := ⟨gr,2,none⟩) (Kd.S_far (p := ⟨gr,1,none⟩) (Kd.S_far (p := ⟨gr,0,none⟩) (Kd.S_types (Kd.S_lower T1.out D3.out.size) BR.out (by decide)) (fun _ h_ => h_.2) (.bool b)) (fun _ h_ => h_.2) (.slice A1 p1.length c1)) (fun _ h_ => h_.2) (.slice A4 q2.length c4)) (fun _ h_ => h_.2) (.slice A5 q3.length c5)) (fun _ _ => trivial),Kd.S_mono (Kd.S_far (p := ⟨gr,3,none⟩) (Kd.S_far (p := ⟨gr,2,none⟩) (Kd.S_far (p := ⟨gr,1,none⟩) (Kd.S_far (p := ⟨gr,0,none⟩) (Kd.S_types (Kd.S_lower T2.out D3.out.size) BR.out (by decide)) (fun _ h_ => h_.2) (.bool b)) (fun _ h_ => h_.2) (.slice A1 p1.length c1)) (fun _ h_ => h_.2) (.slice A4 q2.length c4)) (fun _ h_ => h_.2) (.slice A5 q3.length c5)) (fun _ _ => trivial),Kd.R_mono (Kd.R_far (p := ⟨gr,3,none⟩) (Kd.R_far (p := ⟨gr,2,none⟩) (Kd.R_far (p := ⟨gr,1,none⟩) (Kd.R_far (p := ⟨gr,0,none⟩) (Kd.R_types (Kd.R_lower T3.out D3.out.size) BR.out (by decide)) (fun _ h_ => h_.2) (.bool b)) (fun _ h_ => h_.2) (.slice A1 p1.length c1)) (fun _ h_ => h_.2) (.slice A4 q2.length c4)) (fun _ h_ => h_.2) (.slice A5 q3.length c5)) (fun _ _ => trivial),below_set (below_set (below_set (below_set D7.out GR.out) GR.out) GR.out) GR.out⟩

/-! ### laws_eqCell: function 146 -/
def laws_eqCell.f (a0_0 : Int) (a0_1 : Int) (a1_0 : Int) (a1_1 : Int) : Option (Bool) := if a0_0 = a1_0 then (if a0_1 = a1_1 then (some true) else (some false)) else (some false)
set_option maxHeartbeats 8000000 in
set_option maxRecDepth 100000 in
theorem laws_eqCell.calls (a0_0 : Int) (a0_1 : Int) (a1_0 : Int) (a1_1 : Int) (r : Bool) (w : World) (h : laws_eqCell.f a0_0 a0_1 a1_0 a1_1 = some r) :
    Calls Tryz.prog 146 #[.agg #[.int .i64 a0_0, .int .i64 a0_1], .agg #[.int .i64 a1_0, .int .i64 a1_1]] w fun e w' => e = .returned (.bool r) ∧ Below w.heap.size w w' := by
 have hu87 := Tryz.underlying87
 have HB := Aside0.mk (Below.refl w.heap.size w)
 have H : (if a0_0 = a1_0 then (if a0_1 = a1_1 then (some true) else (some false)) else (some false)) = some r := h
 clear h
 by_cases c3 : a0_0 = a1_0
 ·rw [if_pos c3] at H
  have c3b0 : (a0_0 == a1_0) = true := beq_iff_eq.mpr c3
  have c3b1 : (a0_0 != a1_0) = false := bne_eq_false_iff_eq.mpr c3
  clear c3
  by_cases c4 : a0_1 = a1_1
  ·rw [if_pos c4] at H
   have c4b0 : (a0_1 == a1_1) = true := beq_iff_eq.mpr c4
   have c4b1 : (a0_1 != a1_1) = false := bne_eq_false_iff_eq.mpr c4
   clear c4
   obtain rfl := Option.some.inj H
   go_enter Tryz.func146,Tryz.ntmps146
   go_wp2_with (first|((with_reducible refine gate_dst (N := 2) rfl ?_);refine bx_ 2 #[.int .i64 a0_0,.int .i64 a0_1] 87 ?_;intro gb403 hg w5 hbox hb;replace HB := nb_ hg hbox hb;obtain ⟨BK403,GW403,GE403,HB⟩ := HB;clear hb hbox hg)|((with_reducible refine gate_dst (N := 3) rfl ?_);refine bx_ 3 #[.int .i64 a1_0,.int .i64 a1_1] 87 ?_;intro gb404 hg w6 hbox hb;replace HB := nb_ hg hbox hb;obtain ⟨BK404,GW404,GE404,HB⟩ := HB;have NB403_404 := Aside0.mk ((nl_ BK403 hg));have NB404_403 := Aside0.mk ((ng_ BK403 hg));replace BK403 := Aside0.mk (blk_below (kb_ BK403) hb);clear hb hbox hg;have hnb7 := NB403_404.out;have hnc7 := NB404_403.out;obtain ⟨⟨hcz8_0,hcz8_1⟩,hfz8_0,hfz8_1⟩ := cl2_ BK403.out;obtain ⟨⟨hcz9_0,hcz9_1⟩,hfz9_0,hfz9_1⟩ := cl2_ BK404.out))
   go_ret
   exact ⟨rf_,b_⟩
  ·rw [if_neg c4] at H
   have c4b0 : (a0_1 == a1_1) = false := beq_eq_false_iff_ne.mpr c4
   have c4b1 : (a0_1 != a1_1) = true := bne_iff_ne.mpr c4
   obtain rfl := Option.some.inj H
   go_enter Tryz.func146,Tryz.ntmps146
   go_wp2_with (first|((with_reducible refine gate_dst (N := 2) rfl ?_);refine bx_ 2 #[.int .i64 a0_0,.int .i64 a0_1] 87 ?_;intro gb403 hg w10 hbox hb;replace HB := nb_ hg hbox hb;obtain ⟨BK403,GW403,GE403,HB⟩ := HB;clear hb hbox hg)|((with_reducible refine gate_dst (N := 3) rfl ?_);refine bx_ 3 #[.int .i64 a1_0,.int .i64 a1_1] 87 ?_;intro gb404 hg w11 hbox hb;replace HB := nb_ hg hbox hb;obtain ⟨BK404,GW404,GE404,HB⟩ := HB;have NB403_404 := Aside0.mk ((nl_ BK403 hg));have NB404_403 := Aside0.mk ((ng_ BK403 hg));replace BK403 := Aside0.mk (blk_below (kb_ BK403) hb);clear hb hbox hg;have hnb12 := NB403_404.out;have hnc12 := NB404_403.out;obtain ⟨⟨hcz13_0,hcz13_1⟩,hfz13_0,hfz13_1⟩ := cl2_ BK403.out;obtain ⟨⟨hcz14_0,hcz14_1⟩,hfz14_0,hfz14_1⟩ := cl2_ BK404.out))
   go_ret
   exact ⟨rf_,b_⟩
 ·rw [if_neg c3] at H
  have c3b0 : (a0_0 == a1_0) = false := beq_eq_false_iff_ne.mpr c3
  have c3b1 : (a0_0 != a1_0) = true := bne_iff_ne.mpr c3
  obtain rfl := Option.some.inj H
  go_enter Tryz.func146,Tryz.ntmps146
  go_wp2_with (first|((with_reducible refine gate_dst (N := 2) rfl ?_);refine bx_ 2 #[.int .i64 a0_0,.int .i64 a0_1] 87 ?_;intro gb403 hg w15 hbox hb;replace HB := nb_ hg hbox hb;obtain ⟨BK403,GW403,GE403,HB⟩ := HB;clear hb hbox hg)|((with_reducible refine gate_dst (N := 3) rfl ?_);refine bx_ 3 #[.int .i64 a1_0,.int .i64 a1_1] 87 ?_;intro gb404 hg w16 hbox hb;replace HB := nb_ hg hbox hb;obtain ⟨BK404,GW404,GE404,HB⟩ := HB;have NB403_404 := Aside0.mk ((nl_ BK403 hg));have NB404_403 := Aside0.mk ((ng_ BK403 hg));replace BK403 := Aside0.mk (blk_below (kb_ BK403) hb);clear hb hbox hg;have hnb17 := NB403_404.out;have hnc17 := NB404_403.out;obtain ⟨⟨hcz18_0,hcz18_1⟩,hfz18_0,hfz18_1⟩ := cl2_ BK403.out;obtain ⟨⟨hcz19_0,hcz19_1⟩,hfz19_0,hfz19_1⟩ := cl2_ BK404.out))
  go_ret
  exact ⟨rf_,b_⟩

/-! ### laws_eqCellS: function 128 -/
def laws_eqCellS.l0 : Nat → List (S87) → List (S87) → Int → Option (Bool)
  | 0, _, _, _ => none
  | k + 1, x0, x1, x5 => if x5 < (x0.length : Int) then (if 0 ≤ x5 then (if x5 < (x1.length : Int) then ((laws_eqCell.f ((rd_T87 x0 x5).f0) ((rd_T87 x0 x5).f1) ((rd_T87 x1 x5).f0) ((rd_T87 x1 x5).f1)).bind fun t407 => (if t407 = true then (laws_eqCellS.l0 k x0 x1 (wrap64 (x5 + 1))) else (some false))) else (none)) else (none)) else (some true)
def laws_eqCellS.f (k : Nat) (l0 : List (S87)) (l1 : List (S87)) : Option (Bool) := if (l0.length : Int) = (l1.length : Int) then (laws_eqCellS.l0 k l0 l1 0) else (some false)

def laws_eqCellS.T6 : Bool × List (List Nat × List Nat) := (true, [([], []), ([], []), ([0, 1], [0, 1]), ([2], [2]), ([], []), ([], []), ([4, 5], [4, 5]), ([6], [6]), ([3, 7], [3, 7]), ([8], [8])])
def laws_eqCellS.B6 : List Nat := [0, 0, 3, 7, 0, 0, 48, 112, 255, 511]
theorem laws_eqCellS.tab6 : rtab .any (opsOf Tryz.f128 6) = laws_eqCellS.T6 := by kernel_rfl
theorem laws_eqCellS.bits6 : waitsOk laws_eqCellS.T6.2 laws_eqCellS.B6 = true := by kernel_rfl
set_option maxHeartbeats 8000000 in
set_option maxRecDepth 100000 in
theorem laws_eqCellS.calls (k : Nat) (A0 : Option Addr) (c0 : Nat) (l0 : List (S87)) (A1 : Option Addr) (c1 : Nat) (l1 : List (S87)) (r : Bool) (w : World) (hr0 : Kd.C k87 w A0 l0.length l0) (hc0 : l0.length ≤ c0) (hr1 : Kd.C k87 w A1 l1.length l1) (hc1 : l1.length ≤ c1) (h : laws_eqCellS.f k l0 l1 = some r) :
    Calls Tryz.prog 128 #[.slice A0 l0.length c0, .slice A1 l1.length c1] w fun e w' => e = .returned (.bool r) ∧ Below w.heap.size w w' := by
 have hu87 := Tryz.underlying87
 have HR0 := Aside0.mk hr0
 have HC0 := Aside0.mk hc0
 clear hr0 hc0
 have HR1 := Aside0.mk hr1
 have HC1 := Aside0.mk hc1
 clear hr1 hc1
 have HB := Aside0.mk (Below.refl w.heap.size w)
 have H : (if (l0.length : Int) = (l1.length : Int) then (laws_eqCellS.l0 k l0 l1 0) else (some false)) = some r := h
 clear h
 by_cases c3 : (l0.length : Int) = (l1.length : Int)
 ·rw [if_pos c3] at H
  have c3b0 : ((l0.length : Int) == (l1.length : Int)) = true := beq_iff_eq.mpr c3
  have c3b1 : ((l0.length : Int) != (l1.length : Int)) = false := bne_eq_false_iff_eq.mpr c3
  have c3b2 : (l0.length == l1.length) = true := by first|simpa using c3|(simp at c3 ⊢;omega)
  clear c3
  have H' := Aside0.mk H
  clear H
  go_enter Tryz.func128,Tryz.ntmps128
  go_wp2
  go_loopg [5] k (fun kq v5 w' => ∃ (x5_1 : Int),v5 = .int .i64 x5_1 ∧ Aside0 (laws_eqCellS.l0 kq l0 l1 x5_1 = some r) ∧ Aside0 (kq ≤ k) ∧ Aside0 (Below w.heap.size w w'))
  case atStart => exact ⟨(0),rs_,H',⟨Nat.le_refl _⟩,⟨b_⟩⟩
  case round =>
   clear H'
   try clear c1
   try clear p2
   try clear c3
   try clear c3b0
   try clear c3b1
   try clear c3b2
   obtain ⟨x5_1,rfl,HA,HK1,HB⟩ := hrel
   cases gk with
   | zero => exact absurd HA.out (by simp [laws_eqCellS.l0])
   | succ k1 =>
    have H := HA.out
    clear HA
    simp only [laws_eqCellS.l0] at H
    by_cases c4 : x5_1 < (l0.length : Int)
    ·rw [if_pos c4] at H
     have c4b0 : decide (x5_1 < (l0.length : Int)) = true := decide_eq_true c4
     clear c4
     by_cases c5 : 0 ≤ x5_1
     ·rw [if_pos c5] at H
      have c5b0 : decide (0 ≤ x5_1) = true := decide_eq_true c5
      clear c5
      by_cases c6 : x5_1 < (l1.length : Int)
      ·rw [if_pos c6] at H
       have c6b0 : decide (x5_1 < (l1.length : Int)) = true := decide_eq_true c6
       clear c6
       replace H := bs_ H
       obtain ⟨t407,A7,H⟩ := H
       by_cases c8 : t407 = true
       ·subst c8
        replace H := it_ H
        have H' := Aside0.mk H
        clear H
        try go_wp2
        replace HB := Aside0.mk (below_drew1 HB.out)
        have p405 : 0 ≤ (x5_1 : Int) := od_
        have q405 : x5_1 < (l0.length : Int) := od_
        obtain ⟨ad405,e405,hx405_0,hx405_1⟩ := at_T87 HR0.out x5_1 p405 q405
        have hw405_1 := hx405_1
        have hw405_0 := hx405_0
        cases e405
        replace hx405_0 := hx_ HB hx405_0
        replace hx405_1 := hx_ HB hx405_1
        replace p405 := eq_true p405
        replace q405 := eq_true q405
        have p406 : 0 ≤ (x5_1 : Int) := od_
        have q406 : x5_1 < (l1.length : Int) := od_
        obtain ⟨ad406,e406,hx406_0,hx406_1⟩ := at_T87 HR1.out x5_1 p406 q406
        have hw406_1 := hx406_1
        have hw406_0 := hx406_0
        cases e406
        replace hx406_0 := hx_ HB hx406_0
        replace hx406_1 := hx_ HB hx406_1
        replace p406 := eq_true p406
        replace q406 := eq_true q406
        refine st_ 10 (S := fun w' => he2 w' (ad405.add ((x5_1).toNat * 2)) (.int .i64 ((rd_T87 l0 x5_1).f0)) (.int .i64 ((rd_T87 l0 x5_1).f1)) (hf2 w' (ad406.add ((x5_1).toNat * 2)) (.int .i64 ((rd_T87 l1 x5_1).f0)) (.int .i64 ((rd_T87 l1 x5_1).f1)))) hh_ (fun hHeld => ?_);refine with_tabW laws_eqCellS.tab6 laws_eqCellS.bits6 (fun HT_ HW_ => ?_)
        generalize wr.drew = w9 at HB hx405_0 hx405_1 hx406_0 hx406_1 hHeld ⊢
        refine pv_ 0 17 ?_
        refine pv_ 1 18 ?_
        refine pv_ 2 19 ?_
        refine pv_ 4 21 ?_
        refine pv_ 5 22 ?_
        refine pv_ 6 23 ?_
        refine tx_ 3 20 hHeld ?_
        refine tx_ 7 24 hHeld ?_
        refine oy_ 8 25 (fun K hK => ?_)
        refine gs_ Tryz.func146 #[.agg #[.int .i64 ((rd_T87 l0 x5_1).f0),.int .i64 ((rd_T87 l0 x5_1).f1)],.agg #[.int .i64 ((rd_T87 l1 x5_1).f0),.int .i64 ((rd_T87 l1 x5_1).f1)]] ?_
        with_reducible refine (laws_eqCell.calls ((rd_T87 l0 x5_1).f0) ((rd_T87 l0 x5_1).f1) ((rd_T87 l1 x5_1).f0) ((rd_T87 l1 x5_1).f1) true _ A7.out).mono ?_
        rintro e w10 ⟨rfl,hb⟩
        refine ⟨_,rfl,?_⟩
        replace HB := Aside0.mk (below_step b_ hb)
        (try clear hb)
        (try clear hb2)
        (try clear hk)
        (try clear hi)
        refine hK.out _ _ hh_ (fun hHeld => ?_)
        clear hK K
        refine nr_ (some 25) _ ?_
        refine pv_ 9 26 ?_
        refine done_ (done_of HT_.out (by kernel_rfl)) ?_
        try go_wp2
        go_roundg k1
        case measure => have := HK1.out;omega
        case rel => exact ⟨(wrap64 (x5_1 + 1)),rs_,H',⟨by have := HK1.out;omega⟩,⟨b_⟩⟩
       ·replace c8 := Bool.eq_false_iff.mpr c8
        subst c8
        replace H := ie_ H
        obtain rfl := Option.some.inj H
        try go_wp2
        replace HB := Aside0.mk (below_drew1 HB.out)
        have p405 : 0 ≤ (x5_1 : Int) := od_
        have q405 : x5_1 < (l0.length : Int) := od_
        obtain ⟨ad405,e405,hx405_0,hx405_1⟩ := at_T87 HR0.out x5_1 p405 q405
        have hw405_1 := hx405_1
        have hw405_0 := hx405_0
        cases e405
        replace hx405_0 := hx_ HB hx405_0
        replace hx405_1 := hx_ HB hx405_1
        replace p405 := eq_true p405
        replace q405 := eq_true q405
        have p406 : 0 ≤ (x5_1 : Int) := od_
        have q406 : x5_1 < (l1.length : Int) := od_
        obtain ⟨ad406,e406,hx406_0,hx406_1⟩ := at_T87 HR1.out x5_1 p406 q406
        have hw406_1 := hx406_1
        have hw406_0 := hx406_0
        cases e406
        replace hx406_0 := hx_ HB hx406_0
        replace hx406_1 := hx_ HB hx406_1
        replace p406 := eq_true p406
        replace q406 := eq_true q406
        refine st_ 10 (S := fun w' => he2 w' (ad405.add ((x5_1).toNat * 2)) (.int .i64 ((rd_T87 l0 x5_1).f0)) (.int .i64 ((rd_T87 l0 x5_1).f1)) (hf2 w' (ad406.add ((x5_1).toNat * 2)) (.int .i64 ((rd_T87 l1 x5_1).f0)) (.int .i64 ((rd_T87 l1 x5_1).f1)))) hh_ (fun hHeld => ?_);refine with_tabW laws_eqCellS.tab6 laws_eqCellS.bits6 (fun HT_ HW_ => ?_)
        generalize wr.drew = w11 at HB hx405_0 hx405_1 hx406_0 hx406_1 hHeld ⊢
        refine pv_ 0 17 ?_
        refine pv_ 1 18 ?_
        refine pv_ 2 19 ?_
        refine pv_ 4 21 ?_
        refine pv_ 5 22 ?_
        refine pv_ 6 23 ?_
        refine tx_ 3 20 hHeld ?_
        refine tx_ 7 24 hHeld ?_
        refine oy_ 8 25 (fun K hK => ?_)
        refine gs_ Tryz.func146 #[.agg #[.int .i64 ((rd_T87 l0 x5_1).f0),.int .i64 ((rd_T87 l0 x5_1).f1)],.agg #[.int .i64 ((rd_T87 l1 x5_1).f0),.int .i64 ((rd_T87 l1 x5_1).f1)]] ?_
        with_reducible refine (laws_eqCell.calls ((rd_T87 l0 x5_1).f0) ((rd_T87 l0 x5_1).f1) ((rd_T87 l1 x5_1).f0) ((rd_T87 l1 x5_1).f1) false _ A7.out).mono ?_
        rintro e w12 ⟨rfl,hb⟩
        refine ⟨_,rfl,?_⟩
        replace HB := Aside0.mk (below_step b_ hb)
        (try clear hb)
        (try clear hb2)
        (try clear hk)
        (try clear hi)
        refine hK.out _ _ hh_ (fun hHeld => ?_)
        clear hK K
        refine nr_ (some 25) _ ?_
        refine pv_ 9 26 ?_
        refine done_ (done_of HT_.out (by kernel_rfl)) ?_
        try go_wp2
        go_ret
        exact ⟨rf_,b_⟩
      ·rw [if_neg c6] at H
       exact absurd H (by simp)
     ·rw [if_neg c5] at H
      exact absurd H (by simp)
    ·rw [if_neg c4] at H
     have c4b0 : decide (x5_1 < (l0.length : Int)) = false := decide_eq_false c4
     clear c4
     obtain rfl := Option.some.inj H
     go_wp2
     go_ret
     exact ⟨rf_,b_⟩
 ·rw [if_neg c3] at H
  have c3b0 : ((l0.length : Int) == (l1.length : Int)) = false := beq_eq_false_iff_ne.mpr c3
  have c3b1 : ((l0.length : Int) != (l1.length : Int)) = true := bne_iff_ne.mpr c3
  have c3b2 : (l0.length == l1.length) = false := by first|simpa using c3|(simp at c3 ⊢;omega)
  obtain rfl := Option.some.inj H
  go_enter Tryz.func128,Tryz.ntmps128
  go_wp2
  go_ret
  exact ⟨rf_,b_⟩

/-! ### laws_eqCopy: function 87 -/
def laws_eqCopy.f (k : Nat) (a0_0 : Int) (l0_1 : List (S87)) (a1_0 : Int) (l1_1 : List (S87)) : Option (Bool) := if a0_0 = a1_0 then ((laws_eqCellS.f k l0_1 l1_1).bind fun t410 => (if t410 = true then (some true) else (some false))) else (some false)

set_option maxHeartbeats 8000000 in
set_option maxRecDepth 100000 in
theorem laws_eqCopy.calls (k : Nat) (a0_0 : Int) (A0_1 : Option Addr) (c0_1 : Nat) (l0_1 : List (S87)) (a1_0 : Int) (A1_1 : Option Addr) (c1_1 : Nat) (l1_1 : List (S87)) (r : Bool) (w : World) (hr0_1 : Kd.C k87 w A0_1 l0_1.length l0_1) (hc0_1 : l0_1.length ≤ c0_1) (hr1_1 : Kd.C k87 w A1_1 l1_1.length l1_1) (hc1_1 : l1_1.length ≤ c1_1) (h : laws_eqCopy.f k a0_0 l0_1 a1_0 l1_1 = some r) :
    Calls Tryz.prog 87 #[.agg #[.int .i64 a0_0, .slice A0_1 l0_1.length c0_1], .agg #[.int .i64 a1_0, .slice A1_1 l1_1.length c1_1]] w fun e w' => e = .returned (.bool r) ∧ Below w.heap.size w w' := by
 have hu83 := Tryz.underlying83
 have HR0_1 := Aside0.mk hr0_1
 have HC0_1 := Aside0.mk hc0_1
 clear hr0_1 hc0_1
 have HR1_1 := Aside0.mk hr1_1
 have HC1_1 := Aside0.mk hc1_1
 clear hr1_1 hc1_1
 have HB := Aside0.mk (Below.refl w.heap.size w)
 have H : (if a0_0 = a1_0 then ((laws_eqCellS.f k l0_1 l1_1).bind fun t410 => (if t410 = true then (some true) else (some false))) else (some false)) = some r := h
 clear h
 by_cases c3 : a0_0 = a1_0
 ·rw [if_pos c3] at H
  have c3b0 : (a0_0 == a1_0) = true := beq_iff_eq.mpr c3
  have c3b1 : (a0_0 != a1_0) = false := bne_eq_false_iff_eq.mpr c3
  clear c3
  replace H := bs_ H
  obtain ⟨t410,A4,H⟩ := H
  by_cases c5 : t410 = true
  ·subst c5
   replace H := it_ H
   obtain rfl := Option.some.inj H
   go_enter Tryz.func87,Tryz.ntmps87
   go_wp2_with (first|((with_reducible refine gate_dst (N := 2) rfl ?_);refine bx_ 2 #[.int .i64 a0_0,.slice A0_1 l0_1.length c0_1] 83 ?_;intro gb408 hg w6 hbox hb;replace HB := nb_ hg hbox hb;obtain ⟨BK408,GW408,GE408,HB⟩ := HB;clear hb hbox hg)|((with_reducible refine gate_dst (N := 3) rfl ?_);refine bx_ 3 #[.int .i64 a1_0,.slice A1_1 l1_1.length c1_1] 83 ?_;intro gb409 hg w7 hbox hb;replace HB := nb_ hg hbox hb;obtain ⟨BK409,GW409,GE409,HB⟩ := HB;have NB408_409 := Aside0.mk ((nl_ BK408 hg));have NB409_408 := Aside0.mk ((ng_ BK408 hg));replace BK408 := Aside0.mk (blk_below (kb_ BK408) hb);clear hb hbox hg;have hnb8 := NB408_409.out;have hnc8 := NB409_408.out;obtain ⟨⟨hcz9_0,hcz9_1⟩,hfz9_0,hfz9_1⟩ := cl2_ BK408.out;obtain ⟨⟨hcz10_0,hcz10_1⟩,hfz10_0,hfz10_1⟩ := cl2_ BK409.out)|((with_reducible refine gcal_ (f := 128) rfl ?_);refine gl_ (some 14) Tryz.func128 #[.slice A0_1 l0_1.length c0_1,.slice A1_1 l1_1.length c1_1] ?_;(with_reducible refine (laws_eqCellS.calls k _ _ l0_1 _ _ l1_1 true _ ?side1 ?side2 ?side3 ?side4 A4.out).mono ?_);(case side1 => exact cb_ HR0_1);(case side2 => exact HC0_1.out);(case side3 => exact cb_ HR1_1);(case side4 => exact HC1_1.out);rintro e w11 ⟨rfl,hb⟩;refine ⟨_,rfl,?_⟩;replace BK408 := Aside0.mk (blk_below (kb_ BK408) hb);replace BK409 := Aside0.mk (blk_below (kb_ BK409) hb);replace HB := Aside0.mk (below_step b_ hb);(try clear hb);(try clear hb2);(try clear hk);(try clear hi)))
   go_ret
   exact ⟨rf_,b_⟩
  ·replace c5 := Bool.eq_false_iff.mpr c5
   subst c5
   replace H := ie_ H
   obtain rfl := Option.some.inj H
   go_enter Tryz.func87,Tryz.ntmps87
   go_wp2_with (first|((with_reducible refine gate_dst (N := 2) rfl ?_);refine bx_ 2 #[.int .i64 a0_0,.slice A0_1 l0_1.length c0_1] 83 ?_;intro gb408 hg w12 hbox hb;replace HB := nb_ hg hbox hb;obtain ⟨BK408,GW408,GE408,HB⟩ := HB;clear hb hbox hg)|((with_reducible refine gate_dst (N := 3) rfl ?_);refine bx_ 3 #[.int .i64 a1_0,.slice A1_1 l1_1.length c1_1] 83 ?_;intro gb409 hg w13 hbox hb;replace HB := nb_ hg hbox hb;obtain ⟨BK409,GW409,GE409,HB⟩ := HB;have NB408_409 := Aside0.mk ((nl_ BK408 hg));have NB409_408 := Aside0.mk ((ng_ BK408 hg));replace BK408 := Aside0.mk (blk_below (kb_ BK408) hb);clear hb hbox hg;have hnb14 := NB408_409.out;have hnc14 := NB409_408.out;obtain ⟨⟨hcz15_0,hcz15_1⟩,hfz15_0,hfz15_1⟩ := cl2_ BK408.out;obtain ⟨⟨hcz16_0,hcz16_1⟩,hfz16_0,hfz16_1⟩ := cl2_ BK409.out)|((with_reducible refine gcal_ (f := 128) rfl ?_);refine gl_ (some 14) Tryz.func128 #[.slice A0_1 l0_1.length c0_1,.slice A1_1 l1_1.length c1_1] ?_;(with_reducible refine (laws_eqCellS.calls k _ _ l0_1 _ _ l1_1 false _ ?side1 ?side2 ?side3 ?side4 A4.out).mono ?_);(case side1 => exact cb_ HR0_1);(case side2 => exact HC0_1.out);(case side3 => exact cb_ HR1_1);(case side4 => exact HC1_1.out);rintro e w17 ⟨rfl,hb⟩;refine ⟨_,rfl,?_⟩;replace BK408 := Aside0.mk (blk_below (kb_ BK408) hb);replace BK409 := Aside0.mk (blk_below (kb_ BK409) hb);replace HB := Aside0.mk (below_step b_ hb);(try clear hb);(try clear hb2);(try clear hk);(try clear hi)))
   go_ret
   exact ⟨rf_,b_⟩
 ·rw [if_neg c3] at H
  have c3b0 : (a0_0 == a1_0) = false := beq_eq_false_iff_ne.mpr c3
  have c3b1 : (a0_0 != a1_0) = true := bne_iff_ne.mpr c3
  obtain rfl := Option.some.inj H
  go_enter Tryz.func87,Tryz.ntmps87
  go_wp2_with (first|((with_reducible refine gate_dst (N := 2) rfl ?_);refine bx_ 2 #[.int .i64 a0_0,.slice A0_1 l0_1.length c0_1] 83 ?_;intro gb408 hg w18 hbox hb;replace HB := nb_ hg hbox hb;obtain ⟨BK408,GW408,GE408,HB⟩ := HB;clear hb hbox hg)|((with_reducible refine gate_dst (N := 3) rfl ?_);refine bx_ 3 #[.int .i64 a1_0,.slice A1_1 l1_1.length c1_1] 83 ?_;intro gb409 hg w19 hbox hb;replace HB := nb_ hg hbox hb;obtain ⟨BK409,GW409,GE409,HB⟩ := HB;have NB408_409 := Aside0.mk ((nl_ BK408 hg));have NB409_408 := Aside0.mk ((ng_ BK408 hg));replace BK408 := Aside0.mk (blk_below (kb_ BK408) hb);clear hb hbox hg;have hnb20 := NB408_409.out;have hnc20 := NB409_408.out;obtain ⟨⟨hcz21_0,hcz21_1⟩,hfz21_0,hfz21_1⟩ := cl2_ BK408.out;obtain ⟨⟨hcz22_0,hcz22_1⟩,hfz22_0,hfz22_1⟩ := cl2_ BK409.out))
  go_ret
  exact ⟨rf_,b_⟩

end Go.Proofs.YthplaakckfhaaaaGreat.XCr
