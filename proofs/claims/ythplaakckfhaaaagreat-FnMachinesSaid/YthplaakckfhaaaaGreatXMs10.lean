/- Proved: a call of each Go function here comes to what its Lean function tells. -/
import Derived.Test.YthplaakckfhaaaaGreatXMs0
import Derived.Test.YthplaakckfhaaaaGreatXMs3
import Derived.Test.YthplaakckfhaaaaGreatXMs6
import Derived.Test.YthplaakckfhaaaaGreatXMs7
import Derived.Test.YthplaakckfhaaaaGreatXMs8
import Derived.Test.YthplaakckfhaaaaGreatXMs9
namespace Go.Proofs.YthplaakckfhaaaaGreat.XMs
open Go.RowKit Go.Proofs.YthplaakckfhaaaaGreat.Aid Go.Proofs.YthplaakckfhaaaaGreatW.PrintWords Go.Proofs.YthplaakckfhaaaaGreatW.PrintLast Go.Proofs.YthplaakckfhaaaaGreatW.PrintMore
set_option linter.unusedVariables false
set_option maxHeartbeats 8000000
set_option maxRecDepth 100000
set_option linter.unusedSimpArgs false

/-! ### impl_Clear: function 8 -/
theorem hold_8 {p : Prop} (h : Aside0 p) : p := h.out
theorem ty_8 {w : World} {k : Nat} {a b : List Nat} (h1 : ∃ q, q ∈ a ∧ ∃ cs, w.heap[k]? = some (.cells cs q (0, 0))) (h2 : ∃ q, q ∈ b ∧ ∃ cs, w.heap[k]? = some (.cells cs q (0, 0))) (hd : ∀ q, q ∈ a → ¬ q ∈ b) : False := by
 obtain ⟨q,hq,cs,h1⟩ := h1
 obtain ⟨q2,hq2,cs2,h2⟩ := h2
 rw [h1] at h2
 injection h2 with h2
 injection h2 with _ h2
 exact hd q hq (h2 ▸ hq2)
def impl_Clear.f (k : Nat) (a0_0 : Bool) (l0_1 : List (S83)) (l0_2 : List (S50)) (l0_3 : List Int) (a1 a2 : Int) (d : Bool) : Option (Bool × (List (S83)) × (List (S50)) × List Int × Bool) := (impl_isMachineOk.f k a0_0 l0_1 l0_2 l0_3).bind fun t => if t = true then ((impl_isId.f a1).bind fun t2 => if t2 = true then ((if d = true then impl_Machine_canClear.f k l0_3 a1 else some true).bind fun t3 => if t3 = true then ((impl_cloneMachine.f k a0_0 l0_1 l0_2 l0_3).bind fun c => (impl_Machine_clear.f k c.2.2.1 c.2.2.2 a1 a2 d).bind fun q => some (c.1, c.2.1, q.1, q.2, true)) else some (false, [], [], [], false)) else some (false, [], [], [], false)) else some (false, [], [], [], false)
theorem impl_Clear.calls (k : Nat) (a0_0 : Bool) (A0_1 : Option Addr) (c0_1 : Nat) (l0_1 : List (S83)) (A0_2 : Option Addr) (c0_2 : Nat) (l0_2 : List (S50)) (A0_3 : Option Addr) (c0_3 : Nat) (l0_3 : List Int) (a1 a2 : Int) (d : Bool) (r1 : Bool) (r2 : List (S83)) (r3 : List (S50)) (r4 : List Int) (r5 : Bool) (w : World) (hr0_1 : Kd.C k83 w A0_1 l0_1.length l0_1) (hc0_1 : l0_1.length ≤ c0_1) (hr0_2 : Kd.C k50 w A0_2 l0_2.length l0_2) (hc0_2 : l0_2.length ≤ c0_2) (hr0_3 : Kd.C (Kd.int .i64) w A0_3 l0_3.length l0_3) (hc0_3 : l0_3.length ≤ c0_3) (h : impl_Clear.f k a0_0 l0_1 l0_2 l0_3 a1 a2 d = some (r1, r2, r3, r4, r5)) :
    Calls Tryz.prog 8 #[.agg #[.bool a0_0, .slice A0_1 l0_1.length c0_1, .slice A0_2 l0_2.length c0_2, .slice A0_3 l0_3.length c0_3], .int .i64 a1, .int .i64 a2, .bool d] w fun e w' => ∃ v1_ v2_ v3_ : Value, e = .returned (.tuple #[.agg #[.bool r1, v1_, v2_, v3_], .bool r5]) ∧ Kd.S k83 83 w' w.heap.size (fun _ => True) v1_ r2 ∧ Kd.S k50 50 w' w.heap.size (fun _ => True) v2_ r3 ∧ Kd.R (Kd.int .i64) 2 w' w.heap.size (fun _ => True) v3_ r4 ∧ Below w.heap.size w w' := by
 have hu := Tryz.underlying31
 have HR1 := ak hr0_1
 have HC1 := ak hc0_1
 clear hr0_1 hc0_1
 have HR2 := ak hr0_2
 have HC2 := ak hc0_2
 clear hr0_2 hc0_2
 have HR3 := ak hr0_3
 have HC3 := ak hc0_3
 clear hr0_3 hc0_3
 obtain ⟨t,E0,h1⟩ := Option.bind_eq_some_iff.1 h
 clear h
 have H1 := ak h1
 have F0 := ak E0
 clear h1 E0
 go_enter Tryz.func8,Tryz.ntmps8
 go_wp2_with ((with_reducible refine gate_dst (N := 4) rfl ?_);refine bx_ 4 #[.bool a0_0,.slice A0_1 l0_1.length c0_1,.slice A0_2 l0_2.length c0_2,.slice A0_3 l0_3.length c0_3] 31 ?_;intro ga hg w1 hbox hb;have hge := ak (Nat.le_of_eq hg.symm);clear hg;refine hold_8 ?_)
 refine ⟨?_⟩
 have D1 := ak hb
 have BM := ak hbox
 clear hb hbox hge
 go_wp2_with ((with_reducible refine gate_dst (N := 8) rfl ?_);refine bx_ 8 #[.bool false,.slice none 0 0,.slice none 0 0,.slice none 0 0] 31 ?_;intro gr hg w2 hbox hb;have hge := ak (Nat.le_of_eq hg.symm);clear hg;refine hold_8 ?_)
 refine ⟨?_⟩
 have GR : Aside0 (w.heap.size ≤ gr) := ⟨Nat.le_trans D1.out.size hge.out⟩
 have D2 := ak (below_step D1.out hb)
 have BM := ak (blk_below BM.out hb)
 have BR := ak hbox
 clear hb hbox hge
 have hcga2_0 : w2.cell? ⟨ga,0,none⟩ = some (.bool a0_0) := (blk_cell BM.out 0).trans rfl
 have hcga2_1 : w2.cell? ⟨ga,1,none⟩ = some (.slice A0_1 l0_1.length c0_1) := (blk_cell BM.out 1).trans rfl
 have hcga2_2 : w2.cell? ⟨ga,2,none⟩ = some (.slice A0_2 l0_2.length c0_2) := (blk_cell BM.out 2).trans rfl
 have hcga2_3 : w2.cell? ⟨ga,3,none⟩ = some (.slice A0_3 l0_3.length c0_3) := (blk_cell BM.out 3).trans rfl
 go_wp2_with ((with_reducible refine gcal_ (f := 36) rfl ?_);refine gz_ (some 12) Tryz.func36 #[.agg #[.bool a0_0,.slice A0_1 l0_1.length c0_1,.slice A0_2 l0_2.length c0_2,.slice A0_3 l0_3.length c0_3]] ?_;refine (impl_isMachineOk.calls k a0_0 A0_1 c0_1 l0_1 A0_2 c0_2 l0_2 A0_3 c0_3 l0_3 t _ (Kd.C_below HR1.out D2.out) HC1.out (Kd.C_below HR2.out D2.out) HC2.out (Kd.C_below HR3.out D2.out) HC3.out F0.out).mono ?_;rintro e w2b ⟨rfl,B⟩;refine ⟨_,rfl,?_⟩;refine hold_8 ?_)
 refine ⟨?_⟩
 have D3 := ak (below_step D2.out B)
 have BM := ak (blk_below BM.out B)
 have BR := ak (blk_below BR.out B)
 clear B
 obtain ⟨⟨hcgr3_0,hcgr3_1,hcgr3_2,hcgr3_3⟩,hfr3_0,hfr3_1,hfr3_2,hfr3_3⟩ := cl4_ BR.out
 cases t with
  | false =>
  have h1 := H1.out
  rw [if_neg (by simp)] at h1
  clear H1
  simp only [Option.some.injEq,Prod.mk.injEq] at h1
  obtain ⟨rfl,rfl,rfl,rfl,rfl⟩ := h1
  go_wp2
  refine bodyPost_ret (results_ct rfl _ _ gr 31 #[.bool false,.slice none 0 0,.slice none 0 0,.slice none 0 0] (0,0) _ rfl (pt4_ BR.out _ _ _ _) Tryz.underlying31 rfl (by kernel_rfl)) rfl ?_
  exact ⟨.slice none 0 0,.slice none 0 0,.slice none 0 0,by first|rfl|(simp;done),Kd.S_nil _ _ _ _ _,Kd.S_nil _ _ _ _ _,Kd.R_nil _ _ _ _ _,below_set (below_set (below_set (below_set D3.out GR.out) GR.out) GR.out) GR.out⟩
  | true =>
 have h1 := H1.out
 rw [if_pos rfl] at h1
 clear H1
 obtain ⟨t2,E9,h2⟩ := Option.bind_eq_some_iff.1 h1
 clear h1
 have H1 := ak h2
 have F9 := ak E9
 clear h2 E9
 go_wp2_with (go_at_call 37;refine (impl_isId.calls a1 t2 _ F9.out).mono ?_;rintro e w3a ⟨rfl,B0⟩;(try dsimp only);refine hold_8 ?_)
 refine ⟨?_⟩
 have B := B0.below
 have D3 := ak (below_step D3.out B)
 have BM := ak (blk_below BM.out B)
 have BR := ak (blk_below BR.out B)
 clear B B0
 clear hcgr3_0 hfr3_0 hcgr3_1 hfr3_1 hcgr3_2 hfr3_2 hcgr3_3 hfr3_3
 obtain ⟨⟨hcgr4_0,hcgr4_1,hcgr4_2,hcgr4_3⟩,hfr4_0,hfr4_1,hfr4_2,hfr4_3⟩ := cl4_ BR.out
 have hcga4_0 : w3a.cell? ⟨ga,0,none⟩ = some (.bool a0_0) := (blk_cell BM.out 0).trans rfl
 have hcga4_1 : w3a.cell? ⟨ga,1,none⟩ = some (.slice A0_1 l0_1.length c0_1) := (blk_cell BM.out 1).trans rfl
 have hcga4_2 : w3a.cell? ⟨ga,2,none⟩ = some (.slice A0_2 l0_2.length c0_2) := (blk_cell BM.out 2).trans rfl
 have hcga4_3 : w3a.cell? ⟨ga,3,none⟩ = some (.slice A0_3 l0_3.length c0_3) := (blk_cell BM.out 3).trans rfl
 cases t2 with
  | false =>
  have h1 := H1.out
  rw [if_neg (by simp)] at h1
  clear H1
  simp only [Option.some.injEq,Prod.mk.injEq] at h1
  obtain ⟨rfl,rfl,rfl,rfl,rfl⟩ := h1
  go_wp2
  refine bodyPost_ret (results_ct rfl _ _ gr 31 #[.bool false,.slice none 0 0,.slice none 0 0,.slice none 0 0] (0,0) _ rfl (pt4_ BR.out _ _ _ _) Tryz.underlying31 rfl (by kernel_rfl)) rfl ?_
  exact ⟨.slice none 0 0,.slice none 0 0,.slice none 0 0,by first|rfl|(simp;done),Kd.S_nil _ _ _ _ _,Kd.S_nil _ _ _ _ _,Kd.R_nil _ _ _ _ _,below_set (below_set (below_set (below_set D3.out GR.out) GR.out) GR.out) GR.out⟩
  | true =>
 have h1 := H1.out
 rw [if_pos rfl] at h1
 clear H1
 obtain ⟨t3,E9,h2⟩ := Option.bind_eq_some_iff.1 h1
 clear h1
 have H1 := ak h2
 clear h2
 cases d with
  | false =>
  obtain rfl := Option.some.inj E9
  clear E9
  have h1 := H1.out
  rw [if_pos rfl] at h1
  clear H1
  obtain ⟨⟨b,p1,p2,p3⟩,E1,h2⟩ := Option.bind_eq_some_iff.1 h1
  clear h1
  obtain ⟨⟨q2,q3⟩,E2,h3⟩ := Option.bind_eq_some_iff.1 h2
  clear h2
  simp only [Option.some.injEq,Prod.mk.injEq] at h3
  obtain ⟨rfl,rfl,rfl,rfl,rfl⟩ := h3
  have F1 := ak E1
  have F2 := ak E2
  clear E1 E2
  go_wp2_with ((with_reducible refine gcal_ (f := 39) rfl ?_);refine gz_ (some 29) Tryz.func39 #[.agg #[.bool a0_0,.slice A0_1 l0_1.length c0_1,.slice A0_2 l0_2.length c0_2,.slice A0_3 l0_3.length c0_3]] ?_;refine (impl_cloneMachine.calls k a0_0 A0_1 c0_1 l0_1 A0_2 c0_2 l0_2 A0_3 c0_3 l0_3 b p1 p2 p3 _ (Kd.C_below HR1.out D3.out) HC1.out (Kd.C_below HR2.out D3.out) HC2.out (Kd.C_below HR3.out D3.out) HC3.out F1.out).mono ?_;rintro e w4 ⟨v1,v2,v3,rfl,S1,S2,S3,B⟩;refine ⟨_,rfl,?_⟩;refine hold_8 ?_)
  refine ⟨?_⟩
  clear hcgr4_0 hfr4_0 hcga4_0 hcgr4_1 hfr4_1 hcga4_1 hcgr4_2 hfr4_2 hcga4_2 hcgr4_3 hfr4_3 hcga4_3
  have T1 := ak S1
  have T2 := ak S2
  have T3 := ak S3
  have LG := ak (blk_lt BR.out)
  have G := ak B
  have D4 := ak (below_step D3.out B)
  have BR := ak (blk_below BR.out B)
  clear S1 S2 S3 B BM
  obtain ⟨A1,c1,e1_⟩ := Kd.S_slice T1.out
  subst e1_
  obtain ⟨A2,c2,e2_⟩ := Kd.S_slice T2.out
  subst e2_
  obtain ⟨A3,c3,e3_⟩ := Kd.R_slice T3.out
  subst e3_
  go_wp2_with ((with_reducible refine gate_dst (N := 10) rfl ?_);refine bx_ 10 #[.bool false,.slice none 0 0,.slice none 0 0,.slice none 0 0] 31 ?_;intro go hg w5 hbox hb;have hge := ak (Nat.le_of_eq hg.symm);clear hg;refine hold_8 ?_)
  refine ⟨?_⟩
  have BZ := ak hbox
  have Q0 := ak hb
  have HGE := hge
  clear hbox hb hge
  obtain ⟨⟨hcgoy_0, hcgoy_1, hcgoy_2, hcgoy_3⟩, hfy_0, hfy_1, hfy_2, hfy_3⟩ := cl4_ BZ.out
  go_upto_region 4 with (fail)
  obtain ⟨n0_, n1_⟩ := fl4_ Q0.out HGE.out BZ.out (.bool b) (.slice A1 p1.length c1) (.slice A2 p2.length c2) (.slice A3 p3.length c3)
  clear BZ Q0
  clear hcgoy_0 hfy_0 hcgoy_1 hfy_1 hcgoy_2 hfy_2 hcgoy_3 hfy_3
  generalize ((((w5.setCell ⟨go,0,none⟩ (.bool b)).setCell ⟨go,1,none⟩ (.slice A1 p1.length c1)).setCell ⟨go,2,none⟩ (.slice A2 p2.length c2)).setCell ⟨go,3,none⟩ (.slice A3 p3.length c3)) = w6 at n0_ n1_ ⊢
  have B := n0_.out
  have BG := n1_
  clear n0_ n1_
  have T1 := ak (Kd.S_bound (Kd.S_below T1.out B))
  have T2 := ak (Kd.S_bound (Kd.S_below T2.out B))
  have T3 := ak (Kd.R_bound (Kd.R_below T3.out B))
  have GO : Aside0 (w3a.heap.size ≤ go) := ⟨Nat.le_trans G.out.size HGE.out⟩
  have G := ak (below_step G.out B)
  have D6 := ak (below_step D4.out B)
  have BR := ak (blk_below BR.out B)
  clear B D4
  have NG : Aside0 (gr ≠ go) := ⟨Nat.ne_of_lt (Nat.lt_of_lt_of_le LG.out GO.out)⟩
  go_wp2_with ((with_reducible refine gcal_ (f := 40) rfl ?_);refine gz_ (some 33) Tryz.func40 #[.pointer (some ⟨go,0,none⟩),.int .i64 a1,.int .i64 a2,.bool false] ?_;refine (impl_Machine_clear.calls k (fun k_ => True ∧ w3a.heap.size ≤ k_ ∧ k_ < w6.heap.size ∧ ∃ q,q ∈ 50 :: (k50).E ∧ ∃ cells,w6.heap[k_]? = some (.cells cells q (0,0))) (fun k_ => True ∧ w3a.heap.size ≤ k_ ∧ k_ < w6.heap.size ∧ ∃ q,q ∈ 2 :: ((Kd.int .i64)).E ∧ ∃ cells,w6.heap[k_]? = some (.cells cells q (0,0))) go b (.slice A1 p1.length c1) A2 c2 p2 A3 c3 p3 a1 a2 false q2 q3 w3a _ G.out GO.out BG.out (fun hs_ => ty_8 ⟨31,List.mem_singleton.2 rfl,_,BG.out⟩ hs_.2.2.2 (by decide)) (fun hs_ => ty_8 ⟨31,List.mem_singleton.2 rfl,_,BG.out⟩ hs_.2.2.2 (by decide)) (fun k_ h1_ h2_ => ty_8 h1_.2.2.2 h2_.2.2.2 (by decide)) T2.out T3.out F2.out).mono ?_;rintro e w7 ⟨rfl,A4,c4,A5,c5,BG2,S2,S3,B,K⟩;refine ⟨_,rfl,?_⟩;refine hold_8 ?_)
  refine ⟨?_⟩
  have T1 := ak (Kd.S_kept T1.out K (fun k_ hk_ hs_ => hs_.elim (fun h_ => h_.elim (fun h_ => ty_8 hk_.2.2.2 h_.2.2.2 (by decide)) (fun h_ => ty_8 hk_.2.2.2 h_.2.2.2 (by decide))) (fun e_ => ty_8 (e_ ▸ hk_.2.2.2) ⟨31,List.mem_singleton.2 rfl,_,BG.out⟩ (by decide))))
  have T2 := ak S2
  have T3 := ak S3
  have BR2 := ak (blk_kept BR.out K (fun hs_ => hs_.elim (fun h_ => h_.elim (fun hs_ => ty_8 ⟨31,List.mem_singleton.2 rfl,_,BR.out⟩ hs_.2.2.2 (by decide)) (fun hs_ => ty_8 ⟨31,List.mem_singleton.2 rfl,_,BR.out⟩ hs_.2.2.2 (by decide))) NG.out))
  have BG := ak BG2
  have D7 := ak (below_step D3.out B)
  clear S2 S3 B K BG2 BR
  have BR := BR2
  clear BR2
  have hcgo7_0 : w7.cell? ⟨go,0,none⟩ = some (.bool b) := (blk_cell BG.out 0).trans rfl
  have hcgo7_1 : w7.cell? ⟨go,1,none⟩ = some (.slice A1 p1.length c1) := (blk_cell BG.out 1).trans rfl
  have hcgo7_2 : w7.cell? ⟨go,2,none⟩ = some (.slice A4 q2.length c4) := (blk_cell BG.out 2).trans rfl
  have hcgo7_3 : w7.cell? ⟨go,3,none⟩ = some (.slice A5 q3.length c5) := (blk_cell BG.out 3).trans rfl
  obtain ⟨⟨hcgr7_0,hcgr7_1,hcgr7_2,hcgr7_3⟩,hfr7_0,hfr7_1,hfr7_2,hfr7_3⟩ := cl4_ BR.out
  go_wp2
  refine bodyPost_ret (results_ct rfl _ _ gr 31 #[.bool b,.slice A1 p1.length c1,.slice A4 q2.length c4,.slice A5 q3.length c5] (0,0) _ rfl (pt4_ BR.out _ _ _ _) Tryz.underlying31 rfl (by kernel_rfl)) rfl ?_
  exact ⟨.slice A1 p1.length c1,.slice A4 q2.length c4,.slice A5 q3.length c5,by first|rfl|(simp;done),Kd.S_mono (Kd.S_far (p := ⟨gr,3,none⟩) (Kd.S_far (p := ⟨gr,2,none⟩) (Kd.S_far (p := ⟨gr,1,none⟩) (Kd.S_far (p := ⟨gr,0,none⟩) (Kd.S_types (Kd.S_lower T1.out D3.out.size) BR.out (by decide)) (fun _ h_ => h_.2) (.bool b)) (fun _ h_ => h_.2) (.slice A1 p1.length c1)) (fun _ h_ => h_.2) (.slice A4 q2.length c4)) (fun _ h_ => h_.2) (.slice A5 q3.length c5)) (fun _ _ => trivial),Kd.S_mono (Kd.S_far (p := ⟨gr,3,none⟩) (Kd.S_far (p := ⟨gr,2,none⟩) (Kd.S_far (p := ⟨gr,1,none⟩) (Kd.S_far (p := ⟨gr,0,none⟩) (Kd.S_types (Kd.S_lower T2.out D3.out.size) BR.out (by decide)) (fun _ h_ => h_.2) (.bool b)) (fun _ h_ => h_.2) (.slice A1 p1.length c1)) (fun _ h_ => h_.2) (.slice A4 q2.length c4)) (fun _ h_ => h_.2) (.slice A5 q3.length c5)) (fun _ _ => trivial),Kd.R_mono (Kd.R_far (p := ⟨gr,3,none⟩) (Kd.R_far (p := ⟨gr,2,none⟩) (Kd.R_far (p := ⟨gr,1,none⟩) (Kd.R_far (p := ⟨gr,0,none⟩) (Kd.R_types (Kd.R_lower T3.out D3.out.size) BR.out (by decide)) (fun _ h_ => h_.2) (.bool b)) (fun _ h_ => h_.2) (.slice A1 p1.length c1)) (fun _ h_ => h_.2) (.slice A4 q2.length c4)) (fun _ h_ => h_.2) (.slice A5 q3.length c5)) (fun _ _ => trivial),below_set (below_set (below_set (below_set D7.out GR.out) GR.out) GR.out) GR.out⟩
  | true =>
 have F8 : Aside0 (impl_Machine_canClear.f k l0_3 a1 = some t3) := ⟨E9⟩
 clear E9
 go_wp2_with (go_at_call 38;refine (impl_Machine_canClear.calls k ga (.bool a0_0) (.slice A0_1 l0_1.length c0_1) (.slice A0_2 l0_2.length c0_2) A0_3 c0_3 l0_3 a1 t3 _ BM.out (Kd.C_below HR3.out D3.out) HC3.out F8.out).mono ?_;rintro e w3b ⟨rfl,B⟩;(try dsimp only);refine hold_8 ?_)
 refine ⟨?_⟩
 have D3 := ak (below_step D3.out B)
 have BM := ak (blk_below BM.out B)
 have BR := ak (blk_below BR.out B)
 clear B
 clear hcgr4_0 hfr4_0 hcga4_0 hcgr4_1 hfr4_1 hcga4_1 hcgr4_2 hfr4_2 hcga4_2 hcgr4_3 hfr4_3 hcga4_3
 obtain ⟨⟨hcgr5_0,hcgr5_1,hcgr5_2,hcgr5_3⟩,hfr5_0,hfr5_1,hfr5_2,hfr5_3⟩ := cl4_ BR.out
 have hcga5_0 : w3b.cell? ⟨ga,0,none⟩ = some (.bool a0_0) := (blk_cell BM.out 0).trans rfl
 have hcga5_1 : w3b.cell? ⟨ga,1,none⟩ = some (.slice A0_1 l0_1.length c0_1) := (blk_cell BM.out 1).trans rfl
 have hcga5_2 : w3b.cell? ⟨ga,2,none⟩ = some (.slice A0_2 l0_2.length c0_2) := (blk_cell BM.out 2).trans rfl
 have hcga5_3 : w3b.cell? ⟨ga,3,none⟩ = some (.slice A0_3 l0_3.length c0_3) := (blk_cell BM.out 3).trans rfl
 cases t3 with
  | false =>
  have h1 := H1.out
  rw [if_neg (by simp)] at h1
  clear H1
  simp only [Option.some.injEq,Prod.mk.injEq] at h1
  obtain ⟨rfl,rfl,rfl,rfl,rfl⟩ := h1
  go_wp2
  refine bodyPost_ret (results_ct rfl _ _ gr 31 #[.bool false,.slice none 0 0,.slice none 0 0,.slice none 0 0] (0,0) _ rfl (pt4_ BR.out _ _ _ _) Tryz.underlying31 rfl (by kernel_rfl)) rfl ?_
  exact ⟨.slice none 0 0,.slice none 0 0,.slice none 0 0,by first|rfl|(simp;done),Kd.S_nil _ _ _ _ _,Kd.S_nil _ _ _ _ _,Kd.R_nil _ _ _ _ _,below_set (below_set (below_set (below_set D3.out GR.out) GR.out) GR.out) GR.out⟩
  | true =>
  have h1 := H1.out
  rw [if_pos rfl] at h1
  clear H1
  obtain ⟨⟨b,p1,p2,p3⟩,E1,h2⟩ := Option.bind_eq_some_iff.1 h1
  clear h1
  obtain ⟨⟨q2,q3⟩,E2,h3⟩ := Option.bind_eq_some_iff.1 h2
  clear h2
  simp only [Option.some.injEq,Prod.mk.injEq] at h3
  obtain ⟨rfl,rfl,rfl,rfl,rfl⟩ := h3
  have F1 := ak E1
  have F2 := ak E2
  clear E1 E2
  go_wp2_with ((with_reducible refine gcal_ (f := 39) rfl ?_);refine gz_ (some 29) Tryz.func39 #[.agg #[.bool a0_0,.slice A0_1 l0_1.length c0_1,.slice A0_2 l0_2.length c0_2,.slice A0_3 l0_3.length c0_3]] ?_;refine (impl_cloneMachine.calls k a0_0 A0_1 c0_1 l0_1 A0_2 c0_2 l0_2 A0_3 c0_3 l0_3 b p1 p2 p3 _ (Kd.C_below HR1.out D3.out) HC1.out (Kd.C_below HR2.out D3.out) HC2.out (Kd.C_below HR3.out D3.out) HC3.out F1.out).mono ?_;rintro e w4 ⟨v1,v2,v3,rfl,S1,S2,S3,B⟩;refine ⟨_,rfl,?_⟩;refine hold_8 ?_)
  refine ⟨?_⟩
  clear hcgr5_0 hfr5_0 hcga5_0 hcgr5_1 hfr5_1 hcga5_1 hcgr5_2 hfr5_2 hcga5_2 hcgr5_3 hfr5_3 hcga5_3
  have T1 := ak S1
  have T2 := ak S2
  have T3 := ak S3
  have LG := ak (blk_lt BR.out)
  have G := ak B
  have D4 := ak (below_step D3.out B)
  have BR := ak (blk_below BR.out B)
  clear S1 S2 S3 B BM
  obtain ⟨A1,c1,e1_⟩ := Kd.S_slice T1.out
  subst e1_
  obtain ⟨A2,c2,e2_⟩ := Kd.S_slice T2.out
  subst e2_
  obtain ⟨A3,c3,e3_⟩ := Kd.R_slice T3.out
  subst e3_
  go_wp2_with ((with_reducible refine gate_dst (N := 10) rfl ?_);refine bx_ 10 #[.bool false,.slice none 0 0,.slice none 0 0,.slice none 0 0] 31 ?_;intro go hg w5 hbox hb;have hge := ak (Nat.le_of_eq hg.symm);clear hg;refine hold_8 ?_)
  refine ⟨?_⟩
  have BZ := ak hbox
  have Q0 := ak hb
  have HGE := hge
  clear hbox hb hge
  obtain ⟨⟨hcgoy_0, hcgoy_1, hcgoy_2, hcgoy_3⟩, hfy_0, hfy_1, hfy_2, hfy_3⟩ := cl4_ BZ.out
  go_upto_region 4 with (fail)
  obtain ⟨n0_, n1_⟩ := fl4_ Q0.out HGE.out BZ.out (.bool b) (.slice A1 p1.length c1) (.slice A2 p2.length c2) (.slice A3 p3.length c3)
  clear BZ Q0
  clear hcgoy_0 hfy_0 hcgoy_1 hfy_1 hcgoy_2 hfy_2 hcgoy_3 hfy_3
  generalize ((((w5.setCell ⟨go,0,none⟩ (.bool b)).setCell ⟨go,1,none⟩ (.slice A1 p1.length c1)).setCell ⟨go,2,none⟩ (.slice A2 p2.length c2)).setCell ⟨go,3,none⟩ (.slice A3 p3.length c3)) = w6 at n0_ n1_ ⊢
  have B := n0_.out
  have BG := n1_
  clear n0_ n1_
  have T1 := ak (Kd.S_bound (Kd.S_below T1.out B))
  have T2 := ak (Kd.S_bound (Kd.S_below T2.out B))
  have T3 := ak (Kd.R_bound (Kd.R_below T3.out B))
  have GO : Aside0 (w3b.heap.size ≤ go) := ⟨Nat.le_trans G.out.size HGE.out⟩
  have G := ak (below_step G.out B)
  have D6 := ak (below_step D4.out B)
  have BR := ak (blk_below BR.out B)
  clear B D4
  have NG : Aside0 (gr ≠ go) := ⟨Nat.ne_of_lt (Nat.lt_of_lt_of_le LG.out GO.out)⟩
  go_wp2_with ((with_reducible refine gcal_ (f := 40) rfl ?_);refine gz_ (some 33) Tryz.func40 #[.pointer (some ⟨go,0,none⟩),.int .i64 a1,.int .i64 a2,.bool true] ?_;refine (impl_Machine_clear.calls k (fun k_ => True ∧ w3b.heap.size ≤ k_ ∧ k_ < w6.heap.size ∧ ∃ q,q ∈ 50 :: (k50).E ∧ ∃ cells,w6.heap[k_]? = some (.cells cells q (0,0))) (fun k_ => True ∧ w3b.heap.size ≤ k_ ∧ k_ < w6.heap.size ∧ ∃ q,q ∈ 2 :: ((Kd.int .i64)).E ∧ ∃ cells,w6.heap[k_]? = some (.cells cells q (0,0))) go b (.slice A1 p1.length c1) A2 c2 p2 A3 c3 p3 a1 a2 true q2 q3 w3b _ G.out GO.out BG.out (fun hs_ => ty_8 ⟨31,List.mem_singleton.2 rfl,_,BG.out⟩ hs_.2.2.2 (by decide)) (fun hs_ => ty_8 ⟨31,List.mem_singleton.2 rfl,_,BG.out⟩ hs_.2.2.2 (by decide)) (fun k_ h1_ h2_ => ty_8 h1_.2.2.2 h2_.2.2.2 (by decide)) T2.out T3.out F2.out).mono ?_;rintro e w7 ⟨rfl,A4,c4,A5,c5,BG2,S2,S3,B,K⟩;refine ⟨_,rfl,?_⟩;refine hold_8 ?_)
  refine ⟨?_⟩
  have T1 := ak (Kd.S_kept T1.out K (fun k_ hk_ hs_ => hs_.elim (fun h_ => h_.elim (fun h_ => ty_8 hk_.2.2.2 h_.2.2.2 (by decide)) (fun h_ => ty_8 hk_.2.2.2 h_.2.2.2 (by decide))) (fun e_ => ty_8 (e_ ▸ hk_.2.2.2) ⟨31,List.mem_singleton.2 rfl,_,BG.out⟩ (by decide))))
  have T2 := ak S2
  have T3 := ak S3
  have BR2 := ak (blk_kept BR.out K (fun hs_ => hs_.elim (fun h_ => h_.elim (fun hs_ => ty_8 ⟨31,List.mem_singleton.2 rfl,_,BR.out⟩ hs_.2.2.2 (by decide)) (fun hs_ => ty_8 ⟨31,List.mem_singleton.2 rfl,_,BR.out⟩ hs_.2.2.2 (by decide))) NG.out))
  have BG := ak BG2
  have D7 := ak (below_step D3.out B)
  clear S2 S3 B K BG2 BR
  have BR := BR2
  clear BR2
  have hcgo7_0 : w7.cell? ⟨go,0,none⟩ = some (.bool b) := (blk_cell BG.out 0).trans rfl
  have hcgo7_1 : w7.cell? ⟨go,1,none⟩ = some (.slice A1 p1.length c1) := (blk_cell BG.out 1).trans rfl
  have hcgo7_2 : w7.cell? ⟨go,2,none⟩ = some (.slice A4 q2.length c4) := (blk_cell BG.out 2).trans rfl
  have hcgo7_3 : w7.cell? ⟨go,3,none⟩ = some (.slice A5 q3.length c5) := (blk_cell BG.out 3).trans rfl
  obtain ⟨⟨hcgr7_0,hcgr7_1,hcgr7_2,hcgr7_3⟩,hfr7_0,hfr7_1,hfr7_2,hfr7_3⟩ := cl4_ BR.out
  go_wp2
  refine bodyPost_ret (results_ct rfl _ _ gr 31 #[.bool b,.slice A1 p1.length c1,.slice A4 q2.length c4,.slice A5 q3.length c5] (0,0) _ rfl (pt4_ BR.out _ _ _ _) Tryz.underlying31 rfl (by kernel_rfl)) rfl ?_
  exact ⟨.slice A1 p1.length c1,.slice A4 q2.length c4,.slice A5 q3.length c5,by first|rfl|(simp;done),Kd.S_mono (Kd.S_far (p := ⟨gr,3,none⟩) (Kd.S_far (p := ⟨gr,2,none⟩) (Kd.S_far (p := ⟨gr,1,none⟩) (Kd.S_far (p := ⟨gr,0,none⟩) (Kd.S_types (Kd.S_lower T1.out D3.out.size) BR.out (by decide)) (fun _ h_ => h_.2) (.bool b)) (fun _ h_ => h_.2) (.slice A1 p1.length c1)) (fun _ h_ => h_.2) (.slice A4 q2.length c4)) (fun _ h_ => h_.2) (.slice A5 q3.length c5)) (fun _ _ => trivial),Kd.S_mono (Kd.S_far (p := ⟨gr,3,none⟩) (Kd.S_far (p := ⟨gr,2,none⟩) (Kd.S_far (p := ⟨gr,1,none⟩) (Kd.S_far (p := ⟨gr,0,none⟩) (Kd.S_types (Kd.S_lower T2.out D3.out.size) BR.out (by decide)) (fun _ h_ => h_.2) (.bool b)) (fun _ h_ => h_.2) (.slice A1 p1.length c1)) (fun _ h_ => h_.2) (.slice A4 q2.length c4)) (fun _ h_ => h_.2) (.slice A5 q3.length c5)) (fun _ _ => trivial),Kd.R_mono (Kd.R_far (p := ⟨gr,3,none⟩) (Kd.R_far (p := ⟨gr,2,none⟩) (Kd.R_far (p := ⟨gr,1,none⟩) (Kd.R_far (p := ⟨gr,0,none⟩) (Kd.R_types (Kd.R_lower T3.out D3.out.size) BR.out (by decide)) (fun _ h_ => h_.2) (.bool b)) (fun _ h_ => h_.2) (.slice A1 p1.length c1)) (fun _ h_ => h_.2) (.slice A4 q2.length c4)) (fun _ h_ => h_.2) (.slice A5 q3.length c5)) (fun _ _ => trivial),below_set (below_set (below_set (below_set D7.out GR.out) GR.out) GR.out) GR.out⟩

/-! ### laws_big: function 12 -/
def laws_big.f (l0 : List Int) : Option (Bool) := some (decide ((l0.length : Int) > 4096))
theorem laws_big.calls (A0 : Option Addr) (c0 : Nat) (l0 : List Int) (r : Bool) (w : World) (hr0 : Kd.C (Kd.int .u8) w A0 l0.length l0) (hc0 : l0.length ≤ c0) (h : laws_big.f l0 = some r) :
    Calls Tryz.prog 12 #[.slice A0 l0.length c0] w fun e w' => e = .returned (.bool r) ∧ Drawn0 w w' := by
 have HR0 := ak hr0
 have HC0 := ak hc0
 clear hr0 hc0
 have H : (some (decide ((l0.length : Int) > 4096))) = some r := h
 clear h
 obtain rfl := Option.some.inj H
 go_enter Tryz.func12,Tryz.ntmps12
 go_wp2
 go_ret
 exact ⟨rs_,by repeat (first|exact Drawn0.refl _|apply Drawn0.step)⟩

/-- A state of type 115 at block g of W; what its slices lead to came in by w0. -/
def IsS115 (w0 W : World) (g : Nat) (f0 : List Int) (f1 : Int) (f2 : Int) : Prop := ∃ A0 c0, W.heap[g]? = some (.cells #[.slice A0 f0.length c0, .int .i64 f1, .int .i64 f2] 115 (0, 0)) ∧ w0.heap.size ≤ g ∧ Kd.C (Kd.int .u8) w0 A0 f0.length f0
theorem IsS115.grown {w0 W : World} {g : Nat} {f0 : List Int} {f1 : Int} {f2 : Int} {W1 : World} {row : Option Nat} (h : IsS115 w0 W g f0 f1 f2) (hw : W.grownBy W1 row) (hne : some g ≠ row) : IsS115 w0 W1 g f0 f1 f2 := by
 obtain ⟨A0,c0,hb,hg,hr0⟩ := h
 exact ⟨A0,c0,blk_grown hb hw hne,hg,hr0⟩
theorem IsS115.kept {w0 W : World} {g : Nat} {f0 : List Int} {f1 : Int} {f2 : Int} {W1 : World} {S : Nat → Prop} (h : IsS115 w0 W g f0 f1 f2) (hk : Kept W W1 S) (hne : ¬ S g) : IsS115 w0 W1 g f0 f1 f2 := by
 obtain ⟨A0,c0,hb,hg,hr0⟩ := h
 exact ⟨A0,c0,blk_kept hb hk hne,hg,hr0⟩
theorem IsS115.below {w0 W : World} {g : Nat} {f0 : List Int} {f1 : Int} {f2 : Int} {W1 : World} (h : IsS115 w0 W g f0 f1 f2) (hw : Below W.heap.size W W1) : IsS115 w0 W1 g f0 f1 f2 := h.grown (grown_of_below hw none) (by simp)
theorem IsS115.alloc {w0 W : World} {g : Nat} {f0 : List Int} {f1 : Int} {f2 : Int} (h : IsS115 w0 W g f0 f1 f2) (o : Obj) : IsS115 w0 (W.alloc o) g f0 f1 f2 := h.below (below_alloc (Below.refl _ _) o)
theorem IsS115.drewN {w0 W : World} {g : Nat} {f0 : List Int} {f1 : Int} {f2 : Int} (h : IsS115 w0 W g f0 f1 f2) (m : Nat) : IsS115 w0 (W.drewN m) g f0 f1 f2 := h
theorem IsS115.drew {w0 W : World} {g : Nat} {f0 : List Int} {f1 : Int} {f2 : Int} (h : IsS115 w0 W g f0 f1 f2) : IsS115 w0 W.drew g f0 f1 f2 := h
theorem IsS115.at_ {w0 W : World} {g : Nat} {f0 : List Int} {f1 : Int} {f2 : Int} {w' : World} {m : Nat} (hq : W.drewN m = w') (h : IsS115 w0 W g f0 f1 f2) : IsS115 w0 w' g f0 f1 f2 := by subst hq; exact IsS115.drewN h m
theorem IsS115.apart {w0 W : World} {g : Nat} {f0 : List Int} {f1 : Int} {f2 : Int} {α : Type} {d : Kd α} {e : Nat} {base : Nat} {ok : Nat → Prop} {v : Value} {xs : List α} (h : IsS115 w0 W g f0 f1 f2) (ho : d.R e W base ok v xs) (ht : ∀ q, q ∈ e :: d.E → q ≠ 115) : d.R e W base (fun k => ok k ∧ k ≠ g) v xs := by
 obtain ⟨A0,c0,hb,hg,hr0⟩ := h
 exact Kd.R_types ho hb ht
theorem IsS115.lt {w0 W : World} {g : Nat} {f0 : List Int} {f1 : Int} {f2 : Int} (h : IsS115 w0 W g f0 f1 f2) : g < W.heap.size := by
 obtain ⟨A0,c0,hb,hg,hr0⟩ := h
 exact blk_lt hb
theorem IsS115.ge {w0 W : World} {g : Nat} {f0 : List Int} {f1 : Int} {f2 : Int} (h : IsS115 w0 W g f0 f1 f2) : w0.heap.size ≤ g := by
 obtain ⟨A0,c0,hb,hg,hr0⟩ := h
 exact hg
theorem IsS115.far {w0 W : World} {g : Nat} {f0 : List Int} {f1 : Int} {f2 : Int} {p : Addr} (h : IsS115 w0 W g f0 f1 f2) (hne : g ≠ p.block) (u : Value) : IsS115 w0 (W.setCell p u) g f0 f1 f2 := by
 obtain ⟨A0,c0,hb,hg,hr0⟩ := h
 exact ⟨A0,c0,blk_far hb hne u,hg,hr0⟩
theorem cellS115_0 {W : World} {g : Nat} {A0 : Option Addr} {c0 : Nat} {f0 : List Int} {f1 : Int} {f2 : Int} (h : W.heap[g]? = some (.cells #[.slice A0 f0.length c0, .int .i64 f1, .int .i64 f2] 115 (0, 0))) : W.cell? ⟨g, 0, none⟩ = some (.slice A0 f0.length c0) := (blk_cell h 0).trans rfl
theorem cellS115_1 {W : World} {g : Nat} {A0 : Option Addr} {c0 : Nat} {f0 : List Int} {f1 : Int} {f2 : Int} (h : W.heap[g]? = some (.cells #[.slice A0 f0.length c0, .int .i64 f1, .int .i64 f2] 115 (0, 0))) : W.cell? ⟨g, 1, none⟩ = some (.int .i64 f1) := (blk_cell h 1).trans rfl
theorem IsS115.set_1 {w0 W : World} {g : Nat} {f0 : List Int} {f1 : Int} {f2 : Int} (h : IsS115 w0 W g f0 f1 f2) (x : Int) : IsS115 w0 (W.setCell ⟨g, 1, none⟩ (.int .i64 x)) g f0 x f2 := by
 obtain ⟨A0,c0,hb,hg,hr0⟩ := h
 exact ⟨A0,c0,by simpa using blk_set hb 1 (.int .i64 x),hg,hr0⟩
theorem cellS115_2 {W : World} {g : Nat} {A0 : Option Addr} {c0 : Nat} {f0 : List Int} {f1 : Int} {f2 : Int} (h : W.heap[g]? = some (.cells #[.slice A0 f0.length c0, .int .i64 f1, .int .i64 f2] 115 (0, 0))) : W.cell? ⟨g, 2, none⟩ = some (.int .i64 f2) := (blk_cell h 2).trans rfl
theorem IsS115.set_2 {w0 W : World} {g : Nat} {f0 : List Int} {f1 : Int} {f2 : Int} (h : IsS115 w0 W g f0 f1 f2) (x : Int) : IsS115 w0 (W.setCell ⟨g, 2, none⟩ (.int .i64 x)) g f0 f1 x := by
 obtain ⟨A0,c0,hb,hg,hr0⟩ := h
 exact ⟨A0,c0,by simpa using blk_set hb 2 (.int .i64 x),hg,hr0⟩
/-! ### spec_l1New: function 50 -/
def spec_l1New.l0 : Nat → List Int → Int → Int → Option (List Int × Int × Int)
  | 0, _, _, _ => none
  | k + 1, x0, x3, x4 => if x4 < (x0.length : Int) then (if 0 ≤ x4 then (spec_l1New.l0 k x0 (Go.bits .and .i64 (wrap64 ((wrap64 ((wrap64 (x3 * 137)) + (wrap64 (rd x0 x4)))) + 11)) 1073741823) (wrap64 (x4 + 1))) else (none)) else (some (x0, 0, x3))
def spec_l1New.f (k : Nat) (l0 : List Int) : Option (List Int × Int × Int) := spec_l1New.l0 k l0 (wrap64 (101027 + (l0.length : Int))) 0

theorem spec_l1New.calls (k : Nat) (A0 : Option Addr) (c0 : Nat) (l0 : List Int) (r1 : List Int) (r2 : Int) (r3 : Int) (w0 w : World) (hB : Below w0.heap.size w0 w) (hr0 : Kd.C (Kd.int .u8) w0 A0 l0.length l0) (hc0 : l0.length ≤ c0) (h : spec_l1New.f k l0 = some (r1, r2, r3)) :
    Calls Tryz.prog 50 #[.slice A0 l0.length c0] w fun e w' => ∃ g_ : Nat, e = .returned (.pointer (some ⟨g_, 0, none⟩)) ∧ IsS115 w0 w' g_ r1 r2 r3 ∧ Below w0.heap.size w0 w' ∧ Below w.heap.size w w' := by
 have hu115 := Tryz.underlying115
 have HR0 := ak hr0
 have HC0 := ak hc0
 clear hr0 hc0
 have HBW := ak (Below.refl w.heap.size w)
 have HW0 := ak hB.size
 have HB := ak hB
 clear hB
 have H : (spec_l1New.l0 k l0 (wrap64 (101027 + (l0.length : Int))) 0) = some (r1,r2,r3) := h
 clear h
 have H' := ak H
 clear H
 go_enter Tryz.func50,Tryz.ntmps50
 go_wp2
 go_loopg [3,4] k (fun kq v3 v4 w' => ∃ (x3_1 : Int) (x4_1 : Int),v3 = .int .i64 x3_1 ∧ v4 = .int .i64 x4_1 ∧ Aside0 (spec_l1New.l0 kq l0 x3_1 x4_1 = some (r1,r2,r3)) ∧ Aside0 (kq ≤ k) ∧ Aside0 (Below w0.heap.size w0 w') ∧ Aside0 (Below w.heap.size w w'))
 case atStart => exact ⟨(wrap64 (101027 + (l0.length : Int))),(0),rs_,rs_,H',⟨Nat.le_refl _⟩,⟨b_⟩,⟨b_⟩⟩
 case round =>
  clear H'
  obtain ⟨x3_1,x4_1,rfl,rfl,HA,HK1,HB,HBW⟩ := hrel
  cases gk with
    | zero => exact absurd HA.out (by simp [spec_l1New.l0])
    | succ k1 =>
   have H := HA.out
   clear HA
   simp only [spec_l1New.l0] at H
   by_cases c2 : x4_1 < (l0.length : Int)
   ·rw [if_pos c2] at H
    have c2b0 : decide (x4_1 < (l0.length : Int)) = true := decide_eq_true c2
    clear c2
    by_cases c3 : 0 ≤ x4_1
    ·rw [if_pos c3] at H
     have c3b0 : decide (0 ≤ x4_1) = true := decide_eq_true c3
     clear c3
     have H' := ak H
     clear H
     have p206 : 0 ≤ (x4_1 : Int) := od_
     have q206 : x4_1 < (l0.length : Int) := od_
     obtain ⟨ad206,e206,hx206_0⟩ := Kd.at_int HR0.out x4_1 p206 q206
     cases e206
     replace hx206_0 := pw_cell_below HB.out hx206_0
     replace p206 := eq_true p206
     replace q206 := eq_true q206
     go_wp2
     go_roundg k1
     case measure => have := HK1.out;omega
     case rel => exact ⟨(Go.bits .and .i64 (wrap64 ((wrap64 ((wrap64 (x3_1 * 137)) + (wrap64 (rd l0 x4_1)))) + 11)) 1073741823),(wrap64 (x4_1 + 1)),rs_,rs_,H',⟨by have := HK1.out;omega⟩,⟨b_⟩,⟨b_⟩⟩
    ·rw [if_neg c3] at H
     exact absurd H (by simp)
   ·rw [if_neg c2] at H
    have c2b0 : decide (x4_1 < (l0.length : Int)) = false := decide_eq_false c2
    clear c2
    simp only [Option.some.injEq,Prod.mk.injEq] at H
    obtain ⟨rfl,rfl,rfl⟩ := H
    go_wp2_with (first|((with_reducible refine gate_dst (N := 27) rfl ?_);refine bx_ 27 #[.slice A0 l0.length c0,.int .i64 0,.int .i64 x3_1] 115 ?_;intro gb207 hg w4 hbox hb;have BK207 := ak (hbox);have GW207 := ak ((gw_ (w := w) hg));have GE207 := ak ((Nat.le_trans HW0.out (gw_ (w := w) hg) : w0.heap.size ≤ gb207));replace HBW := ak (below_step HBW.out hb);replace HB := ak (below_step b_ hb);clear hb hbox hg))
    go_ret
    exact ⟨_,rfl,(show IsS115 w0 _ gb207 l0 0 x3_1 from ⟨_,_,by (with_reducible repeat (first|refine blk_drewN ?_ _|refine blk_drew ?_|refine blk_alloc ?_ _));exact BK207.out,GE207.out,HR0.out⟩),b_,by repeat (first|(with_reducible first|exact HBW.out|apply below_alloc|apply pw_below_drewN|apply below_drew1|refine below_set ?_ GW207.out)|exact HBW.out)⟩

/-! ### spec_l1Byte: function 133 -/
def spec_l1Byte.f (s0_0 : List Int) (s0_1 : Int) (s0_2 : Int) : Option (Int × Int × Int) := if s0_1 < (s0_0.length : Int) then (if 0 ≤ s0_1 then (some (Go.bits .and .i64 (wrap64 ((Go.bits .and .i64 (Go.bits .xor .i64 ((wrap64 ((wrap64 (s0_2 * 6364136223846793005)) + 1442695040888963407)) / 8589934592) ((wrap64 ((wrap64 (s0_2 * 6364136223846793005)) + 1442695040888963407)) / 35184372088832)) 255) + (wrap64 (rd s0_0 s0_1)))) 255, wrap64 (s0_1 + 1), wrap64 ((wrap64 (s0_2 * 6364136223846793005)) + 1442695040888963407))) else (none)) else (some (Go.bits .and .i64 (Go.bits .xor .i64 ((wrap64 ((wrap64 (s0_2 * 6364136223846793005)) + 1442695040888963407)) / 8589934592) ((wrap64 ((wrap64 (s0_2 * 6364136223846793005)) + 1442695040888963407)) / 35184372088832)) 255, s0_1, wrap64 ((wrap64 (s0_2 * 6364136223846793005)) + 1442695040888963407)))
theorem spec_l1Byte.calls (g : Nat) (s0_0 : List Int) (s0_1 : Int) (s0_2 : Int) (r1 : Int) (r2 : Int) (r3 : Int) (w0 w : World) (hI : IsS115 w0 w g s0_0 s0_1 s0_2) (hB : Below w0.heap.size w0 w) (h : spec_l1Byte.f s0_0 s0_1 s0_2 = some (r1, r2, r3)) :
    Calls Tryz.prog 133 #[.pointer (some ⟨g, 0, none⟩)] w fun e w' => e = .returned (.int .i64 r1) ∧ IsS115 w0 w' g s0_0 r2 r3 ∧ Below w0.heap.size w0 w' ∧ KeepBut w w' g none := by
 have HI0 := ak hI
 have HK := ak (KeepBut.refl w g none)
 have HL := ak hB.size
 clear hI
 have HW0 := ak hB.size
 have HB := ak hB
 clear hB
 have H : (if s0_1 < (s0_0.length : Int) then (if 0 ≤ s0_1 then (some (Go.bits .and .i64 (wrap64 ((Go.bits .and .i64 (Go.bits .xor .i64 ((wrap64 ((wrap64 (s0_2 * 6364136223846793005)) + 1442695040888963407)) / 8589934592) ((wrap64 ((wrap64 (s0_2 * 6364136223846793005)) + 1442695040888963407)) / 35184372088832)) 255) + (wrap64 (rd s0_0 s0_1)))) 255,wrap64 (s0_1 + 1),wrap64 ((wrap64 (s0_2 * 6364136223846793005)) + 1442695040888963407))) else (none)) else (some (Go.bits .and .i64 (Go.bits .xor .i64 ((wrap64 ((wrap64 (s0_2 * 6364136223846793005)) + 1442695040888963407)) / 8589934592) ((wrap64 ((wrap64 (s0_2 * 6364136223846793005)) + 1442695040888963407)) / 35184372088832)) 255,s0_1,wrap64 ((wrap64 (s0_2 * 6364136223846793005)) + 1442695040888963407)))) = some (r1,r2,r3) := h
 clear h
 by_cases c2 : s0_1 < (s0_0.length : Int)
 ·rw [if_pos c2] at H
  have c2b0 : decide (s0_1 < (s0_0.length : Int)) = true := decide_eq_true c2
  clear c2
  by_cases c3 : 0 ≤ s0_1
  ·rw [if_pos c3] at H
   have c3b0 : decide (0 ≤ s0_1) = true := decide_eq_true c3
   clear c3
   simp only [Option.some.injEq,Prod.mk.injEq] at H
   obtain ⟨rfl,rfl,rfl⟩ := H
   obtain ⟨ASz4_0,cSz4_0,HGz4,hgz4,HSz4_0⟩ := HI0.out
   have hcz4_0 := cellS115_0 HGz4
   have hcz4_1 := cellS115_1 HGz4
   have hcz4_2 := cellS115_2 HGz4
   have hfz4_1 := blk_frozen HGz4 1
   have hfz4_2 := blk_frozen HGz4 2
   clear HGz4 hgz4
   have p208 : 0 ≤ (s0_1 : Int) := od_
   have q208 : s0_1 < (s0_0.length : Int) := od_
   obtain ⟨ad208,e208,hx208_0⟩ := Kd.at_int HSz4_0 s0_1 p208 q208
   cases e208
   have hn208_0 : ad208.block ≠ g := Nat.ne_of_lt (Nat.lt_of_lt_of_le (by have := World.block_lt_of_cell? _ _ hx208_0;first|rwa [add_block] at this|exact this) (IsS115.ge HI0.out))
   replace hx208_0 := pw_cell_below HB.out hx208_0
   replace hx208_0 := (cell_far (p := ⟨g,2,none⟩) (by first|(rw [add_block];exact hn208_0)|(show (Addr.add _ _).block ≠ _;rw [add_block];exact hn208_0)|exact hn208_0) (.int .i64 (wrap64 ((wrap64 (s0_2 * 6364136223846793005)) + 1442695040888963407)))).trans hx208_0
   (try have hy208_0 := fun (n_ : Nat) => (show (((w.drewN n_).setCell ⟨g,2,none⟩ (.int .i64 (wrap64 ((wrap64 (s0_2 * 6364136223846793005)) + 1442695040888963407))))).cell? _ = some _ from hx208_0))
   clear hn208_0
   replace p208 := eq_true p208
   replace q208 := eq_true q208
   go_enter Tryz.func133,Tryz.ntmps133
   go_wp2
   repeat (go_quiet (fail);try go_wp2)
   go_ret
   exact ⟨rf_,by repeat (first|(with_reducible first|exact HI0.out|apply IsS115.alloc|apply IsS115.drewN|apply IsS115.drew|apply IsS115.set_1|apply IsS115.set_2)|exact HI0.out),by repeat (first|(with_reducible first|exact HB.out|apply below_alloc|apply pw_below_drewN|apply below_drew1|refine below_set ?_ (IsS115.ge HI0.out))|exact HB.out),by repeat (first|(with_reducible first|exact HK.out|apply KeepBut.set_|apply keep_drewN|apply keep_drew|apply keep_alloc)|exact HK.out)⟩
  ·rw [if_neg c3] at H
   exact absurd H (by simp)
 ·rw [if_neg c2] at H
  have c2b0 : decide (s0_1 < (s0_0.length : Int)) = false := decide_eq_false c2
  clear c2
  simp only [Option.some.injEq,Prod.mk.injEq] at H
  obtain ⟨rfl,rfl,rfl⟩ := H
  obtain ⟨ASz5_0,cSz5_0,HGz5,hgz5,HSz5_0⟩ := HI0.out
  have hcz5_0 := cellS115_0 HGz5
  have hcz5_1 := cellS115_1 HGz5
  have hcz5_2 := cellS115_2 HGz5
  have hfz5_1 := blk_frozen HGz5 1
  have hfz5_2 := blk_frozen HGz5 2
  clear HGz5 hgz5
  go_enter Tryz.func133,Tryz.ntmps133
  go_wp2
  repeat (go_quiet (fail);try go_wp2)
  go_ret
  exact ⟨rf_,by repeat (first|(with_reducible first|exact HI0.out|apply IsS115.alloc|apply IsS115.drewN|apply IsS115.drew|apply IsS115.set_1|apply IsS115.set_2)|exact HI0.out),by repeat (first|(with_reducible first|exact HB.out|apply below_alloc|apply pw_below_drewN|apply below_drew1|refine below_set ?_ (IsS115.ge HI0.out))|exact HB.out),by repeat (first|(with_reducible first|exact HK.out|apply KeepBut.set_|apply keep_drewN|apply keep_drew|apply keep_alloc)|exact HK.out)⟩

/-! ### spec_l1Below: function 95 -/
def spec_l1Below.f (s0_0 : List Int) (s0_1 : Int) (s0_2 : Int) (a1 : Int) : Option (Int × Int × Int) := if a1 ≤ 0 then (some (0, s0_1, s0_2)) else (if a1 ≤ 256 then ((spec_l1Byte.f s0_0 s0_1 s0_2).bind fun bt209 => (if a1 = 0 then (none) else (some (Int.tmod bt209.1 a1, bt209.2.1, bt209.2.2)))) else ((spec_l1Byte.f s0_0 s0_1 s0_2).bind fun bt212 => ((spec_l1Byte.f s0_0 bt212.2.1 bt212.2.2).bind fun bt215 => ((spec_l1Byte.f s0_0 bt215.2.1 bt215.2.2).bind fun bt218 => ((spec_l1Byte.f s0_0 bt218.2.1 bt218.2.2).bind fun bt221 => (if a1 = 0 then (none) else (some (Int.tmod (wrap64 ((wrap64 ((wrap64 ((wrap64 (bt212.1 * 16777216)) + (wrap64 (bt215.1 * 65536)))) + (wrap64 (bt218.1 * 256)))) + bt221.1)) a1, bt221.2.1, bt221.2.2))))))))
theorem spec_l1Below.calls (g : Nat) (s0_0 : List Int) (s0_1 : Int) (s0_2 : Int) (a1 : Int) (r1 : Int) (r2 : Int) (r3 : Int) (w0 w : World) (hI : IsS115 w0 w g s0_0 s0_1 s0_2) (hB : Below w0.heap.size w0 w) (h : spec_l1Below.f s0_0 s0_1 s0_2 a1 = some (r1, r2, r3)) :
    Calls Tryz.prog 95 #[.pointer (some ⟨g, 0, none⟩), .int .i64 a1] w fun e w' => e = .returned (.int .i64 r1) ∧ IsS115 w0 w' g s0_0 r2 r3 ∧ Below w0.heap.size w0 w' ∧ KeepBut w w' g none := by
 have HI0 := ak hI
 have HK := ak (KeepBut.refl w g none)
 have HL := ak hB.size
 clear hI
 have HW0 := ak hB.size
 have HB := ak hB
 clear hB
 have H : (if a1 ≤ 0 then (some (0,s0_1,s0_2)) else (if a1 ≤ 256 then ((spec_l1Byte.f s0_0 s0_1 s0_2).bind fun bt209 => (if a1 = 0 then (none) else (some (Int.tmod bt209.1 a1,bt209.2.1,bt209.2.2)))) else ((spec_l1Byte.f s0_0 s0_1 s0_2).bind fun bt212 => ((spec_l1Byte.f s0_0 bt212.2.1 bt212.2.2).bind fun bt215 => ((spec_l1Byte.f s0_0 bt215.2.1 bt215.2.2).bind fun bt218 => ((spec_l1Byte.f s0_0 bt218.2.1 bt218.2.2).bind fun bt221 => (if a1 = 0 then (none) else (some (Int.tmod (wrap64 ((wrap64 ((wrap64 ((wrap64 (bt212.1 * 16777216)) + (wrap64 (bt215.1 * 65536)))) + (wrap64 (bt218.1 * 256)))) + bt221.1)) a1,bt221.2.1,bt221.2.2))))))))) = some (r1,r2,r3) := h
 clear h
 by_cases c3 : a1 ≤ 0
 ·rw [if_pos c3] at H
  have c3b0 : decide (a1 ≤ 0) = true := decide_eq_true c3
  clear c3
  simp only [Option.some.injEq,Prod.mk.injEq] at H
  obtain ⟨rfl,rfl,rfl⟩ := H
  go_enter Tryz.func95,Tryz.ntmps95
  go_wp2
  go_ret
  exact ⟨rf_,by repeat (first|(with_reducible first|exact HI0.out|apply IsS115.alloc|apply IsS115.drewN|apply IsS115.drew|apply IsS115.set_1|apply IsS115.set_2)|exact HI0.out),by repeat (first|(with_reducible first|exact HB.out|apply below_alloc|apply pw_below_drewN|apply below_drew1|refine below_set ?_ (IsS115.ge HI0.out))|exact HB.out),by repeat (first|(with_reducible first|exact HK.out|apply KeepBut.set_|apply keep_drewN|apply keep_drew|apply keep_alloc)|exact HK.out)⟩
 ·rw [if_neg c3] at H
  have c3b0 : decide (a1 ≤ 0) = false := decide_eq_false c3
  clear c3
  by_cases c4 : a1 ≤ 256
  ·rw [if_pos c4] at H
   have c4b0 : decide (a1 ≤ 256) = true := decide_eq_true c4
   clear c4
   replace H := Option.bind_eq_some_iff.mp H
   obtain ⟨⟨t209,t210,t211⟩,A50,H⟩ := H
   replace H : (if a1 = 0 then (none) else (some (Int.tmod t209 a1,t210,t211))) = some (r1,r2,r3) := H
   have A5 := ak A50
   clear A50
   by_cases c6 : a1 = 0
   ·rw [if_pos c6] at H
    exact absurd H (by simp)
   ·rw [if_neg c6] at H
    have c6b0 : (a1 == 0) = false := beq_eq_false_iff_ne.mpr c6
    have c6b1 : (a1 != 0) = true := bne_iff_ne.mpr c6
    simp only [Option.some.injEq,Prod.mk.injEq] at H
    obtain ⟨rfl,rfl,rfl⟩ := H
    go_enter Tryz.func95,Tryz.ntmps95
    go_wp2_with (first|((with_reducible refine gcal_ (f := 133) rfl ?_);refine gl_ (some 14) Tryz.func133 #[.pointer (some ⟨g,0,none⟩)] ?_;(with_reducible refine (spec_l1Byte.calls g s0_0 s0_1 s0_2 t209 t210 t211 w0 _ ?side1 ?side2 A5.out).mono ?_);(case side1 => repeat (first|(with_reducible first|exact HI0.out|apply IsS115.alloc|apply IsS115.drewN|apply IsS115.drew|apply IsS115.set_1|apply IsS115.set_2)|exact HI0.out));(case side2 => repeat (first|(with_reducible first|exact HB.out|apply below_alloc|apply pw_below_drewN|apply below_drew1|refine below_set ?_ (IsS115.ge HI0.out))|exact HB.out));rintro e w7 ⟨rfl,hi,hb,hk⟩;refine ⟨_,rfl,?_⟩;replace HK := ak (KeepBut.trans (by repeat (first|(with_reducible first|exact HK.out|apply KeepBut.set_|apply keep_drewN|apply keep_drew|apply keep_alloc)|exact HK.out)) hk (.inl rfl));replace HB := ak (hb);replace HI0 := ak (hi);(try clear hb);(try clear hb2);(try clear hk);(try clear hi)))
    go_ret
    exact ⟨rf_,by repeat (first|(with_reducible first|exact HI0.out|apply IsS115.alloc|apply IsS115.drewN|apply IsS115.drew|apply IsS115.set_1|apply IsS115.set_2)|exact HI0.out),by repeat (first|(with_reducible first|exact HB.out|apply below_alloc|apply pw_below_drewN|apply below_drew1|refine below_set ?_ (IsS115.ge HI0.out))|exact HB.out),by repeat (first|(with_reducible first|exact HK.out|apply KeepBut.set_|apply keep_drewN|apply keep_drew|apply keep_alloc)|exact HK.out)⟩
  ·rw [if_neg c4] at H
   have c4b0 : decide (a1 ≤ 256) = false := decide_eq_false c4
   clear c4
   replace H := Option.bind_eq_some_iff.mp H
   obtain ⟨⟨t212,t213,t214⟩,A80,H⟩ := H
   replace H : ((spec_l1Byte.f s0_0 t213 t214).bind fun bt215 => ((spec_l1Byte.f s0_0 bt215.2.1 bt215.2.2).bind fun bt218 => ((spec_l1Byte.f s0_0 bt218.2.1 bt218.2.2).bind fun bt221 => (if a1 = 0 then (none) else (some (Int.tmod (wrap64 ((wrap64 ((wrap64 ((wrap64 (t212 * 16777216)) + (wrap64 (bt215.1 * 65536)))) + (wrap64 (bt218.1 * 256)))) + bt221.1)) a1,bt221.2.1,bt221.2.2)))))) = some (r1,r2,r3) := H
   have A8 := ak A80
   clear A80
   replace H := Option.bind_eq_some_iff.mp H
   obtain ⟨⟨t215,t216,t217⟩,A90,H⟩ := H
   replace H : ((spec_l1Byte.f s0_0 t216 t217).bind fun bt218 => ((spec_l1Byte.f s0_0 bt218.2.1 bt218.2.2).bind fun bt221 => (if a1 = 0 then (none) else (some (Int.tmod (wrap64 ((wrap64 ((wrap64 ((wrap64 (t212 * 16777216)) + (wrap64 (t215 * 65536)))) + (wrap64 (bt218.1 * 256)))) + bt221.1)) a1,bt221.2.1,bt221.2.2))))) = some (r1,r2,r3) := H
   have A9 := ak A90
   clear A90
   replace H := Option.bind_eq_some_iff.mp H
   obtain ⟨⟨t218,t219,t220⟩,A100,H⟩ := H
   replace H : ((spec_l1Byte.f s0_0 t219 t220).bind fun bt221 => (if a1 = 0 then (none) else (some (Int.tmod (wrap64 ((wrap64 ((wrap64 ((wrap64 (t212 * 16777216)) + (wrap64 (t215 * 65536)))) + (wrap64 (t218 * 256)))) + bt221.1)) a1,bt221.2.1,bt221.2.2)))) = some (r1,r2,r3) := H
   have A10 := ak A100
   clear A100
   replace H := Option.bind_eq_some_iff.mp H
   obtain ⟨⟨t221,t222,t223⟩,A110,H⟩ := H
   replace H : (if a1 = 0 then (none) else (some (Int.tmod (wrap64 ((wrap64 ((wrap64 ((wrap64 (t212 * 16777216)) + (wrap64 (t215 * 65536)))) + (wrap64 (t218 * 256)))) + t221)) a1,t222,t223))) = some (r1,r2,r3) := H
   have A11 := ak A110
   clear A110
   by_cases c12 : a1 = 0
   ·rw [if_pos c12] at H
    exact absurd H (by simp)
   ·rw [if_neg c12] at H
    have c12b0 : (a1 == 0) = false := beq_eq_false_iff_ne.mpr c12
    have c12b1 : (a1 != 0) = true := bne_iff_ne.mpr c12
    simp only [Option.some.injEq,Prod.mk.injEq] at H
    obtain ⟨rfl,rfl,rfl⟩ := H
    go_enter Tryz.func95,Tryz.ntmps95
    go_wp2_with (first|((with_reducible refine gcal_ (f := 133) rfl ?_);refine gl_ (some 18) Tryz.func133 #[.pointer (some ⟨g,0,none⟩)] ?_;(with_reducible refine (spec_l1Byte.calls g s0_0 s0_1 s0_2 t212 t213 t214 w0 _ ?side1 ?side2 A8.out).mono ?_);(case side1 => repeat (first|(with_reducible first|exact HI0.out|apply IsS115.alloc|apply IsS115.drewN|apply IsS115.drew|apply IsS115.set_1|apply IsS115.set_2)|exact HI0.out));(case side2 => repeat (first|(with_reducible first|exact HB.out|apply below_alloc|apply pw_below_drewN|apply below_drew1|refine below_set ?_ (IsS115.ge HI0.out))|exact HB.out));rintro e w13 ⟨rfl,hi,hb,hk⟩;refine ⟨_,rfl,?_⟩;replace HK := ak (KeepBut.trans (by repeat (first|(with_reducible first|exact HK.out|apply KeepBut.set_|apply keep_drewN|apply keep_drew|apply keep_alloc)|exact HK.out)) hk (.inl rfl));replace HB := ak (hb);replace HI0 := ak (hi);(try clear hb);(try clear hb2);(try clear hk);(try clear hi))|((with_reducible refine gcal_ (f := 133) rfl ?_);refine gl_ (some 20) Tryz.func133 #[.pointer (some ⟨g,0,none⟩)] ?_;(with_reducible refine (spec_l1Byte.calls g s0_0 t213 t214 t215 t216 t217 w0 _ ?side1 ?side2 A9.out).mono ?_);(case side1 => repeat (first|(with_reducible first|exact HI0.out|apply IsS115.alloc|apply IsS115.drewN|apply IsS115.drew|apply IsS115.set_1|apply IsS115.set_2)|exact HI0.out));(case side2 => repeat (first|(with_reducible first|exact HB.out|apply below_alloc|apply pw_below_drewN|apply below_drew1|refine below_set ?_ (IsS115.ge HI0.out))|exact HB.out));rintro e w14 ⟨rfl,hi,hb,hk⟩;refine ⟨_,rfl,?_⟩;replace HK := ak (KeepBut.trans (by repeat (first|(with_reducible first|exact HK.out|apply KeepBut.set_|apply keep_drewN|apply keep_drew|apply keep_alloc)|exact HK.out)) hk (.inl rfl));replace HB := ak (hb);replace HI0 := ak (hi);(try clear hb);(try clear hb2);(try clear hk);(try clear hi))|((with_reducible refine gcal_ (f := 133) rfl ?_);refine gl_ (some 22) Tryz.func133 #[.pointer (some ⟨g,0,none⟩)] ?_;(with_reducible refine (spec_l1Byte.calls g s0_0 t216 t217 t218 t219 t220 w0 _ ?side1 ?side2 A10.out).mono ?_);(case side1 => repeat (first|(with_reducible first|exact HI0.out|apply IsS115.alloc|apply IsS115.drewN|apply IsS115.drew|apply IsS115.set_1|apply IsS115.set_2)|exact HI0.out));(case side2 => repeat (first|(with_reducible first|exact HB.out|apply below_alloc|apply pw_below_drewN|apply below_drew1|refine below_set ?_ (IsS115.ge HI0.out))|exact HB.out));rintro e w15 ⟨rfl,hi,hb,hk⟩;refine ⟨_,rfl,?_⟩;replace HK := ak (KeepBut.trans (by repeat (first|(with_reducible first|exact HK.out|apply KeepBut.set_|apply keep_drewN|apply keep_drew|apply keep_alloc)|exact HK.out)) hk (.inl rfl));replace HB := ak (hb);replace HI0 := ak (hi);(try clear hb);(try clear hb2);(try clear hk);(try clear hi))|((with_reducible refine gcal_ (f := 133) rfl ?_);refine gl_ (some 24) Tryz.func133 #[.pointer (some ⟨g,0,none⟩)] ?_;(with_reducible refine (spec_l1Byte.calls g s0_0 t219 t220 t221 t222 t223 w0 _ ?side1 ?side2 A11.out).mono ?_);(case side1 => repeat (first|(with_reducible first|exact HI0.out|apply IsS115.alloc|apply IsS115.drewN|apply IsS115.drew|apply IsS115.set_1|apply IsS115.set_2)|exact HI0.out));(case side2 => repeat (first|(with_reducible first|exact HB.out|apply below_alloc|apply pw_below_drewN|apply below_drew1|refine below_set ?_ (IsS115.ge HI0.out))|exact HB.out));rintro e w16 ⟨rfl,hi,hb,hk⟩;refine ⟨_,rfl,?_⟩;replace HK := ak (KeepBut.trans (by repeat (first|(with_reducible first|exact HK.out|apply KeepBut.set_|apply keep_drewN|apply keep_drew|apply keep_alloc)|exact HK.out)) hk (.inl rfl));replace HB := ak (hb);replace HI0 := ak (hi);(try clear hb);(try clear hb2);(try clear hk);(try clear hi)))
    go_ret
    exact ⟨rf_,by repeat (first|(with_reducible first|exact HI0.out|apply IsS115.alloc|apply IsS115.drewN|apply IsS115.drew|apply IsS115.set_1|apply IsS115.set_2)|exact HI0.out),by repeat (first|(with_reducible first|exact HB.out|apply below_alloc|apply pw_below_drewN|apply below_drew1|refine below_set ?_ (IsS115.ge HI0.out))|exact HB.out),by repeat (first|(with_reducible first|exact HK.out|apply KeepBut.set_|apply keep_drewN|apply keep_drew|apply keep_alloc)|exact HK.out)⟩

/-! ### spec_l1Once: function 93 -/
def spec_l1Once.f (s0_0 : List Int) (s0_1 : Int) (s0_2 : Int) (a1 : Int) : Option (Bool × Int × Int) := (spec_l1Below.f s0_0 s0_1 s0_2 a1).bind fun bt224 => (some ((bt224.1 == 0), bt224.2.1, bt224.2.2))
theorem spec_l1Once.calls (g : Nat) (s0_0 : List Int) (s0_1 : Int) (s0_2 : Int) (a1 : Int) (r1 : Bool) (r2 : Int) (r3 : Int) (w0 w : World) (hI : IsS115 w0 w g s0_0 s0_1 s0_2) (hB : Below w0.heap.size w0 w) (h : spec_l1Once.f s0_0 s0_1 s0_2 a1 = some (r1, r2, r3)) :
    Calls Tryz.prog 93 #[.pointer (some ⟨g, 0, none⟩), .int .i64 a1] w fun e w' => e = .returned (.bool r1) ∧ IsS115 w0 w' g s0_0 r2 r3 ∧ Below w0.heap.size w0 w' ∧ KeepBut w w' g none := by
 have HI0 := ak hI
 have HK := ak (KeepBut.refl w g none)
 have HL := ak hB.size
 clear hI
 have HW0 := ak hB.size
 have HB := ak hB
 clear hB
 have H : ((spec_l1Below.f s0_0 s0_1 s0_2 a1).bind fun bt224 => (some ((bt224.1 == 0),bt224.2.1,bt224.2.2))) = some (r1,r2,r3) := h
 clear h
 replace H := Option.bind_eq_some_iff.mp H
 obtain ⟨⟨t224,t225,t226⟩,A30,H⟩ := H
 replace H : (some ((t224 == 0),t225,t226)) = some (r1,r2,r3) := H
 have A3 := ak A30
 clear A30
 simp only [Option.some.injEq,Prod.mk.injEq] at H
 obtain ⟨rfl,rfl,rfl⟩ := H
 go_enter Tryz.func93,Tryz.ntmps93
 go_wp2_with (first|((with_reducible refine gcal_ (f := 95) rfl ?_);refine gl_ (some 7) Tryz.func95 #[.pointer (some ⟨g,0,none⟩),.int .i64 a1] ?_;(with_reducible refine (spec_l1Below.calls g s0_0 s0_1 s0_2 a1 t224 t225 t226 w0 _ ?side1 ?side2 A3.out).mono ?_);(case side1 => repeat (first|(with_reducible first|exact HI0.out|apply IsS115.alloc|apply IsS115.drewN|apply IsS115.drew|apply IsS115.set_1|apply IsS115.set_2)|exact HI0.out));(case side2 => repeat (first|(with_reducible first|exact HB.out|apply below_alloc|apply pw_below_drewN|apply below_drew1|refine below_set ?_ (IsS115.ge HI0.out))|exact HB.out));rintro e w4 ⟨rfl,hi,hb,hk⟩;refine ⟨_,rfl,?_⟩;replace HK := ak (KeepBut.trans (by repeat (first|(with_reducible first|exact HK.out|apply KeepBut.set_|apply keep_drewN|apply keep_drew|apply keep_alloc)|exact HK.out)) hk (.inl rfl));replace HB := ak (hb);replace HI0 := ak (hi);(try clear hb);(try clear hb2);(try clear hk);(try clear hi)))
 go_ret
 exact ⟨rf_,by repeat (first|(with_reducible first|exact HI0.out|apply IsS115.alloc|apply IsS115.drewN|apply IsS115.drew|apply IsS115.set_1|apply IsS115.set_2)|exact HI0.out),by repeat (first|(with_reducible first|exact HB.out|apply below_alloc|apply pw_below_drewN|apply below_drew1|refine below_set ?_ (IsS115.ge HI0.out))|exact HB.out),by repeat (first|(with_reducible first|exact HK.out|apply KeepBut.set_|apply keep_drewN|apply keep_drew|apply keep_alloc)|exact HK.out)⟩

/-! ### spec_NewCells: function 130 -/
def spec_NewCells.f  : Option ((List (S87))) := if 6 ≤ 17592186044416 then (some (List.replicate 6 z87)) else (none)
theorem spec_NewCells.calls  (r : List (S87)) (w : World) (h : spec_NewCells.f  = some r) :
    Calls Tryz.prog 130 #[] w fun e w' => ∃ v0_ : Value, e = .returned (v0_) ∧ Kd.R k87 87 w' w.heap.size (fun _ => True) v0_ r ∧ Below w.heap.size w w' := by
 have HB := ak (Below.refl w.heap.size w)
 have H : (if 6 ≤ 17592186044416 then (some (List.replicate 6 z87)) else (none)) = some r := h
 clear h
 by_cases c1 : 6 ≤ 17592186044416
 ·rw [if_pos c1] at H
  have c1b0 := eq_true c1
  have c1b1 : decide (6 ≤ 17592186044416) = true := decide_eq_true c1
  clear c1
  obtain ⟨y227,hy227⟩ : ∃ y_ : List (S87),y_ = (List.replicate 6 z87) := ⟨_,rfl⟩
  replace H : (some y227) = some r := by first|(rw [hy227];with_reducible exact H)|(have H2_ := (Option.bind_some _ _).symm.trans H;rw [hy227];with_reducible exact H2_)|(have H2_ := (Option.bind_some _ _).symm.trans H;with_reducible exact H2_)|with_reducible exact H|(rw [hy227];exact H)|exact H
  have Ny227 := ak hy227
  clear hy227
  obtain rfl := Option.some.inj H
  go_enter Tryz.func130,Tryz.ntmps130
  go_wp2_with (first|((with_reducible refine gate_dst (N := 1) rfl ?_);refine Kd.R_make k87 _ 87 rfl (N := 1) rfl 40 _ _ rfl 6 rfl rfl Tryz.underlying40 (.agg #[(.int .i64 0),(.int .i64 0)]) 16 info87 rfl (by decide) (by omega) z87 (ok := fun _ => True) (okp := fun _ => True) (k87_mkM _ _ _ z87 ) (fun _ hk => hk) trivial (by omega) (by omega) (Below.refl _ _) (Nat.le_refl _) ?_;intro v228 w2 ho3 hb hg_ hnew_;clear hg_ hnew_;(first|rw [← Ny227.out] at ho3|(simp only [Int.reduceToNat] at ho3;rw [← Ny227.out] at ho3));have HO229 := ak (Kd.R_lower ho3 (below_size b_));replace HB := ak (below_step b_ hb);clear hb ho3))
  go_ret
  exact ⟨_,rf_,by (with_reducible repeat (first|apply Kd.R_alloc|apply Kd.R_drewN|apply Kd.R_drew));exact HO229.out,b_⟩
 ·rw [if_neg c1] at H
  exact absurd H (by simp)

/-! ### spec_l1Head: function 131 -/
def spec_l1Head.f (a0 : Int) (a1 : Bool) (a2 : Bool) : Option (Int) := if a1 = true then (if a2 = true then (some (wrap64 ((wrap64 ((wrap64 (4 * a0)) + 2)) + 1))) else (some (wrap64 ((wrap64 (4 * a0)) + 2)))) else (if a2 = true then (some (wrap64 ((wrap64 (4 * a0)) + 1))) else (some (wrap64 (4 * a0))))
theorem spec_l1Head.calls (a0 : Int) (a1 : Bool) (a2 : Bool) (r : Int) (w : World) (h : spec_l1Head.f a0 a1 a2 = some r) :
    Calls Tryz.prog 131 #[.int .i64 a0, .bool a1, .bool a2] w fun e w' => e = .returned (.int .i64 r) ∧ Drawn0 w w' := by
 have H : (if a1 = true then (if a2 = true then (some (wrap64 ((wrap64 ((wrap64 (4 * a0)) + 2)) + 1))) else (some (wrap64 ((wrap64 (4 * a0)) + 2)))) else (if a2 = true then (some (wrap64 ((wrap64 (4 * a0)) + 1))) else (some (wrap64 (4 * a0))))) = some r := h
 clear h
 by_cases c4 : a1 = true
 ·subst c4
  replace H := it_ H
  by_cases c5 : a2 = true
  ·subst c5
   replace H := it_ H
   obtain rfl := Option.some.inj H
   go_enter Tryz.func131,Tryz.ntmps131
   go_wp2
   go_ret
   exact ⟨rs_,by repeat (first|exact Drawn0.refl _|apply Drawn0.step)⟩
  ·replace c5 := Bool.eq_false_iff.mpr c5
   subst c5
   replace H := ie_ H
   obtain rfl := Option.some.inj H
   go_enter Tryz.func131,Tryz.ntmps131
   go_wp2
   go_ret
   exact ⟨rs_,by repeat (first|exact Drawn0.refl _|apply Drawn0.step)⟩
 ·replace c4 := Bool.eq_false_iff.mpr c4
  subst c4
  replace H := ie_ H
  by_cases c6 : a2 = true
  ·subst c6
   replace H := it_ H
   obtain rfl := Option.some.inj H
   go_enter Tryz.func131,Tryz.ntmps131
   go_wp2
   go_ret
   exact ⟨rs_,by repeat (first|exact Drawn0.refl _|apply Drawn0.step)⟩
  ·replace c6 := Bool.eq_false_iff.mpr c6
   subst c6
   replace H := ie_ H
   obtain rfl := Option.some.inj H
   go_enter Tryz.func131,Tryz.ntmps131
   go_wp2
   go_ret
   exact ⟨rs_,by repeat (first|exact Drawn0.refl _|apply Drawn0.step)⟩

/-! ### spec_l1From: function 132 -/
def spec_l1From.f (s0_0 : List Int) (s0_1 : Int) (s0_2 : Int) (a1 : Int) (a2 : Int) : Option (Int × Int × Int) := (spec_l1Below.f s0_0 s0_1 s0_2 (wrap64 ((wrap64 (a2 - a1)) + 1))).bind fun bt230 => (some (wrap64 (a1 + bt230.1), bt230.2.1, bt230.2.2))
theorem spec_l1From.calls (g : Nat) (s0_0 : List Int) (s0_1 : Int) (s0_2 : Int) (a1 : Int) (a2 : Int) (r1 : Int) (r2 : Int) (r3 : Int) (w0 w : World) (hI : IsS115 w0 w g s0_0 s0_1 s0_2) (hB : Below w0.heap.size w0 w) (h : spec_l1From.f s0_0 s0_1 s0_2 a1 a2 = some (r1, r2, r3)) :
    Calls Tryz.prog 132 #[.pointer (some ⟨g, 0, none⟩), .int .i64 a1, .int .i64 a2] w fun e w' => e = .returned (.int .i64 r1) ∧ IsS115 w0 w' g s0_0 r2 r3 ∧ Below w0.heap.size w0 w' ∧ KeepBut w w' g none := by
 have HI0 := ak hI
 have HK := ak (KeepBut.refl w g none)
 have HL := ak hB.size
 clear hI
 have HW0 := ak hB.size
 have HB := ak hB
 clear hB
 have H : ((spec_l1Below.f s0_0 s0_1 s0_2 (wrap64 ((wrap64 (a2 - a1)) + 1))).bind fun bt230 => (some (wrap64 (a1 + bt230.1),bt230.2.1,bt230.2.2))) = some (r1,r2,r3) := h
 clear h
 replace H := Option.bind_eq_some_iff.mp H
 obtain ⟨⟨t230,t231,t232⟩,A40,H⟩ := H
 replace H : (some (wrap64 (a1 + t230),t231,t232)) = some (r1,r2,r3) := H
 have A4 := ak A40
 clear A40
 simp only [Option.some.injEq,Prod.mk.injEq] at H
 obtain ⟨rfl,rfl,rfl⟩ := H
 go_enter Tryz.func132,Tryz.ntmps132
 go_wp2_with (first|((with_reducible refine gcal_ (f := 95) rfl ?_);refine gl_ (some 13) Tryz.func95 #[.pointer (some ⟨g,0,none⟩),.int .i64 (wrap64 ((wrap64 (a2 - a1)) + 1))] ?_;(with_reducible refine (spec_l1Below.calls g s0_0 s0_1 s0_2 (wrap64 ((wrap64 (a2 - a1)) + 1)) t230 t231 t232 w0 _ ?side1 ?side2 A4.out).mono ?_);(case side1 => repeat (first|(with_reducible first|exact HI0.out|apply IsS115.alloc|apply IsS115.drewN|apply IsS115.drew|apply IsS115.set_1|apply IsS115.set_2)|exact HI0.out));(case side2 => repeat (first|(with_reducible first|exact HB.out|apply below_alloc|apply pw_below_drewN|apply below_drew1|refine below_set ?_ (IsS115.ge HI0.out))|exact HB.out));rintro e w5 ⟨rfl,hi,hb,hk⟩;refine ⟨_,rfl,?_⟩;replace HK := ak (KeepBut.trans (by repeat (first|(with_reducible first|exact HK.out|apply KeepBut.set_|apply keep_drewN|apply keep_drew|apply keep_alloc)|exact HK.out)) hk (.inl rfl));replace HB := ak (hb);replace HI0 := ak (hi);(try clear hb);(try clear hb2);(try clear hk);(try clear hi)))
 go_ret
 exact ⟨rf_,by repeat (first|(with_reducible first|exact HI0.out|apply IsS115.alloc|apply IsS115.drewN|apply IsS115.drew|apply IsS115.set_1|apply IsS115.set_2)|exact HI0.out),by repeat (first|(with_reducible first|exact HB.out|apply below_alloc|apply pw_below_drewN|apply below_drew1|refine below_set ?_ (IsS115.ge HI0.out))|exact HB.out),by repeat (first|(with_reducible first|exact HK.out|apply KeepBut.set_|apply keep_drewN|apply keep_drew|apply keep_alloc)|exact HK.out)⟩

/-! ### spec_l1In: function 74 -/
def spec_l1In.f (a0 : Int) (a1 : Int) (a2 : Int) : Option (Bool) := if a0 ≥ a1 then (some (decide (a0 ≤ a2))) else (some false)
theorem spec_l1In.calls (a0 : Int) (a1 : Int) (a2 : Int) (r : Bool) (w : World) (h : spec_l1In.f a0 a1 a2 = some r) :
    Calls Tryz.prog 74 #[.int .i64 a0, .int .i64 a1, .int .i64 a2] w fun e w' => e = .returned (.bool r) ∧ Drawn0 w w' := by
 have H : (if a0 ≥ a1 then (some (decide (a0 ≤ a2))) else (some false)) = some r := h
 clear h
 by_cases c4 : a0 ≥ a1
 ·rw [if_pos c4] at H
  have c4b0 : decide (a1 ≤ a0) = true := decide_eq_true c4
  clear c4
  obtain rfl := Option.some.inj H
  go_enter Tryz.func74,Tryz.ntmps74
  go_wp2
  go_ret
  exact ⟨rs_,by repeat (first|exact Drawn0.refl _|apply Drawn0.step)⟩
 ·rw [if_neg c4] at H
  have c4b0 : decide (a1 ≤ a0) = false := decide_eq_false c4
  clear c4
  obtain rfl := Option.some.inj H
  go_enter Tryz.func74,Tryz.ntmps74
  go_wp2
  go_ret
  exact ⟨rs_,by repeat (first|exact Drawn0.refl _|apply Drawn0.step)⟩

/-! ### spec_l1Slot: function 139 -/
def spec_l1Slot.f (a0 : Int) : Option (Bool) := (spec_l1In.f a0 0 5).bind fun t233 => (some t233)
theorem spec_l1Slot.calls (a0 : Int) (r : Bool) (w : World) (h : spec_l1Slot.f a0 = some r) :
    Calls Tryz.prog 139 #[.int .i64 a0] w fun e w' => e = .returned (.bool r) ∧ Drawn0 w w' := by
 have H : ((spec_l1In.f a0 0 5).bind fun t233 => (some t233)) = some r := h
 clear h
 replace H := bs_ H
 obtain ⟨t233,A2,H⟩ := H
 obtain rfl := Option.some.inj H
 go_enter Tryz.func139,Tryz.ntmps139
 go_wp2_with (first|((with_reducible refine gcal_ (f := 74) rfl ?_);refine gl_ (some 4) Tryz.func74 #[.int .i64 a0,.int .i64 0,.int .i64 5] ?_;(with_reducible refine (spec_l1In.calls a0 0 5 t233 _ A2.out).mono ?_);rintro e w' ⟨rfl,⟨nd,rfl⟩⟩;refine ⟨_,rfl,?_⟩))
 go_ret
 exact ⟨rs_,by repeat (first|exact Drawn0.refl _|apply Drawn0.step)⟩

open Go.Proofs.YthplaakckfhaaaaGreat.Gen
/-! ### drawing: what a function that draws leaves as it was -/
/-- The cursor lies at g, what came in by w0 is as it was, and since wb only g's block and new ones were written. -/
def Dr (w0 wb : World) (g : Nat) (l : List Int) (W : World) : Prop := (∃ i h : Int, 0 ≤ i ∧ IsS115 w0 W g l i h) ∧ Below w0.heap.size w0 W ∧ KeepBut wb W g none ∧ g < wb.heap.size
section
variable {w0 wb W W' : World} {g b : Nat} {l : List Int} {o : Obj}
theorem Dr.refl {i h : Int} (hi : 0 ≤ i) (hI : IsS115 w0 W g l i h) (hB : Below w0.heap.size w0 W) : Dr w0 W g l W := ⟨⟨i, h, hi, hI⟩, hB, KeepBut.refl _ _ _, hI.lt⟩
theorem Dr.self (D : Dr w0 wb g l W) : Dr w0 W g l W := by
 obtain ⟨⟨i,h,hi,hI⟩,hB,_,_⟩ := D
 exact Dr.refl hi hI hB
theorem Dr.trans (D : Dr w0 wb g l W) (k : Dr w0 W g l W') : Dr w0 wb g l W' := ⟨k.1, k.2.1, KeepBut.trans D.2.2.1 k.2.2.1 (.inl rfl), D.2.2.2⟩
theorem Dr.ge (D : Dr w0 wb g l W) : w0.heap.size ≤ wb.heap.size := by
 obtain ⟨⟨i,h,hi,hI⟩,hB,_,hg⟩ := D
 exact Nat.le_of_lt (Nat.lt_of_le_of_lt hI.ge hg)
theorem Dr.size (D : Dr w0 wb g l W) : wb.heap.size ≤ W.heap.size := D.2.2.1.1
theorem Dr.below (D : Dr w0 wb g l W) (k : Below W.heap.size W W') : Dr w0 wb g l W' := by
 obtain ⟨⟨i,h,hi,hI⟩,hB,hK,hg⟩ := D
 exact ⟨⟨i,h,hi,hI.below k⟩,below_step hB k,KeepBut.trans hK (KeepBut.of_below k g none) (.inl rfl),hg⟩
theorem Dr.far (D : Dr w0 wb g l W) {p : Addr} (hp : wb.heap.size ≤ p.block) (u : Value) : Dr w0 wb g l (W.setCell p u) := by
 have hge := D.ge
 obtain ⟨⟨i,h,hi,hI⟩,hB,hK,hg⟩ := D
 exact ⟨⟨i,h,hi,hI.far (Nat.ne_of_lt (Nat.lt_of_lt_of_le hg hp)) u⟩,hB.setCell (Nat.le_trans hge hp) u,keep_far hK hp u,hg⟩
theorem Dr.grown {row : Option Nat} (D : Dr w0 wb g l W) (hw : W.grownBy W' row) (hb : Below w0.heap.size w0 W') (hr : ∀ k, row = some k → wb.heap.size ≤ k) : Dr w0 wb g l W' := by
 obtain ⟨⟨i,h,hi,hI⟩,hB,hK,hg⟩ := D
 refine ⟨⟨i,h,hi,hI.grown hw (fun e => Nat.lt_irrefl _ (Nat.lt_of_lt_of_le hg (hr g e.symm)))⟩,hb,KeepBut.trans hK (KeepBut.of_grown hw g) ?_,hg⟩
 cases row with
  | none => exact .inl rfl
  | some k => exact .inr ⟨k, rfl, hr k rfl⟩
/-- A block that is new since wb. -/
def Bk (wb W : World) (b : Nat) (o : Obj) : Prop := wb.heap.size ≤ b ∧ W.heap[b]? = some o
theorem Bk.below (h : Bk wb W b o) (k : Below W.heap.size W W') : Bk wb W' b o := ⟨h.1, blk_below h.2 k⟩
theorem Bk.dr (h : Bk wb W b o) (D : Dr w0 wb g l W) (k : Dr w0 W g l W') : Bk wb W' b o := ⟨h.1, KeepBut.blk k.2.2.1 h.2 (Nat.ne_of_gt (Nat.lt_of_lt_of_le D.2.2.2 h.1)) (by simp)⟩
theorem Bk.far {t : TypeId} {cs : Array Value} (h : Bk wb W b (.cells cs t (0, 0))) {p : Addr} (hp : b ≠ p.block) (u : Value) : Bk wb (W.setCell p u) b (.cells cs t (0, 0)) := ⟨h.1, blk_far h.2 hp u⟩
theorem Bk.kept {S : Nat → Prop} (h : Bk wb W b o) (k : Kept W W' S) (hn : ¬ S b) : Bk wb W' b o := ⟨h.1, blk_kept h.2 k hn⟩
theorem put5_ {t : TypeId} {a0 a1 a2 a3 a4 : Value} (h : W.heap[b]? = some (.cells #[a0, a1, a2, a3, a4] t (0, 0))) (x0 x1 x2 x3 x4 : Value) : (((((W.setCell ⟨b, 0, none⟩ x0).setCell ⟨b, 1, none⟩ x1).setCell ⟨b, 2, none⟩ x2).setCell ⟨b, 3, none⟩ x3).setCell ⟨b, 4, none⟩ x4).heap[b]? = some (.cells #[x0, x1, x2, x3, x4] t (0, 0)) :=
 blk_put (blk_put (blk_put (blk_put (blk_put h 0 x0 rfl) 1 x1 rfl) 2 x2 rfl) 3 x3 rfl) 4 x4 rfl
theorem put4_ {t : TypeId} {a0 a1 a2 a3 : Value} (h : W.heap[b]? = some (.cells #[a0, a1, a2, a3] t (0, 0))) (x0 x1 x2 x3 : Value) : ((((W.setCell ⟨b, 0, none⟩ x0).setCell ⟨b, 1, none⟩ x1).setCell ⟨b, 2, none⟩ x2).setCell ⟨b, 3, none⟩ x3).heap[b]? = some (.cells #[x0, x1, x2, x3] t (0, 0)) :=
 blk_put (blk_put (blk_put (blk_put h 0 x0 rfl) 1 x1 rfl) 2 x2 rfl) 3 x3 rfl
theorem Dr.far4 (D : Dr w0 wb g l W) (hp : wb.heap.size ≤ b) (x0 x1 x2 x3 : Value) : Dr w0 wb g l ((((W.setCell ⟨b, 0, none⟩ x0).setCell ⟨b, 1, none⟩ x1).setCell ⟨b, 2, none⟩ x2).setCell ⟨b, 3, none⟩ x3) := (((D.far hp x0).far hp x1).far hp x2).far hp x3
theorem Dr.far5 (D : Dr w0 wb g l W) (hp : wb.heap.size ≤ b) (x0 x1 x2 x3 x4 : Value) : Dr w0 wb g l (((((W.setCell ⟨b, 0, none⟩ x0).setCell ⟨b, 1, none⟩ x1).setCell ⟨b, 2, none⟩ x2).setCell ⟨b, 3, none⟩ x3).setCell ⟨b, 4, none⟩ x4) := (D.far4 hp x0 x1 x2 x3).far hp x4
theorem kept4_ (x0 x1 x2 x3 : Value) : Kept W ((((W.setCell ⟨b, 0, none⟩ x0).setCell ⟨b, 1, none⟩ x1).setCell ⟨b, 2, none⟩ x2).setCell ⟨b, 3, none⟩ x3) (fun k => k = b) := ((((Kept.refl W (fun k => k = b)).setCell (p := ⟨b, 0, none⟩) (.inl rfl) x0).setCell (p := ⟨b, 1, none⟩) (.inl rfl) x1).setCell (p := ⟨b, 2, none⟩) (.inl rfl) x2).setCell (p := ⟨b, 3, none⟩) (.inl rfl) x3
theorem kept5_ (x0 x1 x2 x3 x4 : Value) : Kept W (((((W.setCell ⟨b, 0, none⟩ x0).setCell ⟨b, 1, none⟩ x1).setCell ⟨b, 2, none⟩ x2).setCell ⟨b, 3, none⟩ x3).setCell ⟨b, 4, none⟩ x4) (fun k => k = b) := (kept4_ x0 x1 x2 x3).setCell (p := ⟨b, 4, none⟩) (.inl rfl) x4
theorem kept1_ (j : Nat) (x : Value) : Kept W (W.setCell ⟨b, j, none⟩ x) (fun k => k = b) := (Kept.refl W (fun k => k = b)).setCell (p := ⟨b, j, none⟩) (.inl rfl) x
theorem R_dr {α : Type} {d : Kd α} {e : Nat} {v : Value} {xs : List α} (T : d.R e W wb.heap.size (fun _ => True) v xs) (D : Dr w0 wb g l W) (k : Dr w0 W g l W') : d.R e W' wb.heap.size (fun _ => True) v xs :=
 Kd.R_mono (Kd.R_step (Kd.R_bound T) (fun k_ hk_ hlt_ => k.2.2.1.2 k_ hlt_ (Nat.ne_of_gt (Nat.lt_of_lt_of_le D.2.2.2 hk_.2.1)) (by simp))) (fun _ _ => trivial)
theorem S_dr {α : Type} {d : Kd α} {e : Nat} {v : Value} {xs : List α} (T : d.S e W wb.heap.size (fun _ => True) v xs) (D : Dr w0 wb g l W) (k : Dr w0 W g l W') : d.S e W' wb.heap.size (fun _ => True) v xs :=
 Kd.S_mono (Kd.S_step (Kd.S_bound T) (fun k_ hk_ hlt_ => k.2.2.1.2 k_ hlt_ (Nat.ne_of_gt (Nat.lt_of_lt_of_le D.2.2.2 hk_.2.1)) (by simp))) (fun _ _ => trivial)
theorem R_off {α : Type} {d : Kd α} {e t : Nat} {v : Value} {xs : List α} {cs : Array Value} {n : Nat} (T : d.R e W n (fun _ => True) v xs) (hx : W.heap[b]? = some (.cells cs t (0, 0))) (ht : ∀ q, q ∈ e :: d.E → q ≠ t) (k : Kept W W' (fun k => k = b)) : d.R e W' n (fun _ => True) v xs :=
 Kd.R_mono (Kd.R_kept (Kd.R_types T hx ht) k (fun _ hk h => hk.2 h)) (fun _ _ => trivial)
theorem S_off {α : Type} {d : Kd α} {e t : Nat} {v : Value} {xs : List α} {cs : Array Value} {n : Nat} (T : d.S e W n (fun _ => True) v xs) (hx : W.heap[b]? = some (.cells cs t (0, 0))) (ht : ∀ q, q ∈ e :: d.E → q ≠ t) (k : Kept W W' (fun k => k = b)) : d.S e W' n (fun _ => True) v xs :=
 Kd.S_mono (Kd.S_kept (Kd.S_types T hx ht) k (fun _ hk h => hk.2 h)) (fun _ _ => trivial)
theorem byte_any (hl : l.length ≤ maxLen) (i h : Int) (hi : 0 ≤ i) : ∃ x i' h' : Int, spec_l1Byte.f l i h = some (x, i', h') ∧ 0 ≤ x ∧ x ≤ 255 ∧ 0 ≤ i' := by
 unfold maxLen at hl
 unfold spec_l1Byte.f
 by_cases h1 : i < (l.length : Int)
 ·rw [if_pos h1,if_pos hi,wrap_of (x := i + 1) (by omega) (by omega)]
  simp only [and255]
  exact ⟨_,_,_,rfl,by omega,by omega,by omega⟩
 ·rw [if_neg h1]
  simp only [and255]
  exact ⟨_,_,_,rfl,by omega,by omega,hi⟩
theorem below_f_any (hl : l.length ≤ maxLen) (i h : Int) (hi : 0 ≤ i) (n : Int) (hn : n ≤ 256) : ∃ x i' h' : Int, spec_l1Below.f l i h n = some (x, i', h') ∧ 0 ≤ x ∧ (0 < n → x < n) ∧ 0 ≤ i' := by
 unfold spec_l1Below.f
 by_cases h1 : n ≤ 0
 ·rw [if_pos h1];exact ⟨_,_,_,rfl,by omega,by omega,hi⟩
 ·rw [if_neg h1,if_pos hn]
  obtain ⟨x,i',h',e,q1,q2,q3⟩ := byte_any hl i h hi
  rw [e,Option.bind_some,if_neg (by omega)]
  refine ⟨_,_,_,rfl,?_,fun _ => ?_,q3⟩
  ·rw [Int.tmod_eq_emod_of_nonneg q1];exact Int.emod_nonneg _ (by omega)
  ·rw [Int.tmod_eq_emod_of_nonneg q1];exact Int.emod_lt_of_pos _ (by omega)
theorem below_any (n : Int) (hn : n ≤ 256) (hl : l.length ≤ maxLen) (D : Dr w0 wb g l W) : Calls Tryz.prog 95 #[.pointer (some ⟨g, 0, none⟩), .int .i64 n] W fun e w' => ∃ x : Int, e = .returned (.int .i64 x) ∧ 0 ≤ x ∧ (0 < n → x < n) ∧ Dr w0 W g l w' := by
 obtain ⟨⟨i,h,hi,hI⟩,hB,_,_⟩ := D
 obtain ⟨x,i',h',e,q1,q2,q3⟩ := below_f_any hl i h hi n hn
 refine (spec_l1Below.calls g l i h n x i' h' w0 W hI hB e).mono ?_
 rintro e w' ⟨rfl,h1,h2,h3⟩
 exact ⟨x,rfl,q1,q2,⟨i',h',q3,h1⟩,h2,h3,hI.lt⟩
theorem once_any (n : Int) (hn : n ≤ 256) (hl : l.length ≤ maxLen) (D : Dr w0 wb g l W) : Calls Tryz.prog 93 #[.pointer (some ⟨g, 0, none⟩), .int .i64 n] W fun e w' => ∃ x : Bool, e = .returned (.bool x) ∧ Dr w0 W g l w' := by
 obtain ⟨⟨i,h,hi,hI⟩,hB,_,_⟩ := D
 obtain ⟨x,i',h',e,q1,q2,q3⟩ := below_f_any hl i h hi n hn
 refine (spec_l1Once.calls g l i h n (x == 0) i' h' w0 W hI hB (by unfold spec_l1Once.f;rw [e];rfl)).mono ?_
 rintro e w' ⟨rfl,h1,h2,h3⟩
 exact ⟨_,rfl,⟨i',h',q3,h1⟩,h2,h3,hI.lt⟩
theorem from_any (hl : l.length ≤ maxLen) (D : Dr w0 wb g l W) : Calls Tryz.prog 132 #[.pointer (some ⟨g, 0, none⟩), .int .i64 (-50), .int .i64 50] W fun e w' => ∃ x : Int, e = .returned (.int .i64 x) ∧ Dr w0 W g l w' := by
 obtain ⟨⟨i,h,hi,hI⟩,hB,_,_⟩ := D
 obtain ⟨x,i',h',e,q1,q2,q3⟩ := below_f_any hl i h hi (wrap64 ((wrap64 (50 - (-50))) + 1)) (by rw [wrap_of (x := 50 - (-50)) (by omega) (by omega),wrap_of (by omega) (by omega)];omega)
 refine (spec_l1From.calls g l i h (-50) 50 (wrap64 ((-50) + x)) i' h' w0 W hI hB (by unfold spec_l1From.f;rw [e];rfl)).mono ?_
 rintro e w' ⟨rfl,h1,h2,h3⟩
 exact ⟨_,rfl,⟨i',h',q3,h1⟩,h2,h3,hI.lt⟩
end
section
variable {wb W W' : World} {b t : Nat}
theorem Bk.put4 {a0 a1 a2 a3 : Value} (h : Bk wb W b (.cells #[a0, a1, a2, a3] t (0, 0))) (x0 x1 x2 x3 : Value) : Bk wb ((((W.setCell ⟨b, 0, none⟩ x0).setCell ⟨b, 1, none⟩ x1).setCell ⟨b, 2, none⟩ x2).setCell ⟨b, 3, none⟩ x3) b (.cells #[x0, x1, x2, x3] t (0, 0)) := ⟨h.1, put4_ h.2 x0 x1 x2 x3⟩
theorem Bk.put5 {a0 a1 a2 a3 a4 : Value} (h : Bk wb W b (.cells #[a0, a1, a2, a3, a4] t (0, 0))) (x0 x1 x2 x3 x4 : Value) : Bk wb (((((W.setCell ⟨b, 0, none⟩ x0).setCell ⟨b, 1, none⟩ x1).setCell ⟨b, 2, none⟩ x2).setCell ⟨b, 3, none⟩ x3).setCell ⟨b, 4, none⟩ x4) b (.cells #[x0, x1, x2, x3, x4] t (0, 0)) := ⟨h.1, put5_ h.2 x0 x1 x2 x3 x4⟩
theorem Bk.put1 {cs : Array Value} (h : Bk wb W b (.cells cs t (0, 0))) (j : Nat) (x : Value) {cs' : Array Value} (e : cs.setIfInBounds j x = cs') : Bk wb (W.setCell ⟨b, j, none⟩ x) b (.cells cs' t (0, 0)) := ⟨h.1, blk_put h.2 j x e⟩
end
section
variable {w0 wb W W' : World} {g : Nat} {l : List Int}
theorem Dr.app {row : Option Nat} (D : Dr w0 wb g l W) (hb : Below wb.heap.size W W') (hw : W.grownBy W' row) (hr : ∀ k, row = some k → wb.heap.size ≤ k) : Dr w0 wb g l W' :=
 D.grown hw ⟨hb.os.trans D.2.1.os,hb.tape.trans D.2.1.tape,hb.output.trans D.2.1.output,Nat.le_trans D.2.1.size hb.size,fun k hk => (hb.block k (Nat.lt_of_lt_of_le hk D.ge)).trans (D.2.1.block k hk)⟩ hr
theorem Bk.grown {b : Nat} {o : Obj} {row : Option Nat} (h : Bk wb W b o) (hw : W.grownBy W' row) (hn : some b ≠ row) : Bk wb W' b o := ⟨h.1, blk_grown h.2 hw hn⟩
theorem slot_any (a : Int) : ∃ b, spec_l1Slot.f a = some b := by
 unfold spec_l1Slot.f spec_l1In.f
 by_cases h : a ≥ 0
 ·rw [if_pos h];exact ⟨_,rfl⟩
 ·rw [if_neg h];exact ⟨_,rfl⟩
end
/-! ### a machine that is drawn -/
def sm1 (l : List S83) : Prop := ∀ x ∈ l, x.f1.length ≤ 6
def sm2 (l : List S50) : Prop := ∀ x ∈ l, x.f3.length ≤ 7
theorem sm1_nil : sm1 [] := fun x h => by simp at h
theorem sm2_nil : sm2 [] := fun x h => by simp at h
theorem sm1_app {l : List S83} {x : S83} (h : sm1 l) (hx : x.f1.length ≤ 6) : sm1 (l ++ [x]) := fun y hy => (List.mem_append.1 hy).elim (h y) (fun e => List.mem_singleton.1 e ▸ hx)
theorem sm2_app {l : List S50} {x : S50} (h : sm2 l) (hx : x.f3.length ≤ 7) : sm2 (l ++ [x]) := fun y hy => (List.mem_append.1 hy).elim (h y) (fun e => List.mem_singleton.1 e ▸ hx)
def Ms (w0 w : World) (g gm gr : Nat) (l : List Int) (W : World) (n1 n2 n3 : Nat) : Prop := ∃ (b : Bool) (A1 : Option Addr) (c1 : Nat) (l1 : List S83) (A2 : Option Addr) (c2 : Nat) (l2 : List S50) (A3 : Option Addr) (c3 : Nat) (l3 : List Int), Dr w0 w g l W ∧ Bk w W gr (.cells #[.bool false, .slice none 0 0, .slice none 0 0, .slice none 0 0] 31 (0, 0)) ∧ Bk w W gm (.cells #[.bool b, .slice A1 l1.length c1, .slice A2 l2.length c2, .slice A3 l3.length c3] 31 (0, 0)) ∧ Kd.S k83 83 W w.heap.size (fun _ => True) (.slice A1 l1.length c1) l1 ∧ Kd.S k50 50 W w.heap.size (fun _ => True) (.slice A2 l2.length c2) l2 ∧ Kd.R (Kd.int .i64) 2 W w.heap.size (fun _ => True) (.slice A3 l3.length c3) l3 ∧ (l1.length ≤ n1 ∧ sm1 l1) ∧ (l2.length ≤ n2 ∧ sm2 l2) ∧ l3.length ≤ n3
/-- What is handed back can be read, and nothing of it lies at g. -/
def Rm (wb W : World) (g : Nat) (A1 : Option Addr) (c1 : Nat) (l1 : List S83) (A2 : Option Addr) (c2 : Nat) (l2 : List S50) (A3 : Option Addr) (c3 : Nat) (l3 : List Int) : Prop := (Kd.F k83 W (fun k => wb.heap.size ≤ k ∧ k ≠ g) A1 l1.length l1 ∧ l1.length ≤ c1) ∧ (Kd.F k50 W (fun k => wb.heap.size ≤ k ∧ k ≠ g) A2 l2.length l2 ∧ l2.length ≤ c2) ∧ (Kd.F (Kd.int .i64) W (fun k => wb.heap.size ≤ k ∧ k ≠ g) A3 l3.length l3 ∧ l3.length ≤ c3) ∧ (l1.length ≤ 300 ∧ sm1 l1) ∧ (l2.length ≤ 250 ∧ sm2 l2) ∧ l3.length ≤ 300
/-- What spec.l6Draw hands back. -/
def DrawnM (w0 w : World) (g : Nat) (l : List Int) (e : Ending) (w' : World) : Prop := ∃ (b : Bool) (A1 : Option Addr) (c1 : Nat) (l1 : List S83) (A2 : Option Addr) (c2 : Nat) (l2 : List S50) (A3 : Option Addr) (c3 : Nat) (l3 : List Int), e = .returned (.agg #[.bool b, .slice A1 l1.length c1, .slice A2 l2.length c2, .slice A3 l3.length c3]) ∧ Rm w w' g A1 c1 l1 A2 c2 l2 A3 c3 l3 ∧ Dr w0 w g l w'
section
variable {w0 wb W W' : World} {g : Nat} {l : List Int}
theorem S_drb {α : Type} {d : Kd α} {e : Nat} {v : Value} {xs : List α} (T : d.S e W wb.heap.size (fun _ => True) v xs) (D : Dr w0 wb g l W) (k : Dr w0 W g l W') : d.S e W' wb.heap.size (fun k_ => k_ < W.heap.size) v xs :=
 Kd.S_mono (Kd.S_step (Kd.S_bound T) (fun k_ hk_ hlt_ => k.2.2.1.2 k_ hlt_ (Nat.ne_of_gt (Nat.lt_of_lt_of_le D.2.2.2 hk_.2.1)) (by simp))) (fun _ h => h.2.2.1)
theorem S_apart {α β : Type} {d : Kd α} {d' : Kd β} {e e' n b : Nat} {v u : Value} {xs : List α} {ys : List β} (T : d.S e W b (fun k_ => k_ < n) v xs) (N : d'.R e' W n (fun _ => True) u ys) : d.S e W b (fun k_ => True ∧ ¬ some k_ = u.ownBlock) v xs :=
 Kd.S_mono T (fun k_ hk => ⟨trivial,fun e_ => absurd hk (Nat.not_lt.2 (Kd.R_base N k_ e_.symm))⟩)
theorem own_apart {α β : Type} {d : Kd α} {d' : Kd β} {e e' n b : Nat} {ok : Nat → Prop} {v u : Value} {xs : List α} {ys : List β} (T : d.S e W b ok v xs) (N : d'.R e' W n (fun _ => True) u ys) (ht : e ≠ e') : ∀ k_, some k_ = u.ownBlock → True ∧ some k_ ≠ v.ownBlock := fun k_ hk => by
 obtain ⟨cs,hc⟩ := Kd.R_typed N k_ hk.symm
 exact ⟨trivial,Kd.S_ne T hc ht⟩
end
section
variable {w0 w W : World} {g gr : Nat} {l : List Int}
theorem Dr.type (D : Dr w0 w g l W) : ∃ cs, W.heap[g]? = some (.cells cs 115 (0, 0)) := by
 obtain ⟨⟨i,h,hi,A0,c0,hI,_⟩,_⟩ := D
 exact ⟨_,hI⟩
theorem fin_any {b : Bool} {A1 : Option Addr} {c1 : Nat} {l1 : List S83} {A2 : Option Addr} {c2 : Nat} {l2 : List S50} {A3 : Option Addr} {c3 : Nat} {l3 : List Int} {ok1 : Nat → Prop} {x0 x1 x2 x3 : Value}
  (B : Bk w W gr (.cells #[x0,x1,x2,x3] 31 (0,0))) (T1 : Kd.N k83 83 W w.heap.size (fun k => (ok1 k) ∧ k ≠ gr) (.slice A1 l1.length c1) l1) (T2 : Kd.S k50 50 W w.heap.size (fun _ => True) (.slice A2 l2.length c2) l2) (T3 : Kd.R (Kd.int .i64) 2 W w.heap.size (fun _ => True) (.slice A3 l3.length c3) l3) (D : Dr w0 w g l W)
  (h1 : l1.length ≤ 300 ∧ sm1 l1) (h2 : l2.length ≤ 250 ∧ sm2 l2) (h3 : l3.length ≤ 300) (h4 : ∀ k,ok1 k → w.heap.size ≤ k ∧ k ≠ g) (e : Ending) (he : e = .returned (.agg #[.bool b,.slice A1 l1.length c1,.slice A2 l2.length c2,.slice A3 l3.length c3])) :
  DrawnM w0 w g l e ((((W.setCell ⟨gr,0,none⟩ (.bool b)).setCell ⟨gr,1,none⟩ (.slice A1 l1.length c1)).setCell ⟨gr,2,none⟩ (.slice A2 l2.length c2)).setCell ⟨gr,3,none⟩ (.slice A3 l3.length c3)) := by
 have KS : Kept W ((((W.setCell ⟨gr,0,none⟩ (.bool b)).setCell ⟨gr,1,none⟩ (.slice A1 l1.length c1)).setCell ⟨gr,2,none⟩ (.slice A2 l2.length c2)).setCell ⟨gr,3,none⟩ (.slice A3 l3.length c3)) (fun k => k = gr) := kept4_ _ _ _ _
 obtain ⟨cs,hg⟩ := D.type
 have F1 := Kd.N_reads' T1
 refine ⟨b,A1,c1,l1,A2,c2,l2,A3,c3,l3,he,⟨⟨Kd.F_mono (Kd.F_kept (Kd.N_F T1) KS (fun k hk e => hk.2 e)) (fun k hk => h4 k hk.1),F1.2.1⟩,⟨Kd.F_mono (Kd.F_kept (Kd.N_F (Kd.S_N (Kd.S_types (Kd.S_types (Kd.S_bound T2) B.2 (by decide)) hg (by decide)))) KS (fun k hk e => hk.1.2 e)) (fun k hk => ⟨hk.1.1.2.1,hk.2⟩),(Kd.S_reads' T2).2.1⟩,⟨Kd.F_mono (Kd.F_kept (Kd.N_F (Kd.R_N (Kd.R_types (Kd.R_types (Kd.R_bound T3) B.2 (by decide)) hg (by decide)))) KS (fun k hk e => hk.1.2 e)) (fun k hk => ⟨hk.1.1.2.1,hk.2⟩),(Kd.R_reads' T3).2.1⟩,h1,h2,h3⟩,D.far4 B.1 _ _ _ _⟩
end
section
variable {w0 wb w W : World} {g : Nat} {l : List Int}
theorem Dr.lt (D : Dr w0 wb g l W) : g < W.heap.size := Nat.lt_of_lt_of_le D.2.2.2 D.size
theorem S_empty {α : Type} {d : Kd α} {e base : Nat} {ok : Nat → Prop} {v : Value} (h : d.R e w base ok v []) : d.S e w base ok v [] := by
 obtain ⟨h0,inner,ho,hr⟩ := h
 exact ⟨fun _ => 0,h0,inner,ho,hr.1,fun j p hj => by simp at hj⟩
theorem Q_own {α β : Type} {d : Kd α} {d' : Kd β} {e e' b b' : Nat} {ok ok' : Nat → Prop} {v u : Value} {xs : List α} {ys : List β} (h : d.Q e W b ok v xs) (T : d'.S e' W b' ok' u ys) (ht : ∀ q, q ∈ e :: d.E → q ≠ e') : d.Q e W b (fun k => ok k ∧ some k ≠ u.ownBlock) v xs :=
 Kd.Q_mono (Kd.Q_bound h) (fun k hk => ⟨hk.1,fun e_ => by
  obtain ⟨_,_,_,q,hq,cs,hc⟩ := hk
  obtain ⟨cs2,hc2⟩ := Kd.S_typed T k e_.symm
  rw [hc] at hc2
  injection hc2 with hc2
  injection hc2 with _ hc2
  exact ht q hq hc2⟩)
theorem Q_F {α : Type} {d : Kd α} {e b n c : Nat} {A : Option Addr} {ok : Nat → Prop} {xs : List α} (h : d.Q e W b ok (.slice A n c) xs) : Kd.F d W ok A xs.length xs := fun W' hW => (Kd.Q_reads' (Kd.Q_move (Kd.Q_bound h) (fun k hk => hW k hk.1 hk.2.2.1))).2.2
theorem FK_copy {r : Int} {xs : List S87} {A : Option Addr} {c : Nat} {ok : Nat → Prop} (hc : xs.length ≤ c) (h : Kd.F k87 W ok A xs.length xs) : Kd.FK k83 W ok (⟨r, xs⟩ : S83) [.int .i64 r, .slice A xs.length c] := fun W' hW => ⟨[.int .i64 r], [.slice A xs.length c], rfl, rfl, ⟨A, c, rfl, hc, h W' hW⟩⟩
end
section
variable {wb W : World}
/-- An element of a row of cells is written. -/
theorem cell_put {ga n c b : Nat} {xs : List S87} (T : k87.R 87 W b (fun _ => True) (.slice (some ⟨ga, 0, none⟩) n c) xs) (i : Nat) (hi : i < n) : (∃ u, W.cell? ⟨ga, i * 2, none⟩ = some u) ∧ (∃ u, W.cell? ⟨ga, i * 2 + 1, none⟩ = some u) ∧ W.frozen? ⟨ga, i * 2, none⟩ = false ∧ W.frozen? ⟨ga, i * 2 + 1, none⟩ = false ∧ (∀ v : Int, ∃ ys : List S87, ys.length = xs.length ∧ k87.R 87 (W.setCell ⟨ga, i * 2, none⟩ (.int .i64 v)) b (fun _ => True) (.slice (some ⟨ga, 0, none⟩) n c) ys) ∧ (∀ v : Int, ∃ ys : List S87, ys.length = xs.length ∧ k87.R 87 (W.setCell ⟨ga, i * 2 + 1, none⟩ (.int .i64 v)) b (fun _ => True) (.slice (some ⟨ga, 0, none⟩) n c) ys) := by
 obtain ⟨cs,hl,hM,hcc,hfr⟩ := Kd.R_elem T z87 (i : Int) (by omega) (by omega)
 have hl2 : cs.length = 2 := hl
 obtain ⟨u0,u1,rfl⟩ : ∃ u0 u1,cs = [u0,u1] := by
  match cs,hl2 with
    | [u0, u1], _ => exact ⟨u0, u1, rfl⟩
 rw [Int.toNat_natCast] at hcc hfr
 have x := (rdOf z87 xs (i : Int))
 obtain ⟨x0,x1,rfl,rfl⟩ : ∃ x0 x1 : Int,u0 = .int .i64 x0 ∧ u1 = .int .i64 x1 := by
  obtain ⟨a,b,e1,e2,e3⟩ := hM
  subst e2;subst e3
  injection e1 with e1 e4
  injection e4 with e4 _
  exact ⟨_,_,e1,e4⟩
 refine ⟨⟨_,hcc 0 _ rfl⟩,⟨_,hcc 1 _ rfl⟩,hfr 0,hfr 1,fun v => ?_,fun v => ?_⟩
 ·have hp := Kd.R_seg T (i : Int) (by omega) (by omega) (c := [.int .i64 x0,.int .i64 x1]) (seg := [.int .i64 v]) (j := 0) (x' := (⟨v,x1⟩ : S87)) (okp := fun _ => False) rfl (by rw [Int.toNat_natCast];exact hcc) (show 0 + 1 ≤ 2 from by decide) (k87_mkM _ _ _ (⟨v,x1⟩ : S87)) (fun _ h => h.elim)
  rw [Int.toNat_natCast] at hp
  exact ⟨_,List.length_set,hp.1⟩
 ·have hp := Kd.R_seg T (i : Int) (by omega) (by omega) (c := [.int .i64 x0,.int .i64 x1]) (seg := [.int .i64 v]) (j := 1) (x' := (⟨x0,v⟩ : S87)) (okp := fun _ => False) rfl (by rw [Int.toNat_natCast];exact hcc) (show 1 + 1 ≤ 2 from by decide) (k87_mkM _ _ _ (⟨x0,v⟩ : S87)) (fun _ h => h.elim)
  rw [Int.toNat_natCast] at hp
  exact ⟨_,List.length_set,hp.1⟩
theorem head_any_f (a : Int) (b c : Bool) : ∃ r, spec_l1Head.f a b c = some r := by
 unfold spec_l1Head.f
 cases b <;> cases c <;> exact ⟨_,rfl⟩
end
/-! ### a machine that can be read -/
def Rp (ok : Nat → Prop) (W : World) (A1 : Option Addr) (c1 : Nat) (l1 : List S83) (A2 : Option Addr) (c2 : Nat) (l2 : List S50) (A3 : Option Addr) (c3 : Nat) (l3 : List Int) : Prop := (Kd.F k83 W ok A1 l1.length l1 ∧ l1.length ≤ c1) ∧ (Kd.F k50 W ok A2 l2.length l2 ∧ l2.length ≤ c2) ∧ (Kd.F (Kd.int .i64) W ok A3 l3.length l3 ∧ l3.length ≤ c3) ∧ (l1.length ≤ 300 ∧ sm1 l1) ∧ (l2.length ≤ 250 ∧ sm2 l2) ∧ l3.length ≤ 300
section
variable {P : Program} {fn : Func} {p u1 u2 u3 : Tmp} {ty : TypeId}
theorem results_ct3 (h : fn.results = #[.cell p ty, .tmp u1, .tmp u2]) (tmps : Array Value) (w : World) (g : Nat) (t : TypeId) (cs : Array Value) (fr : Nat × Nat) (d : TypeDesc) (hp : tmps.getD p undef = .pointer (some ⟨g, 0, none⟩)) (hg : w.heap[g]? = some (.cells cs t fr)) (hu : P.underlying ty = some d) (hd : (match d with | .struct _ | .array _ _ => true | _ => false) = true) (hi : (P.info? ty).map (·.size) = some cs.size) :
  (results fn tmps).run P w = .ok (.tuple #[.agg cs,tmps.getD u1 undef,tmps.getD u2 undef]) w := by
 have hp' : tmps[p]?.getD undef = .pointer (some ⟨g,0,none⟩) := by simpa using hp
 simp [results,h,hp',asAddr,run_loadVar_row w g t ty cs fr d hg hu hd hi]
end
section
variable {ok ok' S : Nat → Prop} {w0 w wb W W' : World} {g b : Nat} {l : List Int} {A1 : Option Addr} {c1 : Nat} {l1 : List S83} {A2 : Option Addr} {c2 : Nat} {l2 : List S50} {A3 : Option Addr} {c3 : Nat} {l3 : List Int}
theorem Rp.step (h : Rp ok W A1 c1 l1 A2 c2 l2 A3 c3 l3) (hm : ∀ k, ok k → k < W.heap.size → W'.heap[k]? = W.heap[k]?) : Rp ok W' A1 c1 l1 A2 c2 l2 A3 c3 l3 :=
 ⟨⟨Kd.F_step h.1.1 hm,h.1.2⟩,⟨Kd.F_step h.2.1.1 hm,h.2.1.2⟩,⟨Kd.F_step h.2.2.1.1 hm,h.2.2.1.2⟩,h.2.2.2⟩
theorem Rp.mono (h : Rp ok W A1 c1 l1 A2 c2 l2 A3 c3 l3) (hm : ∀ k, ok k → ok' k) : Rp ok' W A1 c1 l1 A2 c2 l2 A3 c3 l3 :=
 ⟨⟨Kd.F_mono h.1.1 hm,h.1.2⟩,⟨Kd.F_mono h.2.1.1 hm,h.2.1.2⟩,⟨Kd.F_mono h.2.2.1.1 hm,h.2.2.1.2⟩,h.2.2.2⟩
theorem Rp.bound (h : Rp ok W A1 c1 l1 A2 c2 l2 A3 c3 l3) : Rp (fun k => ok k ∧ k < W.heap.size) W A1 c1 l1 A2 c2 l2 A3 c3 l3 :=
 ⟨⟨Kd.F_bound h.1.1,h.1.2⟩,⟨Kd.F_bound h.2.1.1,h.2.1.2⟩,⟨Kd.F_bound h.2.2.1.1,h.2.2.1.2⟩,h.2.2.2⟩
theorem Rp.below (h : Rp ok W A1 c1 l1 A2 c2 l2 A3 c3 l3) (hb : Below W.heap.size W W') : Rp ok W' A1 c1 l1 A2 c2 l2 A3 c3 l3 := h.step (fun k _ hlt => hb.block k hlt)
theorem Rp.kept (h : Rp ok W A1 c1 l1 A2 c2 l2 A3 c3 l3) (hk : Kept W W' S) (hn : ∀ k, ok k → ¬ S k) : Rp ok W' A1 c1 l1 A2 c2 l2 A3 c3 l3 := h.step (fun k ho hlt => hk.2 k hlt (hn k ho))
theorem Rp.dr (h : Rp ok W A1 c1 l1 A2 c2 l2 A3 c3 l3) (k : Dr w0 W g l W') (hn : ∀ k, ok k → k ≠ g) : Rp ok W' A1 c1 l1 A2 c2 l2 A3 c3 l3 := h.step (fun q ho hlt => k.2.2.1.2 q hlt (hn q ho) (by simp))
theorem Rp.of (h : Rm wb W g A1 c1 l1 A2 c2 l2 A3 c3 l3) : Rp (fun k => wb.heap.size ≤ k ∧ k ≠ g) W A1 c1 l1 A2 c2 l2 A3 c3 l3 := h
theorem new_any (hl : l.length ≤ maxLen) : ∃ h, spec_l1New.f (l.length + 1) l = some (l, 0, h) := by
 unfold maxLen at hl
 obtain ⟨r,⟨h,rfl⟩,e⟩ := loop_inv (fun k (s : Int × Int) => spec_l1New.l0 k l s.1 s.2) (fun i s => s.2 = (i : Int)) (fun r => ∃ h,r = (l,0,h)) l.length 0
  (fun k i s _ hi hP => .inl ⟨(Go.bits .and .i64 (wrap64 ((wrap64 ((wrap64 (s.1 * 137)) + (wrap64 (rd l s.2)))) + 11)) 1073741823,wrap64 (s.2 + 1)),by
   show wrap64 (s.2 + 1) = ((i + 1 : Nat) : Int)
   rw [hP,wrap_of (by omega) (by omega)];omega,by
   show spec_l1New.l0 (k + 1) l s.1 s.2 = _
   simp only [spec_l1New.l0]
   rw [if_pos (by omega),if_pos (by omega)]⟩)
  (fun k s _ hP => ⟨_,⟨s.1,rfl⟩,by
   show spec_l1New.l0 (k + 1) l s.1 s.2 = _
   simp only [spec_l1New.l0]
   rw [if_neg (by omega)]⟩) l.length 0 (l.length + 1) (wrap64 (101027 + (l.length : Int)),0) (by omega) (by omega) rfl
 exact ⟨h,e⟩
theorem new_calls {A : Option Addr} {c : Nat} (hl : l.length ≤ maxLen) (hr : Kd.C (Kd.int .u8) w A l.length l) (hc : l.length ≤ c) : Calls Tryz.prog 50 #[.slice A l.length c] w fun e w' => ∃ g : Nat, e = .returned (.pointer (some ⟨g, 0, none⟩)) ∧ w.heap.size ≤ g ∧ Dr w w' g l w' ∧ Below w.heap.size w w' := by
 obtain ⟨h,e⟩ := new_any hl
 refine (spec_l1New.calls _ A c l l 0 h w w (Below.refl _ _) hr hc e).mono ?_
 rintro e w' ⟨g,rfl,hI,hB,hB2⟩
 exact ⟨g,rfl,hI.ge,Dr.refl (Int.le_refl 0) hI hB,hB2⟩
end
/-! ### a machine that is read by a law -/
def Mc (W : World) (A1 : Option Addr) (c1 : Nat) (l1 : List S83) (A2 : Option Addr) (c2 : Nat) (l2 : List S50) (A3 : Option Addr) (c3 : Nat) (l3 : List Int) : Prop := (Kd.C k83 W A1 l1.length l1 ∧ l1.length ≤ c1) ∧ (Kd.C k50 W A2 l2.length l2 ∧ l2.length ≤ c2) ∧ (Kd.C (Kd.int .i64) W A3 l3.length l3 ∧ l3.length ≤ c3)
section
variable {ok : Nat → Prop} {W W' : World} {A1 : Option Addr} {c1 : Nat} {l1 : List S83} {A2 : Option Addr} {c2 : Nat} {l2 : List S50} {A3 : Option Addr} {c3 : Nat} {l3 : List Int} {b : Nat} {ok1 ok2 ok3 : Nat → Prop}
theorem Mc.below (h : Mc W A1 c1 l1 A2 c2 l2 A3 c3 l3) (hb : Below W.heap.size W W') : Mc W' A1 c1 l1 A2 c2 l2 A3 c3 l3 := ⟨⟨Kd.C_below h.1.1 hb, h.1.2⟩, ⟨Kd.C_below h.2.1.1 hb, h.2.1.2⟩, ⟨Kd.C_below h.2.2.1 hb, h.2.2.2⟩⟩
theorem Rp.mc (h : Rp ok W A1 c1 l1 A2 c2 l2 A3 c3 l3) : Mc W A1 c1 l1 A2 c2 l2 A3 c3 l3 := ⟨⟨Kd.F_now h.1.1, h.1.2⟩, ⟨Kd.F_now h.2.1.1, h.2.1.2⟩, ⟨Kd.F_now h.2.2.1.1, h.2.2.1.2⟩⟩
theorem Mc.of (T1 : Kd.S k83 83 W b ok1 (.slice A1 l1.length c1) l1) (T2 : Kd.S k50 50 W b ok2 (.slice A2 l2.length c2) l2) (T3 : Kd.R (Kd.int .i64) 2 W b ok3 (.slice A3 l3.length c3) l3) : Mc W A1 c1 l1 A2 c2 l2 A3 c3 l3 :=
 ⟨⟨(Kd.S_reads' T1).2.2,(Kd.S_reads' T1).2.1⟩,⟨(Kd.S_reads' T2).2.2,(Kd.S_reads' T2).2.1⟩,⟨(Kd.R_reads' T3).2.2,(Kd.R_reads' T3).2.1⟩⟩
theorem Mc.nil (W : World) : Mc W none 0 [] none 0 [] none 0 [] := ⟨⟨Kd.C_nil _ _, Nat.le_refl _⟩, ⟨Kd.C_nil _ _, Nat.le_refl _⟩, ⟨Kd.C_nil _ _, Nat.le_refl _⟩⟩
end
section
variable {P : Program} {fn : Func} {p q : Tmp} {ty ty2 : TypeId}
theorem results_cc (h : fn.results = #[.cell p ty, .cell q ty2]) (tmps : Array Value) (w : World) (g : Nat) (t : TypeId) (cs : Array Value) (fr : Nat × Nat) (d : TypeDesc) (g2 : Nat) (t2 : TypeId) (cs2 : Array Value) (fr2 : Nat × Nat) (d2 : TypeDesc)
  (hp : tmps.getD p undef = .pointer (some ⟨g,0,none⟩)) (hg : w.heap[g]? = some (.cells cs t fr)) (hu : P.underlying ty = some d) (hd : (match d with|.struct _|.array _ _ => true|_ => false) = true) (hi : (P.info? ty).map (·.size) = some cs.size)
  (hp2 : tmps.getD q undef = .pointer (some ⟨g2,0,none⟩)) (hg2 : w.heap[g2]? = some (.cells cs2 t2 fr2)) (hu2 : P.underlying ty2 = some d2) (hd2 : (match d2 with|.struct _|.array _ _ => true|_ => false) = true) (hi2 : (P.info? ty2).map (·.size) = some cs2.size) :
  (results fn tmps).run P w = .ok (.tuple #[.agg cs,.agg cs2]) w := by
 have hp' : tmps[p]?.getD undef = .pointer (some ⟨g,0,none⟩) := by simpa using hp
 have hp2' : tmps[q]?.getD undef = .pointer (some ⟨g2,0,none⟩) := by simpa using hp2
 simp [results,h,hp',hp2',asAddr,run_loadVar_row w g t ty cs fr d hg hu hd hi,run_loadVar_row w g2 t2 ty2 cs2 fr2 d2 hg2 hu2 hd2 hi2]
end
def DR (w : World) (e : Ending) (w' : World) : Prop := ∃ (b : Bool) (A1 : Option Addr) (c1 : Nat) (l1 : List S83) (A2 : Option Addr) (c2 : Nat) (l2 : List S50) (A3 : Option Addr) (c3 : Nat) (l3 : List Int) (r : Int) (A4 : Option Addr) (c4 : Nat) (cs : List S87), e = .returned (.tuple #[.agg #[.bool b, .slice A1 l1.length c1, .slice A2 l2.length c2, .slice A3 l3.length c3], .int .i64 r, .slice A4 cs.length c4]) ∧ Rp (fun _ => True) w' A1 c1 l1 A2 c2 l2 A3 c3 l3 ∧ (k87.C w' A4 cs.length cs ∧ cs.length ≤ c4 ∧ cs.length ≤ 6) ∧ Below w.heap.size w w'
def DA (w : World) (e : Ending) (w' : World) : Prop := ∃ (b : Bool) (A1 : Option Addr) (c1 : Nat) (l1 : List S83) (A2 : Option Addr) (c2 : Nat) (l2 : List S50) (A3 : Option Addr) (c3 : Nat) (l3 : List Int) (f0 f1 f2 : Int) (A4 : Option Addr) (c4 : Nat) (ys : List S119), e = .returned (.tuple #[.agg #[.bool b, .slice A1 l1.length c1, .slice A2 l2.length c2, .slice A3 l3.length c3], .agg #[.int .i64 f0, .int .i64 f1, .int .i64 f2, .slice A4 ys.length c4]]) ∧ Rp (fun _ => True) w' A1 c1 l1 A2 c2 l2 A3 c3 l3 ∧ (k119.C w' A4 ys.length ys ∧ ys.length ≤ c4 ∧ ys.length ≤ 7) ∧ Below w.heap.size w w'
/-! ### drawHead_any: function 96 -/
theorem hold_96 {p : Prop} (h : Aside0 p) : p := h.out
theorem drawHead_any {w0 w : World} {g : Nat} {l : List Int}  (hl : l.length ≤ maxLen) (D0 : Dr w0 w g l w) :
    Calls Tryz.prog 96 #[.pointer (some ⟨g, 0, none⟩)] w fun e w' => ∃ x : Int, e = .returned (.int .i64 x) ∧ Dr w0 w g l w' := by
 have D := ak D0
 have HL := ak hl
 clear D0 hl
 go_enter Tryz.func96,Tryz.ntmps96
 go_wp2_with ((with_reducible refine gcal_ (f := 93) rfl ?_);refine gz_ (some 4) Tryz.func93 #[.pointer (some ⟨g,0,none⟩),.int .i64 10] ?_;refine (once_any 10 (by decide) HL.out D.out).mono ?_;rintro e w1 ⟨x1,rfl,K⟩;refine ⟨_,rfl,?_⟩;refine hold_96 ?_)
 refine ⟨?_⟩
 have D := ak (D.out.trans K)
 clear K
 cases x1 with
  | false =>
  go_wp2_with ((with_reducible refine gcal_ (f := 95) rfl ?_);refine gz_ (some 11) Tryz.func95 #[.pointer (some ⟨g,0,none⟩),.int .i64 60] ?_;refine (below_any 60 (by decide) HL.out D.out).mono ?_;rintro e w2 ⟨x7,rfl,hl_,hu_,K⟩;refine ⟨_,rfl,?_⟩;refine hold_96 ?_)
  refine ⟨?_⟩
  have D := ak (D.out.trans K)
  clear K
  have HLx7 := ak hl_
  have HUx7 := ak (hu_ (by decide))
  clear hl_ hu_
  go_wp2
  go_ret
  exact ⟨_,by first|rfl|(simp;done),D.out⟩
  | true =>
  obtain ⟨y,hy⟩ : ∃ y_ : List Int,y_ = ([(-1),0,4000003,4000004,4000000,4611686018427387904,(-9223372036854775808)] : List Int) := ⟨_,rfl⟩
  have Ny := ak hy
  clear hy
  go_wp2_with ((with_reducible refine gate_dst (N := 5) rfl ?_);refine Kd.R_lit (Kd.int .i64) _ 2 ?hg (N := 5) ?hd (xs := ([(-1),0,4000003,4000004,4000000,4611686018427387904,(-9223372036854775808)] : List Int)) (inner := [.int .i64 (-1),.int .i64 0,.int .i64 4000003,.int .i64 4000004,.int .i64 4000000,.int .i64 4611686018427387904,.int .i64 (-9223372036854775808)]) (ok := fun _ => True) (okp := fun _ => True) ?hr ?hp (fun _ hk => hk) trivial (Below.refl _ _) (Nat.le_refl _) (by simp) ?_;(case hd => rfl);(case hg => rfl);(case hr => first|(go_simp;done)|(go_simp;rfl));(case hp => exact (Reps.one (show Kd.M (Kd.int .i64) _ _ _ (-1) [.int .i64 (-1)] from rfl) (Reps.one (show Kd.M (Kd.int .i64) _ _ _ 0 [.int .i64 0] from rfl) (Reps.one (show Kd.M (Kd.int .i64) _ _ _ 4000003 [.int .i64 4000003] from rfl) (Reps.one (show Kd.M (Kd.int .i64) _ _ _ 4000004 [.int .i64 4000004] from rfl) (Reps.one (show Kd.M (Kd.int .i64) _ _ _ 4000000 [.int .i64 4000000] from rfl) (Reps.one (show Kd.M (Kd.int .i64) _ _ _ 4611686018427387904 [.int .i64 4611686018427387904] from rfl) (Reps.one (show Kd.M (Kd.int .i64) _ _ _ (-9223372036854775808) [.int .i64 (-9223372036854775808)] from rfl) (Reps.none _ _)))))))));intro v_ w3 ho hb hg_ hnew_;clear hg_ hnew_;refine hold_96 ?_)
  refine ⟨?_⟩
  rw [← Ny.out] at ho
  have TL := ak (Kd.R_lower ho D.out.size)
  have D := ak (D.out.below hb)
  clear ho hb
  obtain ⟨Ay,cy,ey⟩ := Kd.R_slice TL.out
  subst ey
  go_wp2_with ((with_reducible refine gcal_ (f := 95) rfl ?_);refine gz_ (some 7) Tryz.func95 #[.pointer (some ⟨g,0,none⟩),.int .i64 7] ?_;refine (below_any 7 (by decide) HL.out D.out).mono ?_;rintro e w4 ⟨x7,rfl,hl_,hu_,K⟩;refine ⟨_,rfl,?_⟩;refine hold_96 ?_)
  refine ⟨?_⟩
  have TL := ak (R_dr TL.out D.out K)
  have D := ak (D.out.trans K)
  clear K
  have HLx7 := ak hl_
  have HUx7 := ak (hu_ (by decide))
  clear hl_ hu_
  have Qx7 : Aside0 (x7 < (y.length : Int)) := ⟨by rw [Ny.out];exact HUx7.out⟩
  obtain ⟨adx7,eax7,hxx7⟩ := Kd.at_int (Kd.R_reads' TL.out).2.2 x7 HLx7.out Qx7.out
  subst eax7
  have pxx7 : (0 ≤ x7) = True := eq_true HLx7.out
  have qxx7 : (x7 < (y.length : Int)) = True := eq_true Qx7.out
  go_wp2
  go_ret
  exact ⟨_,by first|rfl|(simp;done),D.out⟩


open Go.Proofs.YthplaakckfhaaaaGreat.Gen
/-! ### draw3_any: function 94 -/
theorem hold_94 {p : Prop} (h : Aside0 p) : p := h.out
theorem draw3_any {w0 w : World} {g : Nat} {l : List Int}  (hl : l.length ≤ maxLen) (D0 : Dr w0 w g l w) :
    Calls Tryz.prog 94 #[.pointer (some ⟨g, 0, none⟩)] w fun e w' => ∃ (v : Value) (xs : List S87), e = .returned v ∧ Kd.R k87 87 w' w.heap.size (fun _ => True) v xs ∧ xs.length = 6 ∧ Dr w0 w g l w' := by
 have hu := Tryz.underlying87
 have hu2 := Tryz.underlying40
 have D := ak D0
 have HL := ak hl
 clear D0 hl
 have hnc : spec_NewCells.f = some (List.replicate 6 z87) := by unfold spec_NewCells.f;rw [if_pos (by decide)]
 go_enter Tryz.func94,Tryz.ntmps94
 go_wp2_with ((with_reducible refine gcal_ (f := 130) rfl ?_);refine gz_ (some 6) Tryz.func130 #[] ?_;refine (spec_NewCells.calls _ _ hnc).mono ?_;rintro e w1 ⟨v_,rfl,T,hb⟩;refine ⟨_,rfl,?_⟩;refine hold_94 ?_)
 refine ⟨?_⟩
 have T := ak (Kd.R_lower T D.out.size)
 have D := ak (D.out.below hb)
 clear hb hnc
 obtain ⟨xs,hxs⟩ : ∃ y_,y_ = List.replicate 6 z87 := ⟨_,rfl⟩
 have T := T.out
 rw [← hxs] at T
 have T := ak T
 have hx : xs.length = 6 := by rw [hxs];rfl
 clear hxs
 obtain ⟨ga,ca,ev,hga,_,_⟩ := Kd.R_form T.out (by omega)
 rw [hx] at ev
 subst ev
 clear hga
 go_wp2
 go_loopg [4] 6 (fun gg v4 wr => ∃ (i : Nat) (xs : List S87),v4 = .int .i64 i ∧ i ≤ 6 ∧ 6 - i ≤ gg ∧ xs.length = 6 ∧ Aside0 (k87.R 87 wr w.heap.size (fun _ => True) (.slice (some ⟨ga,0,none⟩) 6 ca) xs) ∧ Aside0 (Dr w0 w g l wr))
 case atStart => exact ⟨0,xs,rfl,by omega,by omega,hx,T,D⟩
 case round =>
  clear T D hx
  obtain ⟨i,xs,rfl,hi,hgg,hx,T,D⟩ := hrel
  by_cases hlt : i < 6
  ·have hjb : decide ((i : Int) < 6) = true := decide_eq_true (by omega)
   go_wp2_with ((with_reducible refine gcal_ (f := 93) rfl ?_);refine gz_ (some 14) Tryz.func93 #[.pointer (some ⟨g,0,none⟩),.int .i64 2] ?_;refine (once_any 2 (by decide) HL.out D.out).mono ?_;rintro e w1 ⟨u,rfl,K⟩;refine ⟨_,rfl,?_⟩;refine hold_94 ?_)
   refine ⟨?_⟩
   have T := ak (R_dr T.out D.out K)
   have D := ak (D.out.trans K)
   clear K
   go_wp2_with ((with_reducible refine gcal_ (f := 95) rfl ?_);refine gz_ (some 18) Tryz.func95 #[.pointer (some ⟨g,0,none⟩),.int .i64 6] ?_;refine (below_any 6 (by decide) HL.out D.out).mono ?_;rintro e w2 ⟨x1,rfl,hl_,hu_,K⟩;refine ⟨_,rfl,?_⟩;refine hold_94 ?_)
   refine ⟨?_⟩
   have T := ak (R_dr T.out D.out K)
   have D := ak (D.out.trans K)
   clear K
   have HLx1 := ak hl_
   have HUx1 := ak (hu_ (by decide))
   clear hl_ hu_
   go_wp2_with ((with_reducible refine gcal_ (f := 93) rfl ?_);refine gz_ (some 21) Tryz.func93 #[.pointer (some ⟨g,0,none⟩),.int .i64 5] ?_;refine (once_any 5 (by decide) HL.out D.out).mono ?_;rintro e w3 ⟨x2,rfl,K⟩;refine ⟨_,rfl,?_⟩;refine hold_94 ?_)
   refine ⟨?_⟩
   have T := ak (R_dr T.out D.out K)
   have D := ak (D.out.trans K)
   clear K
   obtain ⟨hr,hhr⟩ := head_any_f x1 u x2
   go_wp2_with (go_at_call 131;refine (spec_l1Head.calls x1 u x2 hr _ hhr).mono ?_;rintro e w4 ⟨rfl,B0⟩;(try dsimp only);refine hold_94 ?_)
   refine ⟨?_⟩
   have hb := B0.below
   have T := ak (Kd.R_below T.out hb)
   have D := ak (D.out.below hb)
   clear hb B0 hhr
   obtain ⟨⟨ua,hua⟩,⟨ub,hub⟩,hfa,hfb,P0,P1⟩ := cell_put T.out i (by omega)
   have pxi : (0 ≤ (i : Int)) = True := eq_true (by omega)
   have qxi : ((i : Int) < 6) = True := eq_true (by omega)
   have qxn : (i < 6) = True := eq_true (by omega)
   go_upto_region 7 with (fail)
   obtain ⟨zs,hzs,T_⟩ := P0 hr
   have D := ak (D.out.far (p := ⟨ga,i * 2,none⟩) (Kd.R_base T.out ga rfl) (.int .i64 hr))
   have T := ak T_
   have hx : zs.length = 6 := hzs.trans hx
   clear T_ hzs hua hub hfa hfb P0 P1 pxi qxi qxn
   generalize (w4.setCell ⟨ga,i * 2,none⟩ (.int .i64 hr)) = w5 at D T ⊢
   obtain ⟨xs,hxq⟩ : ∃ y_,y_ = zs := ⟨_,rfl⟩
   subst hxq
   cases u with
   | false =>
    go_wp2
    go_roundg (6 - (i + 1))
    case measure => omega
    case rel => exact ⟨i + 1,xs,by go_num,by omega,by omega,hx,T,D⟩
   | true =>
    go_wp2_with ((with_reducible refine gcal_ (f := 132) rfl ?_);refine gz_ (some 29) Tryz.func132 #[.pointer (some ⟨g,0,none⟩),.int .i64 (-50),.int .i64 50] ?_;refine (from_any HL.out D.out).mono ?_;rintro e w6 ⟨x3,rfl,K⟩;refine ⟨_,rfl,?_⟩;refine hold_94 ?_)
    refine ⟨?_⟩
    have T := ak (R_dr T.out D.out K)
    have D := ak (D.out.trans K)
    clear K
    obtain ⟨⟨ua,hua⟩,⟨ub,hub⟩,hfa,hfb,P0,P1⟩ := cell_put T.out i (by omega)
    have pxi : (0 ≤ (i : Int)) = True := eq_true (by omega)
    have qxi : ((i : Int) < 6) = True := eq_true (by omega)
    have qxn : (i < 6) = True := eq_true (by omega)
    go_upto_region 4 with (fail)
    obtain ⟨zs,hzs,T_⟩ := P1 x3
    have D := ak (D.out.far (p := ⟨ga,i * 2 + 1,none⟩) (Kd.R_base T.out ga rfl) (.int .i64 x3))
    have T := ak T_
    have hx : zs.length = 6 := hzs.trans hx
    clear T_ hzs hua hub hfa hfb P0 P1 pxi qxi qxn
    generalize (w6.setCell ⟨ga,i * 2 + 1,none⟩ (.int .i64 x3)) = w7 at D T ⊢
    obtain ⟨xs,hxq⟩ : ∃ y_,y_ = zs := ⟨_,rfl⟩
    subst hxq
    go_wp2
    go_roundg (6 - (i + 1))
    case measure => omega
    case rel => exact ⟨i + 1,xs,by go_num,by omega,by omega,hx,T,D⟩
  ·have hjb : decide ((i : Int) < 6) = false := decide_eq_false (by omega)
   go_wp2
   go_ret
   exact ⟨_,xs,by first|rfl|(simp;done),T.out,hx,D.out⟩


open Go.Proofs.YthplaakckfhaaaaGreat.Gen
/-! ### drawAny_any: function 53 -/
theorem hold_53 {p : Prop} (h : Aside0 p) : p := h.out
theorem drawAny_any {w0 w : World} {g : Nat} {l : List Int}  (hl : l.length ≤ maxLen) (D0 : Dr w0 w g l w) :
    Calls Tryz.prog 53 #[.pointer (some ⟨g, 0, none⟩)] w fun e w' => ∃ (v : Value) (xs : List S87), e = .returned v ∧ Kd.Q k87 87 w' w.heap.size (fun _ => True) v xs ∧ xs.length ≤ 6 ∧ Dr w0 w g l w' := by
 have hu := Tryz.underlying87
 have hu2 := Tryz.underlying40
 have D := ak D0
 have HL := ak hl
 clear D0 hl
 go_enter Tryz.func53,Tryz.ntmps53
 go_wp2_with ((with_reducible refine gcal_ (f := 94) rfl ?_);refine gz_ (some 6) Tryz.func94 #[.pointer (some ⟨g,0,none⟩)] ?_;refine (draw3_any HL.out D.out.self).mono ?_;rintro e w1 ⟨v_,xs,rfl,T,hx,K⟩;refine ⟨_,rfl,?_⟩;refine hold_53 ?_)
 refine ⟨?_⟩
 have T := Kd.R_lower T D.out.size
 have D := ak (D.out.trans K)
 clear K
 have T := ak T
 obtain ⟨ga,ca,ev,hga,_,_⟩ := Kd.R_form T.out (by omega)
 rw [hx] at ev
 subst ev
 clear hga
 go_wp2_with ((with_reducible refine gcal_ (f := 93) rfl ?_);refine gz_ (some 8) Tryz.func93 #[.pointer (some ⟨g,0,none⟩),.int .i64 12] ?_;refine (once_any 12 (by decide) HL.out D.out).mono ?_;rintro e w2 ⟨x1,rfl,K⟩;refine ⟨_,rfl,?_⟩;refine hold_53 ?_)
 refine ⟨?_⟩
 have T := ak (R_dr T.out D.out K)
 have D := ak (D.out.trans K)
 clear K
 cases x1 with
  | false =>
  go_wp2
  go_ret
  exact ⟨_,xs,by first|rfl|(simp;done),Kd.Q_of_R T.out,Nat.le_of_eq hx,D.out⟩
  | true =>
  go_wp2_with ((with_reducible refine gcal_ (f := 95) rfl ?_);refine gz_ (some 10) Tryz.func95 #[.pointer (some ⟨g,0,none⟩),.int .i64 6] ?_;refine (below_any 6 (by decide) HL.out D.out).mono ?_;rintro e w3 ⟨kx,rfl,hl_,hu_,K⟩;refine ⟨_,rfl,?_⟩;refine hold_53 ?_)
  refine ⟨?_⟩
  have T := ak (R_dr T.out D.out K)
  have D := ak (D.out.trans K)
  clear K
  have HLkx := ak hl_
  have HUkx := ak (hu_ (by decide))
  clear hl_ hu_
  obtain ⟨i,hik⟩ : ∃ i : Nat,kx = (i : Int) := ⟨kx.toNat,by have := HLkx.out;omega⟩
  subst hik
  have hi6 : i < 6 := by have := HUkx.out;omega
  go_wp2_with ((with_reducible refine gcal_ (f := 95) rfl ?_);refine gz_ (some 12) Tryz.func95 #[.pointer (some ⟨g,0,none⟩),.int .i64 3] ?_;refine (below_any 3 (by decide) HL.out D.out).mono ?_;rintro e w4 ⟨x6,rfl,hl_,hu_,K⟩;refine ⟨_,rfl,?_⟩;refine hold_53 ?_)
  refine ⟨?_⟩
  have T := ak (R_dr T.out D.out K)
  have D := ak (D.out.trans K)
  clear K
  have HLx6 := ak hl_
  have HUx6 := ak (hu_ (by decide))
  clear hl_ hu_
  by_cases cs0 : x6 = 0
  ·subst cs0
   go_wp2_with ((with_reducible refine gcal_ (f := 96) rfl ?_);refine gz_ (some 18) Tryz.func96 #[.pointer (some ⟨g,0,none⟩)] ?_;refine (drawHead_any HL.out D.out.self).mono ?_;rintro e w5 ⟨hv,rfl,K⟩;refine ⟨_,rfl,?_⟩;refine hold_53 ?_)
   refine ⟨?_⟩
   have T := ak (R_dr T.out D.out K)
   have D := ak (D.out.trans K)
   clear K
   obtain ⟨⟨ua,hua⟩,⟨ub,hub⟩,hfa,hfb,P0,P1⟩ := cell_put T.out i (by omega)
   have pxi : (0 ≤ (i : Int)) = True := eq_true (by omega)
   have qxi : ((i : Int) < 6) = True := eq_true (by omega)
   have qxn : (i < 6) = True := eq_true (by omega)
   go_upto_region 11 with (fail)
   obtain ⟨zs,hzs,T_⟩ := P0 hv
   have D := ak (D.out.far (p := ⟨ga,i * 2,none⟩) (Kd.R_base T.out ga rfl) (.int .i64 hv))
   have T := ak T_
   have hx : zs.length = 6 := hzs.trans hx
   clear T_ hzs hua hub hfa hfb P0 P1 pxi qxi qxn
   generalize (w5.setCell ⟨ga,i * 2,none⟩ (.int .i64 hv)) = w6 at D T ⊢
   obtain ⟨xs,hxq⟩ : ∃ y_,y_ = zs := ⟨_,rfl⟩
   subst hxq
   go_wp2
   go_ret
   exact ⟨_,xs,by first|rfl|(simp;done),Kd.Q_of_R T.out,Nat.le_of_eq hx,D.out⟩
  have csb0 : (x6 == 0) = false := beq_eq_false_iff_ne.mpr cs0
  have NC0 := ak cs0
  clear cs0
  by_cases cs1 : x6 = 1
  ·subst cs1
   obtain ⟨y,hy⟩ : ∃ y_ : List Int,y_ = ([1000000000,1000000001,(-1000000001),5] : List Int) := ⟨_,rfl⟩
   have Ny := ak hy
   clear hy
   go_wp2_with ((with_reducible refine gate_dst (N := 25) rfl ?_);refine Kd.R_lit (Kd.int .i64) _ 2 ?hg (N := 25) ?hd (xs := ([1000000000,1000000001,(-1000000001),5] : List Int)) (inner := [.int .i64 1000000000,.int .i64 1000000001,.int .i64 (-1000000001),.int .i64 5]) (ok := fun _ => True) (okp := fun _ => True) ?hr ?hp (fun _ hk => hk) trivial (Below.refl _ _) (Nat.le_refl _) (by simp) ?_;(case hd => rfl);(case hg => rfl);(case hr => first|(go_simp;done)|(go_simp;rfl));(case hp => exact (Reps.one (show Kd.M (Kd.int .i64) _ _ _ 1000000000 [.int .i64 1000000000] from rfl) (Reps.one (show Kd.M (Kd.int .i64) _ _ _ 1000000001 [.int .i64 1000000001] from rfl) (Reps.one (show Kd.M (Kd.int .i64) _ _ _ (-1000000001) [.int .i64 (-1000000001)] from rfl) (Reps.one (show Kd.M (Kd.int .i64) _ _ _ 5 [.int .i64 5] from rfl) (Reps.none _ _))))));intro v_ w7 ho hb hg_ hnew_;clear hg_ hnew_;refine hold_53 ?_)
   refine ⟨?_⟩
   rw [← Ny.out] at ho
   have TL := ak (Kd.R_lower ho D.out.size)
   have T := ak (Kd.R_below T.out hb)
   have D := ak (D.out.below hb)
   clear ho hb
   obtain ⟨Ay,cy,ey⟩ := Kd.R_slice TL.out
   subst ey
   go_wp2_with ((with_reducible refine gcal_ (f := 95) rfl ?_);refine gz_ (some 27) Tryz.func95 #[.pointer (some ⟨g,0,none⟩),.int .i64 4] ?_;refine (below_any 4 (by decide) HL.out D.out).mono ?_;rintro e w8 ⟨x7,rfl,hl_,hu_,K⟩;refine ⟨_,rfl,?_⟩;refine hold_53 ?_)
   refine ⟨?_⟩
   have T := ak (R_dr T.out D.out K)
   have TL := ak (R_dr TL.out D.out K)
   have D := ak (D.out.trans K)
   clear K
   have HLx7 := ak hl_
   have HUx7 := ak (hu_ (by decide))
   clear hl_ hu_
   have Qx7 : Aside0 (x7 < (y.length : Int)) := ⟨by rw [Ny.out];exact HUx7.out⟩
   obtain ⟨adx7,eax7,hxx7⟩ := Kd.at_int (Kd.R_reads' TL.out).2.2 x7 HLx7.out Qx7.out
   subst eax7
   have pxx7 : (0 ≤ x7) = True := eq_true HLx7.out
   have qxx7 : (x7 < (y.length : Int)) = True := eq_true Qx7.out
   obtain ⟨⟨ua,hua⟩,⟨ub,hub⟩,hfa,hfb,P0,P1⟩ := cell_put T.out i (by omega)
   have pxi : (0 ≤ (i : Int)) = True := eq_true (by omega)
   have qxi : ((i : Int) < 6) = True := eq_true (by omega)
   have qxn : (i < 6) = True := eq_true (by omega)
   go_upto_region 11 with (fail)
   obtain ⟨zs,hzs,T_⟩ := P1 (rd y x7)
   have D := ak (D.out.far (p := ⟨ga,i * 2 + 1,none⟩) (Kd.R_base T.out ga rfl) (.int .i64 (rd y x7)))
   have T := ak T_
   have hx : zs.length = 6 := hzs.trans hx
   clear T_ hzs hua hub hfa hfb P0 P1 pxi qxi qxn
   generalize (w8.setCell ⟨ga,i * 2 + 1,none⟩ (.int .i64 (rd y x7))) = w9 at D T ⊢
   obtain ⟨xs,hxq⟩ : ∃ y_,y_ = zs := ⟨_,rfl⟩
   subst hxq
   go_wp2
   go_ret
   exact ⟨_,xs,by first|rfl|(simp;done),Kd.Q_of_R T.out,Nat.le_of_eq hx,D.out⟩
  have csb1 : (x6 == 1) = false := beq_eq_false_iff_ne.mpr cs1
  have NC1 := ak cs1
  clear cs1
  by_cases cs2 : x6 = 2
  ·subst cs2
   obtain ⟨i0,hi0,_,hsz0,_⟩ := info_parts info87
   have hcut := cut_from (P := Tryz.prog) 40 87 .i64 Tryz.underlying40 hi0 2 hsz0 (some ⟨ga,0,none⟩) 6 ca (1 : Int) (by omega) (by omega)
   rw [show ((1 : Int)).toNat = 1 from rfl] at hcut
   have TQ := Kd.Q_drop (Kd.Q_of_R T.out) (k := 1) (by omega)
   have hcp := (Kd.R_reads' T.out).2.1
   have hca : ¬ ca = 1 := by omega
   rw [if_neg hca] at hcut TQ
   have TQ := ak TQ
   clear hcp
   have hle : (xs.drop 1).length ≤ 6 := by rw [List.length_drop];omega
   go_wp2
   go_ret
   exact ⟨_,xs.drop 1,by first|rfl|(simp;done),TQ.out,hle,D.out⟩
  have csb2 : (x6 == 2) = false := beq_eq_false_iff_ne.mpr cs2
  have NC2 := ak cs2
  clear cs2
  exfalso
  have h0_ := HLx6.out
  have h1_ := HUx6.out
  have n0_ := NC0.out
  have n1_ := NC1.out
  have n2_ := NC2.out
  omega


end Go.Proofs.YthplaakckfhaaaaGreat.XMs
