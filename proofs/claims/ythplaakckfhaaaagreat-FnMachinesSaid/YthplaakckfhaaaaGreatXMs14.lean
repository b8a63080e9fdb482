/- Proved: a call of each Go function here comes to what its Lean function tells. -/
import Derived.Test.YthplaakckfhaaaaGreatXMs0
import Derived.Test.YthplaakckfhaaaaGreatXMs10
import Derived.Test.YthplaakckfhaaaaGreatXMs11
import Derived.Test.YthplaakckfhaaaaGreatXMs13
namespace Go.Proofs.YthplaakckfhaaaaGreat.XMs
open Go.RowKit Go.Proofs.YthplaakckfhaaaaGreat.Aid Go.Proofs.YthplaakckfhaaaaGreatW.PrintWords Go.Proofs.YthplaakckfhaaaaGreatW.PrintLast Go.Proofs.YthplaakckfhaaaaGreatW.PrintMore
set_option linter.unusedVariables false
set_option maxHeartbeats 8000000
set_option maxRecDepth 100000
set_option linter.unusedSimpArgs false

open Go.Proofs.YthplaakckfhaaaaGreat.Gen
/-! ### draw6_any: function 51 -/
theorem hold_51 {p : Prop} (h : Aside0 p) : p := h.out
theorem draw6_any {w0 w : World} {g : Nat} {l : List Int} (hrec : ∀ (f0 f1 f2 : Int) (ys : List S119), ys.length ≤ 7 → ∃ k b, spec_RecordOk.f k f0 f1 f2 ys = some b) (hl : l.length ≤ maxLen) (D0 : Dr w0 w g l w) :
    Calls Tryz.prog 51 #[.pointer (some ⟨g, 0, none⟩)] w fun e w' => DrawnM w0 w g l e w' := by
 have hu := Tryz.underlying31
 have hu2 := Tryz.underlying83
 have hu3 := Tryz.underlying50
 have hu4 := Tryz.underlying119
 have HR := ak hrec
 clear hrec
 have D := ak D0
 have HL := ak hl
 clear D0 hl
 go_enter Tryz.func51,Tryz.ntmps51
 go_wp2_with ((with_reducible refine gate_dst (N := 2) rfl ?_);refine bx_ 2 #[.bool false,.slice none 0 0,.slice none 0 0,.slice none 0 0] 31 ?_;intro gr hg w1 hbox hb;have hge := ak (Nat.le_of_eq hg.symm);clear hg;refine hold_51 ?_)
 refine ⟨?_⟩
 have BR := ak (show Bk _ w1 gr _ from ⟨Nat.le_trans D.out.size hge.out,hbox⟩)
 have D := ak (D.out.below hb)
 clear hbox hb hge
 go_wp2_with ((with_reducible refine gcal_ (f := 93) rfl ?_);refine gz_ (some 11) Tryz.func93 #[.pointer (some ⟨g,0,none⟩),.int .i64 5] ?_;refine (once_any 5 (by decide) HL.out D.out).mono ?_;rintro e w2 ⟨x0,rfl,K⟩;refine ⟨_,rfl,?_⟩;refine hold_51 ?_)
 refine ⟨?_⟩
 have BR := ak (BR.out.dr D.out K)
 have D := ak (D.out.trans K)
 clear K
 go_wp2_with ((with_reducible refine gate_dst (N := 3) rfl ?_);refine bx_ 3 #[.bool false,.slice none 0 0,.slice none 0 0,.slice none 0 0] 31 ?_;intro gm hg w3 hbox hb;have hge := ak (Nat.le_of_eq hg.symm);clear hg;refine hold_51 ?_)
 refine ⟨?_⟩
 have NEBRBM := ak (Nat.ne_of_lt (Nat.lt_of_lt_of_le (blk_lt BR.out.2) hge.out))
 have BM := ak (show Bk _ w3 gm _ from ⟨Nat.le_trans D.out.size hge.out,hbox⟩)
 have BR := ak (BR.out.below hb)
 have D := ak (D.out.below hb)
 clear hbox hb hge
 obtain ⟨⟨hc4_0,hc4_1,hc4_2,hc4_3⟩,hf4_0,hf4_1,hf4_2,hf4_3⟩ := cl4_ BM.out.2
 go_upto_region 2 with (fail)
 have KS := ak (kept4_ (W := w3) (b := gm) (.bool (!x0)) (.slice none 0 0) (.slice none 0 0) (.slice none 0 0))
 have D := ak (D.out.far4 BM.out.1 (.bool (!x0)) (.slice none 0 0) (.slice none 0 0) (.slice none 0 0))
 have BR := ak (BR.out.kept KS.out NEBRBM.out)
 have BM := ak (BM.out.put4 (.bool (!x0)) (.slice none 0 0) (.slice none 0 0) (.slice none 0 0))
 clear KS
 generalize ((((w3.setCell ⟨gm,0,none⟩ (.bool (!x0))).setCell ⟨gm,1,none⟩ (.slice none 0 0)).setCell ⟨gm,2,none⟩ (.slice none 0 0)).setCell ⟨gm,3,none⟩ (.slice none 0 0)) = w5 at D BR BM ⊢
 go_wp2
 go_loopg [4] 4 (fun gg v4 wr => ∃ (j : Nat),v4 = .int .i64 j ∧ j ≤ 4 ∧ 4 - j ≤ gg ∧ Aside0 (Ms w0 w g gm gr l wr j 0 0))
 case atStart => exact ⟨0,rfl,by omega,by omega,⟨⟨!x0,none,0,[],none,0,[],none,0,[],D.out,BR.out,BM.out,Kd.S_nil _ _ _ _ _,Kd.S_nil _ _ _ _ _,Kd.R_nil _ _ _ _ _,⟨Nat.le_refl _,sm1_nil⟩,⟨Nat.le_refl _,sm2_nil⟩,Nat.le_refl _⟩⟩⟩
 case round =>
  clear D BR BM
  obtain ⟨j,rfl,hj,hgg,MS⟩ := hrel
  obtain ⟨b,A1,c1,l1,A2,c2,l2,A3,c3,l3,D,BR,BM,T1,T2,T3,H1,H2,H3⟩ := MS.out
  have D := ak D
  have BR := ak BR
  have BM := ak BM
  have T1 := ak T1
  have T2 := ak T2
  have T3 := ak T3
  have H1 := ak H1
  have H2 := ak H2
  have H3 := ak H3
  clear MS
  by_cases hlt : j < 4
  ·have hjb : decide ((j : Int) < 4) = true := decide_eq_true (by omega)
   go_wp2_with ((with_reducible refine gcal_ (f := 93) rfl ?_);refine gz_ (some 19) Tryz.func93 #[.pointer (some ⟨g,0,none⟩),.int .i64 2] ?_;refine (once_any 2 (by decide) HL.out D.out).mono ?_;rintro e w6 ⟨x1,rfl,K⟩;refine ⟨_,rfl,?_⟩;refine hold_51 ?_)
   refine ⟨?_⟩
   have BR := ak (BR.out.dr D.out K)
   have BM := ak (BM.out.dr D.out K)
   have T1 := ak (S_dr T1.out D.out K)
   have T2 := ak (S_dr T2.out D.out K)
   have T3 := ak (R_dr T3.out D.out K)
   have D := ak (D.out.trans K)
   clear K
   cases x1 with
   | false =>
    go_wp2
    go_roundg (4 - (j + 1))
    case measure => omega
    case rel => exact ⟨j + 1,by go_num,by omega,by omega,⟨⟨b,_,_,l1,_,_,l2,_,_,l3,D.out,BR.out,BM.out,T1.out,T2.out,T3.out,⟨Nat.le_succ_of_le H1.out.1,H1.out.2⟩,H2.out,H3.out⟩⟩⟩
   | true =>
    go_upto_region 6 with (fail)
    have hb : Below w6.heap.size w6 w6.drew := below_drew1 (Below.refl _ _)
    have BR := ak (BR.out.below hb)
    have BM := ak (BM.out.below hb)
    have T1 := ak (Kd.S_below T1.out hb)
    have T2 := ak (Kd.S_below T2.out hb)
    have T3 := ak (Kd.R_below T3.out hb)
    have D := ak (D.out.below hb)
    clear hb
    refine start_ (n := 10) (S := fun w' => w'.cell? ⟨gm,0,none⟩ = some (.bool b) ∧ w'.cell? ⟨gm,1,none⟩ = some (.slice A1 l1.length c1) ∧ w'.cell? ⟨gm,2,none⟩ = some (.slice A2 l2.length c2) ∧ w'.cell? ⟨gm,3,none⟩ = some (.slice A3 l3.length c3)) (ds := [9]) #[false,false,false,false,false,false,false,false,false,false] (by kernel_rfl) rfl rfl ⟨(blk_cell BM.out.2 0).trans rfl,(blk_cell BM.out.2 1).trans rfl,(blk_cell BM.out.2 2).trans rfl,(blk_cell BM.out.2 3).trans rfl⟩ (fun hHeld => ?_)
    generalize w6.drew = w7 at D T1 T2 T3 BR BM hHeld ⊢
    refine pure_ (i := 0) (N := some 20) (v := ?_) (a' := ?_) #[true,false,false,false,false,false,false,false,false,false] rfl rfl (by kernel_rfl) (fun _ _ _ h => h) (Or.inl ⟨by rfl,?_⟩) ?_ ?_
    rotate_left
    ·intro w'
     go_simp
     with_reducible rfl
    rotate_left
    ·simp only [Act.put,q1,q2,q3,i64_w,i32_w]
     rfl
    refine take_ (i := 1) (N := some 21) (v := ?_) (a' := ?_) #[true,true,false,false,false,false,false,false,false,false] rfl rfl (by kernel_rfl) (fun _ _ _ h => h) (Or.inl ⟨by rfl,?_⟩) hHeld ?_ ?_
    rotate_left
    ·rintro w' ⟨s0,s1,s2,s3⟩
     go_simp
     with_reducible rfl
    rotate_left
    ·simp only [Act.put,q1,q2,q3,i64_w,i32_w]
     rfl
    refine pure_ (i := 2) (N := some 22) (v := ?_) (a' := ?_) #[true,true,true,false,false,false,false,false,false,false] rfl rfl (by kernel_rfl) (fun _ _ _ h => h) (Or.inl ⟨by rfl,?_⟩) ?_ ?_
    rotate_left
    ·intro w'
     go_simp
     with_reducible rfl
    rotate_left
    ·simp only [Act.put,q1,q2,q3,i64_w,i32_w]
     rfl
    refine pure_ (i := 3) (N := some 23) (v := ?_) (a' := ?_) #[true,true,true,true,false,false,false,false,false,false] rfl rfl (by kernel_rfl) (fun _ _ _ h => h) (Or.inl ⟨by rfl,?_⟩) ?_ ?_
    rotate_left
    ·intro w'
     go_simp
     with_reducible rfl
    rotate_left
    ·simp only [Act.put,q1,q2,q3,i64_w,i32_w]
     rfl
    refine one_ (i := 4) (N := some 24) #[true,true,true,true,true,false,false,false,false,false] rfl rfl (by kernel_rfl) (by decide) (fun K hK => ?_)
    refine goes_ Tryz.func94 (by kernel_rfl) rfl #[.pointer (some ⟨g,0,none⟩)] (by rfl) rfl rfl (by (try simp only [List.map_toArray,List.map_cons,List.map_nil]);first|done|rfl) ?_
    refine (draw3_any HL.out D.out.self).mono ?_
    rintro e w8 ⟨vn,xs,rfl,TN,hxs,K⟩
    refine ⟨_,rfl,?_⟩
    have HX := ak (Nat.le_of_eq hxs)
    have TN := ak TN
    have TB := ak (S_drb T1.out D.out K)
    have SZ := ak D.out.size
    clear hxs
    have BR := ak (BR.out.dr D.out K)
    have BM := ak (BM.out.dr D.out K)
    have T1 := ak (S_dr T1.out D.out K)
    have T2 := ak (S_dr T2.out D.out K)
    have T3 := ak (R_dr T3.out D.out K)
    have D := ak (D.out.trans K)
    clear K
    have T1 := TB
    clear TB
    obtain ⟨An,cn,en⟩ := Kd.R_slice TN.out
    subst en
    refine hK.out _ _ ⟨(blk_cell BM.out.2 0).trans rfl,(blk_cell BM.out.2 1).trans rfl,(blk_cell BM.out.2 2).trans rfl,(blk_cell BM.out.2 3).trans rfl⟩ (fun hHeld => ?_)
    clear hK K
    refine nr_ (some 24) _ ?_
    refine pure_ (i := 5) (N := some 25) (v := ?_) (a' := ?_) #[true,true,true,true,true,true,false,false,false,false] rfl rfl (by kernel_rfl) (fun _ _ _ h => h) (Or.inl ⟨by rfl,?_⟩) ?_ ?_
    rotate_left
    ·intro w'
     go_simp
     with_reducible rfl
    rotate_left
    ·simp only [Act.put,q1,q2,q3,i64_w,i32_w]
     rfl
    refine one_ (i := 6) (N := some 26) #[true,true,true,true,true,true,true,false,false,false] rfl rfl (by kernel_rfl) (by decide) (fun K hK => ?_)
    refine value_ (w1 := ?_) (v := ?_) (by rfl) rfl ?_ ?_
    rotate_left 2
    ·go_simp
     constructor
     ·rfl
     ·rfl
    refine hK.out _ _ ⟨(blk_cell (blk_alloc BM.out.2 _) 0).trans rfl,(blk_cell (blk_alloc BM.out.2 _) 1).trans rfl,(blk_cell (blk_alloc BM.out.2 _) 2).trans rfl,(blk_cell (blk_alloc BM.out.2 _) 3).trans rfl⟩ (fun hHeld => ?_)
    clear hK K
    refine nr_ (some 26) _ ?_
    refine one_ (i := 7) (N := some 27) #[true,true,true,true,true,true,true,true,false,false] rfl rfl (by kernel_rfl) (by decide) (fun K hK => ?_)
    refine Kd.S_append_step k83 w.heap.size (by rfl) (.tmp 21) (.tmp 26) 28 83 (.agg #[.int .i64 0,.slice none 0 0]) 32 rfl Tryz.underlying28 info83 rfl (by decide) (by omega) (.slice A1 l1.length c1) l1 (⟨(j : Int),xs⟩ : S83) [.int .i64 (j : Int),.slice An xs.length cn] (fun _ => True) (fun k_ => some k_ = (.slice An xs.length cn : Value).ownBlock) rfl rfl ?aP (own_apart T1.out TN.out (by decide)) (fun _ _ => trivial) (S_apart T1.out TN.out) (Below.refl _ _) D.out.size ?aL ?_
    (case aP => exact k83_mkM _ _ _ (⟨(j : Int),xs⟩ : S83) (Kd.R_tight rfl (Kd.R_lower TN.out SZ.out)))
    (case aL => have := H1.out.1;omega)
    intro v_ w9 ho hb hg hat
    clear hat
    have T1 := ak (Kd.S_mono T1.out (fun _ _ => trivial))
    have D := ak (D.out.app hb hg (fun k e_ => ((Kd.S_R (Kd.S_bound T1.out)).1 k e_).2.1))
    have T2 := ak (Kd.S_over' T2.out (Kd.S_typed T1.out) (by decide) hg)
    have T3 := ak (Kd.R_over' T3.out (Kd.S_typed T1.out) (by decide) hg)
    have BR := ak (BR.out.grown hg (Kd.S_ne T1.out BR.out.2 (by decide)))
    have BM := ak (BM.out.grown hg (Kd.S_ne T1.out BM.out.2 (by decide)))
    have T1 := ak ho
    clear ho hb hg
    obtain ⟨l1,hln⟩ : ∃ y_,y_ = l1 ++ [(⟨(j : Int),xs⟩ : S83)] := ⟨_,rfl⟩
    have T_ := T1.out
    rw [← hln] at T_
    have T1 := ak T_
    clear T_
    have H1 : Aside0 (l1.length ≤ j + 1 ∧ sm1 l1) := ⟨by rw [hln];exact ⟨by have := H1.out.1;simp;omega,sm1_app H1.out.2 HX.out⟩⟩
    clear hln
    obtain ⟨A1,c1,e1⟩ := Kd.S_slice T1.out
    subst e1
    refine hK.out _ _ ⟨(blk_cell BM.out.2 0).trans rfl,(blk_cell BM.out.2 1).trans rfl,(blk_cell BM.out.2 2).trans rfl,(blk_cell BM.out.2 3).trans rfl⟩ (fun hHeld => ?_)
    clear hK K
    refine nr_ (some 27) _ ?_
    refine pure_ (i := 8) (N := some 28) (v := ?_) (a' := ?_) #[true,true,true,true,true,true,true,true,true,false] rfl rfl (by kernel_rfl) (fun _ _ _ h => h) (Or.inl ⟨by rfl,?_⟩) ?_ ?_
    rotate_left
    ·intro w'
     go_simp
     with_reducible rfl
    rotate_left
    ·simp only [Act.put,q1,q2,q3,i64_w,i32_w]
     rfl
    refine last_ (i := 9) (N := none) #[true,true,true,true,true,true,true,true,true,true] rfl rfl (by kernel_rfl) (by decide) (fun K hK => ?_)
    obtain ⟨⟨hc11_0,hc11_1,hc11_2,hc11_3⟩,hf11_0,hf11_1,hf11_2,hf11_3⟩ := cl4_ BM.out.2
    refine skip_ (w1 := (w9.setCell ⟨gm,1,none⟩ (.slice A1 l1.length c1))) (by rfl) rfl ?_ ?_
    ·first|(go_simp;done)|(go_simp;rfl)|(go_simp;simp)
    refine hK.out _ _ ?_
    clear hK K
    refine done_ (by kernel_rfl) ?_
    clear hHeld
    clear hc11_0 hf11_0 hc11_1 hf11_1 hc11_2 hf11_2 hc11_3 hf11_3
    have KS := ak (kept1_ (W := w9) (b := gm) 1 (.slice A1 l1.length c1))
    have D := ak (D.out.far (p := ⟨gm,1,none⟩) BM.out.1 (.slice A1 l1.length c1))
    have T1 := ak (S_off T1.out BM.out.2 (by decide) KS.out)
    have T2 := ak (S_off T2.out BM.out.2 (by decide) KS.out)
    have T3 := ak (R_off T3.out BM.out.2 (by decide) KS.out)
    have BR := ak (BR.out.kept KS.out NEBRBM.out)
    have BM := ak (BM.out.put1 1 (.slice A1 l1.length c1) (cs' := #[.bool b,.slice A1 l1.length c1,.slice A2 l2.length c2,.slice A3 l3.length c3]) rfl)
    clear KS
    generalize (w9.setCell ⟨gm,1,none⟩ (.slice A1 l1.length c1)) = w10 at D T1 T2 T3 BR BM ⊢
    go_wp2
    go_roundg (4 - (j + 1))
    case measure => omega
    case rel => exact ⟨j + 1,by go_num,by omega,by omega,⟨⟨b,_,_,l1,_,_,l2,_,_,l3,D.out,BR.out,BM.out,T1.out,T2.out,T3.out,H1.out,H2.out,H3.out⟩⟩⟩
  ·have hjb : decide ((j : Int) < 4) = false := decide_eq_false (by omega)
   have H1 : Aside0 (l1.length ≤ 4 ∧ sm1 l1) := ⟨⟨Nat.le_trans H1.out.1 hj,H1.out.2⟩⟩
   clear hlt hgg
   go_wp2_with ((with_reducible refine gcal_ (f := 95) rfl ?_);refine gz_ (some 30) Tryz.func95 #[.pointer (some ⟨g,0,none⟩),.int .i64 6] ?_;refine (below_any 6 (by decide) HL.out D.out).mono ?_;rintro e w12 ⟨xn,rfl,hl_,hu_,K⟩;refine ⟨_,rfl,?_⟩;refine hold_51 ?_)
   refine ⟨?_⟩
   have BR := ak (BR.out.dr D.out K)
   have BM := ak (BM.out.dr D.out K)
   have T1 := ak (S_dr T1.out D.out K)
   have T2 := ak (S_dr T2.out D.out K)
   have T3 := ak (R_dr T3.out D.out K)
   have D := ak (D.out.trans K)
   clear K
   have HLxn := ak hl_
   have HUxn := ak (hu_ (by decide))
   clear hl_ hu_
   obtain ⟨nn,hnn⟩ : ∃ nn : Nat,xn = (nn : Int) := ⟨xn.toNat,by have := HLxn.out;omega⟩
   subst hnn
   have hn6 : nn < 6 := by have := HUxn.out;omega
   clear HLxn HUxn
   go_wp2
   go_loopg [5] 6 (fun gg v5 wr => ∃ (n : Nat),v5 = .int .i64 n ∧ n ≤ 6 ∧ n ≤ gg ∧ Aside0 (Ms w0 w g gm gr l wr 4 (6 - n) 0))
   case atStart => exact ⟨nn,rfl,by omega,by omega,⟨⟨b,_,_,l1,_,_,l2,_,_,l3,D.out,BR.out,BM.out,T1.out,T2.out,T3.out,H1.out,⟨by have := H2.out.1;omega,H2.out.2⟩,H3.out⟩⟩⟩
   case round =>
    clear D BR BM T1 T2 T3 H1 H2 H3 hn6
    obtain ⟨n,rfl,hn,hgg,MS⟩ := hrel
    obtain ⟨b,A1,c1,l1,A2,c2,l2,A3,c3,l3,D,BR,BM,T1,T2,T3,H1,H2,H3⟩ := MS.out
    have D := ak D
    have BR := ak BR
    have BM := ak BM
    have T1 := ak T1
    have T2 := ak T2
    have T3 := ak T3
    have H1 := ak H1
    have H2 := ak H2
    have H3 := ak H3
    clear MS
    by_cases hlt : 0 < n
    ·have hjb : decide ((n : Int) > 0) = true := decide_eq_true (by omega)
     have DS := ak D.out.size
     have DO := D
     have D := ak D.out.self
     go_wp2_with ((with_reducible refine gcal_ (f := 64) rfl ?_);refine gz_ (some 36) Tryz.func64 #[.pointer (some ⟨g,0,none⟩)] ?_;refine (draw2_any HL.out D.out.self).mono ?_;rintro e w13 ⟨f0,f1,f2,vn,ys,rfl,TN,hys,K⟩;refine ⟨_,rfl,?_⟩;refine hold_51 ?_)
     refine ⟨?_⟩
     have TN := Kd.R_lower TN D.out.size
     have D := ak (D.out.trans K)
     clear K
     have HX := ak hys
     have TN := ak TN
     clear hys
     obtain ⟨An,cn,en⟩ := Kd.R_slice TN.out
     subst en
     go_wp2_with ((with_reducible refine gate_dst (N := 6) rfl ?_);refine bx_ 6 #[.int .i64 0,.int .i64 0,.int .i64 0,.slice none 0 0] 50 ?_;intro gs hg w14 hbox hb;have hge := ak (Nat.le_of_eq hg.symm);clear hg;refine hold_51 ?_)
     refine ⟨?_⟩
     have BS := ak (show Bk _ w14 gs _ from ⟨Nat.le_trans D.out.size hge.out,hbox⟩)
     have TN := ak (Kd.R_below TN.out hb)
     have D := ak (D.out.below hb)
     clear hbox hb hge
     obtain ⟨⟨hc15_0,hc15_1,hc15_2,hc15_3⟩,hf15_0,hf15_1,hf15_2,hf15_3⟩ := cl4_ BS.out.2
     go_upto_region 11 with (fail)
     have KS := ak (kept4_ (W := w14) (b := gs) (.int .i64 f0) (.int .i64 f1) (.int .i64 f2) (.slice An ys.length cn))
     have D := ak (D.out.far4 BS.out.1 (.int .i64 f0) (.int .i64 f1) (.int .i64 f2) (.slice An ys.length cn))
     have TN := ak (R_off TN.out BS.out.2 (by decide) KS.out)
     have BS := ak (BS.out.put4 (.int .i64 f0) (.int .i64 f1) (.int .i64 f2) (.slice An ys.length cn))
     clear KS
     generalize ((((w14.setCell ⟨gs,0,none⟩ (.int .i64 f0)).setCell ⟨gs,1,none⟩ (.int .i64 f1)).setCell ⟨gs,2,none⟩ (.int .i64 f2)).setCell ⟨gs,3,none⟩ (.slice An ys.length cn)) = w16 at D TN BS ⊢
     go_wp2_with ((with_reducible refine gcal_ (f := 95) rfl ?_);refine gz_ (some 38) Tryz.func95 #[.pointer (some ⟨g,0,none⟩),.int .i64 4] ?_;refine (below_any 4 (by decide) HL.out D.out).mono ?_;rintro e w17 ⟨x3,rfl,hl_,hu_,K⟩;refine ⟨_,rfl,?_⟩;refine hold_51 ?_)
     refine ⟨?_⟩
     have BS := ak (BS.out.dr D.out K)
     have TN := ak (R_dr TN.out D.out K)
     have D := ak (D.out.trans K)
     clear K
     have HLx3 := ak hl_
     have HUx3 := ak (hu_ (by decide))
     clear hl_ hu_
     obtain ⟨⟨hc18_0,hc18_1,hc18_2,hc18_3⟩,hf18_0,hf18_1,hf18_2,hf18_3⟩ := cl4_ BS.out.2
     go_upto_region 12 with (fail)
     have KS := ak (kept1_ (W := w17) (b := gs) 1 (.int .i64 (wrap64 (1 + x3))))
     have D := ak (D.out.far (p := ⟨gs,1,none⟩) BS.out.1 (.int .i64 (wrap64 (1 + x3))))
     have TN := ak (R_off TN.out BS.out.2 (by decide) KS.out)
     have BS := ak (BS.out.put1 1 (.int .i64 (wrap64 (1 + x3))) (cs' := #[.int .i64 f0,.int .i64 (wrap64 (1 + x3)),.int .i64 f2,.slice An ys.length cn]) rfl)
     clear KS
     generalize (w17.setCell ⟨gs,1,none⟩ (.int .i64 (wrap64 (1 + x3)))) = w19 at D TN BS ⊢
     obtain ⟨⟨hc20_0,hc20_1,hc20_2,hc20_3⟩,hf20_0,hf20_1,hf20_2,hf20_3⟩ := cl4_ BS.out.2
     obtain ⟨kr,rb,hrb⟩ := HR.out f0 (wrap64 (1 + x3)) f2 ys HX.out
     go_wp2_with (go_at_call 67;refine (spec_RecordOk.calls kr f0 (wrap64 (1 + x3)) f2 An cn ys rb _ ((Kd.R_reads' TN.out).2.2) ((Kd.R_reads' TN.out).2.1) hrb).mono ?_;rintro e w21 ⟨rfl,hb⟩;(try dsimp only);refine hold_51 ?_)
     refine ⟨?_⟩
     have BS := ak (BS.out.below hb)
     have TN := ak (Kd.R_below TN.out hb)
     have D := ak (D.out.below hb)
     clear hb hrb
     cases rb with
     | false =>
      obtain ⟨⟨hc22_0,hc22_1,hc22_2,hc22_3⟩,hf22_0,hf22_1,hf22_2,hf22_3⟩ := cl4_ BS.out.2
      have TB := ak (S_drb T2.out DO.out D.out)
      have BSO := BS
      have BR := ak (BR.out.dr DO.out D.out)
      have BM := ak (BM.out.dr DO.out D.out)
      have T1 := ak (S_dr T1.out DO.out D.out)
      have T2 := ak (S_dr T2.out DO.out D.out)
      have T3 := ak (R_dr T3.out DO.out D.out)
      have D := ak (DO.out.trans D.out)
      clear DO
      have T2 := TB
      clear TB
      have T2 := ak (Kd.S_mono T2.out (fun _ _ => trivial))
      go_wp2
      go_roundg (n - 1)
      case measure => omega
      case rel => exact ⟨n - 1,by go_num,by omega,by omega,⟨⟨b,_,_,l1,_,_,l2,_,_,l3,D.out,BR.out,BM.out,T1.out,T2.out,T3.out,H1.out,⟨by have := H2.out.1;omega,H2.out.2⟩,H3.out⟩⟩⟩
     | true =>
      obtain ⟨⟨hc23_0,hc23_1,hc23_2,hc23_3⟩,hf23_0,hf23_1,hf23_2,hf23_3⟩ := cl4_ BS.out.2
      have TB := ak (S_drb T2.out DO.out D.out)
      have BSO := BS
      have BR := ak (BR.out.dr DO.out D.out)
      have BM := ak (BM.out.dr DO.out D.out)
      have T1 := ak (S_dr T1.out DO.out D.out)
      have T2 := ak (S_dr T2.out DO.out D.out)
      have T3 := ak (R_dr T3.out DO.out D.out)
      have D := ak (DO.out.trans D.out)
      clear DO
      have T2 := TB
      clear TB
      obtain ⟨⟨hc25_0,hc25_1,hc25_2,hc25_3⟩,hf25_0,hf25_1,hf25_2,hf25_3⟩ := cl4_ BM.out.2
      go_wp2_with ((with_reducible refine gblt_ (b := .append) (xs := #[.tmp 44,.tmp 46]) rfl ?_);at_builtin;refine Kd.S_append k50 w.heap.size rfl (.tmp 44) (.tmp 46) 29 50 (.agg #[.int .i64 0,.int .i64 0,.int .i64 0,.slice none 0 0]) 48 rfl Tryz.underlying29 info50 rfl (by decide) (by omega) (.slice A2 l2.length c2) l2 (⟨f0,wrap64 (1 + x3),f2,ys⟩ : S50) [.int .i64 f0,.int .i64 (wrap64 (1 + x3)),.int .i64 f2,.slice An ys.length cn] (fun _ => True) (fun k_ => some k_ = (.slice An ys.length cn : Value).ownBlock) rfl (by first|(go_simp;done)|(go_simp;rfl)) ?aP (own_apart T2.out TN.out (by decide)) (fun _ _ => trivial) (S_apart T2.out TN.out) (Below.refl _ _) D.out.size ?aL ?_;(case aP => exact k50_mkM _ _ _ (⟨f0,wrap64 (1 + x3),f2,ys⟩ : S50) (Kd.R_tight rfl (Kd.R_lower TN.out DS.out)));(case aL => have := H2.out.1;omega);intro v_ w24 ho hb hg hat;clear hat;refine hold_51 ?_)
      refine ⟨?_⟩
      have T2 := ak (Kd.S_mono T2.out (fun _ _ => trivial))
      have D := ak (D.out.app hb hg (fun k e_ => ((Kd.S_R (Kd.S_bound T2.out)).1 k e_).2.1))
      have T1 := ak (Kd.S_over' T1.out (Kd.S_typed T2.out) (by decide) hg)
      have T3 := ak (Kd.R_over' T3.out (Kd.S_typed T2.out) (by decide) hg)
      have BR := ak (BR.out.grown hg (Kd.S_ne T2.out BR.out.2 (by decide)))
      have BM := ak (BM.out.grown hg (Kd.S_ne T2.out BM.out.2 (by decide)))
      have T2 := ak ho
      clear ho hb hg
      obtain ⟨l2,hln⟩ : ∃ y_,y_ = l2 ++ [(⟨f0,wrap64 (1 + x3),f2,ys⟩ : S50)] := ⟨_,rfl⟩
      have T_ := T2.out
      rw [← hln] at T_
      have T2 := ak T_
      clear T_
      have H2 : Aside0 (l2.length ≤ 6 - (n - 1) ∧ sm2 l2) := ⟨by rw [hln];exact ⟨by have := H2.out.1;simp;omega,sm2_app H2.out.2 HX.out⟩⟩
      clear hln
      obtain ⟨A2,c2,e2⟩ := Kd.S_slice T2.out
      subst e2
      obtain ⟨⟨hc26_0,hc26_1,hc26_2,hc26_3⟩,hf26_0,hf26_1,hf26_2,hf26_3⟩ := cl4_ BM.out.2
      go_upto_region 9 with (fail)
      have KS := ak (kept1_ (W := w24) (b := gm) 2 (.slice A2 l2.length c2))
      have D := ak (D.out.far (p := ⟨gm,2,none⟩) BM.out.1 (.slice A2 l2.length c2))
      have T1 := ak (S_off T1.out BM.out.2 (by decide) KS.out)
      have T2 := ak (S_off T2.out BM.out.2 (by decide) KS.out)
      have T3 := ak (R_off T3.out BM.out.2 (by decide) KS.out)
      have BR := ak (BR.out.kept KS.out NEBRBM.out)
      have BM := ak (BM.out.put1 2 (.slice A2 l2.length c2) (cs' := #[.bool b,.slice A1 l1.length c1,.slice A2 l2.length c2,.slice A3 l3.length c3]) rfl)
      clear KS
      generalize (w24.setCell ⟨gm,2,none⟩ (.slice A2 l2.length c2)) = w27 at D T1 T2 T3 BR BM ⊢
      go_wp2
      go_roundg (n - 1)
      case measure => omega
      case rel => exact ⟨n - 1,by go_num,by omega,by omega,⟨⟨b,_,_,l1,_,_,l2,_,_,l3,D.out,BR.out,BM.out,T1.out,T2.out,T3.out,H1.out,H2.out,H3.out⟩⟩⟩
    ·have hjb : decide ((n : Int) > 0) = false := decide_eq_false (by omega)
     have hjb2 : decide (0 < n) = false := decide_eq_false hlt
     obtain rfl : n = 0 := by omega
     have H2 : Aside0 (l2.length ≤ 6 ∧ sm2 l2) := ⟨⟨by have := H2.out.1;omega,H2.out.2⟩⟩
     clear hlt hgg
     go_wp2
     go_loopg [7] 6 (fun gg v7 wr => ∃ (i : Nat),v7 = .int .i64 i ∧ i ≤ 6 ∧ 6 - i ≤ gg ∧ Aside0 (Ms w0 w g gm gr l wr 4 6 i))
     case atStart => exact ⟨1,rfl,by omega,by omega,⟨⟨b,_,_,l1,_,_,l2,_,_,l3,D.out,BR.out,BM.out,T1.out,T2.out,T3.out,H1.out,H2.out,(by have := H3.out;omega)⟩⟩⟩
     case round =>
      clear D BR BM T1 T2 T3 H1 H2 H3
      obtain ⟨i,rfl,hi,hgg,MS⟩ := hrel
      obtain ⟨b,A1,c1,l1,A2,c2,l2,A3,c3,l3,D,BR,BM,T1,T2,T3,H1,H2,H3⟩ := MS.out
      have D := ak D
      have BR := ak BR
      have BM := ak BM
      have T1 := ak T1
      have T2 := ak T2
      have T3 := ak T3
      have H1 := ak H1
      have H2 := ak H2
      have H3 := ak H3
      clear MS
      by_cases hlt : i < 6
      ·have hjb : decide ((i : Int) < 6) = true := decide_eq_true (by omega)
       go_wp2_with ((with_reducible refine gcal_ (f := 93) rfl ?_);refine gz_ (some 54) Tryz.func93 #[.pointer (some ⟨g,0,none⟩),.int .i64 3] ?_;refine (once_any 3 (by decide) HL.out D.out).mono ?_;rintro e w28 ⟨x1,rfl,K⟩;refine ⟨_,rfl,?_⟩;refine hold_51 ?_)
       refine ⟨?_⟩
       have BR := ak (BR.out.dr D.out K)
       have BM := ak (BM.out.dr D.out K)
       have T1 := ak (S_dr T1.out D.out K)
       have T2 := ak (S_dr T2.out D.out K)
       have T3 := ak (R_dr T3.out D.out K)
       have D := ak (D.out.trans K)
       clear K
       cases x1 with
       | false =>
        go_wp2
        go_roundg (6 - (i + 1))
        case measure => omega
        case rel => exact ⟨i + 1,by go_num,by omega,by omega,⟨⟨b,_,_,l1,_,_,l2,_,_,l3,D.out,BR.out,BM.out,T1.out,T2.out,T3.out,H1.out,H2.out,(Nat.le_succ_of_le H3.out)⟩⟩⟩
       | true =>
        obtain ⟨⟨hc30_0,hc30_1,hc30_2,hc30_3⟩,hf30_0,hf30_1,hf30_2,hf30_3⟩ := cl4_ BM.out.2
        go_wp2_with ((with_reducible refine gblt_ (b := .append) (xs := #[.tmp 56,.tmp 58]) rfl ?_);at_builtin;refine Kd.R_append (Kd.int .i64) w.heap.size rfl (.tmp 56) (.tmp 58) 24 2 (.int .i64 0) 8 rfl Tryz.underlying24 info2 rfl (by decide) (by omega) (.slice A3 l3.length c3) l3 (i : Int) [.int .i64 (i : Int)] (fun _ => True) (fun _ => False) rfl (by first|(go_simp;done)|(go_simp;rfl)) ?aP (fun _ hk => hk.elim) (fun _ _ => trivial) T3.out (Below.refl _ _) D.out.size ?aL ?_;(case aP => exact rfl);(case aL => have := H3.out;omega);intro v_ w29 ho hb hg hat;clear hat;refine hold_51 ?_)
        refine ⟨?_⟩
        have D := ak (D.out.app hb hg (fun k e_ => ((Kd.R_bound T3.out).1 k e_).2.1))
        have T1 := ak (Kd.S_over' T1.out (Kd.R_typed T3.out) (by decide) hg)
        have T2 := ak (Kd.S_over' T2.out (Kd.R_typed T3.out) (by decide) hg)
        have BR := ak (BR.out.grown hg (Kd.R_ne T3.out BR.out.2 (by decide)))
        have BM := ak (BM.out.grown hg (Kd.R_ne T3.out BM.out.2 (by decide)))
        have T3 := ak ho
        clear ho hb hg
        obtain ⟨l3,hln⟩ : ∃ y_,y_ = l3 ++ [(i : Int)] := ⟨_,rfl⟩
        have T_ := T3.out
        rw [← hln] at T_
        have T3 := ak T_
        clear T_
        have H3 : Aside0 (l3.length ≤ i + 1) := ⟨by rw [hln];exact (by have := H3.out;simp;omega)⟩
        clear hln
        obtain ⟨A3,c3,e3⟩ := Kd.R_slice T3.out
        subst e3
        obtain ⟨⟨hc31_0,hc31_1,hc31_2,hc31_3⟩,hf31_0,hf31_1,hf31_2,hf31_3⟩ := cl4_ BM.out.2
        go_upto_region 16 with (fail)
        have KS := ak (kept1_ (W := w29) (b := gm) 3 (.slice A3 l3.length c3))
        have D := ak (D.out.far (p := ⟨gm,3,none⟩) BM.out.1 (.slice A3 l3.length c3))
        have T1 := ak (S_off T1.out BM.out.2 (by decide) KS.out)
        have T2 := ak (S_off T2.out BM.out.2 (by decide) KS.out)
        have T3 := ak (R_off T3.out BM.out.2 (by decide) KS.out)
        have BR := ak (BR.out.kept KS.out NEBRBM.out)
        have BM := ak (BM.out.put1 3 (.slice A3 l3.length c3) (cs' := #[.bool b,.slice A1 l1.length c1,.slice A2 l2.length c2,.slice A3 l3.length c3]) rfl)
        clear KS
        generalize (w29.setCell ⟨gm,3,none⟩ (.slice A3 l3.length c3)) = w32 at D T1 T2 T3 BR BM ⊢
        go_wp2
        go_roundg (6 - (i + 1))
        case measure => omega
        case rel => exact ⟨i + 1,by go_num,by omega,by omega,⟨⟨b,_,_,l1,_,_,l2,_,_,l3,D.out,BR.out,BM.out,T1.out,T2.out,T3.out,H1.out,H2.out,H3.out⟩⟩⟩
      ·have hjb : decide ((i : Int) < 6) = false := decide_eq_false (by omega)
       have H3 : Aside0 (l3.length ≤ 6) := ⟨by have := H3.out;omega⟩
       clear hlt hgg
       go_wp2_with ((with_reducible refine gcal_ (f := 93) rfl ?_);refine gz_ (some 62) Tryz.func93 #[.pointer (some ⟨g,0,none⟩),.int .i64 12] ?_;refine (once_any 12 (by decide) HL.out D.out).mono ?_;rintro e w33 ⟨x2,rfl,K⟩;refine ⟨_,rfl,?_⟩;refine hold_51 ?_)
       refine ⟨?_⟩
       have BR := ak (BR.out.dr D.out K)
       have BM := ak (BM.out.dr D.out K)
       have T1 := ak (S_dr T1.out D.out K)
       have T2 := ak (S_dr T2.out D.out K)
       have T3 := ak (R_dr T3.out D.out K)
       have D := ak (D.out.trans K)
       clear K
       cases x2 with
       | false =>
        obtain ⟨csg,hcg⟩ := D.out.type
        have T1 := ak (Kd.S_N (Kd.S_mono (Kd.S_types (Kd.S_types (Kd.S_types (Kd.S_bound T1.out) hcg (by decide)) BM.out.2 (by decide)) BR.out.2 (by decide)) (fun k h => (⟨⟨⟨h.1.1.1.2.1,h.1.1.2⟩,h.1.2⟩,h.2⟩ : ((w.heap.size ≤ k ∧ k ≠ g) ∧ k ≠ gm) ∧ k ≠ gr))))
        clear hcg
        obtain ⟨⟨hc34_0,hc34_1,hc34_2,hc34_3⟩,hf34_0,hf34_1,hf34_2,hf34_3⟩ := cl4_ BM.out.2
        obtain ⟨⟨hc35_0,hc35_1,hc35_2,hc35_3⟩,hf35_0,hf35_1,hf35_2,hf35_3⟩ := cl4_ BR.out.2
        go_wp2
        refine bodyPost_ret (results_cell_row rfl _ _ gr 31 #[.bool b,.slice A1 l1.length c1,.slice A2 l2.length c2,.slice A3 l3.length c3] (0,0) _ rfl (put4_ BR.out.2 _ _ _ _) Tryz.underlying31 rfl (by kernel_rfl)) rfl ?_
        exact fin_any (b := b) BR.out T1.out T2.out T3.out D.out ⟨by have := H1.out.1;omega,H1.out.2⟩ ⟨by have := H2.out.1;omega,H2.out.2⟩ (by have := H3.out;omega) (fun _ h => h.1) _ (by first|rfl|(simp;done))
       | true =>
        go_wp2_with ((with_reducible refine gcal_ (f := 95) rfl ?_);refine gz_ (some 64) Tryz.func95 #[.pointer (some ⟨g,0,none⟩),.int .i64 5] ?_;refine (below_any 5 (by decide) HL.out D.out).mono ?_;rintro e w36 ⟨x6,rfl,hl_,hu_,K⟩;refine ⟨_,rfl,?_⟩;refine hold_51 ?_)
        refine ⟨?_⟩
        have BR := ak (BR.out.dr D.out K)
        have BM := ak (BM.out.dr D.out K)
        have T1 := ak (S_dr T1.out D.out K)
        have T2 := ak (S_dr T2.out D.out K)
        have T3 := ak (R_dr T3.out D.out K)
        have D := ak (D.out.trans K)
        clear K
        have HLx6 := ak hl_
        have HUx6 := ak (hu_ (by decide))
        clear hl_ hu_
        by_cases cs0 : x6 = 0
        ·subst cs0
         go_upto_region 22 with (fail)
         have hb : Below w36.heap.size w36 w36.drew := below_drew1 (Below.refl _ _)
         have BR := ak (BR.out.below hb)
         have BM := ak (BM.out.below hb)
         have T1 := ak (Kd.S_below T1.out hb)
         have T2 := ak (Kd.S_below T2.out hb)
         have T3 := ak (Kd.R_below T3.out hb)
         have D := ak (D.out.below hb)
         clear hb
         refine start_ (n := 14) (S := fun w' => w'.cell? ⟨gm,0,none⟩ = some (.bool b) ∧ w'.cell? ⟨gm,1,none⟩ = some (.slice A1 l1.length c1) ∧ w'.cell? ⟨gm,2,none⟩ = some (.slice A2 l2.length c2) ∧ w'.cell? ⟨gm,3,none⟩ = some (.slice A3 l3.length c3)) (ds := [13]) #[false,false,false,false,false,false,false,false,false,false,false,false,false,false] (by kernel_rfl) rfl rfl ⟨(blk_cell BM.out.2 0).trans rfl,(blk_cell BM.out.2 1).trans rfl,(blk_cell BM.out.2 2).trans rfl,(blk_cell BM.out.2 3).trans rfl⟩ (fun hHeld => ?_)
         generalize w36.drew = w37 at D T1 T2 T3 BR BM hHeld ⊢
         refine pure_ (i := 0) (N := some 67) (v := ?_) (a' := ?_) #[true,false,false,false,false,false,false,false,false,false,false,false,false,false] rfl rfl (by kernel_rfl) (fun _ _ _ h => h) (Or.inl ⟨by rfl,?_⟩) ?_ ?_
         rotate_left
         ·intro w'
          go_simp
          with_reducible rfl
         rotate_left
         ·simp only [Act.put,q1,q2,q3,i64_w,i32_w]
          rfl
         refine take_ (i := 1) (N := some 68) (v := ?_) (a' := ?_) #[true,true,false,false,false,false,false,false,false,false,false,false,false,false] rfl rfl (by kernel_rfl) (fun _ _ _ h => h) (Or.inl ⟨by rfl,?_⟩) hHeld ?_ ?_
         rotate_left
         ·rintro w' ⟨s0,s1,s2,s3⟩
          go_simp
          with_reducible rfl
         rotate_left
         ·simp only [Act.put,q1,q2,q3,i64_w,i32_w]
          rfl
         refine pure_ (i := 3) (N := some 70) (v := ?_) (a' := ?_) #[true,true,false,true,false,false,false,false,false,false,false,false,false,false] rfl rfl (by kernel_rfl) (fun _ _ _ h => h) (Or.inl ⟨by rfl,?_⟩) ?_ ?_
         rotate_left
         ·intro w'
          go_simp
          with_reducible rfl
         rotate_left
         ·simp only [Act.put,q1,q2,q3,i64_w,i32_w]
          rfl
         refine pure_ (i := 7) (N := some 74) (v := ?_) (a' := ?_) #[true,true,false,true,false,false,false,true,false,false,false,false,false,false] rfl rfl (by kernel_rfl) (fun _ _ _ h => h) (Or.inl ⟨by rfl,?_⟩) ?_ ?_
         rotate_left
         ·intro w'
          go_simp
          with_reducible rfl
         rotate_left
         ·simp only [Act.put,q1,q2,q3,i64_w,i32_w]
          rfl
         refine two_ (i := 2) (j := 4) (Ni := some 69) (Nj := some 71) #[true,true,true,true,false,false,false,true,false,false,false,false,false,false] #[true,true,false,true,true,false,false,true,false,false,false,false,false,false] rfl rfl rfl rfl (by kernel_rfl) (by decide) (by decide) (fun K hK => ?ga) (fun K hK => ?gb)
         case' gb =>
          refine goes_ Tryz.func95 (by kernel_rfl) rfl #[.pointer (some ⟨g,0,none⟩),.int .i64 4] (by rfl) rfl rfl (by (try simp only [List.map_toArray,List.map_cons,List.map_nil]);first|done|rfl) ?_
          refine (below_any 4 (by decide) HL.out D.out).mono ?_
          rintro e w38 ⟨x7,rfl,hl_,hu_,K⟩
          refine ⟨_,rfl,?_⟩
          have BR := ak (BR.out.dr D.out K)
          have BM := ak (BM.out.dr D.out K)
          have T1 := ak (S_dr T1.out D.out K)
          have T2 := ak (S_dr T2.out D.out K)
          have T3 := ak (R_dr T3.out D.out K)
          have D := ak (D.out.trans K)
          clear K
          have HLx7 := ak hl_
          have HUx7 := ak (hu_ (by decide))
          clear hl_ hu_
          refine hK.out _ _ ⟨(blk_cell BM.out.2 0).trans rfl,(blk_cell BM.out.2 1).trans rfl,(blk_cell BM.out.2 2).trans rfl,(blk_cell BM.out.2 3).trans rfl⟩ (fun hHeld => ?_)
          clear hK K
          refine nr_ (some 71) _ ?_
          refine two_ (i := 2) (j := 8) (Ni := some 69) (Nj := some 75) #[true,true,true,true,true,false,false,true,false,false,false,false,false,false] #[true,true,false,true,true,false,false,true,true,false,false,false,false,false] rfl rfl rfl rfl (by kernel_rfl) (by decide) (by decide) (fun K hK => ?gc) (fun K hK => ?gd)
         case' gd =>
          refine goes_ Tryz.func53 (by kernel_rfl) rfl #[.pointer (some ⟨g,0,none⟩)] (by rfl) rfl rfl (by (try simp only [List.map_toArray,List.map_cons,List.map_nil]);first|done|rfl) ?_
          refine (drawAny_any HL.out D.out.self).mono ?_
          rintro e w39 ⟨vn,cs,rfl,TQ,hcs,K⟩
          refine ⟨_,rfl,?_⟩
          have HX := ak hcs
          have TQ := ak TQ
          have SQ := ak D.out.size
          clear hcs
          have BR := ak (BR.out.dr D.out K)
          have BM := ak (BM.out.dr D.out K)
          have T1 := ak (S_dr T1.out D.out K)
          have T2 := ak (S_dr T2.out D.out K)
          have T3 := ak (R_dr T3.out D.out K)
          have D := ak (D.out.trans K)
          clear K
          obtain ⟨An,cn,en,hcn⟩ := Kd.Q_slice TQ.out
          subst en
          obtain ⟨csg,hcg⟩ := D.out.type
          have TF := ak (Q_F (Kd.Q_mono (Q_own (Kd.Q_types (Kd.Q_types (Kd.Q_types (Kd.Q_bound TQ.out) hcg (by decide)) BM.out.2 (by decide)) BR.out.2 (by decide)) T1.out (by decide)) (fun k h => (⟨⟨⟨⟨Nat.le_trans SQ.out h.1.1.1.1.2.1,h.1.1.1.2⟩,h.1.1.2⟩,h.1.2⟩,h.2⟩ : (((w.heap.size ≤ k ∧ k ≠ g) ∧ k ≠ gm) ∧ k ≠ gr) ∧ some k ≠ (.slice A1 l1.length c1 : Value).ownBlock))))
          have TC := ak hcn
          clear hcn hcg TQ
          refine hK.out _ _ ⟨(blk_cell BM.out.2 0).trans rfl,(blk_cell BM.out.2 1).trans rfl,(blk_cell BM.out.2 2).trans rfl,(blk_cell BM.out.2 3).trans rfl⟩ (fun hHeld => ?_)
          clear hK K
          refine nr_ (some 75) _ ?_
          refine one_ (i := 2) (N := some 69) #[true,true,true,true,true,false,false,true,true,false,false,false,false,false] rfl rfl (by kernel_rfl) (by decide) (fun K hK => ?_)
          obtain ⟨y,hy⟩ : ∃ y_ : List Int,y_ = ([(-1),0,5,6] : List Int) := ⟨_,rfl⟩
          have Ny := ak hy
          clear hy
          refine Kd.R_lit_step (Kd.int .i64) _ 2 (by rfl) (N := 69) rfl (xs := ([(-1),0,5,6] : List Int)) (inner := [.int .i64 (-1),.int .i64 0,.int .i64 5,.int .i64 6]) (ok := fun _ => True) (okp := fun _ => True) ?hr (Reps.one (show Kd.M (Kd.int .i64) _ _ _ (-1) [.int .i64 (-1)] from rfl) (Reps.one (show Kd.M (Kd.int .i64) _ _ _ 0 [.int .i64 0] from rfl) (Reps.one (show Kd.M (Kd.int .i64) _ _ _ 5 [.int .i64 5] from rfl) (Reps.one (show Kd.M (Kd.int .i64) _ _ _ 6 [.int .i64 6] from rfl) (Reps.none _ _))))) (fun _ hk => hk) trivial (Below.refl _ _) (Nat.le_refl _) (by simp) ?_
          case hr => first|(go_simp;done)|(go_simp;rfl)
          intro v_ w40 ho hb hg_ hnew_
          clear hg_ hnew_
          rw [← Ny.out] at ho
          have TL := ak (Kd.R_lower ho D.out.size)
          have BR := ak (BR.out.below hb)
          have BM := ak (BM.out.below hb)
          have T1 := ak (Kd.S_below T1.out hb)
          have T2 := ak (Kd.S_below T2.out hb)
          have T3 := ak (Kd.R_below T3.out hb)
          have TF := ak (Kd.F_below TF.out hb)
          have D := ak (D.out.below hb)
          clear ho hb
          obtain ⟨Ay,cy,ey⟩ := Kd.R_slice TL.out
          subst ey
          refine hK.out _ _ ⟨(blk_cell BM.out.2 0).trans rfl,(blk_cell BM.out.2 1).trans rfl,(blk_cell BM.out.2 2).trans rfl,(blk_cell BM.out.2 3).trans rfl⟩ (fun hHeld => ?_)
          clear hK K
          refine nr_ (some 69) _ ?_
          have Qx7 : Aside0 (x7 < (y.length : Int)) := ⟨by rw [Ny.out];exact HUx7.out⟩
          obtain ⟨adx7,eax7,hxx7⟩ := Kd.at_int (Kd.R_reads' TL.out).2.2 x7 HLx7.out Qx7.out
          subst eax7
          have pxx7 : (0 ≤ x7) = True := eq_true HLx7.out
          have qxx7 : (x7 < (y.length : Int)) = True := eq_true Qx7.out
          refine pure_ (i := 5) (N := some 72) (v := ?_) (a' := ?_) #[true,true,true,true,true,true,false,true,true,false,false,false,false,false] rfl rfl (by kernel_rfl) (fun _ _ _ h => h) (Or.inl ⟨by rfl,?_⟩) ?_ ?_
          rotate_left
          ·intro w'
           go_simp
           with_reducible rfl
          rotate_left
          ·simp only [Act.put,q1,q2,q3,i64_w,i32_w]
           rfl
          refine one_ (i := 6) (N := some 73) #[true,true,true,true,true,true,true,true,true,false,false,false,false,false] rfl rfl (by kernel_rfl) (by decide) (fun K hK => ?_)
          refine value_ (w1 := ?_) (v := ?_) (by rfl) rfl ?_ ?_
          rotate_left 2
          ·go_simp
           constructor
           ·rfl
           ·rfl
          refine hK.out _ _ hHeld (fun hHeld => ?_)
          clear hK K
          refine nr_ (some 73) _ ?_
          obtain ⟨wj,hw_⟩ : ∃ z_,z_ = w40 := ⟨_,rfl⟩
          subst hw_
         case' ga =>
          obtain ⟨y,hy⟩ : ∃ y_ : List Int,y_ = ([(-1),0,5,6] : List Int) := ⟨_,rfl⟩
          have Ny := ak hy
          clear hy
          refine Kd.R_lit_step (Kd.int .i64) _ 2 (by rfl) (N := 69) rfl (xs := ([(-1),0,5,6] : List Int)) (inner := [.int .i64 (-1),.int .i64 0,.int .i64 5,.int .i64 6]) (ok := fun _ => True) (okp := fun _ => True) ?hr (Reps.one (show Kd.M (Kd.int .i64) _ _ _ (-1) [.int .i64 (-1)] from rfl) (Reps.one (show Kd.M (Kd.int .i64) _ _ _ 0 [.int .i64 0] from rfl) (Reps.one (show Kd.M (Kd.int .i64) _ _ _ 5 [.int .i64 5] from rfl) (Reps.one (show Kd.M (Kd.int .i64) _ _ _ 6 [.int .i64 6] from rfl) (Reps.none _ _))))) (fun _ hk => hk) trivial (Below.refl _ _) (Nat.le_refl _) (by simp) ?_
          case hr => first|(go_simp;done)|(go_simp;rfl)
          intro v_ w41 ho hb hg_ hnew_
          clear hg_ hnew_
          rw [← Ny.out] at ho
          have TL := ak (Kd.R_lower ho D.out.size)
          have BR := ak (BR.out.below hb)
          have BM := ak (BM.out.below hb)
          have T1 := ak (Kd.S_below T1.out hb)
          have T2 := ak (Kd.S_below T2.out hb)
          have T3 := ak (Kd.R_below T3.out hb)
          have D := ak (D.out.below hb)
          clear ho hb
          obtain ⟨Ay,cy,ey⟩ := Kd.R_slice TL.out
          subst ey
          refine hK.out _ _ ⟨(blk_cell BM.out.2 0).trans rfl,(blk_cell BM.out.2 1).trans rfl,(blk_cell BM.out.2 2).trans rfl,(blk_cell BM.out.2 3).trans rfl⟩ (fun hHeld => ?_)
          clear hK K
          refine nr_ (some 69) _ ?_
          refine one_ (i := 4) (N := some 71) #[true,true,true,true,true,false,false,true,false,false,false,false,false,false] rfl rfl (by kernel_rfl) (by decide) (fun K hK => ?_)
          refine goes_ Tryz.func95 (by kernel_rfl) rfl #[.pointer (some ⟨g,0,none⟩),.int .i64 4] (by rfl) rfl rfl (by (try simp only [List.map_toArray,List.map_cons,List.map_nil]);first|done|rfl) ?_
          refine (below_any 4 (by decide) HL.out D.out).mono ?_
          rintro e w42 ⟨x7,rfl,hl_,hu_,K⟩
          refine ⟨_,rfl,?_⟩
          have BR := ak (BR.out.dr D.out K)
          have BM := ak (BM.out.dr D.out K)
          have T1 := ak (S_dr T1.out D.out K)
          have T2 := ak (S_dr T2.out D.out K)
          have T3 := ak (R_dr T3.out D.out K)
          have TL := ak (R_dr TL.out D.out K)
          have D := ak (D.out.trans K)
          clear K
          have HLx7 := ak hl_
          have HUx7 := ak (hu_ (by decide))
          clear hl_ hu_
          refine hK.out _ _ ⟨(blk_cell BM.out.2 0).trans rfl,(blk_cell BM.out.2 1).trans rfl,(blk_cell BM.out.2 2).trans rfl,(blk_cell BM.out.2 3).trans rfl⟩ (fun hHeld => ?_)
          clear hK K
          refine nr_ (some 71) _ ?_
          obtain ⟨wi,hw_⟩ : ∃ z_,z_ = w42 := ⟨_,rfl⟩
          subst hw_
         case' gc =>
          obtain ⟨y,hy⟩ : ∃ y_ : List Int,y_ = ([(-1),0,5,6] : List Int) := ⟨_,rfl⟩
          have Ny := ak hy
          clear hy
          refine Kd.R_lit_step (Kd.int .i64) _ 2 (by rfl) (N := 69) rfl (xs := ([(-1),0,5,6] : List Int)) (inner := [.int .i64 (-1),.int .i64 0,.int .i64 5,.int .i64 6]) (ok := fun _ => True) (okp := fun _ => True) ?hr (Reps.one (show Kd.M (Kd.int .i64) _ _ _ (-1) [.int .i64 (-1)] from rfl) (Reps.one (show Kd.M (Kd.int .i64) _ _ _ 0 [.int .i64 0] from rfl) (Reps.one (show Kd.M (Kd.int .i64) _ _ _ 5 [.int .i64 5] from rfl) (Reps.one (show Kd.M (Kd.int .i64) _ _ _ 6 [.int .i64 6] from rfl) (Reps.none _ _))))) (fun _ hk => hk) trivial (Below.refl _ _) (Nat.le_refl _) (by simp) ?_
          case hr => first|(go_simp;done)|(go_simp;rfl)
          intro v_ w43 ho hb hg_ hnew_
          clear hg_ hnew_
          rw [← Ny.out] at ho
          have TL := ak (Kd.R_lower ho D.out.size)
          have BR := ak (BR.out.below hb)
          have BM := ak (BM.out.below hb)
          have T1 := ak (Kd.S_below T1.out hb)
          have T2 := ak (Kd.S_below T2.out hb)
          have T3 := ak (Kd.R_below T3.out hb)
          have D := ak (D.out.below hb)
          clear ho hb
          obtain ⟨Ay,cy,ey⟩ := Kd.R_slice TL.out
          subst ey
          refine hK.out _ _ ⟨(blk_cell BM.out.2 0).trans rfl,(blk_cell BM.out.2 1).trans rfl,(blk_cell BM.out.2 2).trans rfl,(blk_cell BM.out.2 3).trans rfl⟩ (fun hHeld => ?_)
          clear hK K
          refine nr_ (some 69) _ ?_
          obtain ⟨wi,hw_⟩ : ∃ z_,z_ = w43 := ⟨_,rfl⟩
          subst hw_
         any_goals
          have Qx7 : Aside0 (x7 < (y.length : Int)) := ⟨by rw [Ny.out];exact HUx7.out⟩
          obtain ⟨adx7,eax7,hxx7⟩ := Kd.at_int (Kd.R_reads' TL.out).2.2 x7 HLx7.out Qx7.out
          subst eax7
          have pxx7 : (0 ≤ x7) = True := eq_true HLx7.out
          have qxx7 : (x7 < (y.length : Int)) = True := eq_true Qx7.out
          refine pure_ (i := 5) (N := some 72) (v := ?_) (a' := ?_) #[true,true,true,true,true,true,false,true,false,false,false,false,false,false] rfl rfl (by kernel_rfl) (fun _ _ _ h => h) (Or.inl ⟨by rfl,?_⟩) ?_ ?_
          rotate_left
          ·intro w'
           go_simp
           with_reducible rfl
          rotate_left
          ·simp only [Act.put,q1,q2,q3,i64_w,i32_w]
           rfl
          refine two_ (i := 6) (j := 8) (Ni := some 73) (Nj := some 75) #[true,true,true,true,true,true,true,true,false,false,false,false,false,false] #[true,true,true,true,true,true,false,true,true,false,false,false,false,false] rfl rfl rfl rfl (by kernel_rfl) (by decide) (by decide) (fun K hK => ?_) (fun K hK => ?_)
          case' refine_1 =>
           refine value_ (w1 := ?_) (v := ?_) (by rfl) rfl ?_ ?_
           rotate_left 2
           ·go_simp
            constructor
            ·rfl
            ·rfl
           refine hK.out _ _ hHeld (fun hHeld => ?_)
           clear hK K
           refine nr_ (some 73) _ ?_
           refine one_ (i := 8) (N := some 75) #[true,true,true,true,true,true,true,true,true,false,false,false,false,false] rfl rfl (by kernel_rfl) (by decide) (fun K hK => ?_)
           refine goes_ Tryz.func53 (by kernel_rfl) rfl #[.pointer (some ⟨g,0,none⟩)] (by rfl) rfl rfl (by (try simp only [List.map_toArray,List.map_cons,List.map_nil]);first|done|rfl) ?_
           refine (drawAny_any HL.out D.out.self).mono ?_
           rintro e w44 ⟨vn,cs,rfl,TQ,hcs,K⟩
           refine ⟨_,rfl,?_⟩
           have HX := ak hcs
           have TQ := ak TQ
           have SQ := ak D.out.size
           clear hcs
           have BR := ak (BR.out.dr D.out K)
           have BM := ak (BM.out.dr D.out K)
           have T1 := ak (S_dr T1.out D.out K)
           have T2 := ak (S_dr T2.out D.out K)
           have T3 := ak (R_dr T3.out D.out K)
           have D := ak (D.out.trans K)
           clear K
           obtain ⟨An,cn,en,hcn⟩ := Kd.Q_slice TQ.out
           subst en
           obtain ⟨csg,hcg⟩ := D.out.type
           have TF := ak (Q_F (Kd.Q_mono (Q_own (Kd.Q_types (Kd.Q_types (Kd.Q_types (Kd.Q_bound TQ.out) hcg (by decide)) BM.out.2 (by decide)) BR.out.2 (by decide)) T1.out (by decide)) (fun k h => (⟨⟨⟨⟨Nat.le_trans SQ.out h.1.1.1.1.2.1,h.1.1.1.2⟩,h.1.1.2⟩,h.1.2⟩,h.2⟩ : (((w.heap.size ≤ k ∧ k ≠ g) ∧ k ≠ gm) ∧ k ≠ gr) ∧ some k ≠ (.slice A1 l1.length c1 : Value).ownBlock))))
           have TC := ak hcn
           clear hcn hcg TQ
           refine hK.out _ _ ⟨(blk_cell BM.out.2 0).trans rfl,(blk_cell BM.out.2 1).trans rfl,(blk_cell BM.out.2 2).trans rfl,(blk_cell BM.out.2 3).trans rfl⟩ (fun hHeld => ?_)
           clear hK K
           refine nr_ (some 75) _ ?_
           obtain ⟨wj,hw_⟩ : ∃ z_,z_ = w44 := ⟨_,rfl⟩
           subst hw_
          case' refine_2 =>
           refine goes_ Tryz.func53 (by kernel_rfl) rfl #[.pointer (some ⟨g,0,none⟩)] (by rfl) rfl rfl (by (try simp only [List.map_toArray,List.map_cons,List.map_nil]);first|done|rfl) ?_
           refine (drawAny_any HL.out D.out.self).mono ?_
           rintro e w45 ⟨vn,cs,rfl,TQ,hcs,K⟩
           refine ⟨_,rfl,?_⟩
           have HX := ak hcs
           have TQ := ak TQ
           have SQ := ak D.out.size
           clear hcs
           have BR := ak (BR.out.dr D.out K)
           have BM := ak (BM.out.dr D.out K)
           have T1 := ak (S_dr T1.out D.out K)
           have T2 := ak (S_dr T2.out D.out K)
           have T3 := ak (R_dr T3.out D.out K)
           have TL := ak (R_dr TL.out D.out K)
           have D := ak (D.out.trans K)
           clear K
           obtain ⟨An,cn,en,hcn⟩ := Kd.Q_slice TQ.out
           subst en
           obtain ⟨csg,hcg⟩ := D.out.type
           have TF := ak (Q_F (Kd.Q_mono (Q_own (Kd.Q_types (Kd.Q_types (Kd.Q_types (Kd.Q_bound TQ.out) hcg (by decide)) BM.out.2 (by decide)) BR.out.2 (by decide)) T1.out (by decide)) (fun k h => (⟨⟨⟨⟨Nat.le_trans SQ.out h.1.1.1.1.2.1,h.1.1.1.2⟩,h.1.1.2⟩,h.1.2⟩,h.2⟩ : (((w.heap.size ≤ k ∧ k ≠ g) ∧ k ≠ gm) ∧ k ≠ gr) ∧ some k ≠ (.slice A1 l1.length c1 : Value).ownBlock))))
           have TC := ak hcn
           clear hcn hcg TQ
           refine hK.out _ _ ⟨(blk_cell BM.out.2 0).trans rfl,(blk_cell BM.out.2 1).trans rfl,(blk_cell BM.out.2 2).trans rfl,(blk_cell BM.out.2 3).trans rfl⟩ (fun hHeld => ?_)
           clear hK K
           refine nr_ (some 75) _ ?_
           obtain ⟨ad2_,ea2_,hxx7⟩ := Kd.at_int (Kd.R_reads' TL.out).2.2 x7 HLx7.out Qx7.out
           cases ea2_
           refine one_ (i := 6) (N := some 73) #[true,true,true,true,true,true,true,true,true,false,false,false,false,false] rfl rfl (by kernel_rfl) (by decide) (fun K hK => ?_)
           refine value_ (w1 := ?_) (v := ?_) (by rfl) rfl ?_ ?_
           rotate_left 2
           ·go_simp
            constructor
            ·rfl
            ·rfl
           refine hK.out _ _ hHeld (fun hHeld => ?_)
           clear hK K
           refine nr_ (some 73) _ ?_
           obtain ⟨wj,hw_⟩ : ∃ z_,z_ = w45 := ⟨_,rfl⟩
           subst hw_
         all_goals
          refine pure_ (i := 9) (N := some 76) (v := ?_) (a' := ?_) #[true,true,true,true,true,true,true,true,true,true,false,false,false,false] rfl rfl (by kernel_rfl) (fun _ _ _ h => h) (Or.inl ⟨by rfl,?_⟩) ?_ ?_
          rotate_left
          ·intro w'
           go_simp
           with_reducible rfl
          rotate_left
          ·simp only [Act.put,q1,q2,q3,i64_w,i32_w]
           rfl
          refine one_ (i := 10) (N := some 77) #[true,true,true,true,true,true,true,true,true,true,true,false,false,false] rfl rfl (by kernel_rfl) (by decide) (fun K hK => ?_)
          refine value_ (w1 := ?_) (v := ?_) (by rfl) rfl ?_ ?_
          rotate_left 2
          ·go_simp
           constructor
           ·rfl
           ·rfl
          refine hK.out _ _ ⟨(blk_cell (blk_alloc BM.out.2 _) 0).trans rfl,(blk_cell (blk_alloc BM.out.2 _) 1).trans rfl,(blk_cell (blk_alloc BM.out.2 _) 2).trans rfl,(blk_cell (blk_alloc BM.out.2 _) 3).trans rfl⟩ (fun hHeld => ?_)
          clear hK K
          refine nr_ (some 77) _ ?_
          refine one_ (i := 11) (N := some 78) #[true,true,true,true,true,true,true,true,true,true,true,true,false,false] rfl rfl (by kernel_rfl) (by decide) (fun K hK => ?_)
          obtain ⟨csg,hcg⟩ := D.out.type
          have TN := ak (Kd.S_N (Kd.S_mono (Kd.S_types (Kd.S_types (Kd.S_types (Kd.S_bound T1.out) hcg (by decide)) BM.out.2 (by decide)) BR.out.2 (by decide)) (fun k h => (⟨⟨⟨h.1.1.1.2.1,h.1.1.2⟩,h.1.2⟩,h.2⟩ : ((w.heap.size ≤ k ∧ k ≠ g) ∧ k ≠ gm) ∧ k ≠ gr))))
          clear hcg
          refine Kd.N_append_step k83 w.heap.size (by rfl) (.tmp 68) (.tmp 77) 28 83 (.agg #[.int .i64 0,.slice none 0 0]) 32 rfl Tryz.underlying28 info83 rfl (by decide) (by omega) (.slice A1 l1.length c1) l1 (⟨rd y x7,cs⟩ : S83) [.int .i64 (rd y x7),.slice An cs.length cn] (fun k => ((w.heap.size ≤ k ∧ k ≠ g) ∧ k ≠ gm) ∧ k ≠ gr) (fun k => (((w.heap.size ≤ k ∧ k ≠ g) ∧ k ≠ gm) ∧ k ≠ gr) ∧ some k ≠ (.slice A1 l1.length c1 : Value).ownBlock) rfl rfl ?aP (fun _ h => h) ?aF TN.out (Below.refl _ _) D.out.size ?aL ?_
          (case aP => exact FK_copy TC.out TF.out)
          (case aF => exact fun k hk => ⟨⟨⟨Nat.le_trans D.out.size hk,fun e => absurd hk (Nat.not_le.2 (e ▸ D.out.lt))⟩,fun e => absurd hk (Nat.not_le.2 (e ▸ blk_lt BM.out.2))⟩,fun e => absurd hk (Nat.not_le.2 (e ▸ blk_lt BR.out.2))⟩)
          (case aL => have := H1.out.1;omega)
          intro v_ w46 ho hb hg hat
          clear hat
          have D := ak (D.out.app hb hg (fun k e_ => ((Kd.S_R (Kd.S_bound T1.out)).1 k e_).2.1))
          have T2 := ak (Kd.S_over' T2.out (Kd.S_typed T1.out) (by decide) hg)
          have T3 := ak (Kd.R_over' T3.out (Kd.S_typed T1.out) (by decide) hg)
          have BR := ak (BR.out.grown hg (Kd.S_ne T1.out BR.out.2 (by decide)))
          have BM := ak (BM.out.grown hg (Kd.S_ne T1.out BM.out.2 (by decide)))
          have T1 := ak ho
          clear ho hb hg
          obtain ⟨l1,hln⟩ : ∃ y_,y_ = l1 ++ [(⟨rd y x7,cs⟩ : S83)] := ⟨_,rfl⟩
          have T_ := T1.out
          rw [← hln] at T_
          have T1 := ak T_
          clear T_
          have H1 : Aside0 (l1.length ≤ 5 ∧ sm1 l1) := ⟨by rw [hln];exact ⟨by have := H1.out.1;simp;omega,sm1_app H1.out.2 HX.out⟩⟩
          clear hln
          obtain ⟨A1,c1,e1⟩ := Kd.N_slice T1.out
          subst e1
          refine hK.out _ _ ⟨(blk_cell BM.out.2 0).trans rfl,(blk_cell BM.out.2 1).trans rfl,(blk_cell BM.out.2 2).trans rfl,(blk_cell BM.out.2 3).trans rfl⟩ (fun hHeld => ?_)
          clear hK K
          refine nr_ (some 78) _ ?_
          refine pure_ (i := 12) (N := some 79) (v := ?_) (a' := ?_) #[true,true,true,true,true,true,true,true,true,true,true,true,true,false] rfl rfl (by kernel_rfl) (fun _ _ _ h => h) (Or.inl ⟨by rfl,?_⟩) ?_ ?_
          rotate_left
          ·intro w'
           go_simp
           with_reducible rfl
          rotate_left
          ·simp only [Act.put,q1,q2,q3,i64_w,i32_w]
           rfl
          refine last_ (i := 13) (N := none) #[true,true,true,true,true,true,true,true,true,true,true,true,true,true] rfl rfl (by kernel_rfl) (by decide) (fun K hK => ?_)
          obtain ⟨⟨hc48_0,hc48_1,hc48_2,hc48_3⟩,hf48_0,hf48_1,hf48_2,hf48_3⟩ := cl4_ BM.out.2
          refine skip_ (w1 := (w46.setCell ⟨gm,1,none⟩ (.slice A1 l1.length c1))) (by rfl) rfl ?_ ?_
          ·first|(go_simp;done)|(go_simp;rfl)|(go_simp;simp)
          refine hK.out _ _ ?_
          clear hK K
          refine done_ (by kernel_rfl) ?_
          clear hHeld
          clear hc48_0 hf48_0 hc48_1 hf48_1 hc48_2 hf48_2 hc48_3 hf48_3
          have KS := ak (kept1_ (W := w46) (b := gm) 1 (.slice A1 l1.length c1))
          have D := ak (D.out.far (p := ⟨gm,1,none⟩) BM.out.1 (.slice A1 l1.length c1))
          have T1 := ak (Kd.N_kept T1.out KS.out (fun k_ hk_ e_ => hk_.1.2 e_))
          have T2 := ak (S_off T2.out BM.out.2 (by decide) KS.out)
          have T3 := ak (R_off T3.out BM.out.2 (by decide) KS.out)
          have BR := ak (BR.out.kept KS.out NEBRBM.out)
          have BM := ak (BM.out.put1 1 (.slice A1 l1.length c1) (cs' := #[.bool b,.slice A1 l1.length c1,.slice A2 l2.length c2,.slice A3 l3.length c3]) rfl)
          clear KS
          generalize (w46.setCell ⟨gm,1,none⟩ (.slice A1 l1.length c1)) = w47 at D T1 T2 T3 BR BM ⊢
          obtain ⟨⟨hc49_0,hc49_1,hc49_2,hc49_3⟩,hf49_0,hf49_1,hf49_2,hf49_3⟩ := cl4_ BM.out.2
          obtain ⟨⟨hc50_0,hc50_1,hc50_2,hc50_3⟩,hf50_0,hf50_1,hf50_2,hf50_3⟩ := cl4_ BR.out.2
          go_wp2
          refine bodyPost_ret (results_cell_row rfl _ _ gr 31 #[.bool b,.slice A1 l1.length c1,.slice A2 l2.length c2,.slice A3 l3.length c3] (0,0) _ rfl (put4_ BR.out.2 _ _ _ _) Tryz.underlying31 rfl (by kernel_rfl)) rfl ?_
          exact fin_any (b := b) BR.out T1.out T2.out T3.out D.out ⟨by have := H1.out.1;omega,H1.out.2⟩ ⟨by have := H2.out.1;omega,H2.out.2⟩ (by have := H3.out;omega) (fun _ h => h.1) _ (by first|rfl|(simp;done))
        have csb0 : (x6 == 0) = false := beq_eq_false_iff_ne.mpr cs0
        have NC0 := ak cs0
        clear cs0
        by_cases cs1 : x6 = 1
        ·subst cs1
         go_upto_region 24 with (fail)
         have hb : Below w36.heap.size w36 w36.drew := below_drew1 (Below.refl _ _)
         have BR := ak (BR.out.below hb)
         have BM := ak (BM.out.below hb)
         have T1 := ak (Kd.S_below T1.out hb)
         have T2 := ak (Kd.S_below T2.out hb)
         have T3 := ak (Kd.R_below T3.out hb)
         have D := ak (D.out.below hb)
         clear hb
         refine start_ (n := 8) (S := fun w' => w'.cell? ⟨gm,0,none⟩ = some (.bool b) ∧ w'.cell? ⟨gm,1,none⟩ = some (.slice A1 l1.length c1) ∧ w'.cell? ⟨gm,2,none⟩ = some (.slice A2 l2.length c2) ∧ w'.cell? ⟨gm,3,none⟩ = some (.slice A3 l3.length c3)) (ds := [7]) #[false,false,false,false,false,false,false,false] (by kernel_rfl) rfl rfl ⟨(blk_cell BM.out.2 0).trans rfl,(blk_cell BM.out.2 1).trans rfl,(blk_cell BM.out.2 2).trans rfl,(blk_cell BM.out.2 3).trans rfl⟩ (fun hHeld => ?_)
         generalize w36.drew = w51 at D T1 T2 T3 BR BM hHeld ⊢
         refine pure_ (i := 0) (N := some 82) (v := ?_) (a' := ?_) #[true,false,false,false,false,false,false,false] rfl rfl (by kernel_rfl) (fun _ _ _ h => h) (Or.inl ⟨by rfl,?_⟩) ?_ ?_
         rotate_left
         ·intro w'
          go_simp
          with_reducible rfl
         rotate_left
         ·simp only [Act.put,q1,q2,q3,i64_w,i32_w]
          rfl
         refine take_ (i := 1) (N := some 83) (v := ?_) (a' := ?_) #[true,true,false,false,false,false,false,false] rfl rfl (by kernel_rfl) (fun _ _ _ h => h) (Or.inl ⟨by rfl,?_⟩) hHeld ?_ ?_
         rotate_left
         ·rintro w' ⟨s0,s1,s2,s3⟩
          go_simp
          with_reducible rfl
         rotate_left
         ·simp only [Act.put,q1,q2,q3,i64_w,i32_w]
          rfl
         refine pure_ (i := 2) (N := some 84) (v := ?_) (a' := ?_) #[true,true,true,false,false,false,false,false] rfl rfl (by kernel_rfl) (fun _ _ _ h => h) (Or.inl ⟨by rfl,?_⟩) ?_ ?_
         rotate_left
         ·intro w'
          go_simp
          with_reducible rfl
         rotate_left
         ·simp only [Act.put,q1,q2,q3,i64_w,i32_w]
          rfl
         refine one_ (i := 3) (N := some 85) #[true,true,true,true,false,false,false,false] rfl rfl (by kernel_rfl) (by decide) (fun K hK => ?_)
         refine goes_ Tryz.func64 (by kernel_rfl) rfl #[.pointer (some ⟨g,0,none⟩)] (by rfl) rfl rfl (by (try simp only [List.map_toArray,List.map_cons,List.map_nil]);first|done|rfl) ?_
         refine (draw2_any HL.out D.out.self).mono ?_
         rintro e w52 ⟨f0,f1,f2,vn,ys,rfl,TN,hys,K⟩
         refine ⟨_,rfl,?_⟩
         have HX := ak hys
         have TN := ak TN
         have TB := ak (S_drb T2.out D.out K)
         have SZ := ak D.out.size
         clear hys
         have BR := ak (BR.out.dr D.out K)
         have BM := ak (BM.out.dr D.out K)
         have T1 := ak (S_dr T1.out D.out K)
         have T2 := ak (S_dr T2.out D.out K)
         have T3 := ak (R_dr T3.out D.out K)
         have D := ak (D.out.trans K)
         clear K
         have T2 := TB
         clear TB
         obtain ⟨An,cn,en⟩ := Kd.R_slice TN.out
         subst en
         refine hK.out _ _ ⟨(blk_cell BM.out.2 0).trans rfl,(blk_cell BM.out.2 1).trans rfl,(blk_cell BM.out.2 2).trans rfl,(blk_cell BM.out.2 3).trans rfl⟩ (fun hHeld => ?_)
         clear hK K
         refine nr_ (some 85) _ ?_
         refine one_ (i := 4) (N := some 86) #[true,true,true,true,true,false,false,false] rfl rfl (by kernel_rfl) (by decide) (fun K hK => ?_)
         refine value_ (w1 := ?_) (v := ?_) (by rfl) rfl ?_ ?_
         rotate_left 2
         ·go_simp
          constructor
          ·rfl
          ·rfl
         refine hK.out _ _ ⟨(blk_cell (blk_alloc BM.out.2 _) 0).trans rfl,(blk_cell (blk_alloc BM.out.2 _) 1).trans rfl,(blk_cell (blk_alloc BM.out.2 _) 2).trans rfl,(blk_cell (blk_alloc BM.out.2 _) 3).trans rfl⟩ (fun hHeld => ?_)
         clear hK K
         refine nr_ (some 86) _ ?_
         refine one_ (i := 5) (N := some 87) #[true,true,true,true,true,true,false,false] rfl rfl (by kernel_rfl) (by decide) (fun K hK => ?_)
         refine Kd.S_append_step k50 w.heap.size (by rfl) (.tmp 83) (.tmp 86) 29 50 (.agg #[.int .i64 0,.int .i64 0,.int .i64 0,.slice none 0 0]) 48 rfl Tryz.underlying29 info50 rfl (by decide) (by omega) (.slice A2 l2.length c2) l2 (⟨f0,f1,f2,ys⟩ : S50) [.int .i64 f0,.int .i64 f1,.int .i64 f2,.slice An ys.length cn] (fun _ => True) (fun k_ => some k_ = (.slice An ys.length cn : Value).ownBlock) rfl rfl ?aP (own_apart T2.out TN.out (by decide)) (fun _ _ => trivial) (S_apart T2.out TN.out) (Below.refl _ _) D.out.size ?aL ?_
         (case aP => exact k50_mkM _ _ _ (⟨f0,f1,f2,ys⟩ : S50) (Kd.R_tight rfl (Kd.R_lower TN.out SZ.out)))
         (case aL => have := H2.out.1;omega)
         intro v_ w53 ho hb hg hat
         clear hat
         have T2 := ak (Kd.S_mono T2.out (fun _ _ => trivial))
         have D := ak (D.out.app hb hg (fun k e_ => ((Kd.S_R (Kd.S_bound T2.out)).1 k e_).2.1))
         have T1 := ak (Kd.S_over' T1.out (Kd.S_typed T2.out) (by decide) hg)
         have T3 := ak (Kd.R_over' T3.out (Kd.S_typed T2.out) (by decide) hg)
         have BR := ak (BR.out.grown hg (Kd.S_ne T2.out BR.out.2 (by decide)))
         have BM := ak (BM.out.grown hg (Kd.S_ne T2.out BM.out.2 (by decide)))
         have T2 := ak ho
         clear ho hb hg
         obtain ⟨l2,hln⟩ : ∃ y_,y_ = l2 ++ [(⟨f0,f1,f2,ys⟩ : S50)] := ⟨_,rfl⟩
         have T_ := T2.out
         rw [← hln] at T_
         have T2 := ak T_
         clear T_
         have H2 : Aside0 (l2.length ≤ 7 ∧ sm2 l2) := ⟨by rw [hln];exact ⟨by have := H2.out.1;simp;omega,sm2_app H2.out.2 HX.out⟩⟩
         clear hln
         obtain ⟨A2,c2,e2⟩ := Kd.S_slice T2.out
         subst e2
         refine hK.out _ _ ⟨(blk_cell BM.out.2 0).trans rfl,(blk_cell BM.out.2 1).trans rfl,(blk_cell BM.out.2 2).trans rfl,(blk_cell BM.out.2 3).trans rfl⟩ (fun hHeld => ?_)
         clear hK K
         refine nr_ (some 87) _ ?_
         refine pure_ (i := 6) (N := some 88) (v := ?_) (a' := ?_) #[true,true,true,true,true,true,true,false] rfl rfl (by kernel_rfl) (fun _ _ _ h => h) (Or.inl ⟨by rfl,?_⟩) ?_ ?_
         rotate_left
         ·intro w'
          go_simp
          with_reducible rfl
         rotate_left
         ·simp only [Act.put,q1,q2,q3,i64_w,i32_w]
          rfl
         refine last_ (i := 7) (N := none) #[true,true,true,true,true,true,true,true] rfl rfl (by kernel_rfl) (by decide) (fun K hK => ?_)
         obtain ⟨⟨hc55_0,hc55_1,hc55_2,hc55_3⟩,hf55_0,hf55_1,hf55_2,hf55_3⟩ := cl4_ BM.out.2
         refine skip_ (w1 := (w53.setCell ⟨gm,2,none⟩ (.slice A2 l2.length c2))) (by rfl) rfl ?_ ?_
         ·first|(go_simp;done)|(go_simp;rfl)|(go_simp;simp)
         refine hK.out _ _ ?_
         clear hK K
         refine done_ (by kernel_rfl) ?_
         clear hHeld
         clear hc55_0 hf55_0 hc55_1 hf55_1 hc55_2 hf55_2 hc55_3 hf55_3
         have KS := ak (kept1_ (W := w53) (b := gm) 2 (.slice A2 l2.length c2))
         have D := ak (D.out.far (p := ⟨gm,2,none⟩) BM.out.1 (.slice A2 l2.length c2))
         have T1 := ak (S_off T1.out BM.out.2 (by decide) KS.out)
         have T2 := ak (S_off T2.out BM.out.2 (by decide) KS.out)
         have T3 := ak (R_off T3.out BM.out.2 (by decide) KS.out)
         have BR := ak (BR.out.kept KS.out NEBRBM.out)
         have BM := ak (BM.out.put1 2 (.slice A2 l2.length c2) (cs' := #[.bool b,.slice A1 l1.length c1,.slice A2 l2.length c2,.slice A3 l3.length c3]) rfl)
         clear KS
         generalize (w53.setCell ⟨gm,2,none⟩ (.slice A2 l2.length c2)) = w54 at D T1 T2 T3 BR BM ⊢
         obtain ⟨csg,hcg⟩ := D.out.type
         have T1 := ak (Kd.S_N (Kd.S_mono (Kd.S_types (Kd.S_types (Kd.S_types (Kd.S_bound T1.out) hcg (by decide)) BM.out.2 (by decide)) BR.out.2 (by decide)) (fun k h => (⟨⟨⟨h.1.1.1.2.1,h.1.1.2⟩,h.1.2⟩,h.2⟩ : ((w.heap.size ≤ k ∧ k ≠ g) ∧ k ≠ gm) ∧ k ≠ gr))))
         clear hcg
         obtain ⟨⟨hc56_0,hc56_1,hc56_2,hc56_3⟩,hf56_0,hf56_1,hf56_2,hf56_3⟩ := cl4_ BM.out.2
         obtain ⟨⟨hc57_0,hc57_1,hc57_2,hc57_3⟩,hf57_0,hf57_1,hf57_2,hf57_3⟩ := cl4_ BR.out.2
         go_wp2
         refine bodyPost_ret (results_cell_row rfl _ _ gr 31 #[.bool b,.slice A1 l1.length c1,.slice A2 l2.length c2,.slice A3 l3.length c3] (0,0) _ rfl (put4_ BR.out.2 _ _ _ _) Tryz.underlying31 rfl (by kernel_rfl)) rfl ?_
         exact fin_any (b := b) BR.out T1.out T2.out T3.out D.out ⟨by have := H1.out.1;omega,H1.out.2⟩ ⟨by have := H2.out.1;omega,H2.out.2⟩ (by have := H3.out;omega) (fun _ h => h.1) _ (by first|rfl|(simp;done))
        have csb1 : (x6 == 1) = false := beq_eq_false_iff_ne.mpr cs1
        have NC1 := ak cs1
        clear cs1
        by_cases cs2 : x6 = 2
        ·subst cs2
         go_upto_region 26 with (fail)
         have hb : Below w36.heap.size w36 w36.drew := below_drew1 (Below.refl _ _)
         have BR := ak (BR.out.below hb)
         have BM := ak (BM.out.below hb)
         have T1 := ak (Kd.S_below T1.out hb)
         have T2 := ak (Kd.S_below T2.out hb)
         have T3 := ak (Kd.R_below T3.out hb)
         have D := ak (D.out.below hb)
         clear hb
         refine start_ (n := 11) (S := fun w' => w'.cell? ⟨gm,0,none⟩ = some (.bool b) ∧ w'.cell? ⟨gm,1,none⟩ = some (.slice A1 l1.length c1) ∧ w'.cell? ⟨gm,2,none⟩ = some (.slice A2 l2.length c2) ∧ w'.cell? ⟨gm,3,none⟩ = some (.slice A3 l3.length c3)) (ds := [10]) #[false,false,false,false,false,false,false,false,false,false,false] (by kernel_rfl) rfl rfl ⟨(blk_cell BM.out.2 0).trans rfl,(blk_cell BM.out.2 1).trans rfl,(blk_cell BM.out.2 2).trans rfl,(blk_cell BM.out.2 3).trans rfl⟩ (fun hHeld => ?_)
         generalize w36.drew = w58 at D T1 T2 T3 BR BM hHeld ⊢
         refine pure_ (i := 0) (N := some 91) (v := ?_) (a' := ?_) #[true,false,false,false,false,false,false,false,false,false,false] rfl rfl (by kernel_rfl) (fun _ _ _ h => h) (Or.inl ⟨by rfl,?_⟩) ?_ ?_
         rotate_left
         ·intro w'
          go_simp
          with_reducible rfl
         rotate_left
         ·simp only [Act.put,q1,q2,q3,i64_w,i32_w]
          rfl
         refine take_ (i := 1) (N := some 92) (v := ?_) (a' := ?_) #[true,true,false,false,false,false,false,false,false,false,false] rfl rfl (by kernel_rfl) (fun _ _ _ h => h) (Or.inl ⟨by rfl,?_⟩) hHeld ?_ ?_
         rotate_left
         ·rintro w' ⟨s0,s1,s2,s3⟩
          go_simp
          with_reducible rfl
         rotate_left
         ·simp only [Act.put,q1,q2,q3,i64_w,i32_w]
          rfl
         refine pure_ (i := 3) (N := some 94) (v := ?_) (a' := ?_) #[true,true,false,true,false,false,false,false,false,false,false] rfl rfl (by kernel_rfl) (fun _ _ _ h => h) (Or.inl ⟨by rfl,?_⟩) ?_ ?_
         rotate_left
         ·intro w'
          go_simp
          with_reducible rfl
         rotate_left
         ·simp only [Act.put,q1,q2,q3,i64_w,i32_w]
          rfl
         refine two_ (i := 2) (j := 4) (Ni := some 93) (Nj := some 95) #[true,true,true,true,false,false,false,false,false,false,false] #[true,true,false,true,true,false,false,false,false,false,false] rfl rfl rfl rfl (by kernel_rfl) (by decide) (by decide) (fun K hK => ?ha) (fun K hK => ?hb2)
         case' ha =>
          obtain ⟨y,hy⟩ : ∃ y_ : List Int,y_ = ([0,3,1000000,1000001] : List Int) := ⟨_,rfl⟩
          have Ny := ak hy
          clear hy
          refine Kd.R_lit_step (Kd.int .i64) _ 2 (by rfl) (N := 93) rfl (xs := ([0,3,1000000,1000001] : List Int)) (inner := [.int .i64 0,.int .i64 3,.int .i64 1000000,.int .i64 1000001]) (ok := fun _ => True) (okp := fun _ => True) ?hr (Reps.one (show Kd.M (Kd.int .i64) _ _ _ 0 [.int .i64 0] from rfl) (Reps.one (show Kd.M (Kd.int .i64) _ _ _ 3 [.int .i64 3] from rfl) (Reps.one (show Kd.M (Kd.int .i64) _ _ _ 1000000 [.int .i64 1000000] from rfl) (Reps.one (show Kd.M (Kd.int .i64) _ _ _ 1000001 [.int .i64 1000001] from rfl) (Reps.none _ _))))) (fun _ hk => hk) trivial (Below.refl _ _) (Nat.le_refl _) (by simp) ?_
          case hr => first|(go_simp;done)|(go_simp;rfl)
          intro v_ w59 ho hb hg_ hnew_
          clear hg_ hnew_
          rw [← Ny.out] at ho
          have TL := ak (Kd.R_lower ho D.out.size)
          have BR := ak (BR.out.below hb)
          have BM := ak (BM.out.below hb)
          have T1 := ak (Kd.S_below T1.out hb)
          have T2 := ak (Kd.S_below T2.out hb)
          have T3 := ak (Kd.R_below T3.out hb)
          have D := ak (D.out.below hb)
          clear ho hb
          obtain ⟨Ay,cy,ey⟩ := Kd.R_slice TL.out
          subst ey
          refine hK.out _ _ ⟨(blk_cell BM.out.2 0).trans rfl,(blk_cell BM.out.2 1).trans rfl,(blk_cell BM.out.2 2).trans rfl,(blk_cell BM.out.2 3).trans rfl⟩ (fun hHeld => ?_)
          clear hK K
          refine nr_ (some 93) _ ?_
          refine one_ (i := 4) (N := some 95) #[true,true,true,true,true,false,false,false,false,false,false] rfl rfl (by kernel_rfl) (by decide) (fun K hK => ?_)
          refine goes_ Tryz.func95 (by kernel_rfl) rfl #[.pointer (some ⟨g,0,none⟩),.int .i64 4] (by rfl) rfl rfl (by (try simp only [List.map_toArray,List.map_cons,List.map_nil]);first|done|rfl) ?_
          refine (below_any 4 (by decide) HL.out D.out).mono ?_
          rintro e w60 ⟨x7,rfl,hl_,hu_,K⟩
          refine ⟨_,rfl,?_⟩
          have BR := ak (BR.out.dr D.out K)
          have BM := ak (BM.out.dr D.out K)
          have T1 := ak (S_dr T1.out D.out K)
          have T2 := ak (S_dr T2.out D.out K)
          have T3 := ak (R_dr T3.out D.out K)
          have TL := ak (R_dr TL.out D.out K)
          have D := ak (D.out.trans K)
          clear K
          have HLx7 := ak hl_
          have HUx7 := ak (hu_ (by decide))
          clear hl_ hu_
          refine hK.out _ _ ⟨(blk_cell BM.out.2 0).trans rfl,(blk_cell BM.out.2 1).trans rfl,(blk_cell BM.out.2 2).trans rfl,(blk_cell BM.out.2 3).trans rfl⟩ (fun hHeld => ?_)
          clear hK K
          refine nr_ (some 95) _ ?_
          obtain ⟨wj,hw_⟩ : ∃ z_,z_ = w60 := ⟨_,rfl⟩
          subst hw_
         case' hb2 =>
          refine goes_ Tryz.func95 (by kernel_rfl) rfl #[.pointer (some ⟨g,0,none⟩),.int .i64 4] (by rfl) rfl rfl (by (try simp only [List.map_toArray,List.map_cons,List.map_nil]);first|done|rfl) ?_
          refine (below_any 4 (by decide) HL.out D.out).mono ?_
          rintro e w61 ⟨x7,rfl,hl_,hu_,K⟩
          refine ⟨_,rfl,?_⟩
          have BR := ak (BR.out.dr D.out K)
          have BM := ak (BM.out.dr D.out K)
          have T1 := ak (S_dr T1.out D.out K)
          have T2 := ak (S_dr T2.out D.out K)
          have T3 := ak (R_dr T3.out D.out K)
          have D := ak (D.out.trans K)
          clear K
          have HLx7 := ak hl_
          have HUx7 := ak (hu_ (by decide))
          clear hl_ hu_
          refine hK.out _ _ ⟨(blk_cell BM.out.2 0).trans rfl,(blk_cell BM.out.2 1).trans rfl,(blk_cell BM.out.2 2).trans rfl,(blk_cell BM.out.2 3).trans rfl⟩ (fun hHeld => ?_)
          clear hK K
          refine nr_ (some 95) _ ?_
          refine one_ (i := 2) (N := some 93) #[true,true,true,true,true,false,false,false,false,false,false] rfl rfl (by kernel_rfl) (by decide) (fun K hK => ?_)
          obtain ⟨y,hy⟩ : ∃ y_ : List Int,y_ = ([0,3,1000000,1000001] : List Int) := ⟨_,rfl⟩
          have Ny := ak hy
          clear hy
          refine Kd.R_lit_step (Kd.int .i64) _ 2 (by rfl) (N := 93) rfl (xs := ([0,3,1000000,1000001] : List Int)) (inner := [.int .i64 0,.int .i64 3,.int .i64 1000000,.int .i64 1000001]) (ok := fun _ => True) (okp := fun _ => True) ?hr (Reps.one (show Kd.M (Kd.int .i64) _ _ _ 0 [.int .i64 0] from rfl) (Reps.one (show Kd.M (Kd.int .i64) _ _ _ 3 [.int .i64 3] from rfl) (Reps.one (show Kd.M (Kd.int .i64) _ _ _ 1000000 [.int .i64 1000000] from rfl) (Reps.one (show Kd.M (Kd.int .i64) _ _ _ 1000001 [.int .i64 1000001] from rfl) (Reps.none _ _))))) (fun _ hk => hk) trivial (Below.refl _ _) (Nat.le_refl _) (by simp) ?_
          case hr => first|(go_simp;done)|(go_simp;rfl)
          intro v_ w62 ho hb hg_ hnew_
          clear hg_ hnew_
          rw [← Ny.out] at ho
          have TL := ak (Kd.R_lower ho D.out.size)
          have BR := ak (BR.out.below hb)
          have BM := ak (BM.out.below hb)
          have T1 := ak (Kd.S_below T1.out hb)
          have T2 := ak (Kd.S_below T2.out hb)
          have T3 := ak (Kd.R_below T3.out hb)
          have D := ak (D.out.below hb)
          clear ho hb
          obtain ⟨Ay,cy,ey⟩ := Kd.R_slice TL.out
          subst ey
          refine hK.out _ _ ⟨(blk_cell BM.out.2 0).trans rfl,(blk_cell BM.out.2 1).trans rfl,(blk_cell BM.out.2 2).trans rfl,(blk_cell BM.out.2 3).trans rfl⟩ (fun hHeld => ?_)
          clear hK K
          refine nr_ (some 93) _ ?_
          obtain ⟨wj,hw_⟩ : ∃ z_,z_ = w62 := ⟨_,rfl⟩
          subst hw_
         all_goals
          have Qx7 : Aside0 (x7 < (y.length : Int)) := ⟨by rw [Ny.out];exact HUx7.out⟩
          obtain ⟨adx7,eax7,hxx7⟩ := Kd.at_int (Kd.R_reads' TL.out).2.2 x7 HLx7.out Qx7.out
          subst eax7
          have pxx7 : (0 ≤ x7) = True := eq_true HLx7.out
          have qxx7 : (x7 < (y.length : Int)) = True := eq_true Qx7.out
          refine pure_ (i := 5) (N := some 96) (v := ?_) (a' := ?_) #[true,true,true,true,true,true,false,false,false,false,false] rfl rfl (by kernel_rfl) (fun _ _ _ h => h) (Or.inl ⟨by rfl,?_⟩) ?_ ?_
          rotate_left
          ·intro w'
           go_simp
           with_reducible rfl
          rotate_left
          ·simp only [Act.put,q1,q2,q3,i64_w,i32_w]
           rfl
          refine one_ (i := 6) (N := some 97) #[true,true,true,true,true,true,true,false,false,false,false] rfl rfl (by kernel_rfl) (by decide) (fun K hK => ?_)
          refine value_ (w1 := ?_) (v := ?_) (by rfl) rfl ?_ ?_
          rotate_left 2
          ·go_simp
           constructor
           ·rfl
           ·rfl
          refine hK.out _ _ hHeld (fun hHeld => ?_)
          clear hK K
          refine nr_ (some 97) _ ?_
          refine one_ (i := 7) (N := some 98) #[true,true,true,true,true,true,true,true,false,false,false] rfl rfl (by kernel_rfl) (by decide) (fun K hK => ?_)
          refine value_ (w1 := ?_) (v := ?_) (by rfl) rfl ?_ ?_
          rotate_left 2
          ·go_simp
           constructor
           ·rfl
           ·rfl
          refine hK.out _ _ ⟨(blk_cell (blk_alloc BM.out.2 _) 0).trans rfl,(blk_cell (blk_alloc BM.out.2 _) 1).trans rfl,(blk_cell (blk_alloc BM.out.2 _) 2).trans rfl,(blk_cell (blk_alloc BM.out.2 _) 3).trans rfl⟩ (fun hHeld => ?_)
          clear hK K
          refine nr_ (some 98) _ ?_
          refine one_ (i := 8) (N := some 99) #[true,true,true,true,true,true,true,true,true,false,false] rfl rfl (by kernel_rfl) (by decide) (fun K hK => ?_)
          refine Kd.R_append_step (Kd.int .i64) w.heap.size (by rfl) (.tmp 92) (.tmp 98) 24 2 (.int .i64 0) 8 rfl Tryz.underlying24 info2 rfl (by decide) (by omega) (.slice A3 l3.length c3) l3 (rd y x7) [.int .i64 (rd y x7)] (fun _ => True) (fun _ => False) rfl rfl ?aP (fun _ hk => hk.elim) (fun _ _ => trivial) T3.out (Below.refl _ _) D.out.size ?aL ?_
          (case aP => exact rfl)
          (case aL => have := H3.out;omega)
          intro v_ w63 ho hb hg hat
          clear hat
          have D := ak (D.out.app hb hg (fun k e_ => ((Kd.R_bound T3.out).1 k e_).2.1))
          have T1 := ak (Kd.S_over' T1.out (Kd.R_typed T3.out) (by decide) hg)
          have T2 := ak (Kd.S_over' T2.out (Kd.R_typed T3.out) (by decide) hg)
          have BR := ak (BR.out.grown hg (Kd.R_ne T3.out BR.out.2 (by decide)))
          have BM := ak (BM.out.grown hg (Kd.R_ne T3.out BM.out.2 (by decide)))
          have T3 := ak ho
          clear ho hb hg
          obtain ⟨l3,hln⟩ : ∃ y_,y_ = l3 ++ [(rd y x7)] := ⟨_,rfl⟩
          have T_ := T3.out
          rw [← hln] at T_
          have T3 := ak T_
          clear T_
          have H3 : Aside0 (l3.length ≤ 7) := ⟨by rw [hln];exact (by have := H3.out;simp;omega)⟩
          clear hln
          obtain ⟨A3,c3,e3⟩ := Kd.R_slice T3.out
          subst e3
          refine hK.out _ _ ⟨(blk_cell BM.out.2 0).trans rfl,(blk_cell BM.out.2 1).trans rfl,(blk_cell BM.out.2 2).trans rfl,(blk_cell BM.out.2 3).trans rfl⟩ (fun hHeld => ?_)
          clear hK K
          refine nr_ (some 99) _ ?_
          refine pure_ (i := 9) (N := some 100) (v := ?_) (a' := ?_) #[true,true,true,true,true,true,true,true,true,true,false] rfl rfl (by kernel_rfl) (fun _ _ _ h => h) (Or.inl ⟨by rfl,?_⟩) ?_ ?_
          rotate_left
          ·intro w'
           go_simp
           with_reducible rfl
          rotate_left
          ·simp only [Act.put,q1,q2,q3,i64_w,i32_w]
           rfl
          refine last_ (i := 10) (N := none) #[true,true,true,true,true,true,true,true,true,true,true] rfl rfl (by kernel_rfl) (by decide) (fun K hK => ?_)
          obtain ⟨⟨hc65_0,hc65_1,hc65_2,hc65_3⟩,hf65_0,hf65_1,hf65_2,hf65_3⟩ := cl4_ BM.out.2
          refine skip_ (w1 := (w63.setCell ⟨gm,3,none⟩ (.slice A3 l3.length c3))) (by rfl) rfl ?_ ?_
          ·first|(go_simp;done)|(go_simp;rfl)|(go_simp;simp)
          refine hK.out _ _ ?_
          clear hK K
          refine done_ (by kernel_rfl) ?_
          clear hHeld
          clear hc65_0 hf65_0 hc65_1 hf65_1 hc65_2 hf65_2 hc65_3 hf65_3
          have KS := ak (kept1_ (W := w63) (b := gm) 3 (.slice A3 l3.length c3))
          have D := ak (D.out.far (p := ⟨gm,3,none⟩) BM.out.1 (.slice A3 l3.length c3))
          have T1 := ak (S_off T1.out BM.out.2 (by decide) KS.out)
          have T2 := ak (S_off T2.out BM.out.2 (by decide) KS.out)
          have T3 := ak (R_off T3.out BM.out.2 (by decide) KS.out)
          have BR := ak (BR.out.kept KS.out NEBRBM.out)
          have BM := ak (BM.out.put1 3 (.slice A3 l3.length c3) (cs' := #[.bool b,.slice A1 l1.length c1,.slice A2 l2.length c2,.slice A3 l3.length c3]) rfl)
          clear KS
          generalize (w63.setCell ⟨gm,3,none⟩ (.slice A3 l3.length c3)) = w64 at D T1 T2 T3 BR BM ⊢
          obtain ⟨csg,hcg⟩ := D.out.type
          have T1 := ak (Kd.S_N (Kd.S_mono (Kd.S_types (Kd.S_types (Kd.S_types (Kd.S_bound T1.out) hcg (by decide)) BM.out.2 (by decide)) BR.out.2 (by decide)) (fun k h => (⟨⟨⟨h.1.1.1.2.1,h.1.1.2⟩,h.1.2⟩,h.2⟩ : ((w.heap.size ≤ k ∧ k ≠ g) ∧ k ≠ gm) ∧ k ≠ gr))))
          clear hcg
          obtain ⟨⟨hc66_0,hc66_1,hc66_2,hc66_3⟩,hf66_0,hf66_1,hf66_2,hf66_3⟩ := cl4_ BM.out.2
          obtain ⟨⟨hc67_0,hc67_1,hc67_2,hc67_3⟩,hf67_0,hf67_1,hf67_2,hf67_3⟩ := cl4_ BR.out.2
          go_wp2
          refine bodyPost_ret (results_cell_row rfl _ _ gr 31 #[.bool b,.slice A1 l1.length c1,.slice A2 l2.length c2,.slice A3 l3.length c3] (0,0) _ rfl (put4_ BR.out.2 _ _ _ _) Tryz.underlying31 rfl (by kernel_rfl)) rfl ?_
          exact fin_any (b := b) BR.out T1.out T2.out T3.out D.out ⟨by have := H1.out.1;omega,H1.out.2⟩ ⟨by have := H2.out.1;omega,H2.out.2⟩ (by have := H3.out;omega) (fun _ h => h.1) _ (by first|rfl|(simp;done))
        have csb2 : (x6 == 2) = false := beq_eq_false_iff_ne.mpr cs2
        have NC2 := ak cs2
        clear cs2
        by_cases cs3 : x6 = 3
        ·subst cs3
         obtain ⟨⟨hc68_0,hc68_1,hc68_2,hc68_3⟩,hf68_0,hf68_1,hf68_2,hf68_3⟩ := cl4_ BM.out.2
         obtain ⟨l3,hln⟩ : ∃ y_ : List Int,y_ = [] := ⟨_,rfl⟩
         go_wp2_with ((with_reducible refine gate_dst (N := 103) rfl ?_);refine Kd.R_lit (Kd.int .i64) _ 2 ?hg (N := 103) ?hd (xs := ([] : List Int)) (inner := []) (ok := fun _ => True) (okp := fun _ => True) ?hr ?hp (fun _ hk => hk) trivial (Below.refl _ _) (Nat.le_refl _) (by simp) ?_;(case hd => rfl);(case hg => rfl);(case hr => first|(go_simp;done)|(go_simp;rfl));(case hp => exact (Reps.none _ _));intro v_ w69 ho hb hg_ hnew_;clear hg_ hnew_;refine hold_51 ?_)
         refine ⟨?_⟩
         have T3 := ak (id (Kd.R_lower ho D.out.size))
         have BR := ak (BR.out.below hb)
         have BM := ak (BM.out.below hb)
         have T1 := ak (Kd.S_below T1.out hb)
         have T2 := ak (Kd.S_below T2.out hb)
         have D := ak (D.out.below hb)
         clear ho hb
         have T_ := T3.out
         rw [← hln] at T_
         have T3 := ak T_
         clear T_
         have H3 : Aside0 (l3.length ≤ 0) := ⟨by rw [hln];exact Nat.le_refl _⟩
         clear hln
         obtain ⟨A3,c3,e3⟩ := Kd.R_slice T3.out
         subst e3
         obtain ⟨⟨hc70_0,hc70_1,hc70_2,hc70_3⟩,hf70_0,hf70_1,hf70_2,hf70_3⟩ := cl4_ BM.out.2
         go_upto_region 29 with (fail)
         have KS := ak (kept1_ (W := w69) (b := gm) 3 (.slice A3 l3.length c3))
         have D := ak (D.out.far (p := ⟨gm,3,none⟩) BM.out.1 (.slice A3 l3.length c3))
         have T1 := ak (S_off T1.out BM.out.2 (by decide) KS.out)
         have T2 := ak (S_off T2.out BM.out.2 (by decide) KS.out)
         have T3 := ak (R_off T3.out BM.out.2 (by decide) KS.out)
         have BR := ak (BR.out.kept KS.out NEBRBM.out)
         have BM := ak (BM.out.put1 3 (.slice A3 l3.length c3) (cs' := #[.bool b,.slice A1 l1.length c1,.slice A2 l2.length c2,.slice A3 l3.length c3]) rfl)
         clear KS
         generalize (w69.setCell ⟨gm,3,none⟩ (.slice A3 l3.length c3)) = w71 at D T1 T2 T3 BR BM ⊢
         go_wp2
         go_loopg [8] 62 (fun gg v8 wr => ∃ (i : Nat),v8 = .int .i64 i ∧ i ≤ 62 ∧ 62 - i ≤ gg ∧ Aside0 (Ms w0 w g gm gr l wr 4 6 i))
         case atStart => exact ⟨0,rfl,by omega,by omega,⟨⟨b,_,_,l1,_,_,l2,_,_,l3,D.out,BR.out,BM.out,T1.out,T2.out,T3.out,H1.out,H2.out,H3.out⟩⟩⟩
         case round =>
          clear D BR BM T1 T2 T3 H1 H2 H3
          obtain ⟨i,rfl,hi,hgg,MS⟩ := hrel
          obtain ⟨b,A1,c1,l1,A2,c2,l2,A3,c3,l3,D,BR,BM,T1,T2,T3,H1,H2,H3⟩ := MS.out
          have D := ak D
          have BR := ak BR
          have BM := ak BM
          have T1 := ak T1
          have T2 := ak T2
          have T3 := ak T3
          have H1 := ak H1
          have H2 := ak H2
          have H3 := ak H3
          clear MS
          go_wp2_with ((with_reducible refine gcal_ (f := 95) rfl ?_);refine gz_ (some 107) Tryz.func95 #[.pointer (some ⟨g,0,none⟩),.int .i64 2] ?_;refine (below_any 2 (by decide) HL.out D.out).mono ?_;rintro e w72 ⟨x7,rfl,hl_,hu_,K⟩;refine ⟨_,rfl,?_⟩;refine hold_51 ?_)
          refine ⟨?_⟩
          have BR := ak (BR.out.dr D.out K)
          have BM := ak (BM.out.dr D.out K)
          have T1 := ak (S_dr T1.out D.out K)
          have T2 := ak (S_dr T2.out D.out K)
          have T3 := ak (R_dr T3.out D.out K)
          have D := ak (D.out.trans K)
          clear K
          have HLx7 := ak hl_
          have HUx7 := ak (hu_ (by decide))
          clear hl_ hu_
          have hw : wrap64 (60 + x7) = 60 + x7 := wrap_of (by have := HLx7.out;have := HUx7.out;omega) (by have := HLx7.out;have := HUx7.out;omega)
          by_cases hlt : (i : Int) < 60 + x7
          ·have hjb : decide ((i : Int) < 60 + x7) = true := decide_eq_true hlt
           have hi2 : i + 1 ≤ 62 := by have := HUx7.out;omega
           obtain ⟨⟨hc74_0,hc74_1,hc74_2,hc74_3⟩,hf74_0,hf74_1,hf74_2,hf74_3⟩ := cl4_ BM.out.2
           go_wp2_with ((with_reducible refine gblt_ (b := .append) (xs := #[.tmp 113,.tmp 116]) rfl ?_);at_builtin;refine Kd.R_append (Kd.int .i64) w.heap.size rfl (.tmp 113) (.tmp 116) 24 2 (.int .i64 0) 8 rfl Tryz.underlying24 info2 rfl (by decide) (by omega) (.slice A3 l3.length c3) l3 ((i : Int) + 10) [.int .i64 ((i : Int) + 10)] (fun _ => True) (fun _ => False) rfl (by first|(go_simp;done)|(go_simp;rfl)) ?aP (fun _ hk => hk.elim) (fun _ _ => trivial) T3.out (Below.refl _ _) D.out.size ?aL ?_;(case aP => exact rfl);(case aL => have := H3.out;omega);intro v_ w73 ho hb hg hat;clear hat;refine hold_51 ?_)
           refine ⟨?_⟩
           have D := ak (D.out.app hb hg (fun k e_ => ((Kd.R_bound T3.out).1 k e_).2.1))
           have T1 := ak (Kd.S_over' T1.out (Kd.R_typed T3.out) (by decide) hg)
           have T2 := ak (Kd.S_over' T2.out (Kd.R_typed T3.out) (by decide) hg)
           have BR := ak (BR.out.grown hg (Kd.R_ne T3.out BR.out.2 (by decide)))
           have BM := ak (BM.out.grown hg (Kd.R_ne T3.out BM.out.2 (by decide)))
           have T3 := ak ho
           clear ho hb hg
           obtain ⟨l3,hln⟩ : ∃ y_,y_ = l3 ++ [((i : Int) + 10)] := ⟨_,rfl⟩
           have T_ := T3.out
           rw [← hln] at T_
           have T3 := ak T_
           clear T_
           have H3 : Aside0 (l3.length ≤ i + 1) := ⟨by rw [hln];exact (by have := H3.out;simp;omega)⟩
           clear hln
           obtain ⟨A3,c3,e3⟩ := Kd.R_slice T3.out
           subst e3
           obtain ⟨⟨hc75_0,hc75_1,hc75_2,hc75_3⟩,hf75_0,hf75_1,hf75_2,hf75_3⟩ := cl4_ BM.out.2
           go_upto_region 31 with (fail)
           have KS := ak (kept1_ (W := w73) (b := gm) 3 (.slice A3 l3.length c3))
           have D := ak (D.out.far (p := ⟨gm,3,none⟩) BM.out.1 (.slice A3 l3.length c3))
           have T1 := ak (S_off T1.out BM.out.2 (by decide) KS.out)
           have T2 := ak (S_off T2.out BM.out.2 (by decide) KS.out)
           have T3 := ak (R_off T3.out BM.out.2 (by decide) KS.out)
           have BR := ak (BR.out.kept KS.out NEBRBM.out)
           have BM := ak (BM.out.put1 3 (.slice A3 l3.length c3) (cs' := #[.bool b,.slice A1 l1.length c1,.slice A2 l2.length c2,.slice A3 l3.length c3]) rfl)
           clear KS
           generalize (w73.setCell ⟨gm,3,none⟩ (.slice A3 l3.length c3)) = w76 at D T1 T2 T3 BR BM ⊢
           go_wp2
           go_roundg (62 - (i + 1))
           case measure => omega
           case rel => exact ⟨i + 1,by go_num,by omega,by omega,⟨⟨b,_,_,l1,_,_,l2,_,_,l3,D.out,BR.out,BM.out,T1.out,T2.out,T3.out,H1.out,H2.out,H3.out⟩⟩⟩
          ·have hjb : decide ((i : Int) < 60 + x7) = false := decide_eq_false hlt
           have H2 : Aside0 (l2.length ≤ 202 ∧ sm2 l2) := ⟨by have := H2.out.1;omega,H2.out.2⟩
           have H3 : Aside0 (l3.length ≤ 62) := ⟨by have := H3.out;omega⟩
           obtain ⟨csg,hcg⟩ := D.out.type
           have T1 := ak (Kd.S_N (Kd.S_mono (Kd.S_types (Kd.S_types (Kd.S_types (Kd.S_bound T1.out) hcg (by decide)) BM.out.2 (by decide)) BR.out.2 (by decide)) (fun k h => (⟨⟨⟨h.1.1.1.2.1,h.1.1.2⟩,h.1.2⟩,h.2⟩ : ((w.heap.size ≤ k ∧ k ≠ g) ∧ k ≠ gm) ∧ k ≠ gr))))
           clear hcg
           obtain ⟨⟨hc77_0,hc77_1,hc77_2,hc77_3⟩,hf77_0,hf77_1,hf77_2,hf77_3⟩ := cl4_ BM.out.2
           obtain ⟨⟨hc78_0,hc78_1,hc78_2,hc78_3⟩,hf78_0,hf78_1,hf78_2,hf78_3⟩ := cl4_ BR.out.2
           go_wp2
           refine bodyPost_ret (results_cell_row rfl _ _ gr 31 #[.bool b,.slice A1 l1.length c1,.slice A2 l2.length c2,.slice A3 l3.length c3] (0,0) _ rfl (put4_ BR.out.2 _ _ _ _) Tryz.underlying31 rfl (by kernel_rfl)) rfl ?_
           exact fin_any (b := b) BR.out T1.out T2.out T3.out D.out ⟨by have := H1.out.1;omega,H1.out.2⟩ ⟨by have := H2.out.1;omega,H2.out.2⟩ (by have := H3.out;omega) (fun _ h => h.1) _ (by first|rfl|(simp;done))
        have csb3 : (x6 == 3) = false := beq_eq_false_iff_ne.mpr cs3
        have NC3 := ak cs3
        clear cs3
        by_cases cs4 : x6 = 4
        ·subst cs4
         obtain ⟨⟨hc79_0,hc79_1,hc79_2,hc79_3⟩,hf79_0,hf79_1,hf79_2,hf79_3⟩ := cl4_ BM.out.2
         obtain ⟨l2,hln⟩ : ∃ y_ : List S50,y_ = [] := ⟨_,rfl⟩
         go_wp2_with ((with_reducible refine gate_dst (N := 121) rfl ?_);refine Kd.R_lit k50 _ 50 ?hg (N := 121) ?hd (xs := ([] : List S50)) (inner := []) (ok := fun _ => True) (okp := fun _ => True) ?hr ?hp (fun _ hk => hk) trivial (Below.refl _ _) (Nat.le_refl _) (by simp) ?_;(case hd => rfl);(case hg => rfl);(case hr => first|(go_simp;done)|(go_simp;rfl));(case hp => exact (Reps.none _ _));intro v_ w80 ho hb hg_ hnew_;clear hg_ hnew_;refine hold_51 ?_)
         refine ⟨?_⟩
         have T2 := ak (S_empty (Kd.R_lower ho D.out.size))
         have BR := ak (BR.out.below hb)
         have BM := ak (BM.out.below hb)
         have T1 := ak (Kd.S_below T1.out hb)
         have T3 := ak (Kd.R_below T3.out hb)
         have D := ak (D.out.below hb)
         clear ho hb
         have T_ := T2.out
         rw [← hln] at T_
         have T2 := ak T_
         clear T_
         have H2 : Aside0 (l2.length ≤ 0 ∧ sm2 l2) := ⟨by rw [hln];exact ⟨Nat.le_refl _,sm2_nil⟩⟩
         clear hln
         obtain ⟨A2,c2,e2⟩ := Kd.S_slice T2.out
         subst e2
         obtain ⟨⟨hc81_0,hc81_1,hc81_2,hc81_3⟩,hf81_0,hf81_1,hf81_2,hf81_3⟩ := cl4_ BM.out.2
         go_upto_region 35 with (fail)
         have KS := ak (kept1_ (W := w80) (b := gm) 2 (.slice A2 l2.length c2))
         have D := ak (D.out.far (p := ⟨gm,2,none⟩) BM.out.1 (.slice A2 l2.length c2))
         have T1 := ak (S_off T1.out BM.out.2 (by decide) KS.out)
         have T2 := ak (S_off T2.out BM.out.2 (by decide) KS.out)
         have T3 := ak (R_off T3.out BM.out.2 (by decide) KS.out)
         have BR := ak (BR.out.kept KS.out NEBRBM.out)
         have BM := ak (BM.out.put1 2 (.slice A2 l2.length c2) (cs' := #[.bool b,.slice A1 l1.length c1,.slice A2 l2.length c2,.slice A3 l3.length c3]) rfl)
         clear KS
         generalize (w80.setCell ⟨gm,2,none⟩ (.slice A2 l2.length c2)) = w82 at D T1 T2 T3 BR BM ⊢
         go_wp2
         go_loopg [9] 202 (fun gg v9 wr => ∃ (i : Nat),v9 = .int .i64 i ∧ i ≤ 202 ∧ 202 - i ≤ gg ∧ Aside0 (Ms w0 w g gm gr l wr 4 i 6))
         case atStart => exact ⟨0,rfl,by omega,by omega,⟨⟨b,_,_,l1,_,_,l2,_,_,l3,D.out,BR.out,BM.out,T1.out,T2.out,T3.out,H1.out,H2.out,H3.out⟩⟩⟩
         case round =>
          clear D BR BM T1 T2 T3 H1 H2 H3
          obtain ⟨i,rfl,hi,hgg,MS⟩ := hrel
          obtain ⟨b,A1,c1,l1,A2,c2,l2,A3,c3,l3,D,BR,BM,T1,T2,T3,H1,H2,H3⟩ := MS.out
          have D := ak D
          have BR := ak BR
          have BM := ak BM
          have T1 := ak T1
          have T2 := ak T2
          have T3 := ak T3
          have H1 := ak H1
          have H2 := ak H2
          have H3 := ak H3
          clear MS
          go_wp2_with ((with_reducible refine gcal_ (f := 95) rfl ?_);refine gz_ (some 125) Tryz.func95 #[.pointer (some ⟨g,0,none⟩),.int .i64 2] ?_;refine (below_any 2 (by decide) HL.out D.out).mono ?_;rintro e w83 ⟨x7,rfl,hl_,hu_,K⟩;refine ⟨_,rfl,?_⟩;refine hold_51 ?_)
          refine ⟨?_⟩
          have BR := ak (BR.out.dr D.out K)
          have BM := ak (BM.out.dr D.out K)
          have T1 := ak (S_dr T1.out D.out K)
          have T2 := ak (S_dr T2.out D.out K)
          have T3 := ak (R_dr T3.out D.out K)
          have D := ak (D.out.trans K)
          clear K
          have HLx7 := ak hl_
          have HUx7 := ak (hu_ (by decide))
          clear hl_ hu_
          have hw : wrap64 (200 + x7) = 200 + x7 := wrap_of (by have := HLx7.out;have := HUx7.out;omega) (by have := HLx7.out;have := HUx7.out;omega)
          by_cases hlt : (i : Int) < 200 + x7
          ·have hjb : decide ((i : Int) < 200 + x7) = true := decide_eq_true hlt
           have hi2 : i + 1 ≤ 202 := by have := HUx7.out;omega
           obtain ⟨⟨hc84_0,hc84_1,hc84_2,hc84_3⟩,hf84_0,hf84_1,hf84_2,hf84_3⟩ := cl4_ BM.out.2
           have DS := ak D.out.size
           have DO := D
           have D := ak D.out.self
           obtain ⟨ys,hys⟩ : ∃ y_ : List S119,y_ = ([(⟨1,0,0,false,0⟩ : S119)] : List S119) := ⟨_,rfl⟩
           have Nys := ak hys
           clear hys
           go_wp2_with ((with_reducible refine gate_dst (N := 133) rfl ?_);refine Kd.R_lit k119 _ 119 ?hg (N := 133) ?hd (xs := ([(⟨1,0,0,false,0⟩ : S119)] : List S119)) (inner := [.int .i64 1,.int .i64 0,.int .i64 0,.bool false,.int .i64 0]) (ok := fun _ => True) (okp := fun _ => True) ?hr ?hp (fun _ hk => hk) trivial (Below.refl _ _) (Nat.le_refl _) (by simp) ?_;(case hd => rfl);(case hg => rfl);(case hr => first|(go_simp;done)|(go_simp;rfl));(case hp => exact (Reps.c5 (show Kd.M k119 _ _ _ (⟨1,0,0,false,0⟩ : S119) [.int .i64 1,.int .i64 0,.int .i64 0,.bool false,.int .i64 0] from (k119_mkM _ _ _ (⟨1,0,0,false,0⟩ : S119))) (Reps.none _ _)));intro v_ w85 ho hb hg_ hnew_;clear hg_ hnew_;refine hold_51 ?_)
           refine ⟨?_⟩
           rw [← Nys.out] at ho
           have TN := ak (Kd.R_lower ho D.out.size)
           have D := ak (D.out.below hb)
           clear ho hb
           have Yys : Aside0 (ys.length = 1) := ⟨by rw [Nys.out];rfl⟩
           clear Nys
           obtain ⟨Ays,cys,eys⟩ := Kd.R_slice TN.out
           subst eys
           have TB := ak (S_drb T2.out DO.out D.out)
           have BR := ak (BR.out.dr DO.out D.out)
           have BM := ak (BM.out.dr DO.out D.out)
           have T1 := ak (S_dr T1.out DO.out D.out)
           have T2 := ak (S_dr T2.out DO.out D.out)
           have T3 := ak (R_dr T3.out DO.out D.out)
           have D := ak (DO.out.trans D.out)
           clear DO
           have T2 := TB
           clear TB
           go_wp2_with ((with_reducible refine gblt_ (b := .append) (xs := #[.tmp 131,.tmp 135]) rfl ?_);at_builtin;refine Kd.S_append k50 w.heap.size rfl (.tmp 131) (.tmp 135) 29 50 (.agg #[.int .i64 0,.int .i64 0,.int .i64 0,.slice none 0 0]) 48 rfl Tryz.underlying29 info50 rfl (by decide) (by omega) (.slice A2 l2.length c2) l2 (⟨1,3,1,ys⟩ : S50) [.int .i64 1,.int .i64 3,.int .i64 1,.slice Ays ys.length cys] (fun _ => True) (fun k_ => some k_ = (.slice Ays ys.length cys : Value).ownBlock) rfl (by first|(go_simp;done)|(go_simp;rfl)) ?aP (own_apart T2.out TN.out (by decide)) (fun _ _ => trivial) (S_apart T2.out TN.out) (Below.refl _ _) D.out.size ?aL ?_;(case aP => exact k50_mkM _ _ _ (⟨1,3,1,ys⟩ : S50) (Kd.R_tight rfl (Kd.R_lower TN.out DS.out)));(case aL => have := H2.out.1;omega);intro v_ w86 ho hb hg hat;clear hat;refine hold_51 ?_)
           refine ⟨?_⟩
           have T2 := ak (Kd.S_mono T2.out (fun _ _ => trivial))
           have D := ak (D.out.app hb hg (fun k e_ => ((Kd.S_R (Kd.S_bound T2.out)).1 k e_).2.1))
           have T1 := ak (Kd.S_over' T1.out (Kd.S_typed T2.out) (by decide) hg)
           have T3 := ak (Kd.R_over' T3.out (Kd.S_typed T2.out) (by decide) hg)
           have BR := ak (BR.out.grown hg (Kd.S_ne T2.out BR.out.2 (by decide)))
           have BM := ak (BM.out.grown hg (Kd.S_ne T2.out BM.out.2 (by decide)))
           have T2 := ak ho
           clear ho hb hg
           obtain ⟨l2,hln⟩ : ∃ y_,y_ = l2 ++ [(⟨1,3,1,ys⟩ : S50)] := ⟨_,rfl⟩
           have T_ := T2.out
           rw [← hln] at T_
           have T2 := ak T_
           clear T_
           have H2 : Aside0 (l2.length ≤ i + 1 ∧ sm2 l2) := ⟨by rw [hln];exact ⟨by have := H2.out.1;simp;omega,sm2_app H2.out.2 (by have := Yys.out;show ys.length ≤ 7;omega)⟩⟩
           clear hln
           obtain ⟨A2,c2,e2⟩ := Kd.S_slice T2.out
           subst e2
           obtain ⟨⟨hc87_0,hc87_1,hc87_2,hc87_3⟩,hf87_0,hf87_1,hf87_2,hf87_3⟩ := cl4_ BM.out.2
           go_upto_region 37 with (fail)
           have KS := ak (kept1_ (W := w86) (b := gm) 2 (.slice A2 l2.length c2))
           have D := ak (D.out.far (p := ⟨gm,2,none⟩) BM.out.1 (.slice A2 l2.length c2))
           have T1 := ak (S_off T1.out BM.out.2 (by decide) KS.out)
           have T2 := ak (S_off T2.out BM.out.2 (by decide) KS.out)
           have T3 := ak (R_off T3.out BM.out.2 (by decide) KS.out)
           have BR := ak (BR.out.kept KS.out NEBRBM.out)
           have BM := ak (BM.out.put1 2 (.slice A2 l2.length c2) (cs' := #[.bool b,.slice A1 l1.length c1,.slice A2 l2.length c2,.slice A3 l3.length c3]) rfl)
           clear KS
           generalize (w86.setCell ⟨gm,2,none⟩ (.slice A2 l2.length c2)) = w88 at D T1 T2 T3 BR BM ⊢
           go_wp2
           go_roundg (202 - (i + 1))
           case measure => omega
           case rel => exact ⟨i + 1,by go_num,by omega,by omega,⟨⟨b,_,_,l1,_,_,l2,_,_,l3,D.out,BR.out,BM.out,T1.out,T2.out,T3.out,H1.out,H2.out,H3.out⟩⟩⟩
          ·have hjb : decide ((i : Int) < 200 + x7) = false := decide_eq_false hlt
           have H2 : Aside0 (l2.length ≤ 202 ∧ sm2 l2) := ⟨by have := H2.out.1;omega,H2.out.2⟩
           have H3 : Aside0 (l3.length ≤ 62) := ⟨by have := H3.out;omega⟩
           obtain ⟨csg,hcg⟩ := D.out.type
           have T1 := ak (Kd.S_N (Kd.S_mono (Kd.S_types (Kd.S_types (Kd.S_types (Kd.S_bound T1.out) hcg (by decide)) BM.out.2 (by decide)) BR.out.2 (by decide)) (fun k h => (⟨⟨⟨h.1.1.1.2.1,h.1.1.2⟩,h.1.2⟩,h.2⟩ : ((w.heap.size ≤ k ∧ k ≠ g) ∧ k ≠ gm) ∧ k ≠ gr))))
           clear hcg
           obtain ⟨⟨hc89_0,hc89_1,hc89_2,hc89_3⟩,hf89_0,hf89_1,hf89_2,hf89_3⟩ := cl4_ BM.out.2
           obtain ⟨⟨hc90_0,hc90_1,hc90_2,hc90_3⟩,hf90_0,hf90_1,hf90_2,hf90_3⟩ := cl4_ BR.out.2
           go_wp2
           refine bodyPost_ret (results_cell_row rfl _ _ gr 31 #[.bool b,.slice A1 l1.length c1,.slice A2 l2.length c2,.slice A3 l3.length c3] (0,0) _ rfl (put4_ BR.out.2 _ _ _ _) Tryz.underlying31 rfl (by kernel_rfl)) rfl ?_
           exact fin_any (b := b) BR.out T1.out T2.out T3.out D.out ⟨by have := H1.out.1;omega,H1.out.2⟩ ⟨by have := H2.out.1;omega,H2.out.2⟩ (by have := H3.out;omega) (fun _ h => h.1) _ (by first|rfl|(simp;done))
        have csb4 : (x6 == 4) = false := beq_eq_false_iff_ne.mpr cs4
        have NC4 := ak cs4
        clear cs4
        exfalso
        have h0_ := HLx6.out
        have h1_ := HUx6.out
        have n0_ := NC0.out
        have n1_ := NC1.out
        have n2_ := NC2.out
        have n3_ := NC3.out
        have n4_ := NC4.out
        omega


open Go.Proofs.YthplaakckfhaaaaGreat.Gen
/-! ### drawReg_any: function 52 -/
theorem hold_52 {p : Prop} (h : Aside0 p) : p := h.out
theorem drawReg_any {w0 w : World} {g : Nat} {l : List Int}  (hl : l.length ≤ maxLen) (D0 : Dr w0 w g l w) :
    Calls Tryz.prog 52 #[.pointer (some ⟨g, 0, none⟩)] w fun e w' => ∃ x : Int, e = .returned (.int .i64 x) ∧ Dr w0 w g l w' := by
 have D := ak D0
 have HL := ak hl
 clear D0 hl
 go_enter Tryz.func52,Tryz.ntmps52
 go_wp2_with ((with_reducible refine gcal_ (f := 93) rfl ?_);refine gz_ (some 4) Tryz.func93 #[.pointer (some ⟨g,0,none⟩),.int .i64 10] ?_;refine (once_any 10 (by decide) HL.out D.out).mono ?_;rintro e w1 ⟨x1,rfl,K⟩;refine ⟨_,rfl,?_⟩;refine hold_52 ?_)
 refine ⟨?_⟩
 have D := ak (D.out.trans K)
 clear K
 cases x1 with
  | false =>
  go_wp2_with ((with_reducible refine gcal_ (f := 95) rfl ?_);refine gz_ (some 11) Tryz.func95 #[.pointer (some ⟨g,0,none⟩),.int .i64 5] ?_;refine (below_any 5 (by decide) HL.out D.out).mono ?_;rintro e w2 ⟨x7,rfl,hl_,hu_,K⟩;refine ⟨_,rfl,?_⟩;refine hold_52 ?_)
  refine ⟨?_⟩
  have D := ak (D.out.trans K)
  clear K
  have HLx7 := ak hl_
  have HUx7 := ak (hu_ (by decide))
  clear hl_ hu_
  go_wp2
  go_ret
  exact ⟨_,by first|rfl|(simp;done),D.out⟩
  | true =>
  obtain ⟨y,hy⟩ : ∃ y_ : List Int,y_ = ([(-1),6,4611686018427387904] : List Int) := ⟨_,rfl⟩
  have Ny := ak hy
  clear hy
  go_wp2_with ((with_reducible refine gate_dst (N := 5) rfl ?_);refine Kd.R_lit (Kd.int .i64) _ 2 ?hg (N := 5) ?hd (xs := ([(-1),6,4611686018427387904] : List Int)) (inner := [.int .i64 (-1),.int .i64 6,.int .i64 4611686018427387904]) (ok := fun _ => True) (okp := fun _ => True) ?hr ?hp (fun _ hk => hk) trivial (Below.refl _ _) (Nat.le_refl _) (by simp) ?_;(case hd => rfl);(case hg => rfl);(case hr => first|(go_simp;done)|(go_simp;rfl));(case hp => exact (Reps.one (show Kd.M (Kd.int .i64) _ _ _ (-1) [.int .i64 (-1)] from rfl) (Reps.one (show Kd.M (Kd.int .i64) _ _ _ 6 [.int .i64 6] from rfl) (Reps.one (show Kd.M (Kd.int .i64) _ _ _ 4611686018427387904 [.int .i64 4611686018427387904] from rfl) (Reps.none _ _)))));intro v_ w3 ho hb hg_ hnew_;clear hg_ hnew_;refine hold_52 ?_)
  refine ⟨?_⟩
  rw [← Ny.out] at ho
  have TL := ak (Kd.R_lower ho D.out.size)
  have D := ak (D.out.below hb)
  clear ho hb
  obtain ⟨Ay,cy,ey⟩ := Kd.R_slice TL.out
  subst ey
  go_wp2_with ((with_reducible refine gcal_ (f := 95) rfl ?_);refine gz_ (some 7) Tryz.func95 #[.pointer (some ⟨g,0,none⟩),.int .i64 3] ?_;refine (below_any 3 (by decide) HL.out D.out).mono ?_;rintro e w4 ⟨x7,rfl,hl_,hu_,K⟩;refine ⟨_,rfl,?_⟩;refine hold_52 ?_)
  refine ⟨?_⟩
  have TL := ak (R_dr TL.out D.out K)
  have D := ak (D.out.trans K)
  clear K
  have HLx7 := ak hl_
  have HUx7 := ak (hu_ (by decide))
  clear hl_ hu_
  have Qx7 : Aside0 (x7 < (y.length : Int)) := ⟨by rw [Ny.out];exact HUx7.out⟩
  obtain ⟨adx7,eax7,hxx7⟩ := Kd.at_int (Kd.R_reads' TL.out).2.2 x7 HLx7.out Qx7.out
  subst eax7
  have pxx7 : (0 ≤ x7) = True := eq_true HLx7.out
  have qxx7 : (x7 < (y.length : Int)) = True := eq_true Qx7.out
  go_wp2
  go_ret
  exact ⟨_,by first|rfl|(simp;done),D.out⟩


open Go.Proofs.YthplaakckfhaaaaGreat.Gen
/-! ### drawReplace_any: function 13 -/
theorem hold_13 {p : Prop} (h : Aside0 p) : p := h.out
theorem drawReplace_any {w : World} {A : Option Addr} {c : Nat} {l : List Int} (hrec : ∀ (f0 f1 f2 : Int) (ys : List S119), ys.length ≤ 7 → ∃ k b, spec_RecordOk.f k f0 f1 f2 ys = some b) (hl : l.length ≤ maxLen) (hr : Kd.C (Kd.int .u8) w A l.length l) (hc : l.length ≤ c) :
    Calls Tryz.prog 13 #[.slice A l.length c] w fun e w' => DR w e w' := by
 have hu := Tryz.underlying31
 have hu2 := Tryz.underlying50
 have HL := ak hl
 have HR := ak hrec
 have HC := ak hr
 have HCc := ak hc
 clear hl hrec hr hc
 go_enter Tryz.func13,Tryz.ntmps13
 go_wp2_with ((with_reducible refine gate_dst (N := 2) rfl ?_);refine bx_ 2 #[.bool false,.slice none 0 0,.slice none 0 0,.slice none 0 0] 31 ?_;intro gr hg w1 hbox hb;have hge := ak (Nat.le_of_eq hg.symm);clear hg;refine hold_13 ?_)
 refine ⟨?_⟩
 have BR := ak hbox
 have GR := hge
 have B0 := ak hb
 have HC := ak (Kd.C_below HC.out hb)
 clear hbox hb hge
 go_wp2_with ((with_reducible refine gcal_ (f := 50) rfl ?_);refine gz_ (some 9) Tryz.func50 #[.slice A l.length c] ?_;refine (new_calls HL.out HC.out HCc.out).mono ?_;rintro e w2 ⟨g,rfl,hgg,hD,hb⟩;refine ⟨_,rfl,?_⟩;refine hold_13 ?_)
 refine ⟨?_⟩
 have D := ak hD
 have NRG : Aside0 (gr ≠ g) := ⟨Nat.ne_of_lt (Nat.lt_of_lt_of_le (blk_lt BR.out) hgg)⟩
 have BL := ak (blk_lt BR.out)
 have BR := ak (blk_below BR.out hb)
 have HC := ak (Kd.C_below HC.out hb)
 have HB2 := ak hb
 clear hD hgg hb
 go_wp2_with ((with_reducible refine gcal_ (f := 51) rfl ?_);refine gz_ (some 11) Tryz.func51 #[.pointer (some ⟨g,0,none⟩)] ?_;refine (draw6_any HR.out HL.out D.out.self).mono ?_;rintro e w11 ⟨b,A1,c1,l1,A2,c2,l2,A3,c3,l3,rfl,hm,K⟩;refine ⟨_,rfl,?_⟩;refine hold_13 ?_)
 refine ⟨?_⟩
 have BR := ak (KeepBut.blk K.2.2.1 BR.out NRG.out (by simp))
 have D := ak (D.out.trans K)
 clear K
 have M := ak (Rp.bound (Rp.of hm))
 have MH : Aside0 (w11.heap.size ≤ w11.heap.size) := ⟨Nat.le_refl _⟩
 have MG : Aside0 (∀ k,((w2.heap.size ≤ k ∧ k ≠ g) ∧ k < w11.heap.size) → k ≠ g) := ⟨fun _ h => h.1.2⟩
 have MNBR : Aside0 (∀ k,((w2.heap.size ≤ k ∧ k ≠ g) ∧ k < w11.heap.size) → ¬ k = gr) := ⟨fun k h e => absurd h.1.1 (Nat.not_le.2 (e ▸ Nat.lt_of_lt_of_le BL.out HB2.out.size))⟩
 clear hm HC HCc
 go_wp2_with ((with_reducible refine gate_dst (N := 6) rfl ?_);refine bx_ 6 #[.bool false,.slice none 0 0,.slice none 0 0,.slice none 0 0] 31 ?_;intro gm hg w12 hbox hb;have hge := ak (Nat.le_of_eq hg.symm);clear hg;refine hold_13 ?_)
 refine ⟨?_⟩
 have NRBM : Aside0 (gr ≠ gm) := ⟨Nat.ne_of_lt (Nat.lt_of_lt_of_le (blk_lt BR.out) hge.out)⟩
 have MNBM : Aside0 (∀ k,((w2.heap.size ≤ k ∧ k ≠ g) ∧ k < w11.heap.size) → ¬ k = gm) := ⟨fun k h e => absurd h.2 (Nat.not_lt.2 (e ▸ Nat.le_trans MH.out hge.out))⟩
 have BM := ak (show Bk _ w12 gm _ from ⟨Nat.le_trans D.out.size hge.out,hbox⟩)
 have BR := ak (blk_below BR.out hb)
 have M := ak (M.out.below hb)
 have MH := ak (Nat.le_trans MH.out hb.size)
 have D := ak (D.out.below hb)
 clear hbox hb hge
 obtain ⟨⟨hc13_0,hc13_1,hc13_2,hc13_3⟩,hf13_0,hf13_1,hf13_2,hf13_3⟩ := cl4_ BM.out.2
 go_upto_region 3 with (fail)
 have KS := ak (kept4_ (W := w12) (b := gm) (.bool b) (.slice A1 l1.length c1) (.slice A2 l2.length c2) (.slice A3 l3.length c3))
 have D := ak (D.out.far4 BM.out.1 (.bool b) (.slice A1 l1.length c1) (.slice A2 l2.length c2) (.slice A3 l3.length c3))
 have BR := ak (blk_kept BR.out KS.out NRBM.out)
 have M := ak (M.out.kept KS.out MNBM.out)
 have MH := ak (Nat.le_trans MH.out KS.out.1)
 have BM := ak (BM.out.put4 (.bool b) (.slice A1 l1.length c1) (.slice A2 l2.length c2) (.slice A3 l3.length c3))
 clear KS
 generalize ((((w12.setCell ⟨gm,0,none⟩ (.bool b)).setCell ⟨gm,1,none⟩ (.slice A1 l1.length c1)).setCell ⟨gm,2,none⟩ (.slice A2 l2.length c2)).setCell ⟨gm,3,none⟩ (.slice A3 l3.length c3)) = w14 at D BR M MH BM ⊢
 go_wp2_with ((with_reducible refine gcal_ (f := 52) rfl ?_);refine gz_ (some 13) Tryz.func52 #[.pointer (some ⟨g,0,none⟩)] ?_;refine (drawReg_any HL.out D.out.self).mono ?_;rintro e w15 ⟨y2,rfl,K⟩;refine ⟨_,rfl,?_⟩;refine hold_13 ?_)
 refine ⟨?_⟩
 have BR := ak (KeepBut.blk K.2.2.1 BR.out NRG.out (by simp))
 have M := ak (M.out.dr K MG.out)
 have MH := ak (Nat.le_trans MH.out K.2.2.1.1)
 have BM := ak (BM.out.dr D.out K)
 have D := ak (D.out.trans K)
 clear K
 go_upto_region 4 with (fail)
 have hb : Below w15.heap.size w15 w15.drew := below_drew1 (Below.refl _ _)
 have BR := ak (blk_below BR.out hb)
 have M := ak (M.out.below hb)
 have MH := ak (Nat.le_trans MH.out hb.size)
 have BM := ak (BM.out.below hb)
 have D := ak (D.out.below hb)
 clear hb
 refine start_ (n := 7) (S := fun w' => w'.cell? ⟨gm,0,none⟩ = some (.bool b) ∧ w'.cell? ⟨gm,1,none⟩ = some (.slice A1 l1.length c1) ∧ w'.cell? ⟨gm,2,none⟩ = some (.slice A2 l2.length c2) ∧ w'.cell? ⟨gm,3,none⟩ = some (.slice A3 l3.length c3)) (ds := []) #[false,false,false,false,false,false,false] (by kernel_rfl) rfl rfl ⟨(blk_cell BM.out.2 0).trans rfl,(blk_cell BM.out.2 1).trans rfl,(blk_cell BM.out.2 2).trans rfl,(blk_cell BM.out.2 3).trans rfl⟩ (fun hHeld => ?_)
 generalize w15.drew = w16 at D BR M MH BM hHeld ⊢
 refine take_ (i := 0) (N := some 14) (v := ?_) (a' := ?_) #[true,false,false,false,false,false,false] rfl rfl (by kernel_rfl) (fun _ _ _ h => h) (Or.inl ⟨by rfl,?_⟩) hHeld ?_ ?_
 rotate_left
 ·rintro w' ⟨s0,s1,s2,s3⟩
  go_simp
  with_reducible rfl
 rotate_left
 ·simp only [Act.put,q1,q2,q3,i64_w,i32_w]
  rfl
 refine pure_ (i := 1) (N := some 15) (v := ?_) (a' := ?_) #[true,true,false,false,false,false,false] rfl rfl (by kernel_rfl) (fun _ _ _ h => h) (Or.inl ⟨by rfl,?_⟩) ?_ ?_
 rotate_left
 ·intro w'
  go_simp
  with_reducible rfl
 rotate_left
 ·simp only [Act.put,q1,q2,q3,i64_w,i32_w]
  rfl
 refine pure_ (i := 2) (N := some 16) (v := ?_) (a' := ?_) #[true,true,true,false,false,false,false] rfl rfl (by kernel_rfl) (fun _ _ _ h => h) (Or.inl ⟨by rfl,?_⟩) ?_ ?_
 rotate_left
 ·intro w'
  go_simp
  with_reducible rfl
 rotate_left
 ·simp only [Act.put,q1,q2,q3,i64_w,i32_w]
  rfl
 refine one_ (i := 3) (N := some 17) #[true,true,true,true,false,false,false] rfl rfl (by kernel_rfl) (by decide) (fun K hK => ?_)
 refine goes_ Tryz.func53 (by kernel_rfl) rfl #[.pointer (some ⟨g,0,none⟩)] (by rfl) rfl rfl (by (try simp only [List.map_toArray,List.map_cons,List.map_nil]);first|done|rfl) ?_
 refine (drawAny_any HL.out D.out.self).mono ?_
 rintro e w17 ⟨vn,cs,rfl,TQ,hcs,K⟩
 refine ⟨_,rfl,?_⟩
 have TQ := ak TQ
 have HX := ak hcs
 clear hcs
 have BR := ak (KeepBut.blk K.2.2.1 BR.out NRG.out (by simp))
 have M := ak (M.out.dr K MG.out)
 have MH := ak (Nat.le_trans MH.out K.2.2.1.1)
 have BM := ak (BM.out.dr D.out K)
 have D := ak (D.out.trans K)
 clear K
 obtain ⟨An,cn,en,hcn⟩ := Kd.Q_slice TQ.out
 subst en
 have HN := ak hcn
 have TF := ak (Q_F (Kd.Q_types TQ.out BR.out (by decide)))
 clear hcn TQ
 refine hK.out _ _ ⟨(blk_cell BM.out.2 0).trans rfl,(blk_cell BM.out.2 1).trans rfl,(blk_cell BM.out.2 2).trans rfl,(blk_cell BM.out.2 3).trans rfl⟩ (fun hHeld => ?_)
 clear hK K
 refine nr_ (some 17) _ ?_
 refine one_ (i := 4) (N := none) #[true,true,true,true,true,false,false] rfl rfl (by kernel_rfl) (by decide) (fun K hK => ?_)
 obtain ⟨⟨hc18_0,hc18_1,hc18_2,hc18_3⟩,hf18_0,hf18_1,hf18_2,hf18_3⟩ := cl4_ BR.out
 refine skip_ (w1 := ((((w17.setCell ⟨gr,0,none⟩ (.bool b)).setCell ⟨gr,1,none⟩ (.slice A1 l1.length c1)).setCell ⟨gr,2,none⟩ (.slice A2 l2.length c2)).setCell ⟨gr,3,none⟩ (.slice A3 l3.length c3))) (by rfl) rfl ?_ ?_
 ·first|(go_simp;done)|(go_simp;rfl)|(go_simp;simp)
 have KS := kept4_ (W := w17) (b := gr) (.bool b) (.slice A1 l1.length c1) (.slice A2 l2.length c2) (.slice A3 l3.length c3)
 have BMk := BM.out.kept KS NRBM.out.symm
 refine hK.out _ _ ⟨(blk_cell BMk.2 0).trans rfl,(blk_cell BMk.2 1).trans rfl,(blk_cell BMk.2 2).trans rfl,(blk_cell BMk.2 3).trans rfl⟩ (fun hHeld => ?_)
 clear hK K KS BMk
 refine pure_ (i := 5) (N := some 3) (v := ?_) (a' := ?_) #[true,true,true,true,true,true,false] rfl rfl (by kernel_rfl) (fun _ _ _ h => h) (Or.inl ⟨by rfl,?_⟩) ?_ ?_
 rotate_left
 ·intro w'
  go_simp
  with_reducible rfl
 rotate_left
 ·simp only [Act.put,q1,q2,q3,i64_w,i32_w]
  rfl
 refine pure_ (i := 6) (N := some 4) (v := ?_) (a' := ?_) #[true,true,true,true,true,true,true] rfl rfl (by kernel_rfl) (fun _ _ _ h => h) (Or.inl ⟨by rfl,?_⟩) ?_ ?_
 rotate_left
 ·intro w'
  go_simp
  with_reducible rfl
 rotate_left
 ·simp only [Act.put,q1,q2,q3,i64_w,i32_w]
  rfl
 refine done_ (by kernel_rfl) ?_
 clear hHeld
 clear hc18_0 hf18_0 hc18_1 hf18_1 hc18_2 hf18_2 hc18_3 hf18_3
 go_wp2
 refine bodyPost_ret (results_ct3 rfl _ _ gr 31 #[.bool b,.slice A1 l1.length c1,.slice A2 l2.length c2,.slice A3 l3.length c3] (0,0) _ rfl (put4_ BR.out _ _ _ _) Tryz.underlying31 rfl (by kernel_rfl)) rfl ?_
 exact ⟨b,A1,c1,l1,A2,c2,l2,A3,c3,l3,_,An,cn,cs,by first|rfl|(simp;done),(Rp.kept M.out (kept4_ _ _ _ _) MNBR.out).mono (fun _ _ => trivial),⟨Kd.F_now (Kd.F_kept TF.out (kept4_ _ _ _ _) (fun k h e => h.2 e)),HN.out,HX.out⟩,below_set (below_set (below_set (below_set (below_step B0.out D.out.2.1) GR.out) GR.out) GR.out) GR.out⟩


end Go.Proofs.YthplaakckfhaaaaGreat.XMs
