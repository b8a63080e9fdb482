/- Proved: of each Go function here that a call comes to what the Lean function of its name tells. Written by a program of this session over the translation. No conditions beyond each theorem's own. -/
import Derived.Test.YthplaakckfhaaaaXCd0
import Derived.Test.YthplaakckfhaaaaXCd11
import Derived.Test.YthplaakckfhaaaaXCd18
import Derived.Test.YthplaakckfhaaaaXCd20
namespace Go.Proofs.Ythplaakckfhaaaa.XCd
open Go.RowKit Go.Proofs.Ythplaakckfhaaaa.Aid Go.Proofs.YthplaakckfhaaaaW.PrintWords Go.Proofs.YthplaakckfhaaaaW.PrintLast Go.Proofs.YthplaakckfhaaaaW.PrintMore
set_option linter.unusedVariables false
set_option linter.unusedSimpArgs false

open Go.Proofs.Ythplaakckfhaaaa.Gen
/-! ### drawReg_any: function 131 -/
theorem hold_131 {p : Prop} (h : Aside0 p) : p := h.out
set_option maxHeartbeats 8000000 in
set_option maxRecDepth 100000 in
theorem drawReg_any {w0 w : World} {g : Nat} {l : List Int}  (hl : l.length ≤ maxLen) (D0 : Dr w0 w g l w) :
    Calls Try.prog 131 #[.pointer (some ⟨g, 0, none⟩)] w fun e w' => ∃ x : Int, e = .returned (.int .i64 x) ∧ Dr w0 w g l w' := by
 have D := ak D0
 have HL := ak hl
 clear D0 hl
 go_enter Try.func131,Try.ntmps131
 go_wp2_with ((with_reducible refine gcal_ (f := 90) rfl ?_);refine goesL_ (some 4) rfl rfl Try.func90 (by kernel_rfl) rfl #[.pointer (some ⟨g,0,none⟩),.int .i64 10] rfl (by (try simp only [List.map_toArray,List.map_cons,List.map_nil]);first|done|rfl) ?_;refine (once_any 10 (by decide) HL.out D.out).mono ?_;rintro e w1 ⟨x1,rfl,K⟩;refine ⟨_,rfl,?_⟩;refine hold_131 ?_)
 refine ⟨?_⟩
 have D := ak (D.out.trans K)
 clear K
 cases x1 with
  | false =>
  go_wp2_with ((with_reducible refine gcal_ (f := 91) rfl ?_);refine goesL_ (some 11) rfl rfl Try.func91 (by kernel_rfl) rfl #[.pointer (some ⟨g,0,none⟩),.int .i64 5] rfl (by (try simp only [List.map_toArray,List.map_cons,List.map_nil]);first|done|rfl) ?_;refine (below_any 5 (by decide) HL.out D.out).mono ?_;rintro e w2 ⟨x7,rfl,hl_,hu_,K⟩;refine ⟨_,rfl,?_⟩;refine hold_131 ?_)
  refine ⟨?_⟩
  have D := ak (D.out.trans K)
  clear K
  have HLx7 := ak hl_
  have HUx7 := ak (hu_ (by decide))
  clear hl_ hu_
  go_wp2
  go_ret
  exact ⟨_,by first|rfl|(simp;done),D.out⟩
  | true =>
  obtain ⟨y,hy⟩ : ∃ y_ : List Int,y_ = ([(-1),6,4611686018427387904] : List Int) := ⟨_,rfl⟩
  have Ny := ak hy
  clear hy
  go_wp2_with ((with_reducible refine gate_dst (N := 5) rfl ?_);refine Kd.R_lit (Kd.int .i64) _ 2 ?hg (N := 5) ?hd (xs := ([(-1),6,4611686018427387904] : List Int)) (inner := [.int .i64 (-1),.int .i64 6,.int .i64 4611686018427387904]) (ok := fun _ => True) (okp := fun _ => True) ?hr ?hp (fun _ hk => hk) trivial (Below.refl _ _) (Nat.le_refl _) (by simp) ?_;(case hd => rfl);(case hg => rfl);(case hr => first|(go_simp;done)|(go_simp;rfl));(case hp => exact (Reps.one (show Kd.M (Kd.int .i64) _ _ _ (-1) [.int .i64 (-1)] from rfl) (Reps.one (show Kd.M (Kd.int .i64) _ _ _ 6 [.int .i64 6] from rfl) (Reps.one (show Kd.M (Kd.int .i64) _ _ _ 4611686018427387904 [.int .i64 4611686018427387904] from rfl) (Reps.none _ _)))));intro v_ w3 ho hb hg_ hnew_;clear hg_ hnew_;refine hold_131 ?_)
  refine ⟨?_⟩
  rw [← Ny.out] at ho
  have TL := ak (Kd.R_lower ho D.out.size)
  have D := ak (D.out.below hb)
  clear ho hb
  obtain ⟨Ay,cy,ey⟩ := Kd.R_slice TL.out
  subst ey
  go_wp2_with ((with_reducible refine gcal_ (f := 91) rfl ?_);refine goesL_ (some 7) rfl rfl Try.func91 (by kernel_rfl) rfl #[.pointer (some ⟨g,0,none⟩),.int .i64 3] rfl (by (try simp only [List.map_toArray,List.map_cons,List.map_nil]);first|done|rfl) ?_;refine (below_any 3 (by decide) HL.out D.out).mono ?_;rintro e w4 ⟨x7,rfl,hl_,hu_,K⟩;refine ⟨_,rfl,?_⟩;refine hold_131 ?_)
  refine ⟨?_⟩
  have TL := ak (R_dr TL.out D.out K)
  have D := ak (D.out.trans K)
  clear K
  have HLx7 := ak hl_
  have HUx7 := ak (hu_ (by decide))
  clear hl_ hu_
  have Qx7 : Aside0 (x7 < (y.length : Int)) := ⟨by rw [Ny.out];exact HUx7.out⟩
  obtain ⟨adx7,eax7,hxx7⟩ := Kd.at_int (Kd.R_reads' TL.out).2.2 x7 HLx7.out Qx7.out
  subst eax7
  have pxx7 : (0 ≤ x7) = True := eq_true HLx7.out
  have qxx7 : (x7 < (y.length : Int)) = True := eq_true Qx7.out
  go_wp2
  go_ret
  exact ⟨_,by first|rfl|(simp;done),D.out⟩


open Go.Proofs.Ythplaakckfhaaaa.Gen
/-! ### drawLogged_any: function 89 -/
theorem hold_89 {p : Prop} (h : Aside0 p) : p := h.out
set_option maxHeartbeats 8000000 in
set_option maxRecDepth 100000 in
theorem drawLogged_any {w : World} {A : Option Addr} {c : Nat} {l : List Int} (hrec : ∀ (f0 f1 f2 : Int) (ys : List S127), ys.length ≤ 7 → ∃ k b, spec_RecordOk.f k f0 f1 f2 ys = some b) (hl : l.length ≤ maxLen) (hr : Kd.C (Kd.int .u8) w A l.length l) (hc : l.length ≤ c) :
    Calls Try.prog 89 #[.slice A l.length c] w fun e w' => DL w e w' := by
 have hu := Try.underlying32
 have hu2 := Try.underlying45
 have HL := ak hl
 have HR := ak hrec
 have HC := ak hr
 have HCc := ak hc
 clear hl hrec hr hc
 go_enter Try.func89,Try.ntmps89
 go_wp2_with ((with_reducible refine gate_dst (N := 2) rfl ?_);refine bx_ 2 #[.bool false,.slice none 0 0,.slice none 0 0,.slice none 0 0] 32 ?_;intro gr hg w1 hbox hb;have hge := ak (Nat.le_of_eq hg.symm);clear hg;refine hold_89 ?_)
 refine ⟨?_⟩
 have BR := ak hbox
 have GR := hge
 have B0 := ak hb
 have HC := ak (Kd.C_below HC.out hb)
 clear hbox hb hge
 go_wp2_with ((with_reducible refine gcal_ (f := 88) rfl ?_);refine goesL_ (some 12) rfl rfl Try.func88 (by kernel_rfl) rfl #[.slice A l.length c] rfl (by (try simp only [List.map_toArray,List.map_cons,List.map_nil]);first|done|rfl) ?_;refine (new_calls HL.out HC.out HCc.out).mono ?_;rintro e w2 ⟨g,rfl,hgg,hD,hb⟩;refine ⟨_,rfl,?_⟩;refine hold_89 ?_)
 refine ⟨?_⟩
 have D := ak hD
 have NRG : Aside0 (gr ≠ g) := ⟨Nat.ne_of_lt (Nat.lt_of_lt_of_le (blk_lt BR.out) hgg)⟩
 have BL := ak (blk_lt BR.out)
 have BR := ak (blk_below BR.out hb)
 have HC := ak (Kd.C_below HC.out hb)
 have HB2 := ak hb
 clear hD hgg hb
 go_wp2_with ((with_reducible refine gcal_ (f := 130) rfl ?_);refine goesL_ (some 14) rfl rfl Try.func130 (by kernel_rfl) rfl #[.pointer (some ⟨g,0,none⟩)] rfl (by (try simp only [List.map_toArray,List.map_cons,List.map_nil]);first|done|rfl) ?_;refine (draw6_any HR.out HL.out D.out.self).mono ?_;rintro e w11 ⟨b,A1,c1,l1,A2,c2,l2,A3,c3,l3,rfl,hm,K⟩;refine ⟨_,rfl,?_⟩;refine hold_89 ?_)
 refine ⟨?_⟩
 have BR := ak (KeepBut.blk K.2.2.1 BR.out NRG.out (by simp))
 have D := ak (D.out.trans K)
 clear K
 have M := ak (Rp.bound (Rp.of hm))
 have MH : Aside0 (w11.heap.size ≤ w11.heap.size) := ⟨Nat.le_refl _⟩
 have MG : Aside0 (∀ k,((w2.heap.size ≤ k ∧ k ≠ g) ∧ k < w11.heap.size) → k ≠ g) := ⟨fun _ h => h.1.2⟩
 have MNBR : Aside0 (∀ k,((w2.heap.size ≤ k ∧ k ≠ g) ∧ k < w11.heap.size) → ¬ k = gr) := ⟨fun k h e => absurd h.1.1 (Nat.not_le.2 (e ▸ Nat.lt_of_lt_of_le BL.out HB2.out.size))⟩
 have MW : Aside0 (w.heap.size ≤ w2.heap.size) := ⟨Nat.le_trans B0.out.size HB2.out.size⟩
 clear hm HC HCc HR
 go_wp2_with ((with_reducible refine gate_dst (N := 7) rfl ?_);refine bx_ 7 #[.bool false,.slice none 0 0,.slice none 0 0,.slice none 0 0] 32 ?_;intro gm hg w12 hbox hb;have hge := ak (Nat.le_of_eq hg.symm);clear hg;refine hold_89 ?_)
 refine ⟨?_⟩
 have NRBM : Aside0 (gr ≠ gm) := ⟨Nat.ne_of_lt (Nat.lt_of_lt_of_le (blk_lt BR.out) hge.out)⟩
 have MNBM : Aside0 (∀ k,((w2.heap.size ≤ k ∧ k ≠ g) ∧ k < w11.heap.size) → ¬ k = gm) := ⟨fun k h e => absurd h.2 (Nat.not_lt.2 (e ▸ Nat.le_trans MH.out hge.out))⟩
 have BM := ak (show Bk _ w12 gm _ from ⟨Nat.le_trans D.out.size hge.out,hbox⟩)
 have BR := ak (blk_below BR.out hb)
 have M := ak (M.out.below hb)
 have MH := ak (Nat.le_trans MH.out hb.size)
 have D := ak (D.out.below hb)
 clear hbox hb hge
 obtain ⟨⟨hc13_0,hc13_1,hc13_2,hc13_3⟩,hf13_0,hf13_1,hf13_2,hf13_3⟩ := cl4_ BM.out.2
 go_upto_region 3 with (fail)
 have KS := ak (kept4_ (W := w12) (b := gm) (.bool b) (.slice A1 l1.length c1) (.slice A2 l2.length c2) (.slice A3 l3.length c3))
 have D := ak (D.out.far4 BM.out.1 (.bool b) (.slice A1 l1.length c1) (.slice A2 l2.length c2) (.slice A3 l3.length c3))
 have BR := ak (blk_kept BR.out KS.out NRBM.out)
 have M := ak (M.out.kept KS.out MNBM.out)
 have MH := ak (Nat.le_trans MH.out KS.out.1)
 have BM := ak (BM.out.put4 (.bool b) (.slice A1 l1.length c1) (.slice A2 l2.length c2) (.slice A3 l3.length c3))
 clear KS
 generalize ((((w12.setCell ⟨gm,0,none⟩ (.bool b)).setCell ⟨gm,1,none⟩ (.slice A1 l1.length c1)).setCell ⟨gm,2,none⟩ (.slice A2 l2.length c2)).setCell ⟨gm,3,none⟩ (.slice A3 l3.length c3)) = w14 at D BR M MH BM ⊢
 obtain ⟨⟨hc15_0,hc15_1,hc15_2,hc15_3⟩,hf15_0,hf15_1,hf15_2,hf15_3⟩ := cl4_ BM.out.2
 by_cases hp : 0 < l2.length
 case' neg =>
  have hjb : decide ((l2.length : Int) > 0) = false := decide_eq_false (by omega)
  have hjb2 : decide (0 < l2.length) = false := decide_eq_false hp
  go_upto_region 6 with (fail)
  clear hjb hjb2 hp
  obtain ⟨wj,hw_⟩ : ∃ z_,z_ = w14 := ⟨_,rfl⟩
  subst hw_
 case' pos =>
  have hjb : decide ((l2.length : Int) > 0) = true := decide_eq_true (by omega)
  go_wp2_with (go_at_call 90;refine (once_any 4 (by decide) HL.out D.out).mono ?_;rintro e w16 ⟨x1,rfl,K⟩;(try dsimp only);refine hold_89 ?_)
  refine ⟨?_⟩
  have BR := ak (KeepBut.blk K.2.2.1 BR.out NRG.out (by simp))
  have M := ak (M.out.dr K MG.out)
  have MH := ak (Nat.le_trans MH.out K.2.2.1.1)
  have BM := ak (BM.out.dr D.out K)
  have D := ak (D.out.trans K)
  clear K
  cases x1
  case' true =>
   go_upto_region 6 with (fail)
   clear hjb hp
   obtain ⟨wj,hw_⟩ : ∃ z_,z_ = w16 := ⟨_,rfl⟩
   subst hw_
  case' false =>
   have HP := ak hp
   clear hp hjb
   go_upto_region 4 with (fail)
   have hb : Below w16.heap.size w16 w16.drew := below_drew1 (Below.refl _ _)
   have BR := ak (blk_below BR.out hb)
   have M := ak (M.out.below hb)
   have MH := ak (Nat.le_trans MH.out hb.size)
   have BM := ak (BM.out.below hb)
   have D := ak (D.out.below hb)
   clear hb
   refine start_ (n := 11) (S := fun w' => w'.cell? ⟨gm,0,none⟩ = some (.bool b) ∧ w'.cell? ⟨gm,1,none⟩ = some (.slice A1 l1.length c1) ∧ w'.cell? ⟨gm,2,none⟩ = some (.slice A2 l2.length c2) ∧ w'.cell? ⟨gm,3,none⟩ = some (.slice A3 l3.length c3)) (ds := [10]) #[false,false,false,false,false,false,false,false,false,false,false] (by kernel_rfl) rfl rfl ⟨(blk_cell BM.out.2 0).trans rfl,(blk_cell BM.out.2 1).trans rfl,(blk_cell BM.out.2 2).trans rfl,(blk_cell BM.out.2 3).trans rfl⟩ (fun hHeld => ?_)
   generalize w16.drew = w17 at D BR M MH BM hHeld ⊢
   refine pure_ (i := 0) (N := some 24) (v := ?_) (a' := ?_) #[true,false,false,false,false,false,false,false,false,false,false] rfl rfl (by kernel_rfl) (fun _ _ _ h => h) (Or.inl ⟨by rfl,?_⟩) ?_ ?_
   rotate_left
   ·intro w'
    go_simp
    with_reducible rfl
   rotate_left
   ·simp only [Act.put,q1,q2,q3,i64_w,i32_w]
    rfl
   refine take_ (i := 1) (N := some 25) (v := ?_) (a' := ?_) #[true,true,false,false,false,false,false,false,false,false,false] rfl rfl (by kernel_rfl) (fun _ _ _ h => h) (Or.inl ⟨by rfl,?_⟩) hHeld ?_ ?_
   rotate_left
   ·rintro w' ⟨s0,s1,s2,s3⟩
    go_simp
    with_reducible rfl
   rotate_left
   ·simp only [Act.put,q1,q2,q3,i64_w,i32_w]
    rfl
   refine pure_ (i := 2) (N := some 26) (v := ?_) (a' := ?_) #[true,true,true,false,false,false,false,false,false,false,false] rfl rfl (by kernel_rfl) (fun _ _ _ h => h) (Or.inl ⟨by rfl,?_⟩) ?_ ?_
   rotate_left
   ·intro w'
    go_simp
    with_reducible rfl
   rotate_left
   ·simp only [Act.put,q1,q2,q3,i64_w,i32_w]
    rfl
   refine pure_ (i := 3) (N := some 27) (v := ?_) (a' := ?_) #[true,true,true,true,false,false,false,false,false,false,false] rfl rfl (by kernel_rfl) (fun _ _ _ h => h) (Or.inl ⟨by rfl,?_⟩) ?_ ?_
   rotate_left
   ·intro w'
    go_simp
    with_reducible rfl
   rotate_left
   ·simp only [Act.put,q1,q2,q3,i64_w,i32_w]
    rfl
   refine take_ (i := 4) (N := some 28) (v := ?_) (a' := ?_) #[true,true,true,true,true,false,false,false,false,false,false] rfl rfl (by kernel_rfl) (fun _ _ _ h => h) (Or.inl ⟨by rfl,?_⟩) hHeld ?_ ?_
   rotate_left
   ·rintro w' ⟨s0,s1,s2,s3⟩
    go_simp
    with_reducible rfl
   rotate_left
   ·simp only [Act.put,q1,q2,q3,i64_w,i32_w]
    rfl
   refine pure_ (i := 5) (N := some 29) (v := ?_) (a' := ?_) #[true,true,true,true,true,true,false,false,false,false,false] rfl rfl (by kernel_rfl) (fun _ _ _ h => h) (Or.inl ⟨by rfl,?_⟩) ?_ ?_
   rotate_left
   ·intro w'
    go_simp
    with_reducible rfl
   rotate_left
   ·simp only [Act.put,q1,q2,q3,i64_w,i32_w]
    rfl
   refine two_ (i := 6) (j := 9) (Ni := some 30) (Nj := some 8) #[true,true,true,true,true,true,true,false,false,false,false] #[true,true,true,true,true,true,false,false,false,true,false] rfl rfl rfl rfl (by kernel_rfl) (by decide) (by decide) (fun K hK => ?ga) (fun K hK => ?gb)
   case' ga =>
    refine goes_ Try.func91 (by kernel_rfl) rfl #[.pointer (some ⟨g,0,none⟩),.int .i64 (l2.length : Int)] (by rfl) rfl rfl (by (try simp only [List.map_toArray,List.map_cons,List.map_nil]);first|done|rfl) ?_
    refine (below_any (l2.length : Int) (by have := M.out.2.2.2.2.1.1;omega) HL.out D.out).mono ?_
    rintro e w18 ⟨x7,rfl,hl_,hu_,K⟩
    refine ⟨_,rfl,?_⟩
    have BR := ak (KeepBut.blk K.2.2.1 BR.out NRG.out (by simp))
    have M := ak (M.out.dr K MG.out)
    have MH := ak (Nat.le_trans MH.out K.2.2.1.1)
    have BM := ak (BM.out.dr D.out K)
    have D := ak (D.out.trans K)
    clear K
    have HLx7 := ak hl_
    have HUx7 := ak (hu_ (by have := HP.out;omega))
    clear hl_ hu_
    refine hK.out _ _ ⟨(blk_cell BM.out.2 0).trans rfl,(blk_cell BM.out.2 1).trans rfl,(blk_cell BM.out.2 2).trans rfl,(blk_cell BM.out.2 3).trans rfl⟩ (fun hHeld => ?_)
    clear hK K
    refine nr_ (some 30) _ ?_
    obtain ⟨adl,Al,cl_,eal,hz0,hz1,hz2,hz3,hle_,_⟩ := at_T45 (Kd.F_now M.out.2.1.1) x7 HLx7.out HUx7.out
    cases eal
    have pxx7 : (0 ≤ x7) = True := eq_true HLx7.out
    have qxx7 : (x7 < (l2.length : Int)) = True := eq_true HUx7.out
    refine pure_ (i := 7) (N := some 31) (v := ?_) (a' := ?_) #[true,true,true,true,true,true,true,true,false,false,false] rfl rfl (by kernel_rfl) (fun _ _ _ h => h) (Or.inl ⟨by rfl,?_⟩) ?_ ?_
    rotate_left
    ·intro w'
     go_simp
     with_reducible rfl
    rotate_left
    ·simp only [Act.put,q1,q2,q3,i64_w,i32_w]
     rfl
    refine two_ (i := 8) (j := 9) (Ni := some 32) (Nj := some 8) #[true,true,true,true,true,true,true,true,true,false,false] #[true,true,true,true,true,true,true,true,false,true,false] rfl rfl rfl rfl (by kernel_rfl) (by decide) (by decide) (fun K hK => ?gc) (fun K hK => ?gd)
   case' gc =>
    refine value_ (w1 := ?_) (v := ?_) (by rfl) rfl ?_ ?_
    rotate_left 2
    ·go_simp
     constructor
     ·rfl
     ·rfl
    refine hK.out _ _ hHeld (fun hHeld => ?_)
    clear hK K
    refine nr_ (some 32) _ ?_
    refine one_ (i := 9) (N := some 8) #[true,true,true,true,true,true,true,true,true,true,false] rfl rfl (by kernel_rfl) (by decide) (fun K hK => ?_)
    refine box_step ?hg (N := 8) ?hd (cs := #[.int .i64 0,.int .i64 0,.int .i64 0,.slice none 0 0]) (t := 45) ?hr ?_;(case hd => rfl);(case hg => rfl);(case hr => first|(go_simp;done)|(go_simp;rfl))
    intro gs hg w19 hbox hb
    have hge := ak (Nat.le_of_eq hg.symm)
    clear hg
    have NEBMBS := ak (Nat.ne_of_lt (Nat.lt_of_lt_of_le (blk_lt BM.out.2) hge.out))
    have NRBS : Aside0 (gr ≠ gs) := ⟨Nat.ne_of_lt (Nat.lt_of_lt_of_le (blk_lt BR.out) hge.out)⟩
    have MNBS : Aside0 (∀ k,((w2.heap.size ≤ k ∧ k ≠ g) ∧ k < w11.heap.size) → ¬ k = gs) := ⟨fun k h e => absurd h.2 (Nat.not_lt.2 (e ▸ Nat.le_trans MH.out hge.out))⟩
    have BS := ak (show Bk _ w19 gs _ from ⟨Nat.le_trans D.out.size hge.out,hbox⟩)
    have BR := ak (blk_below BR.out hb)
    have M := ak (M.out.below hb)
    have MH := ak (Nat.le_trans MH.out hb.size)
    have BM := ak (BM.out.below hb)
    have D := ak (D.out.below hb)
    clear hbox hb hge
    refine hK.out _ _ ⟨(blk_cell BM.out.2 0).trans rfl,(blk_cell BM.out.2 1).trans rfl,(blk_cell BM.out.2 2).trans rfl,(blk_cell BM.out.2 3).trans rfl⟩ (fun hHeld => ?_)
    clear hK K
    refine nr_ (some 8) _ ?_
    obtain ⟨wj,hw_⟩ : ∃ z_,z_ = w19 := ⟨_,rfl⟩
    subst hw_
   case' gd =>
    refine box_step ?hg (N := 8) ?hd (cs := #[.int .i64 0,.int .i64 0,.int .i64 0,.slice none 0 0]) (t := 45) ?hr ?_;(case hd => rfl);(case hg => rfl);(case hr => first|(go_simp;done)|(go_simp;rfl))
    intro gs hg w20 hbox hb
    have hge := ak (Nat.le_of_eq hg.symm)
    clear hg
    have NEBMBS := ak (Nat.ne_of_lt (Nat.lt_of_lt_of_le (blk_lt BM.out.2) hge.out))
    have NRBS : Aside0 (gr ≠ gs) := ⟨Nat.ne_of_lt (Nat.lt_of_lt_of_le (blk_lt BR.out) hge.out)⟩
    have MNBS : Aside0 (∀ k,((w2.heap.size ≤ k ∧ k ≠ g) ∧ k < w11.heap.size) → ¬ k = gs) := ⟨fun k h e => absurd h.2 (Nat.not_lt.2 (e ▸ Nat.le_trans MH.out hge.out))⟩
    have BS := ak (show Bk _ w20 gs _ from ⟨Nat.le_trans D.out.size hge.out,hbox⟩)
    have BR := ak (blk_below BR.out hb)
    have M := ak (M.out.below hb)
    have MH := ak (Nat.le_trans MH.out hb.size)
    have BM := ak (BM.out.below hb)
    have D := ak (D.out.below hb)
    clear hbox hb hge
    refine hK.out _ _ ⟨(blk_cell BM.out.2 0).trans rfl,(blk_cell BM.out.2 1).trans rfl,(blk_cell BM.out.2 2).trans rfl,(blk_cell BM.out.2 3).trans rfl⟩ (fun hHeld => ?_)
    clear hK K
    refine nr_ (some 8) _ ?_
    obtain ⟨adq,Al,cl_,eal,hz0,hz1,hz2,hz3,hle_,_⟩ := at_T45 (Kd.F_now M.out.2.1.1) x7 HLx7.out HUx7.out
    cases eal
    have pxx7 : (0 ≤ x7) = True := eq_true HLx7.out
    have qxx7 : (x7 < (l2.length : Int)) = True := eq_true HUx7.out
    refine one_ (i := 8) (N := some 32) #[true,true,true,true,true,true,true,true,true,true,false] rfl rfl (by kernel_rfl) (by decide) (fun K hK => ?_)
    refine value_ (w1 := ?_) (v := ?_) (by rfl) rfl ?_ ?_
    rotate_left 2
    ·go_simp
     constructor
     ·rfl
     ·rfl
    refine hK.out _ _ hHeld (fun hHeld => ?_)
    clear hK K
    refine nr_ (some 32) _ ?_
    obtain ⟨wj,hw_⟩ : ∃ z_,z_ = w20 := ⟨_,rfl⟩
    subst hw_
   case' gb =>
    refine box_step ?hg (N := 8) ?hd (cs := #[.int .i64 0,.int .i64 0,.int .i64 0,.slice none 0 0]) (t := 45) ?hr ?_;(case hd => rfl);(case hg => rfl);(case hr => first|(go_simp;done)|(go_simp;rfl))
    intro gs hg w21 hbox hb
    have hge := ak (Nat.le_of_eq hg.symm)
    clear hg
    have NEBMBS := ak (Nat.ne_of_lt (Nat.lt_of_lt_of_le (blk_lt BM.out.2) hge.out))
    have NRBS : Aside0 (gr ≠ gs) := ⟨Nat.ne_of_lt (Nat.lt_of_lt_of_le (blk_lt BR.out) hge.out)⟩
    have MNBS : Aside0 (∀ k,((w2.heap.size ≤ k ∧ k ≠ g) ∧ k < w11.heap.size) → ¬ k = gs) := ⟨fun k h e => absurd h.2 (Nat.not_lt.2 (e ▸ Nat.le_trans MH.out hge.out))⟩
    have BS := ak (show Bk _ w21 gs _ from ⟨Nat.le_trans D.out.size hge.out,hbox⟩)
    have BR := ak (blk_below BR.out hb)
    have M := ak (M.out.below hb)
    have MH := ak (Nat.le_trans MH.out hb.size)
    have BM := ak (BM.out.below hb)
    have D := ak (D.out.below hb)
    clear hbox hb hge
    refine hK.out _ _ ⟨(blk_cell BM.out.2 0).trans rfl,(blk_cell BM.out.2 1).trans rfl,(blk_cell BM.out.2 2).trans rfl,(blk_cell BM.out.2 3).trans rfl⟩ (fun hHeld => ?_)
    clear hK K
    refine nr_ (some 8) _ ?_
    refine one_ (i := 6) (N := some 30) #[true,true,true,true,true,true,true,false,false,true,false] rfl rfl (by kernel_rfl) (by decide) (fun K hK => ?_)
    refine goes_ Try.func91 (by kernel_rfl) rfl #[.pointer (some ⟨g,0,none⟩),.int .i64 (l2.length : Int)] (by rfl) rfl rfl (by (try simp only [List.map_toArray,List.map_cons,List.map_nil]);first|done|rfl) ?_
    refine (below_any (l2.length : Int) (by have := M.out.2.2.2.2.1.1;omega) HL.out D.out).mono ?_
    rintro e w22 ⟨x7,rfl,hl_,hu_,K⟩
    refine ⟨_,rfl,?_⟩
    have BR := ak (KeepBut.blk K.2.2.1 BR.out NRG.out (by simp))
    have M := ak (M.out.dr K MG.out)
    have MH := ak (Nat.le_trans MH.out K.2.2.1.1)
    have BM := ak (BM.out.dr D.out K)
    have BS := ak (BS.out.dr D.out K)
    have D := ak (D.out.trans K)
    clear K
    have HLx7 := ak hl_
    have HUx7 := ak (hu_ (by have := HP.out;omega))
    clear hl_ hu_
    refine hK.out _ _ ⟨(blk_cell BM.out.2 0).trans rfl,(blk_cell BM.out.2 1).trans rfl,(blk_cell BM.out.2 2).trans rfl,(blk_cell BM.out.2 3).trans rfl⟩ (fun hHeld => ?_)
    clear hK K
    refine nr_ (some 30) _ ?_
    obtain ⟨adl,Al,cl_,eal,hz0,hz1,hz2,hz3,hle_,_⟩ := at_T45 (Kd.F_now M.out.2.1.1) x7 HLx7.out HUx7.out
    cases eal
    have pxx7 : (0 ≤ x7) = True := eq_true HLx7.out
    have qxx7 : (x7 < (l2.length : Int)) = True := eq_true HUx7.out
    refine pure_ (i := 7) (N := some 31) (v := ?_) (a' := ?_) #[true,true,true,true,true,true,true,true,false,true,false] rfl rfl (by kernel_rfl) (fun _ _ _ h => h) (Or.inl ⟨by rfl,?_⟩) ?_ ?_
    rotate_left
    ·intro w'
     go_simp
     with_reducible rfl
    rotate_left
    ·simp only [Act.put,q1,q2,q3,i64_w,i32_w]
     rfl
    refine one_ (i := 8) (N := some 32) #[true,true,true,true,true,true,true,true,true,true,false] rfl rfl (by kernel_rfl) (by decide) (fun K hK => ?_)
    refine value_ (w1 := ?_) (v := ?_) (by rfl) rfl ?_ ?_
    rotate_left 2
    ·go_simp
     constructor
     ·rfl
     ·rfl
    refine hK.out _ _ hHeld (fun hHeld => ?_)
    clear hK K
    refine nr_ (some 32) _ ?_
    obtain ⟨wj,hw_⟩ : ∃ z_,z_ = w22 := ⟨_,rfl⟩
    subst hw_
   all_goals
    refine last_ (i := 10) (N := none) #[true,true,true,true,true,true,true,true,true,true,true] rfl rfl (by kernel_rfl) (by decide) (fun K hK => ?_)
    obtain ⟨⟨hc23_0,hc23_1,hc23_2,hc23_3⟩,hf23_0,hf23_1,hf23_2,hf23_3⟩ := cl4_ BS.out.2
    refine skip_ (w1 := ((((wj.setCell ⟨gs,0,none⟩ (.int .i64 (rd_T45 l2 x7).f0)).setCell ⟨gs,1,none⟩ (.int .i64 (rd_T45 l2 x7).f1)).setCell ⟨gs,2,none⟩ (.int .i64 (rd_T45 l2 x7).f2)).setCell ⟨gs,3,none⟩ (.slice Al (rd_T45 l2 x7).f3.length cl_))) (by rfl) rfl ?_ ?_
    ·first|(go_simp;done)|(go_simp;rfl)|(go_simp;simp)
    refine hK.out _ _ ?_
    clear hK K
    refine done_ (by kernel_rfl) ?_
    clear hHeld
    clear hc23_0 hf23_0 hc23_1 hf23_1 hc23_2 hf23_2 hc23_3 hf23_3
    have KS := ak (kept4_ (W := wj) (b := gs) (.int .i64 (rd_T45 l2 x7).f0) (.int .i64 (rd_T45 l2 x7).f1) (.int .i64 (rd_T45 l2 x7).f2) (.slice Al (rd_T45 l2 x7).f3.length cl_))
    have D := ak (D.out.far4 BS.out.1 (.int .i64 (rd_T45 l2 x7).f0) (.int .i64 (rd_T45 l2 x7).f1) (.int .i64 (rd_T45 l2 x7).f2) (.slice Al (rd_T45 l2 x7).f3.length cl_))
    have BR := ak (blk_kept BR.out KS.out NRBS.out)
    have M := ak (M.out.kept KS.out MNBS.out)
    have MH := ak (Nat.le_trans MH.out KS.out.1)
    have BM := ak (BM.out.kept KS.out NEBMBS.out)
    have BS := ak (BS.out.put4 (.int .i64 (rd_T45 l2 x7).f0) (.int .i64 (rd_T45 l2 x7).f1) (.int .i64 (rd_T45 l2 x7).f2) (.slice Al (rd_T45 l2 x7).f3.length cl_))
    clear KS
    generalize ((((wj.setCell ⟨gs,0,none⟩ (.int .i64 (rd_T45 l2 x7).f0)).setCell ⟨gs,1,none⟩ (.int .i64 (rd_T45 l2 x7).f1)).setCell ⟨gs,2,none⟩ (.int .i64 (rd_T45 l2 x7).f2)).setCell ⟨gs,3,none⟩ (.slice Al (rd_T45 l2 x7).f3.length cl_)) = w24 at D BR M MH BM BS ⊢
    go_upto_region 5 with (fail)
    have hb : Below w24.heap.size w24 w24.drew := below_drew1 (Below.refl _ _)
    have BR := ak (blk_below BR.out hb)
    have M := ak (M.out.below hb)
    have MH := ak (Nat.le_trans MH.out hb.size)
    have BM := ak (BM.out.below hb)
    have BS := ak (BS.out.below hb)
    have D := ak (D.out.below hb)
    clear hb
    refine start_ (n := 11) (S := fun w' => w'.cell? ⟨gm,0,none⟩ = some (.bool b) ∧ w'.cell? ⟨gm,1,none⟩ = some (.slice A1 l1.length c1) ∧ w'.cell? ⟨gm,2,none⟩ = some (.slice (some adl) l2.length c2) ∧ w'.cell? ⟨gm,3,none⟩ = some (.slice A3 l3.length c3) ∧ w'.cell? ⟨gs,0,none⟩ = some (.int .i64 (rd_T45 l2 x7).f0) ∧ w'.cell? ⟨gs,1,none⟩ = some (.int .i64 (rd_T45 l2 x7).f1) ∧ w'.cell? ⟨gs,2,none⟩ = some (.int .i64 (rd_T45 l2 x7).f2) ∧ w'.cell? ⟨gs,3,none⟩ = some (.slice Al (rd_T45 l2 x7).f3.length cl_)) (ds := []) #[false,false,false,false,false,false,false,false,false,false,false] (by kernel_rfl) rfl rfl ⟨(blk_cell BM.out.2 0).trans rfl,(blk_cell BM.out.2 1).trans rfl,(blk_cell BM.out.2 2).trans rfl,(blk_cell BM.out.2 3).trans rfl,(blk_cell BS.out.2 0).trans rfl,(blk_cell BS.out.2 1).trans rfl,(blk_cell BS.out.2 2).trans rfl,(blk_cell BS.out.2 3).trans rfl⟩ (fun hHeld => ?_)
    generalize w24.drew = w25 at D BR M MH BM BS hHeld ⊢
    refine take_ (i := 0) (N := some 33) (v := ?_) (a' := ?_) #[true,false,false,false,false,false,false,false,false,false,false] rfl rfl (by kernel_rfl) (fun _ _ _ h => h) (Or.inl ⟨by rfl,?_⟩) hHeld ?_ ?_
    rotate_left
    ·rintro w' ⟨s0,s1,s2,s3,s4,s5,s6,s7⟩
     go_simp
     with_reducible rfl
    rotate_left
    ·simp only [Act.put,q1,q2,q3,i64_w,i32_w]
     rfl
    refine pure_ (i := 1) (N := some 34) (v := ?_) (a' := ?_) #[true,true,false,false,false,false,false,false,false,false,false] rfl rfl (by kernel_rfl) (fun _ _ _ h => h) (Or.inl ⟨by rfl,?_⟩) ?_ ?_
    rotate_left
    ·intro w'
     go_simp
     with_reducible rfl
    rotate_left
    ·simp only [Act.put,q1,q2,q3,i64_w,i32_w]
     rfl
    refine take_ (i := 2) (N := some 35) (v := ?_) (a' := ?_) #[true,true,true,false,false,false,false,false,false,false,false] rfl rfl (by kernel_rfl) (fun _ _ _ h => h) (Or.inl ⟨by rfl,?_⟩) hHeld ?_ ?_
    rotate_left
    ·rintro w' ⟨s0,s1,s2,s3,s4,s5,s6,s7⟩
     go_simp
     with_reducible rfl
    rotate_left
    ·simp only [Act.put,q1,q2,q3,i64_w,i32_w]
     rfl
    refine pure_ (i := 3) (N := some 36) (v := ?_) (a' := ?_) #[true,true,true,true,false,false,false,false,false,false,false] rfl rfl (by kernel_rfl) (fun _ _ _ h => h) (Or.inl ⟨by rfl,?_⟩) ?_ ?_
    rotate_left
    ·intro w'
     go_simp
     with_reducible rfl
    rotate_left
    ·simp only [Act.put,q1,q2,q3,i64_w,i32_w]
     rfl
    refine take_ (i := 4) (N := some 37) (v := ?_) (a' := ?_) #[true,true,true,true,true,false,false,false,false,false,false] rfl rfl (by kernel_rfl) (fun _ _ _ h => h) (Or.inl ⟨by rfl,?_⟩) hHeld ?_ ?_
    rotate_left
    ·rintro w' ⟨s0,s1,s2,s3,s4,s5,s6,s7⟩
     go_simp
     with_reducible rfl
    rotate_left
    ·simp only [Act.put,q1,q2,q3,i64_w,i32_w]
     rfl
    refine pure_ (i := 5) (N := some 38) (v := ?_) (a' := ?_) #[true,true,true,true,true,true,false,false,false,false,false] rfl rfl (by kernel_rfl) (fun _ _ _ h => h) (Or.inl ⟨by rfl,?_⟩) ?_ ?_
    rotate_left
    ·intro w'
     go_simp
     with_reducible rfl
    rotate_left
    ·simp only [Act.put,q1,q2,q3,i64_w,i32_w]
     rfl
    refine take_ (i := 6) (N := some 39) (v := ?_) (a' := ?_) #[true,true,true,true,true,true,true,false,false,false,false] rfl rfl (by kernel_rfl) (fun _ _ _ h => h) (Or.inl ⟨by rfl,?_⟩) hHeld ?_ ?_
    rotate_left
    ·rintro w' ⟨s0,s1,s2,s3,s4,s5,s6,s7⟩
     go_simp
     with_reducible rfl
    rotate_left
    ·simp only [Act.put,q1,q2,q3,i64_w,i32_w]
     rfl
    refine one_ (i := 7) (N := none) #[true,true,true,true,true,true,true,true,false,false,false] rfl rfl (by kernel_rfl) (by decide) (fun K hK => ?_)
    obtain ⟨⟨hc26_0,hc26_1,hc26_2,hc26_3⟩,hf26_0,hf26_1,hf26_2,hf26_3⟩ := cl4_ BR.out
    refine skip_ (w1 := ((((w25.setCell ⟨gr,0,none⟩ (.bool b)).setCell ⟨gr,1,none⟩ (.slice A1 l1.length c1)).setCell ⟨gr,2,none⟩ (.slice (some adl) l2.length c2)).setCell ⟨gr,3,none⟩ (.slice A3 l3.length c3))) (by rfl) rfl ?_ ?_
    ·first|(go_simp;done)|(go_simp;rfl)|(go_simp;simp)
    have KS := kept4_ (W := w25) (b := gr) (.bool b) (.slice A1 l1.length c1) (.slice (some adl) l2.length c2) (.slice A3 l3.length c3)
    have BMk := BM.out.kept KS NRBM.out.symm
    have BSk := BS.out.kept KS NRBS.out.symm
    refine hK.out _ _ ⟨(blk_cell BMk.2 0).trans rfl,(blk_cell BMk.2 1).trans rfl,(blk_cell BMk.2 2).trans rfl,(blk_cell BMk.2 3).trans rfl,(blk_cell BSk.2 0).trans rfl,(blk_cell BSk.2 1).trans rfl,(blk_cell BSk.2 2).trans rfl,(blk_cell BSk.2 3).trans rfl⟩ (fun hHeld => ?_)
    clear hK K KS BMk BSk
    refine pure_ (i := 8) (N := some 3) (v := ?_) (a' := ?_) #[true,true,true,true,true,true,true,true,true,false,false] rfl rfl (by kernel_rfl) (fun _ _ _ h => h) (Or.inl ⟨by rfl,?_⟩) ?_ ?_
    rotate_left
    ·intro w'
     go_simp
     with_reducible rfl
    rotate_left
    ·simp only [Act.put,q1,q2,q3,i64_w,i32_w]
     rfl
    refine pure_ (i := 9) (N := some 4) (v := ?_) (a' := ?_) #[true,true,true,true,true,true,true,true,true,true,false] rfl rfl (by kernel_rfl) (fun _ _ _ h => h) (Or.inl ⟨by rfl,?_⟩) ?_ ?_
    rotate_left
    ·intro w'
     go_simp
     with_reducible rfl
    rotate_left
    ·simp only [Act.put,q1,q2,q3,i64_w,i32_w]
     rfl
    refine pure_ (i := 10) (N := some 5) (v := ?_) (a' := ?_) #[true,true,true,true,true,true,true,true,true,true,true] rfl rfl (by kernel_rfl) (fun _ _ _ h => h) (Or.inl ⟨by rfl,?_⟩) ?_ ?_
    rotate_left
    ·intro w'
     go_simp
     with_reducible rfl
    rotate_left
    ·simp only [Act.put,q1,q2,q3,i64_w,i32_w]
     rfl
    refine done_ (by kernel_rfl) ?_
    clear hHeld
    clear hc26_0 hf26_0 hc26_1 hf26_1 hc26_2 hf26_2 hc26_3 hf26_3
    go_wp2
    refine bodyPost_ret (results_ct4 rfl _ _ gr 32 #[.bool b,.slice A1 l1.length c1,.slice (some adl) l2.length c2,.slice A3 l3.length c3] (0,0) _ rfl (put4_ BR.out _ _ _ _) Try.underlying32 rfl (by kernel_rfl)) rfl ?_
    exact ⟨b,A1,c1,l1,_,c2,l2,A3,c3,l3,_,_,_,by first|rfl|(simp;done),(Rp.kept M.out (kept4_ _ _ _ _) MNBR.out).mono (fun k h => Nat.le_trans MW.out h.1.1),below_set (below_set (below_set (below_set (below_step B0.out D.out.2.1) GR.out) GR.out) GR.out) GR.out⟩
  skip
 all_goals
  go_wp2_with ((with_reducible refine gcal_ (f := 91) rfl ?_);refine goesL_ (some 41) rfl rfl Try.func91 (by kernel_rfl) rfl #[.pointer (some ⟨g,0,none⟩),.int .i64 4] rfl (by (try simp only [List.map_toArray,List.map_cons,List.map_nil]);first|done|rfl) ?_;refine (below_any 4 (by decide) HL.out D.out).mono ?_;rintro e w27 ⟨y1,rfl,hl_,hu_,K⟩;refine ⟨_,rfl,?_⟩;refine hold_89 ?_)
  refine ⟨?_⟩
  have BR := ak (KeepBut.blk K.2.2.1 BR.out NRG.out (by simp))
  have M := ak (M.out.dr K MG.out)
  have MH := ak (Nat.le_trans MH.out K.2.2.1.1)
  have BM := ak (BM.out.dr D.out K)
  have D := ak (D.out.trans K)
  clear K
  have HLy1 := ak hl_
  have HUy1 := ak (hu_ (by decide))
  clear hl_ hu_
  go_wp2_with ((with_reducible refine gcal_ (f := 131) rfl ?_);refine goesL_ (some 44) rfl rfl Try.func131 (by kernel_rfl) rfl #[.pointer (some ⟨g,0,none⟩)] rfl (by (try simp only [List.map_toArray,List.map_cons,List.map_nil]);first|done|rfl) ?_;refine (drawReg_any HL.out D.out.self).mono ?_;rintro e w28 ⟨y2,rfl,K⟩;refine ⟨_,rfl,?_⟩;refine hold_89 ?_)
  refine ⟨?_⟩
  have BR := ak (KeepBut.blk K.2.2.1 BR.out NRG.out (by simp))
  have M := ak (M.out.dr K MG.out)
  have MH := ak (Nat.le_trans MH.out K.2.2.1.1)
  have BM := ak (BM.out.dr D.out K)
  have D := ak (D.out.trans K)
  clear K
  go_upto_region 8 with (fail)
  have hb : Below w28.heap.size w28 w28.drew := below_drew1 (Below.refl _ _)
  have BR := ak (blk_below BR.out hb)
  have M := ak (M.out.below hb)
  have MH := ak (Nat.le_trans MH.out hb.size)
  have BM := ak (BM.out.below hb)
  have D := ak (D.out.below hb)
  clear hb
  refine start_ (n := 10) (S := fun w' => w'.cell? ⟨gm,0,none⟩ = some (.bool b) ∧ w'.cell? ⟨gm,1,none⟩ = some (.slice A1 l1.length c1) ∧ w'.cell? ⟨gm,2,none⟩ = some (.slice A2 l2.length c2) ∧ w'.cell? ⟨gm,3,none⟩ = some (.slice A3 l3.length c3)) (ds := [6]) #[false,false,false,false,false,false,false,false,false,false] (by kernel_rfl) rfl rfl ⟨(blk_cell BM.out.2 0).trans rfl,(blk_cell BM.out.2 1).trans rfl,(blk_cell BM.out.2 2).trans rfl,(blk_cell BM.out.2 3).trans rfl⟩ (fun hHeld => ?_)
  generalize w28.drew = w29 at D BR M MH BM hHeld ⊢
  refine take_ (i := 0) (N := some 45) (v := ?_) (a' := ?_) #[true,false,false,false,false,false,false,false,false,false] rfl rfl (by kernel_rfl) (fun _ _ _ h => h) (Or.inl ⟨by rfl,?_⟩) hHeld ?_ ?_
  rotate_left
  ·rintro w' ⟨s0,s1,s2,s3⟩
   go_simp
   with_reducible rfl
  rotate_left
  ·simp only [Act.put,q1,q2,q3,i64_w,i32_w]
   rfl
  refine pure_ (i := 1) (N := some 46) (v := ?_) (a' := ?_) #[true,true,false,false,false,false,false,false,false,false] rfl rfl (by kernel_rfl) (fun _ _ _ h => h) (Or.inl ⟨by rfl,?_⟩) ?_ ?_
  rotate_left
  ·intro w'
   go_simp
   with_reducible rfl
  rotate_left
  ·simp only [Act.put,q1,q2,q3,i64_w,i32_w]
   rfl
  refine pure_ (i := 2) (N := some 47) (v := ?_) (a' := ?_) #[true,true,true,false,false,false,false,false,false,false] rfl rfl (by kernel_rfl) (fun _ _ _ h => h) (Or.inl ⟨by rfl,?_⟩) ?_ ?_
  rotate_left
  ·intro w'
   go_simp
   with_reducible rfl
  rotate_left
  ·simp only [Act.put,q1,q2,q3,i64_w,i32_w]
   rfl
  refine pure_ (i := 3) (N := some 48) (v := ?_) (a' := ?_) #[true,true,true,true,false,false,false,false,false,false] rfl rfl (by kernel_rfl) (fun _ _ _ h => h) (Or.inl ⟨by rfl,?_⟩) ?_ ?_
  rotate_left
  ·intro w'
   go_simp
   with_reducible rfl
  rotate_left
  ·simp only [Act.put,q1,q2,q3,i64_w,i32_w]
   rfl
  refine one_ (i := 4) (N := some 49) #[true,true,true,true,true,false,false,false,false,false] rfl rfl (by kernel_rfl) (by decide) (fun K hK => ?_)
  refine goes_ Try.func91 (by kernel_rfl) rfl #[.pointer (some ⟨g,0,none⟩),.int .i64 3] (by rfl) rfl rfl (by (try simp only [List.map_toArray,List.map_cons,List.map_nil]);first|done|rfl) ?_
  refine (below_any 3 (by decide) HL.out D.out).mono ?_
  rintro e w30 ⟨y3,rfl,hl_,hu_,K⟩
  refine ⟨_,rfl,?_⟩
  have BR := ak (KeepBut.blk K.2.2.1 BR.out NRG.out (by simp))
  have M := ak (M.out.dr K MG.out)
  have MH := ak (Nat.le_trans MH.out K.2.2.1.1)
  have BM := ak (BM.out.dr D.out K)
  have D := ak (D.out.trans K)
  clear K
  have HLy3 := ak hl_
  have HUy3 := ak (hu_ (by decide))
  clear hl_ hu_
  refine hK.out _ _ ⟨(blk_cell BM.out.2 0).trans rfl,(blk_cell BM.out.2 1).trans rfl,(blk_cell BM.out.2 2).trans rfl,(blk_cell BM.out.2 3).trans rfl⟩ (fun hHeld => ?_)
  clear hK K
  refine nr_ (some 49) _ ?_
  refine pure_ (i := 5) (N := some 50) (v := ?_) (a' := ?_) #[true,true,true,true,true,true,false,false,false,false] rfl rfl (by kernel_rfl) (fun _ _ _ h => h) (Or.inl ⟨by rfl,?_⟩) ?_ ?_
  rotate_left
  ·intro w'
   go_simp
   with_reducible rfl
  rotate_left
  ·simp only [Act.put,q1,q2,q3,i64_w,i32_w]
   rfl
  refine last_ (i := 6) (N := none) #[true,true,true,true,true,true,true,false,false,false] rfl rfl (by kernel_rfl) (by decide) (fun K hK => ?_)
  obtain ⟨⟨hc31_0,hc31_1,hc31_2,hc31_3⟩,hf31_0,hf31_1,hf31_2,hf31_3⟩ := cl4_ BR.out
  refine skip_ (w1 := ((((w30.setCell ⟨gr,0,none⟩ (.bool b)).setCell ⟨gr,1,none⟩ (.slice A1 l1.length c1)).setCell ⟨gr,2,none⟩ (.slice A2 l2.length c2)).setCell ⟨gr,3,none⟩ (.slice A3 l3.length c3))) (by rfl) rfl ?_ ?_
  ·first|(go_simp;done)|(go_simp;rfl)|(go_simp;simp)
  refine hK.out _ _ ?_
  clear hK K
  refine pure_ (i := 7) (N := some 3) (v := ?_) (a' := ?_) #[true,true,true,true,true,true,true,true,false,false] rfl rfl (by kernel_rfl) (fun _ _ _ h => h) (Or.inl ⟨by rfl,?_⟩) ?_ ?_
  rotate_left
  ·intro w'
   go_simp
   with_reducible rfl
  rotate_left
  ·simp only [Act.put,q1,q2,q3,i64_w,i32_w]
   rfl
  refine pure_ (i := 8) (N := some 4) (v := ?_) (a' := ?_) #[true,true,true,true,true,true,true,true,true,false] rfl rfl (by kernel_rfl) (fun _ _ _ h => h) (Or.inl ⟨by rfl,?_⟩) ?_ ?_
  rotate_left
  ·intro w'
   go_simp
   with_reducible rfl
  rotate_left
  ·simp only [Act.put,q1,q2,q3,i64_w,i32_w]
   rfl
  refine pure_ (i := 9) (N := some 5) (v := ?_) (a' := ?_) #[true,true,true,true,true,true,true,true,true,true] rfl rfl (by kernel_rfl) (fun _ _ _ h => h) (Or.inl ⟨by rfl,?_⟩) ?_ ?_
  rotate_left
  ·intro w'
   go_simp
   with_reducible rfl
  rotate_left
  ·simp only [Act.put,q1,q2,q3,i64_w,i32_w]
   rfl
  refine done_ (by kernel_rfl) ?_
  clear hHeld
  clear hc31_0 hf31_0 hc31_1 hf31_1 hc31_2 hf31_2 hc31_3 hf31_3
  go_wp2
  refine bodyPost_ret (results_ct4 rfl _ _ gr 32 #[.bool b,.slice A1 l1.length c1,.slice A2 l2.length c2,.slice A3 l3.length c3] (0,0) _ rfl (put4_ BR.out _ _ _ _) Try.underlying32 rfl (by kernel_rfl)) rfl ?_
  exact ⟨b,A1,c1,l1,A2,c2,l2,A3,c3,l3,_,_,_,by first|rfl|(simp;done),(Rp.kept M.out (kept4_ _ _ _ _) MNBR.out).mono (fun k h => Nat.le_trans MW.out h.1.1),below_set (below_set (below_set (below_set (below_step B0.out D.out.2.1) GR.out) GR.out) GR.out) GR.out⟩


open Go.Proofs.Ythplaakckfhaaaa.Gen
/-! ### drawClear_any: function 38 -/
theorem hold_38 {p : Prop} (h : Aside0 p) : p := h.out
set_option maxHeartbeats 8000000 in
set_option maxRecDepth 100000 in
theorem drawClear_any {w : World} {A : Option Addr} {c : Nat} {l : List Int} (hrec : ∀ (f0 f1 f2 : Int) (ys : List S127), ys.length ≤ 7 → ∃ k b, spec_RecordOk.f k f0 f1 f2 ys = some b) (hl : l.length ≤ maxLen) (hr : Kd.C (Kd.int .u8) w A l.length l) (hc : l.length ≤ c) :
    Calls Try.prog 38 #[.slice A l.length c] w fun e w' => DC w e w' := by
 have hu := Try.underlying32
 have hu2 := Try.underlying45
 have HL := ak hl
 have HR := ak hrec
 have HC := ak hr
 have HCc := ak hc
 clear hl hrec hr hc
 go_enter Try.func38,Try.ntmps38
 go_wp2_with ((with_reducible refine gate_dst (N := 2) rfl ?_);refine bx_ 2 #[.bool false,.slice none 0 0,.slice none 0 0,.slice none 0 0] 32 ?_;intro gr hg w1 hbox hb;have hge := ak (Nat.le_of_eq hg.symm);clear hg;refine hold_38 ?_)
 refine ⟨?_⟩
 have BR := ak hbox
 have GR := hge
 have B0 := ak hb
 have HC := ak (Kd.C_below HC.out hb)
 clear hbox hb hge
 go_wp2_with ((with_reducible refine gcal_ (f := 88) rfl ?_);refine goesL_ (some 12) rfl rfl Try.func88 (by kernel_rfl) rfl #[.slice A l.length c] rfl (by (try simp only [List.map_toArray,List.map_cons,List.map_nil]);first|done|rfl) ?_;refine (new_calls HL.out HC.out HCc.out).mono ?_;rintro e w2 ⟨g,rfl,hgg,hD,hb⟩;refine ⟨_,rfl,?_⟩;refine hold_38 ?_)
 refine ⟨?_⟩
 have D := ak hD
 have NRG : Aside0 (gr ≠ g) := ⟨Nat.ne_of_lt (Nat.lt_of_lt_of_le (blk_lt BR.out) hgg)⟩
 have BL := ak (blk_lt BR.out)
 have BR := ak (blk_below BR.out hb)
 have HC := ak (Kd.C_below HC.out hb)
 have HB2 := ak hb
 clear hD hgg hb
 have GL := ak D.out.lt
 go_wp2_with ((with_reducible refine gcal_ (f := 89) rfl ?_);refine goesL_ (some 15) rfl rfl Try.func89 (by kernel_rfl) rfl #[.slice A l.length c] rfl (by (try simp only [List.map_toArray,List.map_cons,List.map_nil]);first|done|rfl) ?_;refine (drawLogged_any HR.out HL.out HC.out HCc.out).mono ?_;rintro e w11 ⟨b,A1,c1,l1,A2,c2,l2,A3,c3,l3,t0,r0,k0,rfl,hm,hb⟩;refine ⟨_,rfl,?_⟩;refine hold_38 ?_)
 refine ⟨?_⟩
 have BR := ak (blk_below BR.out hb)
 have D := ak (D.out.below hb)
 have M := ak (Rp.bound (hm.mono (ok' := fun k => w2.heap.size ≤ k ∧ k ≠ g) (fun k h => ⟨h,fun e => absurd h (Nat.not_le.2 (e ▸ GL.out))⟩)))
 have MH : Aside0 (w11.heap.size ≤ w11.heap.size) := ⟨Nat.le_refl _⟩
 have MG : Aside0 (∀ k,((w2.heap.size ≤ k ∧ k ≠ g) ∧ k < w11.heap.size) → k ≠ g) := ⟨fun _ h => h.1.2⟩
 have MNBR : Aside0 (∀ k,((w2.heap.size ≤ k ∧ k ≠ g) ∧ k < w11.heap.size) → ¬ k = gr) := ⟨fun k h e => absurd h.1.1 (Nat.not_le.2 (e ▸ Nat.lt_of_lt_of_le BL.out HB2.out.size))⟩
 clear hm hb HC HCc HR
 go_wp2_with ((with_reducible refine gate_dst (N := 7) rfl ?_);refine bx_ 7 #[.bool false,.slice none 0 0,.slice none 0 0,.slice none 0 0] 32 ?_;intro gm hg w21 hbox hb;have hge := ak (Nat.le_of_eq hg.symm);clear hg;refine hold_38 ?_)
 refine ⟨?_⟩
 have NRBM : Aside0 (gr ≠ gm) := ⟨Nat.ne_of_lt (Nat.lt_of_lt_of_le (blk_lt BR.out) hge.out)⟩
 have MNBM : Aside0 (∀ k,((w2.heap.size ≤ k ∧ k ≠ g) ∧ k < w11.heap.size) → ¬ k = gm) := ⟨fun k h e => absurd h.2 (Nat.not_lt.2 (e ▸ Nat.le_trans MH.out hge.out))⟩
 have BM := ak (show Bk _ w21 gm _ from ⟨Nat.le_trans D.out.size hge.out,hbox⟩)
 have BR := ak (blk_below BR.out hb)
 have M := ak (M.out.below hb)
 have MH := ak (Nat.le_trans MH.out hb.size)
 have D := ak (D.out.below hb)
 clear hbox hb hge
 obtain ⟨⟨hc22_0,hc22_1,hc22_2,hc22_3⟩,hf22_0,hf22_1,hf22_2,hf22_3⟩ := cl4_ BM.out.2
 go_upto_region 3 with (fail)
 have KS := ak (kept4_ (W := w21) (b := gm) (.bool b) (.slice A1 l1.length c1) (.slice A2 l2.length c2) (.slice A3 l3.length c3))
 have D := ak (D.out.far4 BM.out.1 (.bool b) (.slice A1 l1.length c1) (.slice A2 l2.length c2) (.slice A3 l3.length c3))
 have BR := ak (blk_kept BR.out KS.out NRBM.out)
 have M := ak (M.out.kept KS.out MNBM.out)
 have MH := ak (Nat.le_trans MH.out KS.out.1)
 have BM := ak (BM.out.put4 (.bool b) (.slice A1 l1.length c1) (.slice A2 l2.length c2) (.slice A3 l3.length c3))
 clear KS
 generalize ((((w21.setCell ⟨gm,0,none⟩ (.bool b)).setCell ⟨gm,1,none⟩ (.slice A1 l1.length c1)).setCell ⟨gm,2,none⟩ (.slice A2 l2.length c2)).setCell ⟨gm,3,none⟩ (.slice A3 l3.length c3)) = w23 at D BR M MH BM ⊢
 go_wp2_with ((with_reducible refine gcal_ (f := 90) rfl ?_);refine goesL_ (some 21) rfl rfl Try.func90 (by kernel_rfl) rfl #[.pointer (some ⟨g,0,none⟩),.int .i64 10] rfl (by (try simp only [List.map_toArray,List.map_cons,List.map_nil]);first|done|rfl) ?_;refine (once_any 10 (by decide) HL.out D.out).mono ?_;rintro e w24 ⟨x1,rfl,K⟩;refine ⟨_,rfl,?_⟩;refine hold_38 ?_)
 refine ⟨?_⟩
 have BR := ak (KeepBut.blk K.2.2.1 BR.out NRG.out (by simp))
 have M := ak (M.out.dr K MG.out)
 have MH := ak (Nat.le_trans MH.out K.2.2.1.1)
 have BM := ak (BM.out.dr D.out K)
 have D := ak (D.out.trans K)
 clear K
 cases x1
 case' false =>
  go_upto_region 5 with (fail)
  obtain ⟨tt,htt⟩ : ∃ z_,z_ = t0 := ⟨_,rfl⟩
  subst htt
  obtain ⟨wj,hw_⟩ : ∃ z_,z_ = w24 := ⟨_,rfl⟩
  subst hw_
 case' true =>
  obtain ⟨y,hy⟩ : ∃ y_ : List Int,y_ = ([0,1000000,1000001,12] : List Int) := ⟨_,rfl⟩
  have Ny := ak hy
  clear hy
  go_wp2_with ((with_reducible refine gate_dst (N := 22) rfl ?_);refine Kd.R_lit (Kd.int .i64) _ 2 ?hg (N := 22) ?hd (xs := ([0,1000000,1000001,12] : List Int)) (inner := [.int .i64 0,.int .i64 1000000,.int .i64 1000001,.int .i64 12]) (ok := fun _ => True) (okp := fun _ => True) ?hr ?hp (fun _ hk => hk) trivial (Below.refl _ _) (Nat.le_refl _) (by simp) ?_;(case hd => rfl);(case hg => rfl);(case hr => first|(go_simp;done)|(go_simp;rfl));(case hp => exact (Reps.one (show Kd.M (Kd.int .i64) _ _ _ 0 [.int .i64 0] from rfl) (Reps.one (show Kd.M (Kd.int .i64) _ _ _ 1000000 [.int .i64 1000000] from rfl) (Reps.one (show Kd.M (Kd.int .i64) _ _ _ 1000001 [.int .i64 1000001] from rfl) (Reps.one (show Kd.M (Kd.int .i64) _ _ _ 12 [.int .i64 12] from rfl) (Reps.none _ _))))));intro v_ w25 ho hb hg_ hnew_;clear hg_ hnew_;refine hold_38 ?_)
  refine ⟨?_⟩
  rw [← Ny.out] at ho
  have TL := ak (Kd.R_lower ho D.out.size)
  have BR := ak (blk_below BR.out hb)
  have M := ak (M.out.below hb)
  have MH := ak (Nat.le_trans MH.out hb.size)
  have BM := ak (BM.out.below hb)
  have D := ak (D.out.below hb)
  clear ho hb
  obtain ⟨Ay,cy,ey⟩ := Kd.R_slice TL.out
  subst ey
  go_wp2_with ((with_reducible refine gcal_ (f := 91) rfl ?_);refine goesL_ (some 24) rfl rfl Try.func91 (by kernel_rfl) rfl #[.pointer (some ⟨g,0,none⟩),.int .i64 4] rfl (by (try simp only [List.map_toArray,List.map_cons,List.map_nil]);first|done|rfl) ?_;refine (below_any 4 (by decide) HL.out D.out).mono ?_;rintro e w26 ⟨x7,rfl,hl_,hu_,K⟩;refine ⟨_,rfl,?_⟩;refine hold_38 ?_)
  refine ⟨?_⟩
  have BR := ak (KeepBut.blk K.2.2.1 BR.out NRG.out (by simp))
  have M := ak (M.out.dr K MG.out)
  have MH := ak (Nat.le_trans MH.out K.2.2.1.1)
  have BM := ak (BM.out.dr D.out K)
  have TL := ak (R_dr TL.out D.out K)
  have D := ak (D.out.trans K)
  clear K
  have HLx7 := ak hl_
  have HUx7 := ak (hu_ (by decide))
  clear hl_ hu_
  have Qx7 : Aside0 (x7 < (y.length : Int)) := ⟨by rw [Ny.out];exact HUx7.out⟩
  obtain ⟨adx7,eax7,hxx7⟩ := Kd.at_int (Kd.R_reads' TL.out).2.2 x7 HLx7.out Qx7.out
  subst eax7
  have pxx7 : (0 ≤ x7) = True := eq_true HLx7.out
  have qxx7 : (x7 < (y.length : Int)) = True := eq_true Qx7.out
  go_upto_region 5 with (fail)
  obtain ⟨tt,htt⟩ : ∃ z_,z_ = rd y x7 := ⟨_,rfl⟩
  rw [← htt]
  clear htt
  obtain ⟨wj,hw_⟩ : ∃ z_,z_ = w26 := ⟨_,rfl⟩
  subst hw_
 all_goals
  go_upto_region 5 with (fail)
  have hb : Below wj.heap.size wj wj.drew := below_drew1 (Below.refl _ _)
  have BR := ak (blk_below BR.out hb)
  have M := ak (M.out.below hb)
  have MH := ak (Nat.le_trans MH.out hb.size)
  have BM := ak (BM.out.below hb)
  have D := ak (D.out.below hb)
  clear hb
  refine start_ (n := 9) (S := fun w' => w'.cell? ⟨gm,0,none⟩ = some (.bool b) ∧ w'.cell? ⟨gm,1,none⟩ = some (.slice A1 l1.length c1) ∧ w'.cell? ⟨gm,2,none⟩ = some (.slice A2 l2.length c2) ∧ w'.cell? ⟨gm,3,none⟩ = some (.slice A3 l3.length c3)) (ds := []) #[false,false,false,false,false,false,false,false,false] (by kernel_rfl) rfl rfl ⟨(blk_cell BM.out.2 0).trans rfl,(blk_cell BM.out.2 1).trans rfl,(blk_cell BM.out.2 2).trans rfl,(blk_cell BM.out.2 3).trans rfl⟩ (fun hHeld => ?_)
  generalize wj.drew = w27 at D BR M MH BM hHeld ⊢
  refine take_ (i := 0) (N := some 27) (v := ?_) (a' := ?_) #[true,false,false,false,false,false,false,false,false] rfl rfl (by kernel_rfl) (fun _ _ _ h => h) (Or.inl ⟨by rfl,?_⟩) hHeld ?_ ?_
  rotate_left
  ·rintro w' ⟨s0,s1,s2,s3⟩
   go_simp
   with_reducible rfl
  rotate_left
  ·simp only [Act.put,q1,q2,q3,i64_w,i32_w]
   rfl
  refine pure_ (i := 1) (N := some 28) (v := ?_) (a' := ?_) #[true,true,false,false,false,false,false,false,false] rfl rfl (by kernel_rfl) (fun _ _ _ h => h) (Or.inl ⟨by rfl,?_⟩) ?_ ?_
  rotate_left
  ·intro w'
   go_simp
   with_reducible rfl
  rotate_left
  ·simp only [Act.put,q1,q2,q3,i64_w,i32_w]
   rfl
  refine pure_ (i := 2) (N := some 29) (v := ?_) (a' := ?_) #[true,true,true,false,false,false,false,false,false] rfl rfl (by kernel_rfl) (fun _ _ _ h => h) (Or.inl ⟨by rfl,?_⟩) ?_ ?_
  rotate_left
  ·intro w'
   go_simp
   with_reducible rfl
  rotate_left
  ·simp only [Act.put,q1,q2,q3,i64_w,i32_w]
   rfl
  refine pure_ (i := 3) (N := some 30) (v := ?_) (a' := ?_) #[true,true,true,true,false,false,false,false,false] rfl rfl (by kernel_rfl) (fun _ _ _ h => h) (Or.inl ⟨by rfl,?_⟩) ?_ ?_
  rotate_left
  ·intro w'
   go_simp
   with_reducible rfl
  rotate_left
  ·simp only [Act.put,q1,q2,q3,i64_w,i32_w]
   rfl
  refine one_ (i := 4) (N := some 31) #[true,true,true,true,true,false,false,false,false] rfl rfl (by kernel_rfl) (by decide) (fun K hK => ?_)
  refine goes_ Try.func90 (by kernel_rfl) rfl #[.pointer (some ⟨g,0,none⟩),.int .i64 2] (by rfl) rfl rfl (by (try simp only [List.map_toArray,List.map_cons,List.map_nil]);first|done|rfl) ?_
  refine (once_any 2 (by decide) HL.out D.out).mono ?_
  rintro e w28 ⟨dd,rfl,K⟩
  refine ⟨_,rfl,?_⟩
  have BR := ak (KeepBut.blk K.2.2.1 BR.out NRG.out (by simp))
  have M := ak (M.out.dr K MG.out)
  have MH := ak (Nat.le_trans MH.out K.2.2.1.1)
  have BM := ak (BM.out.dr D.out K)
  have D := ak (D.out.trans K)
  clear K
  refine hK.out _ _ ⟨(blk_cell BM.out.2 0).trans rfl,(blk_cell BM.out.2 1).trans rfl,(blk_cell BM.out.2 2).trans rfl,(blk_cell BM.out.2 3).trans rfl⟩ (fun hHeld => ?_)
  clear hK K
  refine nr_ (some 31) _ ?_
  refine one_ (i := 5) (N := none) #[true,true,true,true,true,true,false,false,false] rfl rfl (by kernel_rfl) (by decide) (fun K hK => ?_)
  obtain ⟨⟨hc29_0,hc29_1,hc29_2,hc29_3⟩,hf29_0,hf29_1,hf29_2,hf29_3⟩ := cl4_ BR.out
  refine skip_ (w1 := ((((w28.setCell ⟨gr,0,none⟩ (.bool b)).setCell ⟨gr,1,none⟩ (.slice A1 l1.length c1)).setCell ⟨gr,2,none⟩ (.slice A2 l2.length c2)).setCell ⟨gr,3,none⟩ (.slice A3 l3.length c3))) (by rfl) rfl ?_ ?_
  ·first|(go_simp;done)|(go_simp;rfl)|(go_simp;simp)
  have KS := kept4_ (W := w28) (b := gr) (.bool b) (.slice A1 l1.length c1) (.slice A2 l2.length c2) (.slice A3 l3.length c3)
  have BMk := BM.out.kept KS NRBM.out.symm
  refine hK.out _ _ ⟨(blk_cell BMk.2 0).trans rfl,(blk_cell BMk.2 1).trans rfl,(blk_cell BMk.2 2).trans rfl,(blk_cell BMk.2 3).trans rfl⟩ (fun hHeld => ?_)
  clear hK K KS BMk
  refine pure_ (i := 6) (N := some 3) (v := ?_) (a' := ?_) #[true,true,true,true,true,true,true,false,false] rfl rfl (by kernel_rfl) (fun _ _ _ h => h) (Or.inl ⟨by rfl,?_⟩) ?_ ?_
  rotate_left
  ·intro w'
   go_simp
   with_reducible rfl
  rotate_left
  ·simp only [Act.put,q1,q2,q3,i64_w,i32_w]
   rfl
  refine pure_ (i := 7) (N := some 4) (v := ?_) (a' := ?_) #[true,true,true,true,true,true,true,true,false] rfl rfl (by kernel_rfl) (fun _ _ _ h => h) (Or.inl ⟨by rfl,?_⟩) ?_ ?_
  rotate_left
  ·intro w'
   go_simp
   with_reducible rfl
  rotate_left
  ·simp only [Act.put,q1,q2,q3,i64_w,i32_w]
   rfl
  refine pure_ (i := 8) (N := some 5) (v := ?_) (a' := ?_) #[true,true,true,true,true,true,true,true,true] rfl rfl (by kernel_rfl) (fun _ _ _ h => h) (Or.inl ⟨by rfl,?_⟩) ?_ ?_
  rotate_left
  ·intro w'
   go_simp
   with_reducible rfl
  rotate_left
  ·simp only [Act.put,q1,q2,q3,i64_w,i32_w]
   rfl
  refine done_ (by kernel_rfl) ?_
  clear hHeld
  clear hc29_0 hf29_0 hc29_1 hf29_1 hc29_2 hf29_2 hc29_3 hf29_3
  go_wp2
  refine bodyPost_ret (results_ct4 rfl _ _ gr 32 #[.bool b,.slice A1 l1.length c1,.slice A2 l2.length c2,.slice A3 l3.length c3] (0,0) _ rfl (put4_ BR.out _ _ _ _) Try.underlying32 rfl (by kernel_rfl)) rfl ?_
  exact ⟨b,A1,c1,l1,A2,c2,l2,A3,c3,l3,_,_,_,by first|rfl|(simp;done),(Rp.kept M.out (kept4_ _ _ _ _) MNBR.out).mono (fun _ _ => trivial),below_set (below_set (below_set (below_set (below_step B0.out D.out.2.1) GR.out) GR.out) GR.out) GR.out⟩


end Go.Proofs.Ythplaakckfhaaaa.XCd
