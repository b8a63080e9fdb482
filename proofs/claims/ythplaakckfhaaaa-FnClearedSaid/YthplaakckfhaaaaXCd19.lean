/- Proved: of each Go function here that a call comes to what the Lean function of its name tells. Written by a program of this session over the translation. No conditions beyond each theorem's own. -/
import Derived.Test.YthplaakckfhaaaaXCd0
import Derived.Test.YthplaakckfhaaaaXCd18
namespace Go.Proofs.Ythplaakckfhaaaa.XCd
open Go.RowKit Go.Proofs.Ythplaakckfhaaaa.Aid Go.Proofs.YthplaakckfhaaaaW.PrintWords Go.Proofs.YthplaakckfhaaaaW.PrintLast Go.Proofs.YthplaakckfhaaaaW.PrintMore
set_option linter.unusedVariables false
set_option linter.unusedSimpArgs false

open Go.Proofs.Ythplaakckfhaaaa.Gen
/-! ### draw2_any: function 148 -/
theorem hold_148 {p : Prop} (h : Aside0 p) : p := h.out
set_option maxHeartbeats 8000000 in
set_option maxRecDepth 100000 in
theorem draw2_any {w0 w : World} {g : Nat} {l : List Int}  (hl : l.length ≤ maxLen) (D0 : Dr w0 w g l w) :
    Calls Try.prog 148 #[.pointer (some ⟨g, 0, none⟩)] w fun e w' => ∃ (f0 f1 f2 : Int) (v : Value) (xs : List S127), e = .returned (.agg #[.int .i64 f0, .int .i64 f1, .int .i64 f2, v]) ∧ Kd.R k127 127 w' w.heap.size (fun _ => True) v xs ∧ xs.length ≤ 7 ∧ Dr w0 w g l w' := by
 have hu := Try.underlying45
 have hu2 := Try.underlying127
 have D := ak D0
 have HL := ak hl
 clear D0 hl
 go_enter Try.func148,Try.ntmps148
 go_wp2_with ((with_reducible refine gate_dst (N := 2) rfl ?_);refine bx_ 2 #[.int .i64 0,.int .i64 0,.int .i64 0,.slice none 0 0] 45 ?_;intro gr hg w1 hbox hb;have hge := ak (Nat.le_of_eq hg.symm);clear hg;refine hold_148 ?_)
 refine ⟨?_⟩
 have BR := ak (show Bk _ w1 gr _ from ⟨Nat.le_trans D.out.size hge.out,hbox⟩)
 have D := ak (D.out.below hb)
 clear hbox hb hge
 go_wp2_with ((with_reducible refine gcal_ (f := 91) rfl ?_);refine goesL_ (some 5) rfl rfl Try.func91 (by kernel_rfl) rfl #[.pointer (some ⟨g,0,none⟩),.int .i64 3] rfl (by (try simp only [List.map_toArray,List.map_cons,List.map_nil]);first|done|rfl) ?_;refine (below_any 3 (by decide) HL.out D.out).mono ?_;rintro e w2 ⟨x1,rfl,hl_,hu_,K⟩;refine ⟨_,rfl,?_⟩;refine hold_148 ?_)
 refine ⟨?_⟩
 have BR := ak (BR.out.dr D.out K)
 have D := ak (D.out.trans K)
 clear K
 have HLx1 := ak hl_
 have HUx1 := ak (hu_ (by decide))
 clear hl_ hu_
 go_wp2_with ((with_reducible refine gcal_ (f := 91) rfl ?_);refine goesL_ (some 8) rfl rfl Try.func91 (by kernel_rfl) rfl #[.pointer (some ⟨g,0,none⟩),.int .i64 9] rfl (by (try simp only [List.map_toArray,List.map_cons,List.map_nil]);first|done|rfl) ?_;refine (below_any 9 (by decide) HL.out D.out).mono ?_;rintro e w3 ⟨x2,rfl,hl_,hu_,K⟩;refine ⟨_,rfl,?_⟩;refine hold_148 ?_)
 refine ⟨?_⟩
 have BR := ak (BR.out.dr D.out K)
 have D := ak (D.out.trans K)
 clear K
 have HLx2 := ak hl_
 have HUx2 := ak (hu_ (by decide))
 clear hl_ hu_
 go_wp2_with ((with_reducible refine gcal_ (f := 91) rfl ?_);refine goesL_ (some 11) rfl rfl Try.func91 (by kernel_rfl) rfl #[.pointer (some ⟨g,0,none⟩),.int .i64 3] rfl (by (try simp only [List.map_toArray,List.map_cons,List.map_nil]);first|done|rfl) ?_;refine (below_any 3 (by decide) HL.out D.out).mono ?_;rintro e w4 ⟨x3,rfl,hl_,hu_,K⟩;refine ⟨_,rfl,?_⟩;refine hold_148 ?_)
 refine ⟨?_⟩
 have BR := ak (BR.out.dr D.out K)
 have D := ak (D.out.trans K)
 clear K
 have HLx3 := ak hl_
 have HUx3 := ak (hu_ (by decide))
 clear hl_ hu_
 go_wp2_with ((with_reducible refine gate_dst (N := 3) rfl ?_);refine bx_ 3 #[.int .i64 0,.int .i64 0,.int .i64 0,.slice none 0 0] 45 ?_;intro gs hg w5 hbox hb;have hge := ak (Nat.le_of_eq hg.symm);clear hg;refine hold_148 ?_)
 refine ⟨?_⟩
 have NEBRBS := ak (Nat.ne_of_lt (Nat.lt_of_lt_of_le (blk_lt BR.out.2) hge.out))
 have BS := ak (show Bk _ w5 gs _ from ⟨Nat.le_trans D.out.size hge.out,hbox⟩)
 have BR := ak (BR.out.below hb)
 have D := ak (D.out.below hb)
 clear hbox hb hge
 obtain ⟨⟨hc6_0,hc6_1,hc6_2,hc6_3⟩,hf6_0,hf6_1,hf6_2,hf6_3⟩ := cl4_ BS.out.2
 go_upto_region 2 with (fail)
 have KS := ak (kept4_ (W := w5) (b := gs) (.int .i64 (wrap64 (1 + x1))) (.int .i64 (wrap64 (1 + x2))) (.int .i64 x3) (.slice none 0 0))
 have D := ak (D.out.far4 BS.out.1 (.int .i64 (wrap64 (1 + x1))) (.int .i64 (wrap64 (1 + x2))) (.int .i64 x3) (.slice none 0 0))
 have BR := ak (BR.out.kept KS.out NEBRBS.out)
 have BS := ak (BS.out.put4 (.int .i64 (wrap64 (1 + x1))) (.int .i64 (wrap64 (1 + x2))) (.int .i64 x3) (.slice none 0 0))
 clear KS
 generalize ((((w5.setCell ⟨gs,0,none⟩ (.int .i64 (wrap64 (1 + x1)))).setCell ⟨gs,1,none⟩ (.int .i64 (wrap64 (1 + x2)))).setCell ⟨gs,2,none⟩ (.int .i64 x3)).setCell ⟨gs,3,none⟩ (.slice none 0 0)) = w7 at D BR BS ⊢
 generalize wrap64 (1 + x1) = y1 at BS
 generalize wrap64 (1 + x2) = y2 at BS
 obtain ⟨⟨hc8_0,hc8_1,hc8_2,hc8_3⟩,hf8_0,hf8_1,hf8_2,hf8_3⟩ := cl4_ BS.out.2
 go_wp2_with ((with_reducible refine gcal_ (f := 161) rfl ?_);refine goesL_ (some 16) rfl rfl Try.func161 (by kernel_rfl) rfl #[.pointer (some ⟨g,0,none⟩),.int .i64 x3] rfl (by (try simp only [List.map_toArray,List.map_cons,List.map_nil]);first|done|rfl) ?_;refine (drawSets_any x3 HL.out D.out.self).mono ?_;rintro e w9 ⟨v_,ys,rfl,T,hyl,K⟩;refine ⟨_,rfl,?_⟩;refine hold_148 ?_)
 refine ⟨?_⟩
 have BR := ak (BR.out.dr D.out K)
 have BS := ak (BS.out.dr D.out K)
 have T := Kd.R_lower T D.out.size
 have D := ak (D.out.trans K)
 clear K
 have T := ak T
 have HY := ak hyl
 clear hyl
 obtain ⟨Ays,cys,eys⟩ := Kd.R_slice T.out
 subst eys
 obtain ⟨⟨hc10_0,hc10_1,hc10_2,hc10_3⟩,hf10_0,hf10_1,hf10_2,hf10_3⟩ := cl4_ BS.out.2
 go_upto_region 3 with (fail)
 have KS := ak (kept1_ (W := w9) (b := gs) 3 (.slice Ays ys.length cys))
 have D := ak (D.out.far (p := ⟨gs,3,none⟩) BS.out.1 (.slice Ays ys.length cys))
 have T := ak (R_off T.out BS.out.2 (by decide) KS.out)
 have BR := ak (BR.out.kept KS.out NEBRBS.out)
 have BS := ak (BS.out.put1 3 (.slice Ays ys.length cys) (cs' := #[.int .i64 y1,.int .i64 y2,.int .i64 x3,.slice Ays ys.length cys]) rfl)
 clear KS
 generalize (w9.setCell ⟨gs,3,none⟩ (.slice Ays ys.length cys)) = w11 at D T BR BS ⊢
 obtain ⟨⟨hc12_0,hc12_1,hc12_2,hc12_3⟩,hf12_0,hf12_1,hf12_2,hf12_3⟩ := cl4_ BS.out.2
 by_cases hy0 : ys.length = 0
 case' neg =>
  have hyb : ((ys.length : Int) == 0) = false := beq_eq_false_iff_ne.mpr (by omega)
  clear hy0
  go_upto_region 5 with (fail)
  clear hyb
  obtain ⟨wj,hw_⟩ : ∃ z_,z_ = w11 := ⟨_,rfl⟩
  subst hw_
 case' pos =>
  have hyb : ((ys.length : Int) == 0) = true := beq_iff_eq.mpr (by omega)
  clear hy0
  go_wp2_with (go_at_call 90;refine (once_any 6 (by decide) HL.out D.out).mono ?_;rintro e w13 ⟨x4,rfl,K⟩;(try dsimp only);refine hold_148 ?_)
  refine ⟨?_⟩
  have BR := ak (BR.out.dr D.out K)
  have BS := ak (BS.out.dr D.out K)
  have T := ak (R_dr T.out D.out K)
  have D := ak (D.out.trans K)
  clear K
  cases x4
  case' true =>
   go_upto_region 5 with (fail)
   obtain ⟨wj,hw_⟩ : ∃ z_,z_ = w13 := ⟨_,rfl⟩
   subst hw_
  case' false =>
   obtain ⟨⟨hc14_0,hc14_1,hc14_2,hc14_3⟩,hf14_0,hf14_1,hf14_2,hf14_3⟩ := cl4_ BS.out.2
   obtain ⟨ys,hys⟩ : ∃ y_ : List S127,y_ = ([(⟨x3,2,7,true,1⟩ : S127)] : List S127) := ⟨_,rfl⟩
   have Nys := ak hys
   clear hys
   go_wp2_with ((with_reducible refine gate_dst (N := 30) rfl ?_);refine Kd.R_lit k127 _ 127 ?hg (N := 30) ?hd (xs := ([(⟨x3,2,7,true,1⟩ : S127)] : List S127)) (inner := [.int .i64 x3,.int .i64 2,.int .i64 7,.bool true,.int .i64 1]) (ok := fun _ => True) (okp := fun _ => True) ?hr ?hp (fun _ hk => hk) trivial (Below.refl _ _) (Nat.le_refl _) (by simp) ?_;(case hd => rfl);(case hg => rfl);(case hr => first|(go_simp;done)|(go_simp;rfl));(case hp => exact (Reps.c5 (show Kd.M k127 _ _ _ (⟨x3,2,7,true,1⟩ : S127) [.int .i64 x3,.int .i64 2,.int .i64 7,.bool true,.int .i64 1] from (k127_mkM _ _ _ (⟨x3,2,7,true,1⟩ : S127))) (Reps.none _ _)));intro v_ w15 ho hb hg_ hnew_;clear hg_ hnew_;refine hold_148 ?_)
   refine ⟨?_⟩
   rw [← Nys.out] at ho
   have T := ak (Kd.R_lower ho D.out.size)
   have BR := ak (BR.out.below hb)
   have BS := ak (BS.out.below hb)
   have D := ak (D.out.below hb)
   clear ho hb
   have Yys : Aside0 (ys.length = 1) := ⟨by rw [Nys.out];rfl⟩
   clear Nys
   obtain ⟨Ays,cys,eys⟩ := Kd.R_slice T.out
   subst eys
   obtain ⟨⟨hc16_0,hc16_1,hc16_2,hc16_3⟩,hf16_0,hf16_1,hf16_2,hf16_3⟩ := cl4_ BS.out.2
   go_upto_region 5 with (fail)
   have KS := ak (kept1_ (W := w15) (b := gs) 3 (.slice Ays ys.length cys))
   have D := ak (D.out.far (p := ⟨gs,3,none⟩) BS.out.1 (.slice Ays ys.length cys))
   have T := ak (R_off T.out BS.out.2 (by decide) KS.out)
   have BR := ak (BR.out.kept KS.out NEBRBS.out)
   have BS := ak (BS.out.put1 3 (.slice Ays ys.length cys) (cs' := #[.int .i64 y1,.int .i64 y2,.int .i64 x3,.slice Ays ys.length cys]) rfl)
   clear KS
   generalize (w15.setCell ⟨gs,3,none⟩ (.slice Ays ys.length cys)) = w17 at D T BR BS ⊢
   have HY : Aside0 (ys.length ≤ 7) := ⟨by have := Yys.out;omega⟩
   obtain ⟨wj,hw_⟩ : ∃ z_,z_ = w17 := ⟨_,rfl⟩
   subst hw_
 all_goals
  go_wp2_with ((with_reducible refine gcal_ (f := 90) rfl ?_);refine goesL_ (some 33) rfl rfl Try.func90 (by kernel_rfl) rfl #[.pointer (some ⟨g,0,none⟩),.int .i64 14] rfl (by (try simp only [List.map_toArray,List.map_cons,List.map_nil]);first|done|rfl) ?_;refine (once_any 14 (by decide) HL.out D.out).mono ?_;rintro e w18 ⟨x5,rfl,K⟩;refine ⟨_,rfl,?_⟩;refine hold_148 ?_)
  refine ⟨?_⟩
  have BR := ak (BR.out.dr D.out K)
  have BS := ak (BS.out.dr D.out K)
  have T := ak (R_dr T.out D.out K)
  have D := ak (D.out.trans K)
  clear K
  cases x5 with
    | false =>
   obtain ⟨⟨hc19_0,hc19_1,hc19_2,hc19_3⟩,hf19_0,hf19_1,hf19_2,hf19_3⟩ := cl4_ BS.out.2
   obtain ⟨⟨hc20_0,hc20_1,hc20_2,hc20_3⟩,hf20_0,hf20_1,hf20_2,hf20_3⟩ := cl4_ BR.out.2
   go_wp2
   refine bodyPost_ret (results_cell_row rfl _ _ gr 45 #[.int .i64 y1,.int .i64 y2,.int .i64 x3,.slice Ays ys.length cys] (0,0) _ rfl (put4_ BR.out.2 _ _ _ _) Try.underlying45 rfl (by kernel_rfl)) rfl ?_
   exact ⟨_,_,_,_,ys,by first|rfl|(simp;done),R_off T.out BR.out.2 (by decide) (kept4_ _ _ _ _),HY.out,D.out.far4 BR.out.1 _ _ _ _⟩
    | true =>
   go_wp2_with ((with_reducible refine gcal_ (f := 91) rfl ?_);refine goesL_ (some 35) rfl rfl Try.func91 (by kernel_rfl) rfl #[.pointer (some ⟨g,0,none⟩),.int .i64 3] rfl (by (try simp only [List.map_toArray,List.map_cons,List.map_nil]);first|done|rfl) ?_;refine (below_any 3 (by decide) HL.out D.out).mono ?_;rintro e w21 ⟨x6,rfl,hl_,hu_,K⟩;refine ⟨_,rfl,?_⟩;refine hold_148 ?_)
   refine ⟨?_⟩
   have BR := ak (BR.out.dr D.out K)
   have BS := ak (BS.out.dr D.out K)
   have T := ak (R_dr T.out D.out K)
   have D := ak (D.out.trans K)
   clear K
   have HLx6 := ak hl_
   have HUx6 := ak (hu_ (by decide))
   clear hl_ hu_
   by_cases cs0 : x6 = 0
   ·subst cs0
    obtain ⟨y,hy⟩ : ∃ y_ : List Int,y_ = ([0,4,(-9223372036854775808)] : List Int) := ⟨_,rfl⟩
    have Ny := ak hy
    clear hy
    go_wp2_with ((with_reducible refine gate_dst (N := 38) rfl ?_);refine Kd.R_lit (Kd.int .i64) _ 2 ?hg (N := 38) ?hd (xs := ([0,4,(-9223372036854775808)] : List Int)) (inner := [.int .i64 0,.int .i64 4,.int .i64 (-9223372036854775808)]) (ok := fun _ => True) (okp := fun _ => True) ?hr ?hp (fun _ hk => hk) trivial (Below.refl _ _) (Nat.le_refl _) (by simp) ?_;(case hd => rfl);(case hg => rfl);(case hr => first|(go_simp;done)|(go_simp;rfl));(case hp => exact (Reps.one (show Kd.M (Kd.int .i64) _ _ _ 0 [.int .i64 0] from rfl) (Reps.one (show Kd.M (Kd.int .i64) _ _ _ 4 [.int .i64 4] from rfl) (Reps.one (show Kd.M (Kd.int .i64) _ _ _ (-9223372036854775808) [.int .i64 (-9223372036854775808)] from rfl) (Reps.none _ _)))));intro v_ w22 ho hb hg_ hnew_;clear hg_ hnew_;refine hold_148 ?_)
    refine ⟨?_⟩
    rw [← Ny.out] at ho
    have TL := ak (Kd.R_lower ho D.out.size)
    have BR := ak (BR.out.below hb)
    have BS := ak (BS.out.below hb)
    have T := ak (Kd.R_below T.out hb)
    have D := ak (D.out.below hb)
    clear ho hb
    obtain ⟨Ay,cy,ey⟩ := Kd.R_slice TL.out
    subst ey
    go_wp2_with ((with_reducible refine gcal_ (f := 91) rfl ?_);refine goesL_ (some 40) rfl rfl Try.func91 (by kernel_rfl) rfl #[.pointer (some ⟨g,0,none⟩),.int .i64 3] rfl (by (try simp only [List.map_toArray,List.map_cons,List.map_nil]);first|done|rfl) ?_;refine (below_any 3 (by decide) HL.out D.out).mono ?_;rintro e w23 ⟨x7,rfl,hl_,hu_,K⟩;refine ⟨_,rfl,?_⟩;refine hold_148 ?_)
    refine ⟨?_⟩
    have BR := ak (BR.out.dr D.out K)
    have BS := ak (BS.out.dr D.out K)
    have T := ak (R_dr T.out D.out K)
    have TL := ak (R_dr TL.out D.out K)
    have D := ak (D.out.trans K)
    clear K
    have HLx7 := ak hl_
    have HUx7 := ak (hu_ (by decide))
    clear hl_ hu_
    have Qx7 : Aside0 (x7 < (y.length : Int)) := ⟨by rw [Ny.out];exact HUx7.out⟩
    obtain ⟨adx7,eax7,hxx7⟩ := Kd.at_int (Kd.R_reads' TL.out).2.2 x7 HLx7.out Qx7.out
    subst eax7
    have pxx7 : (0 ≤ x7) = True := eq_true HLx7.out
    have qxx7 : (x7 < (y.length : Int)) = True := eq_true Qx7.out
    obtain ⟨⟨hc24_0,hc24_1,hc24_2,hc24_3⟩,hf24_0,hf24_1,hf24_2,hf24_3⟩ := cl4_ BS.out.2
    go_upto_region 13 with (fail)
    have KS := ak (kept1_ (W := w23) (b := gs) 0 (.int .i64 (rd y x7)))
    have D := ak (D.out.far (p := ⟨gs,0,none⟩) BS.out.1 (.int .i64 (rd y x7)))
    have T := ak (R_off T.out BS.out.2 (by decide) KS.out)
    have BR := ak (BR.out.kept KS.out NEBRBS.out)
    have BS := ak (BS.out.put1 0 (.int .i64 (rd y x7)) (cs' := #[.int .i64 (rd y x7),.int .i64 y2,.int .i64 x3,.slice Ays ys.length cys]) rfl)
    clear KS
    generalize (w23.setCell ⟨gs,0,none⟩ (.int .i64 (rd y x7))) = w25 at D T BR BS ⊢
    obtain ⟨⟨hc26_0,hc26_1,hc26_2,hc26_3⟩,hf26_0,hf26_1,hf26_2,hf26_3⟩ := cl4_ BS.out.2
    obtain ⟨⟨hc27_0,hc27_1,hc27_2,hc27_3⟩,hf27_0,hf27_1,hf27_2,hf27_3⟩ := cl4_ BR.out.2
    go_wp2
    refine bodyPost_ret (results_cell_row rfl _ _ gr 45 #[.int .i64 (rd y x7),.int .i64 y2,.int .i64 x3,.slice Ays ys.length cys] (0,0) _ rfl (put4_ BR.out.2 _ _ _ _) Try.underlying45 rfl (by kernel_rfl)) rfl ?_
    exact ⟨_,_,_,_,ys,by first|rfl|(simp;done),R_off T.out BR.out.2 (by decide) (kept4_ _ _ _ _),HY.out,D.out.far4 BR.out.1 _ _ _ _⟩
   have csb0 : (x6 == 0) = false := beq_eq_false_iff_ne.mpr cs0
   have NC0 := ak cs0
   clear cs0
   by_cases cs1 : x6 = 1
   ·subst cs1
    obtain ⟨y,hy⟩ : ∃ y_ : List Int,y_ = ([0,1000000,1000001,(-9223372036854775808)] : List Int) := ⟨_,rfl⟩
    have Ny := ak hy
    clear hy
    go_wp2_with ((with_reducible refine gate_dst (N := 46) rfl ?_);refine Kd.R_lit (Kd.int .i64) _ 2 ?hg (N := 46) ?hd (xs := ([0,1000000,1000001,(-9223372036854775808)] : List Int)) (inner := [.int .i64 0,.int .i64 1000000,.int .i64 1000001,.int .i64 (-9223372036854775808)]) (ok := fun _ => True) (okp := fun _ => True) ?hr ?hp (fun _ hk => hk) trivial (Below.refl _ _) (Nat.le_refl _) (by simp) ?_;(case hd => rfl);(case hg => rfl);(case hr => first|(go_simp;done)|(go_simp;rfl));(case hp => exact (Reps.one (show Kd.M (Kd.int .i64) _ _ _ 0 [.int .i64 0] from rfl) (Reps.one (show Kd.M (Kd.int .i64) _ _ _ 1000000 [.int .i64 1000000] from rfl) (Reps.one (show Kd.M (Kd.int .i64) _ _ _ 1000001 [.int .i64 1000001] from rfl) (Reps.one (show Kd.M (Kd.int .i64) _ _ _ (-9223372036854775808) [.int .i64 (-9223372036854775808)] from rfl) (Reps.none _ _))))));intro v_ w28 ho hb hg_ hnew_;clear hg_ hnew_;refine hold_148 ?_)
    refine ⟨?_⟩
    rw [← Ny.out] at ho
    have TL := ak (Kd.R_lower ho D.out.size)
    have BR := ak (BR.out.below hb)
    have BS := ak (BS.out.below hb)
    have T := ak (Kd.R_below T.out hb)
    have D := ak (D.out.below hb)
    clear ho hb
    obtain ⟨Ay,cy,ey⟩ := Kd.R_slice TL.out
    subst ey
    go_wp2_with ((with_reducible refine gcal_ (f := 91) rfl ?_);refine goesL_ (some 48) rfl rfl Try.func91 (by kernel_rfl) rfl #[.pointer (some ⟨g,0,none⟩),.int .i64 4] rfl (by (try simp only [List.map_toArray,List.map_cons,List.map_nil]);first|done|rfl) ?_;refine (below_any 4 (by decide) HL.out D.out).mono ?_;rintro e w29 ⟨x7,rfl,hl_,hu_,K⟩;refine ⟨_,rfl,?_⟩;refine hold_148 ?_)
    refine ⟨?_⟩
    have BR := ak (BR.out.dr D.out K)
    have BS := ak (BS.out.dr D.out K)
    have T := ak (R_dr T.out D.out K)
    have TL := ak (R_dr TL.out D.out K)
    have D := ak (D.out.trans K)
    clear K
    have HLx7 := ak hl_
    have HUx7 := ak (hu_ (by decide))
    clear hl_ hu_
    have Qx7 : Aside0 (x7 < (y.length : Int)) := ⟨by rw [Ny.out];exact HUx7.out⟩
    obtain ⟨adx7,eax7,hxx7⟩ := Kd.at_int (Kd.R_reads' TL.out).2.2 x7 HLx7.out Qx7.out
    subst eax7
    have pxx7 : (0 ≤ x7) = True := eq_true HLx7.out
    have qxx7 : (x7 < (y.length : Int)) = True := eq_true Qx7.out
    obtain ⟨⟨hc30_0,hc30_1,hc30_2,hc30_3⟩,hf30_0,hf30_1,hf30_2,hf30_3⟩ := cl4_ BS.out.2
    go_upto_region 13 with (fail)
    have KS := ak (kept1_ (W := w29) (b := gs) 1 (.int .i64 (rd y x7)))
    have D := ak (D.out.far (p := ⟨gs,1,none⟩) BS.out.1 (.int .i64 (rd y x7)))
    have T := ak (R_off T.out BS.out.2 (by decide) KS.out)
    have BR := ak (BR.out.kept KS.out NEBRBS.out)
    have BS := ak (BS.out.put1 1 (.int .i64 (rd y x7)) (cs' := #[.int .i64 y1,.int .i64 (rd y x7),.int .i64 x3,.slice Ays ys.length cys]) rfl)
    clear KS
    generalize (w29.setCell ⟨gs,1,none⟩ (.int .i64 (rd y x7))) = w31 at D T BR BS ⊢
    obtain ⟨⟨hc32_0,hc32_1,hc32_2,hc32_3⟩,hf32_0,hf32_1,hf32_2,hf32_3⟩ := cl4_ BS.out.2
    obtain ⟨⟨hc33_0,hc33_1,hc33_2,hc33_3⟩,hf33_0,hf33_1,hf33_2,hf33_3⟩ := cl4_ BR.out.2
    go_wp2
    refine bodyPost_ret (results_cell_row rfl _ _ gr 45 #[.int .i64 y1,.int .i64 (rd y x7),.int .i64 x3,.slice Ays ys.length cys] (0,0) _ rfl (put4_ BR.out.2 _ _ _ _) Try.underlying45 rfl (by kernel_rfl)) rfl ?_
    exact ⟨_,_,_,_,ys,by first|rfl|(simp;done),R_off T.out BR.out.2 (by decide) (kept4_ _ _ _ _),HY.out,D.out.far4 BR.out.1 _ _ _ _⟩
   have csb1 : (x6 == 1) = false := beq_eq_false_iff_ne.mpr cs1
   have NC1 := ak cs1
   clear cs1
   by_cases cs2 : x6 = 2
   ·subst cs2
    obtain ⟨y,hy⟩ : ∃ y_ : List Int,y_ = ([(-1),5,6,(-9223372036854775808)] : List Int) := ⟨_,rfl⟩
    have Ny := ak hy
    clear hy
    go_wp2_with ((with_reducible refine gate_dst (N := 54) rfl ?_);refine Kd.R_lit (Kd.int .i64) _ 2 ?hg (N := 54) ?hd (xs := ([(-1),5,6,(-9223372036854775808)] : List Int)) (inner := [.int .i64 (-1),.int .i64 5,.int .i64 6,.int .i64 (-9223372036854775808)]) (ok := fun _ => True) (okp := fun _ => True) ?hr ?hp (fun _ hk => hk) trivial (Below.refl _ _) (Nat.le_refl _) (by simp) ?_;(case hd => rfl);(case hg => rfl);(case hr => first|(go_simp;done)|(go_simp;rfl));(case hp => exact (Reps.one (show Kd.M (Kd.int .i64) _ _ _ (-1) [.int .i64 (-1)] from rfl) (Reps.one (show Kd.M (Kd.int .i64) _ _ _ 5 [.int .i64 5] from rfl) (Reps.one (show Kd.M (Kd.int .i64) _ _ _ 6 [.int .i64 6] from rfl) (Reps.one (show Kd.M (Kd.int .i64) _ _ _ (-9223372036854775808) [.int .i64 (-9223372036854775808)] from rfl) (Reps.none _ _))))));intro v_ w34 ho hb hg_ hnew_;clear hg_ hnew_;refine hold_148 ?_)
    refine ⟨?_⟩
    rw [← Ny.out] at ho
    have TL := ak (Kd.R_lower ho D.out.size)
    have BR := ak (BR.out.below hb)
    have BS := ak (BS.out.below hb)
    have T := ak (Kd.R_below T.out hb)
    have D := ak (D.out.below hb)
    clear ho hb
    obtain ⟨Ay,cy,ey⟩ := Kd.R_slice TL.out
    subst ey
    go_wp2_with ((with_reducible refine gcal_ (f := 91) rfl ?_);refine goesL_ (some 56) rfl rfl Try.func91 (by kernel_rfl) rfl #[.pointer (some ⟨g,0,none⟩),.int .i64 4] rfl (by (try simp only [List.map_toArray,List.map_cons,List.map_nil]);first|done|rfl) ?_;refine (below_any 4 (by decide) HL.out D.out).mono ?_;rintro e w35 ⟨x7,rfl,hl_,hu_,K⟩;refine ⟨_,rfl,?_⟩;refine hold_148 ?_)
    refine ⟨?_⟩
    have BR := ak (BR.out.dr D.out K)
    have BS := ak (BS.out.dr D.out K)
    have T := ak (R_dr T.out D.out K)
    have TL := ak (R_dr TL.out D.out K)
    have D := ak (D.out.trans K)
    clear K
    have HLx7 := ak hl_
    have HUx7 := ak (hu_ (by decide))
    clear hl_ hu_
    have Qx7 : Aside0 (x7 < (y.length : Int)) := ⟨by rw [Ny.out];exact HUx7.out⟩
    obtain ⟨adx7,eax7,hxx7⟩ := Kd.at_int (Kd.R_reads' TL.out).2.2 x7 HLx7.out Qx7.out
    subst eax7
    have pxx7 : (0 ≤ x7) = True := eq_true HLx7.out
    have qxx7 : (x7 < (y.length : Int)) = True := eq_true Qx7.out
    obtain ⟨⟨hc36_0,hc36_1,hc36_2,hc36_3⟩,hf36_0,hf36_1,hf36_2,hf36_3⟩ := cl4_ BS.out.2
    go_upto_region 13 with (fail)
    have KS := ak (kept1_ (W := w35) (b := gs) 2 (.int .i64 (rd y x7)))
    have D := ak (D.out.far (p := ⟨gs,2,none⟩) BS.out.1 (.int .i64 (rd y x7)))
    have T := ak (R_off T.out BS.out.2 (by decide) KS.out)
    have BR := ak (BR.out.kept KS.out NEBRBS.out)
    have BS := ak (BS.out.put1 2 (.int .i64 (rd y x7)) (cs' := #[.int .i64 y1,.int .i64 y2,.int .i64 (rd y x7),.slice Ays ys.length cys]) rfl)
    clear KS
    generalize (w35.setCell ⟨gs,2,none⟩ (.int .i64 (rd y x7))) = w37 at D T BR BS ⊢
    obtain ⟨⟨hc38_0,hc38_1,hc38_2,hc38_3⟩,hf38_0,hf38_1,hf38_2,hf38_3⟩ := cl4_ BS.out.2
    obtain ⟨⟨hc39_0,hc39_1,hc39_2,hc39_3⟩,hf39_0,hf39_1,hf39_2,hf39_3⟩ := cl4_ BR.out.2
    go_wp2
    refine bodyPost_ret (results_cell_row rfl _ _ gr 45 #[.int .i64 y1,.int .i64 y2,.int .i64 (rd y x7),.slice Ays ys.length cys] (0,0) _ rfl (put4_ BR.out.2 _ _ _ _) Try.underlying45 rfl (by kernel_rfl)) rfl ?_
    exact ⟨_,_,_,_,ys,by first|rfl|(simp;done),R_off T.out BR.out.2 (by decide) (kept4_ _ _ _ _),HY.out,D.out.far4 BR.out.1 _ _ _ _⟩
   have csb2 : (x6 == 2) = false := beq_eq_false_iff_ne.mpr cs2
   have NC2 := ak cs2
   clear cs2
   exfalso
   have h0_ := HLx6.out
   have h1_ := HUx6.out
   have n0_ := NC0.out
   have n1_ := NC1.out
   have n2_ := NC2.out
   omega


open Go.Proofs.Ythplaakckfhaaaa.Gen
/-! ### drawAny_any: function 149 -/
theorem hold_149 {p : Prop} (h : Aside0 p) : p := h.out
set_option maxHeartbeats 8000000 in
set_option maxRecDepth 100000 in
theorem drawAny_any {w0 w : World} {g : Nat} {l : List Int}  (hl : l.length ≤ maxLen) (D0 : Dr w0 w g l w) :
    Calls Try.prog 149 #[.pointer (some ⟨g, 0, none⟩)] w fun e w' => ∃ (v : Value) (xs : List S92), e = .returned v ∧ Kd.Q k92 92 w' w.heap.size (fun _ => True) v xs ∧ xs.length ≤ 6 ∧ Dr w0 w g l w' := by
 have hu := Try.underlying92
 have hu2 := Try.underlying36
 have D := ak D0
 have HL := ak hl
 clear D0 hl
 go_enter Try.func149,Try.ntmps149
 go_wp2_with ((with_reducible refine gcal_ (f := 147) rfl ?_);refine goesL_ (some 6) rfl rfl Try.func147 (by kernel_rfl) rfl #[.pointer (some ⟨g,0,none⟩)] rfl (by (try simp only [List.map_toArray,List.map_cons,List.map_nil]);first|done|rfl) ?_;refine (draw3_any HL.out D.out.self).mono ?_;rintro e w1 ⟨v_,xs,rfl,T,hx,K⟩;refine ⟨_,rfl,?_⟩;refine hold_149 ?_)
 refine ⟨?_⟩
 have T := Kd.R_lower T D.out.size
 have D := ak (D.out.trans K)
 clear K
 have T := ak T
 obtain ⟨ga,ca,ev,hga,_,_⟩ := Kd.R_form T.out (by omega)
 rw [hx] at ev
 subst ev
 clear hga
 go_wp2_with ((with_reducible refine gcal_ (f := 90) rfl ?_);refine goesL_ (some 8) rfl rfl Try.func90 (by kernel_rfl) rfl #[.pointer (some ⟨g,0,none⟩),.int .i64 12] rfl (by (try simp only [List.map_toArray,List.map_cons,List.map_nil]);first|done|rfl) ?_;refine (once_any 12 (by decide) HL.out D.out).mono ?_;rintro e w2 ⟨x1,rfl,K⟩;refine ⟨_,rfl,?_⟩;refine hold_149 ?_)
 refine ⟨?_⟩
 have T := ak (R_dr T.out D.out K)
 have D := ak (D.out.trans K)
 clear K
 cases x1 with
  | false =>
  go_wp2
  go_ret
  exact ⟨_,xs,by first|rfl|(simp;done),Kd.Q_of_R T.out,Nat.le_of_eq hx,D.out⟩
  | true =>
  go_wp2_with ((with_reducible refine gcal_ (f := 91) rfl ?_);refine goesL_ (some 10) rfl rfl Try.func91 (by kernel_rfl) rfl #[.pointer (some ⟨g,0,none⟩),.int .i64 6] rfl (by (try simp only [List.map_toArray,List.map_cons,List.map_nil]);first|done|rfl) ?_;refine (below_any 6 (by decide) HL.out D.out).mono ?_;rintro e w3 ⟨kx,rfl,hl_,hu_,K⟩;refine ⟨_,rfl,?_⟩;refine hold_149 ?_)
  refine ⟨?_⟩
  have T := ak (R_dr T.out D.out K)
  have D := ak (D.out.trans K)
  clear K
  have HLkx := ak hl_
  have HUkx := ak (hu_ (by decide))
  clear hl_ hu_
  obtain ⟨i,hik⟩ : ∃ i : Nat,kx = (i : Int) := ⟨kx.toNat,by have := HLkx.out;omega⟩
  subst hik
  have hi6 : i < 6 := by have := HUkx.out;omega
  go_wp2_with ((with_reducible refine gcal_ (f := 91) rfl ?_);refine goesL_ (some 12) rfl rfl Try.func91 (by kernel_rfl) rfl #[.pointer (some ⟨g,0,none⟩),.int .i64 3] rfl (by (try simp only [List.map_toArray,List.map_cons,List.map_nil]);first|done|rfl) ?_;refine (below_any 3 (by decide) HL.out D.out).mono ?_;rintro e w4 ⟨x6,rfl,hl_,hu_,K⟩;refine ⟨_,rfl,?_⟩;refine hold_149 ?_)
  refine ⟨?_⟩
  have T := ak (R_dr T.out D.out K)
  have D := ak (D.out.trans K)
  clear K
  have HLx6 := ak hl_
  have HUx6 := ak (hu_ (by decide))
  clear hl_ hu_
  by_cases cs0 : x6 = 0
  ·subst cs0
   go_wp2_with ((with_reducible refine gcal_ (f := 162) rfl ?_);refine goesL_ (some 18) rfl rfl Try.func162 (by kernel_rfl) rfl #[.pointer (some ⟨g,0,none⟩)] rfl (by (try simp only [List.map_toArray,List.map_cons,List.map_nil]);first|done|rfl) ?_;refine (drawHead_any HL.out D.out.self).mono ?_;rintro e w5 ⟨hv,rfl,K⟩;refine ⟨_,rfl,?_⟩;refine hold_149 ?_)
   refine ⟨?_⟩
   have T := ak (R_dr T.out D.out K)
   have D := ak (D.out.trans K)
   clear K
   obtain ⟨⟨ua,hua⟩,⟨ub,hub⟩,hfa,hfb,P0,P1⟩ := cell_put T.out i (by omega)
   have pxi : (0 ≤ (i : Int)) = True := eq_true (by omega)
   have qxi : ((i : Int) < 6) = True := eq_true (by omega)
   have qxn : (i < 6) = True := eq_true (by omega)
   go_upto_region 11 with (fail)
   obtain ⟨zs,hzs,T_⟩ := P0 hv
   have D := ak (D.out.far (p := ⟨ga,i * 2,none⟩) (Kd.R_base T.out ga rfl) (.int .i64 hv))
   have T := ak T_
   have hx : zs.length = 6 := hzs.trans hx
   clear T_ hzs hua hub hfa hfb P0 P1 pxi qxi qxn
   generalize (w5.setCell ⟨ga,i * 2,none⟩ (.int .i64 hv)) = w6 at D T ⊢
   obtain ⟨xs,hxq⟩ : ∃ y_,y_ = zs := ⟨_,rfl⟩
   subst hxq
   go_wp2
   go_ret
   exact ⟨_,xs,by first|rfl|(simp;done),Kd.Q_of_R T.out,Nat.le_of_eq hx,D.out⟩
  have csb0 : (x6 == 0) = false := beq_eq_false_iff_ne.mpr cs0
  have NC0 := ak cs0
  clear cs0
  by_cases cs1 : x6 = 1
  ·subst cs1
   obtain ⟨y,hy⟩ : ∃ y_ : List Int,y_ = ([1000000000,1000000001,(-1000000001),5] : List Int) := ⟨_,rfl⟩
   have Ny := ak hy
   clear hy
   go_wp2_with ((with_reducible refine gate_dst (N := 25) rfl ?_);refine Kd.R_lit (Kd.int .i64) _ 2 ?hg (N := 25) ?hd (xs := ([1000000000,1000000001,(-1000000001),5] : List Int)) (inner := [.int .i64 1000000000,.int .i64 1000000001,.int .i64 (-1000000001),.int .i64 5]) (ok := fun _ => True) (okp := fun _ => True) ?hr ?hp (fun _ hk => hk) trivial (Below.refl _ _) (Nat.le_refl _) (by simp) ?_;(case hd => rfl);(case hg => rfl);(case hr => first|(go_simp;done)|(go_simp;rfl));(case hp => exact (Reps.one (show Kd.M (Kd.int .i64) _ _ _ 1000000000 [.int .i64 1000000000] from rfl) (Reps.one (show Kd.M (Kd.int .i64) _ _ _ 1000000001 [.int .i64 1000000001] from rfl) (Reps.one (show Kd.M (Kd.int .i64) _ _ _ (-1000000001) [.int .i64 (-1000000001)] from rfl) (Reps.one (show Kd.M (Kd.int .i64) _ _ _ 5 [.int .i64 5] from rfl) (Reps.none _ _))))));intro v_ w7 ho hb hg_ hnew_;clear hg_ hnew_;refine hold_149 ?_)
   refine ⟨?_⟩
   rw [← Ny.out] at ho
   have TL := ak (Kd.R_lower ho D.out.size)
   have T := ak (Kd.R_below T.out hb)
   have D := ak (D.out.below hb)
   clear ho hb
   obtain ⟨Ay,cy,ey⟩ := Kd.R_slice TL.out
   subst ey
   go_wp2_with ((with_reducible refine gcal_ (f := 91) rfl ?_);refine goesL_ (some 27) rfl rfl Try.func91 (by kernel_rfl) rfl #[.pointer (some ⟨g,0,none⟩),.int .i64 4] rfl (by (try simp only [List.map_toArray,List.map_cons,List.map_nil]);first|done|rfl) ?_;refine (below_any 4 (by decide) HL.out D.out).mono ?_;rintro e w8 ⟨x7,rfl,hl_,hu_,K⟩;refine ⟨_,rfl,?_⟩;refine hold_149 ?_)
   refine ⟨?_⟩
   have T := ak (R_dr T.out D.out K)
   have TL := ak (R_dr TL.out D.out K)
   have D := ak (D.out.trans K)
   clear K
   have HLx7 := ak hl_
   have HUx7 := ak (hu_ (by decide))
   clear hl_ hu_
   have Qx7 : Aside0 (x7 < (y.length : Int)) := ⟨by rw [Ny.out];exact HUx7.out⟩
   obtain ⟨adx7,eax7,hxx7⟩ := Kd.at_int (Kd.R_reads' TL.out).2.2 x7 HLx7.out Qx7.out
   subst eax7
   have pxx7 : (0 ≤ x7) = True := eq_true HLx7.out
   have qxx7 : (x7 < (y.length : Int)) = True := eq_true Qx7.out
   obtain ⟨⟨ua,hua⟩,⟨ub,hub⟩,hfa,hfb,P0,P1⟩ := cell_put T.out i (by omega)
   have pxi : (0 ≤ (i : Int)) = True := eq_true (by omega)
   have qxi : ((i : Int) < 6) = True := eq_true (by omega)
   have qxn : (i < 6) = True := eq_true (by omega)
   go_upto_region 11 with (fail)
   obtain ⟨zs,hzs,T_⟩ := P1 (rd y x7)
   have D := ak (D.out.far (p := ⟨ga,i * 2 + 1,none⟩) (Kd.R_base T.out ga rfl) (.int .i64 (rd y x7)))
   have T := ak T_
   have hx : zs.length = 6 := hzs.trans hx
   clear T_ hzs hua hub hfa hfb P0 P1 pxi qxi qxn
   generalize (w8.setCell ⟨ga,i * 2 + 1,none⟩ (.int .i64 (rd y x7))) = w9 at D T ⊢
   obtain ⟨xs,hxq⟩ : ∃ y_,y_ = zs := ⟨_,rfl⟩
   subst hxq
   go_wp2
   go_ret
   exact ⟨_,xs,by first|rfl|(simp;done),Kd.Q_of_R T.out,Nat.le_of_eq hx,D.out⟩
  have csb1 : (x6 == 1) = false := beq_eq_false_iff_ne.mpr cs1
  have NC1 := ak cs1
  clear cs1
  by_cases cs2 : x6 = 2
  ·subst cs2
   obtain ⟨i0,hi0,_,hsz0,_⟩ := info_parts info92
   have hcut := cut_from (P := Try.prog) 36 92 .i64 Try.underlying36 hi0 2 hsz0 (some ⟨ga,0,none⟩) 6 ca (1 : Int) (by omega) (by omega)
   rw [show ((1 : Int)).toNat = 1 from rfl] at hcut
   have TQ := Kd.Q_drop (Kd.Q_of_R T.out) (k := 1) (by omega)
   have hcp := (Kd.R_reads' T.out).2.1
   have hca : ¬ ca = 1 := by omega
   rw [if_neg hca] at hcut TQ
   have TQ := ak TQ
   clear hcp
   have hle : (xs.drop 1).length ≤ 6 := by rw [List.length_drop];omega
   go_wp2
   go_ret
   exact ⟨_,xs.drop 1,by first|rfl|(simp;done),TQ.out,hle,D.out⟩
  have csb2 : (x6 == 2) = false := beq_eq_false_iff_ne.mpr cs2
  have NC2 := ak cs2
  clear cs2
  exfalso
  have h0_ := HLx6.out
  have h1_ := HUx6.out
  have n0_ := NC0.out
  have n1_ := NC1.out
  have n2_ := NC2.out
  omega


end Go.Proofs.Ythplaakckfhaaaa.XCd
