/- Proved: a call of each Go function here comes to what its Lean function tells. -/
import Derived.Test.YthplaakckfhaaaaGreatXMs0
import Derived.Test.YthplaakckfhaaaaGreatXMs10
namespace Go.Proofs.YthplaakckfhaaaaGreat.XMs
open Go.RowKit Go.Proofs.YthplaakckfhaaaaGreat.Aid Go.Proofs.YthplaakckfhaaaaGreatW.PrintWords Go.Proofs.YthplaakckfhaaaaGreatW.PrintLast Go.Proofs.YthplaakckfhaaaaGreatW.PrintMore
set_option linter.unusedVariables false
set_option maxHeartbeats 8000000
set_option maxRecDepth 100000
set_option linter.unusedSimpArgs false

open Go.Proofs.YthplaakckfhaaaaGreat.Gen
/-! ### drawSet_any: function 138 -/
theorem hold_138 {p : Prop} (h : Aside0 p) : p := h.out
theorem drawSet_any {w0 w : World} {g : Nat} {l : List Int} (a1 : Int) (hl : l.length ≤ maxLen) (D0 : Dr w0 w g l w) :
    Calls Tryz.prog 138 #[.pointer (some ⟨g, 0, none⟩), .int .i64 a1] w fun e w' => ∃ (f0 f1 f2 : Int) (f3 : Bool) (f4 : Int), e = .returned (.agg #[.int .i64 f0, .int .i64 f1, .int .i64 f2, .bool f3, .int .i64 f4]) ∧ Dr w0 w g l w' := by
 have hu := Tryz.underlying119
 have D := ak D0
 have HL := ak hl
 clear D0 hl
 go_enter Tryz.func138,Tryz.ntmps138
 go_wp2_with ((with_reducible refine gate_dst (N := 4) rfl ?_);refine bx_ 4 #[.int .i64 0,.int .i64 0,.int .i64 0,.bool false,.int .i64 0] 119 ?_;intro gr hg w1 hbox hb;have hge := ak (Nat.le_of_eq hg.symm);clear hg;refine hold_138 ?_)
 refine ⟨?_⟩
 have BR := ak (show Bk _ w1 gr _ from ⟨Nat.le_trans D.out.size hge.out,hbox⟩)
 have D := ak (D.out.below hb)
 clear hbox hb hge
 go_wp2_with ((with_reducible refine gcal_ (f := 95) rfl ?_);refine gz_ (some 8) Tryz.func95 #[.pointer (some ⟨g,0,none⟩),.int .i64 6] ?_;refine (below_any 6 (by decide) HL.out D.out).mono ?_;rintro e w2 ⟨x1,rfl,hl_,hu_,K⟩;refine ⟨_,rfl,?_⟩;refine hold_138 ?_)
 refine ⟨?_⟩
 have BR := ak (BR.out.dr D.out K)
 have D := ak (D.out.trans K)
 clear K
 have HLx1 := ak hl_
 have HUx1 := ak (hu_ (by decide))
 clear hl_ hu_
 go_wp2_with ((with_reducible refine gcal_ (f := 132) rfl ?_);refine gz_ (some 10) Tryz.func132 #[.pointer (some ⟨g,0,none⟩),.int .i64 (-50),.int .i64 50] ?_;refine (from_any HL.out D.out).mono ?_;rintro e w3 ⟨x2,rfl,K⟩;refine ⟨_,rfl,?_⟩;refine hold_138 ?_)
 refine ⟨?_⟩
 have BR := ak (BR.out.dr D.out K)
 have D := ak (D.out.trans K)
 clear K
 go_wp2_with ((with_reducible refine gcal_ (f := 93) rfl ?_);refine gz_ (some 12) Tryz.func93 #[.pointer (some ⟨g,0,none⟩),.int .i64 2] ?_;refine (once_any 2 (by decide) HL.out D.out).mono ?_;rintro e w4 ⟨x3,rfl,K⟩;refine ⟨_,rfl,?_⟩;refine hold_138 ?_)
 refine ⟨?_⟩
 have BR := ak (BR.out.dr D.out K)
 have D := ak (D.out.trans K)
 clear K
 go_wp2_with ((with_reducible refine gcal_ (f := 95) rfl ?_);refine gz_ (some 14) Tryz.func95 #[.pointer (some ⟨g,0,none⟩),.int .i64 6] ?_;refine (below_any 6 (by decide) HL.out D.out).mono ?_;rintro e w5 ⟨x4,rfl,hl_,hu_,K⟩;refine ⟨_,rfl,?_⟩;refine hold_138 ?_)
 refine ⟨?_⟩
 have BR := ak (BR.out.dr D.out K)
 have D := ak (D.out.trans K)
 clear K
 have HLx4 := ak hl_
 have HUx4 := ak (hu_ (by decide))
 clear hl_ hu_
 go_wp2_with ((with_reducible refine gate_dst (N := 5) rfl ?_);refine bx_ 5 #[.int .i64 0,.int .i64 0,.int .i64 0,.bool false,.int .i64 0] 119 ?_;intro gs hg w6 hbox hb;have hge := ak (Nat.le_of_eq hg.symm);clear hg;refine hold_138 ?_)
 refine ⟨?_⟩
 have NEBRBS := ak (Nat.ne_of_lt (Nat.lt_of_lt_of_le (blk_lt BR.out.2) hge.out))
 have BS := ak (show Bk _ w6 gs _ from ⟨Nat.le_trans D.out.size hge.out,hbox⟩)
 have BR := ak (BR.out.below hb)
 have D := ak (D.out.below hb)
 clear hbox hb hge
 obtain ⟨⟨hc7_0,hc7_1,hc7_2,hc7_3,hc7_4⟩,hf7_0,hf7_1,hf7_2,hf7_3,hf7_4⟩ := cl5_ BS.out.2
 go_upto_region 2 with (fail)
 have KS := ak (kept5_ (W := w6) (b := gs) (.int .i64 a1) (.int .i64 x1) (.int .i64 x2) (.bool x3) (.int .i64 x4))
 have D := ak (D.out.far5 BS.out.1 (.int .i64 a1) (.int .i64 x1) (.int .i64 x2) (.bool x3) (.int .i64 x4))
 have BR := ak (BR.out.kept KS.out NEBRBS.out)
 have BS := ak (BS.out.put5 (.int .i64 a1) (.int .i64 x1) (.int .i64 x2) (.bool x3) (.int .i64 x4))
 clear KS
 generalize (((((w6.setCell ⟨gs,0,none⟩ (.int .i64 a1)).setCell ⟨gs,1,none⟩ (.int .i64 x1)).setCell ⟨gs,2,none⟩ (.int .i64 x2)).setCell ⟨gs,3,none⟩ (.bool x3)).setCell ⟨gs,4,none⟩ (.int .i64 x4)) = w8 at D BR BS ⊢
 go_wp2_with ((with_reducible refine gcal_ (f := 93) rfl ?_);refine gz_ (some 17) Tryz.func93 #[.pointer (some ⟨g,0,none⟩),.int .i64 30] ?_;refine (once_any 30 (by decide) HL.out D.out).mono ?_;rintro e w9 ⟨x5,rfl,K⟩;refine ⟨_,rfl,?_⟩;refine hold_138 ?_)
 refine ⟨?_⟩
 have BR := ak (BR.out.dr D.out K)
 have BS := ak (BS.out.dr D.out K)
 have D := ak (D.out.trans K)
 clear K
 cases x5 with
  | false =>
  obtain ⟨⟨hc10_0,hc10_1,hc10_2,hc10_3,hc10_4⟩,hf10_0,hf10_1,hf10_2,hf10_3,hf10_4⟩ := cl5_ BS.out.2
  obtain ⟨⟨hc11_0,hc11_1,hc11_2,hc11_3,hc11_4⟩,hf11_0,hf11_1,hf11_2,hf11_3,hf11_4⟩ := cl5_ BR.out.2
  go_wp2
  refine bodyPost_ret (results_cell_row rfl _ _ gr 119 #[.int .i64 a1,.int .i64 x1,.int .i64 x2,.bool x3,.int .i64 x4] (0,0) _ rfl (put5_ BR.out.2 _ _ _ _ _) Tryz.underlying119 rfl (by kernel_rfl)) rfl ?_
  exact ⟨_,_,_,_,_,by first|rfl|(simp;done),D.out.far5 BR.out.1 _ _ _ _ _⟩
  | true =>
  go_wp2_with ((with_reducible refine gcal_ (f := 95) rfl ?_);refine gz_ (some 19) Tryz.func95 #[.pointer (some ⟨g,0,none⟩),.int .i64 4] ?_;refine (below_any 4 (by decide) HL.out D.out).mono ?_;rintro e w12 ⟨x6,rfl,hl_,hu_,K⟩;refine ⟨_,rfl,?_⟩;refine hold_138 ?_)
  refine ⟨?_⟩
  have BR := ak (BR.out.dr D.out K)
  have BS := ak (BS.out.dr D.out K)
  have D := ak (D.out.trans K)
  clear K
  have HLx6 := ak hl_
  have HUx6 := ak (hu_ (by decide))
  clear hl_ hu_
  by_cases cs0 : x6 = 0
  ·subst cs0
   obtain ⟨y,hy⟩ : ∃ y_ : List Int,y_ = ([(-1),5,6,(wrap64 (a1 + 1))] : List Int) := ⟨_,rfl⟩
   have Ny := ak hy
   clear hy
   go_wp2_with ((with_reducible refine gate_dst (N := 24) rfl ?_);refine Kd.R_lit (Kd.int .i64) _ 2 ?hg (N := 24) ?hd (xs := ([(-1),5,6,(wrap64 (a1 + 1))] : List Int)) (inner := [.int .i64 (-1),.int .i64 5,.int .i64 6,.int .i64 (wrap64 (a1 + 1))]) (ok := fun _ => True) (okp := fun _ => True) ?hr ?hp (fun _ hk => hk) trivial (Below.refl _ _) (Nat.le_refl _) (by simp) ?_;(case hd => rfl);(case hg => rfl);(case hr => first|(go_simp;done)|(go_simp;rfl));(case hp => exact (Reps.one (show Kd.M (Kd.int .i64) _ _ _ (-1) [.int .i64 (-1)] from rfl) (Reps.one (show Kd.M (Kd.int .i64) _ _ _ 5 [.int .i64 5] from rfl) (Reps.one (show Kd.M (Kd.int .i64) _ _ _ 6 [.int .i64 6] from rfl) (Reps.one (show Kd.M (Kd.int .i64) _ _ _ (wrap64 (a1 + 1)) [.int .i64 (wrap64 (a1 + 1))] from rfl) (Reps.none _ _))))));intro v_ w13 ho hb hg_ hnew_;clear hg_ hnew_;refine hold_138 ?_)
   refine ⟨?_⟩
   rw [← Ny.out] at ho
   have TL := ak (Kd.R_lower ho D.out.size)
   have BR := ak (BR.out.below hb)
   have BS := ak (BS.out.below hb)
   have D := ak (D.out.below hb)
   clear ho hb
   obtain ⟨Ay,cy,ey⟩ := Kd.R_slice TL.out
   subst ey
   go_wp2_with ((with_reducible refine gcal_ (f := 95) rfl ?_);refine gz_ (some 26) Tryz.func95 #[.pointer (some ⟨g,0,none⟩),.int .i64 4] ?_;refine (below_any 4 (by decide) HL.out D.out).mono ?_;rintro e w14 ⟨x7,rfl,hl_,hu_,K⟩;refine ⟨_,rfl,?_⟩;refine hold_138 ?_)
   refine ⟨?_⟩
   have BR := ak (BR.out.dr D.out K)
   have BS := ak (BS.out.dr D.out K)
   have TL := ak (R_dr TL.out D.out K)
   have D := ak (D.out.trans K)
   clear K
   have HLx7 := ak hl_
   have HUx7 := ak (hu_ (by decide))
   clear hl_ hu_
   have Qx7 : Aside0 (x7 < (y.length : Int)) := ⟨by rw [Ny.out];exact HUx7.out⟩
   obtain ⟨adx7,eax7,hxx7⟩ := Kd.at_int (Kd.R_reads' TL.out).2.2 x7 HLx7.out Qx7.out
   subst eax7
   have pxx7 : (0 ≤ x7) = True := eq_true HLx7.out
   have qxx7 : (x7 < (y.length : Int)) = True := eq_true Qx7.out
   obtain ⟨⟨hc15_0,hc15_1,hc15_2,hc15_3,hc15_4⟩,hf15_0,hf15_1,hf15_2,hf15_3,hf15_4⟩ := cl5_ BS.out.2
   go_upto_region 12 with (fail)
   have KS := ak (kept1_ (W := w14) (b := gs) 0 (.int .i64 (rd y x7)))
   have D := ak (D.out.far (p := ⟨gs,0,none⟩) BS.out.1 (.int .i64 (rd y x7)))
   have BR := ak (BR.out.kept KS.out NEBRBS.out)
   have BS := ak (BS.out.put1 0 (.int .i64 (rd y x7)) (cs' := #[.int .i64 (rd y x7),.int .i64 x1,.int .i64 x2,.bool x3,.int .i64 x4]) rfl)
   clear KS
   generalize (w14.setCell ⟨gs,0,none⟩ (.int .i64 (rd y x7))) = w16 at D BR BS ⊢
   obtain ⟨⟨hc17_0,hc17_1,hc17_2,hc17_3,hc17_4⟩,hf17_0,hf17_1,hf17_2,hf17_3,hf17_4⟩ := cl5_ BS.out.2
   obtain ⟨⟨hc18_0,hc18_1,hc18_2,hc18_3,hc18_4⟩,hf18_0,hf18_1,hf18_2,hf18_3,hf18_4⟩ := cl5_ BR.out.2
   go_wp2
   refine bodyPost_ret (results_cell_row rfl _ _ gr 119 #[.int .i64 (rd y x7),.int .i64 x1,.int .i64 x2,.bool x3,.int .i64 x4] (0,0) _ rfl (put5_ BR.out.2 _ _ _ _ _) Tryz.underlying119 rfl (by kernel_rfl)) rfl ?_
   exact ⟨_,_,_,_,_,by first|rfl|(simp;done),D.out.far5 BR.out.1 _ _ _ _ _⟩
  have csb0 : (x6 == 0) = false := beq_eq_false_iff_ne.mpr cs0
  have NC0 := ak cs0
  clear cs0
  by_cases cs1 : x6 = 1
  ·subst cs1
   obtain ⟨y,hy⟩ : ∃ y_ : List Int,y_ = ([(-1),6] : List Int) := ⟨_,rfl⟩
   have Ny := ak hy
   clear hy
   go_wp2_with ((with_reducible refine gate_dst (N := 32) rfl ?_);refine Kd.R_lit (Kd.int .i64) _ 2 ?hg (N := 32) ?hd (xs := ([(-1),6] : List Int)) (inner := [.int .i64 (-1),.int .i64 6]) (ok := fun _ => True) (okp := fun _ => True) ?hr ?hp (fun _ hk => hk) trivial (Below.refl _ _) (Nat.le_refl _) (by simp) ?_;(case hd => rfl);(case hg => rfl);(case hr => first|(go_simp;done)|(go_simp;rfl));(case hp => exact (Reps.one (show Kd.M (Kd.int .i64) _ _ _ (-1) [.int .i64 (-1)] from rfl) (Reps.one (show Kd.M (Kd.int .i64) _ _ _ 6 [.int .i64 6] from rfl) (Reps.none _ _))));intro v_ w19 ho hb hg_ hnew_;clear hg_ hnew_;refine hold_138 ?_)
   refine ⟨?_⟩
   rw [← Ny.out] at ho
   have TL := ak (Kd.R_lower ho D.out.size)
   have BR := ak (BR.out.below hb)
   have BS := ak (BS.out.below hb)
   have D := ak (D.out.below hb)
   clear ho hb
   obtain ⟨Ay,cy,ey⟩ := Kd.R_slice TL.out
   subst ey
   go_wp2_with ((with_reducible refine gcal_ (f := 95) rfl ?_);refine gz_ (some 34) Tryz.func95 #[.pointer (some ⟨g,0,none⟩),.int .i64 2] ?_;refine (below_any 2 (by decide) HL.out D.out).mono ?_;rintro e w20 ⟨x7,rfl,hl_,hu_,K⟩;refine ⟨_,rfl,?_⟩;refine hold_138 ?_)
   refine ⟨?_⟩
   have BR := ak (BR.out.dr D.out K)
   have BS := ak (BS.out.dr D.out K)
   have TL := ak (R_dr TL.out D.out K)
   have D := ak (D.out.trans K)
   clear K
   have HLx7 := ak hl_
   have HUx7 := ak (hu_ (by decide))
   clear hl_ hu_
   have Qx7 : Aside0 (x7 < (y.length : Int)) := ⟨by rw [Ny.out];exact HUx7.out⟩
   obtain ⟨adx7,eax7,hxx7⟩ := Kd.at_int (Kd.R_reads' TL.out).2.2 x7 HLx7.out Qx7.out
   subst eax7
   have pxx7 : (0 ≤ x7) = True := eq_true HLx7.out
   have qxx7 : (x7 < (y.length : Int)) = True := eq_true Qx7.out
   obtain ⟨⟨hc21_0,hc21_1,hc21_2,hc21_3,hc21_4⟩,hf21_0,hf21_1,hf21_2,hf21_3,hf21_4⟩ := cl5_ BS.out.2
   go_upto_region 12 with (fail)
   have KS := ak (kept1_ (W := w20) (b := gs) 1 (.int .i64 (rd y x7)))
   have D := ak (D.out.far (p := ⟨gs,1,none⟩) BS.out.1 (.int .i64 (rd y x7)))
   have BR := ak (BR.out.kept KS.out NEBRBS.out)
   have BS := ak (BS.out.put1 1 (.int .i64 (rd y x7)) (cs' := #[.int .i64 a1,.int .i64 (rd y x7),.int .i64 x2,.bool x3,.int .i64 x4]) rfl)
   clear KS
   generalize (w20.setCell ⟨gs,1,none⟩ (.int .i64 (rd y x7))) = w22 at D BR BS ⊢
   obtain ⟨⟨hc23_0,hc23_1,hc23_2,hc23_3,hc23_4⟩,hf23_0,hf23_1,hf23_2,hf23_3,hf23_4⟩ := cl5_ BS.out.2
   obtain ⟨⟨hc24_0,hc24_1,hc24_2,hc24_3,hc24_4⟩,hf24_0,hf24_1,hf24_2,hf24_3,hf24_4⟩ := cl5_ BR.out.2
   go_wp2
   refine bodyPost_ret (results_cell_row rfl _ _ gr 119 #[.int .i64 a1,.int .i64 (rd y x7),.int .i64 x2,.bool x3,.int .i64 x4] (0,0) _ rfl (put5_ BR.out.2 _ _ _ _ _) Tryz.underlying119 rfl (by kernel_rfl)) rfl ?_
   exact ⟨_,_,_,_,_,by first|rfl|(simp;done),D.out.far5 BR.out.1 _ _ _ _ _⟩
  have csb1 : (x6 == 1) = false := beq_eq_false_iff_ne.mpr cs1
  have NC1 := ak cs1
  clear cs1
  by_cases cs2 : x6 = 2
  ·subst cs2
   obtain ⟨y,hy⟩ : ∃ y_ : List Int,y_ = ([1000000000,1000000001,(-1000000001),(-9223372036854775808)] : List Int) := ⟨_,rfl⟩
   have Ny := ak hy
   clear hy
   go_wp2_with ((with_reducible refine gate_dst (N := 40) rfl ?_);refine Kd.R_lit (Kd.int .i64) _ 2 ?hg (N := 40) ?hd (xs := ([1000000000,1000000001,(-1000000001),(-9223372036854775808)] : List Int)) (inner := [.int .i64 1000000000,.int .i64 1000000001,.int .i64 (-1000000001),.int .i64 (-9223372036854775808)]) (ok := fun _ => True) (okp := fun _ => True) ?hr ?hp (fun _ hk => hk) trivial (Below.refl _ _) (Nat.le_refl _) (by simp) ?_;(case hd => rfl);(case hg => rfl);(case hr => first|(go_simp;done)|(go_simp;rfl));(case hp => exact (Reps.one (show Kd.M (Kd.int .i64) _ _ _ 1000000000 [.int .i64 1000000000] from rfl) (Reps.one (show Kd.M (Kd.int .i64) _ _ _ 1000000001 [.int .i64 1000000001] from rfl) (Reps.one (show Kd.M (Kd.int .i64) _ _ _ (-1000000001) [.int .i64 (-1000000001)] from rfl) (Reps.one (show Kd.M (Kd.int .i64) _ _ _ (-9223372036854775808) [.int .i64 (-9223372036854775808)] from rfl) (Reps.none _ _))))));intro v_ w25 ho hb hg_ hnew_;clear hg_ hnew_;refine hold_138 ?_)
   refine ⟨?_⟩
   rw [← Ny.out] at ho
   have TL := ak (Kd.R_lower ho D.out.size)
   have BR := ak (BR.out.below hb)
   have BS := ak (BS.out.below hb)
   have D := ak (D.out.below hb)
   clear ho hb
   obtain ⟨Ay,cy,ey⟩ := Kd.R_slice TL.out
   subst ey
   go_wp2_with ((with_reducible refine gcal_ (f := 95) rfl ?_);refine gz_ (some 42) Tryz.func95 #[.pointer (some ⟨g,0,none⟩),.int .i64 4] ?_;refine (below_any 4 (by decide) HL.out D.out).mono ?_;rintro e w26 ⟨x7,rfl,hl_,hu_,K⟩;refine ⟨_,rfl,?_⟩;refine hold_138 ?_)
   refine ⟨?_⟩
   have BR := ak (BR.out.dr D.out K)
   have BS := ak (BS.out.dr D.out K)
   have TL := ak (R_dr TL.out D.out K)
   have D := ak (D.out.trans K)
   clear K
   have HLx7 := ak hl_
   have HUx7 := ak (hu_ (by decide))
   clear hl_ hu_
   have Qx7 : Aside0 (x7 < (y.length : Int)) := ⟨by rw [Ny.out];exact HUx7.out⟩
   obtain ⟨adx7,eax7,hxx7⟩ := Kd.at_int (Kd.R_reads' TL.out).2.2 x7 HLx7.out Qx7.out
   subst eax7
   have pxx7 : (0 ≤ x7) = True := eq_true HLx7.out
   have qxx7 : (x7 < (y.length : Int)) = True := eq_true Qx7.out
   obtain ⟨⟨hc27_0,hc27_1,hc27_2,hc27_3,hc27_4⟩,hf27_0,hf27_1,hf27_2,hf27_3,hf27_4⟩ := cl5_ BS.out.2
   go_upto_region 12 with (fail)
   have KS := ak (kept1_ (W := w26) (b := gs) 2 (.int .i64 (rd y x7)))
   have D := ak (D.out.far (p := ⟨gs,2,none⟩) BS.out.1 (.int .i64 (rd y x7)))
   have BR := ak (BR.out.kept KS.out NEBRBS.out)
   have BS := ak (BS.out.put1 2 (.int .i64 (rd y x7)) (cs' := #[.int .i64 a1,.int .i64 x1,.int .i64 (rd y x7),.bool x3,.int .i64 x4]) rfl)
   clear KS
   generalize (w26.setCell ⟨gs,2,none⟩ (.int .i64 (rd y x7))) = w28 at D BR BS ⊢
   obtain ⟨⟨hc29_0,hc29_1,hc29_2,hc29_3,hc29_4⟩,hf29_0,hf29_1,hf29_2,hf29_3,hf29_4⟩ := cl5_ BS.out.2
   obtain ⟨⟨hc30_0,hc30_1,hc30_2,hc30_3,hc30_4⟩,hf30_0,hf30_1,hf30_2,hf30_3,hf30_4⟩ := cl5_ BR.out.2
   go_wp2
   refine bodyPost_ret (results_cell_row rfl _ _ gr 119 #[.int .i64 a1,.int .i64 x1,.int .i64 (rd y x7),.bool x3,.int .i64 x4] (0,0) _ rfl (put5_ BR.out.2 _ _ _ _ _) Tryz.underlying119 rfl (by kernel_rfl)) rfl ?_
   exact ⟨_,_,_,_,_,by first|rfl|(simp;done),D.out.far5 BR.out.1 _ _ _ _ _⟩
  have csb2 : (x6 == 2) = false := beq_eq_false_iff_ne.mpr cs2
  have NC2 := ak cs2
  clear cs2
  by_cases cs3 : x6 = 3
  ·subst cs3
   obtain ⟨y,hy⟩ : ∃ y_ : List Int,y_ = ([(-1),999999,1000000] : List Int) := ⟨_,rfl⟩
   have Ny := ak hy
   clear hy
   go_wp2_with ((with_reducible refine gate_dst (N := 48) rfl ?_);refine Kd.R_lit (Kd.int .i64) _ 2 ?hg (N := 48) ?hd (xs := ([(-1),999999,1000000] : List Int)) (inner := [.int .i64 (-1),.int .i64 999999,.int .i64 1000000]) (ok := fun _ => True) (okp := fun _ => True) ?hr ?hp (fun _ hk => hk) trivial (Below.refl _ _) (Nat.le_refl _) (by simp) ?_;(case hd => rfl);(case hg => rfl);(case hr => first|(go_simp;done)|(go_simp;rfl));(case hp => exact (Reps.one (show Kd.M (Kd.int .i64) _ _ _ (-1) [.int .i64 (-1)] from rfl) (Reps.one (show Kd.M (Kd.int .i64) _ _ _ 999999 [.int .i64 999999] from rfl) (Reps.one (show Kd.M (Kd.int .i64) _ _ _ 1000000 [.int .i64 1000000] from rfl) (Reps.none _ _)))));intro v_ w31 ho hb hg_ hnew_;clear hg_ hnew_;refine hold_138 ?_)
   refine ⟨?_⟩
   rw [← Ny.out] at ho
   have TL := ak (Kd.R_lower ho D.out.size)
   have BR := ak (BR.out.below hb)
   have BS := ak (BS.out.below hb)
   have D := ak (D.out.below hb)
   clear ho hb
   obtain ⟨Ay,cy,ey⟩ := Kd.R_slice TL.out
   subst ey
   go_wp2_with ((with_reducible refine gcal_ (f := 95) rfl ?_);refine gz_ (some 50) Tryz.func95 #[.pointer (some ⟨g,0,none⟩),.int .i64 3] ?_;refine (below_any 3 (by decide) HL.out D.out).mono ?_;rintro e w32 ⟨x7,rfl,hl_,hu_,K⟩;refine ⟨_,rfl,?_⟩;refine hold_138 ?_)
   refine ⟨?_⟩
   have BR := ak (BR.out.dr D.out K)
   have BS := ak (BS.out.dr D.out K)
   have TL := ak (R_dr TL.out D.out K)
   have D := ak (D.out.trans K)
   clear K
   have HLx7 := ak hl_
   have HUx7 := ak (hu_ (by decide))
   clear hl_ hu_
   have Qx7 : Aside0 (x7 < (y.length : Int)) := ⟨by rw [Ny.out];exact HUx7.out⟩
   obtain ⟨adx7,eax7,hxx7⟩ := Kd.at_int (Kd.R_reads' TL.out).2.2 x7 HLx7.out Qx7.out
   subst eax7
   have pxx7 : (0 ≤ x7) = True := eq_true HLx7.out
   have qxx7 : (x7 < (y.length : Int)) = True := eq_true Qx7.out
   obtain ⟨⟨hc33_0,hc33_1,hc33_2,hc33_3,hc33_4⟩,hf33_0,hf33_1,hf33_2,hf33_3,hf33_4⟩ := cl5_ BS.out.2
   go_upto_region 12 with (fail)
   have KS := ak (kept1_ (W := w32) (b := gs) 4 (.int .i64 (rd y x7)))
   have D := ak (D.out.far (p := ⟨gs,4,none⟩) BS.out.1 (.int .i64 (rd y x7)))
   have BR := ak (BR.out.kept KS.out NEBRBS.out)
   have BS := ak (BS.out.put1 4 (.int .i64 (rd y x7)) (cs' := #[.int .i64 a1,.int .i64 x1,.int .i64 x2,.bool x3,.int .i64 (rd y x7)]) rfl)
   clear KS
   generalize (w32.setCell ⟨gs,4,none⟩ (.int .i64 (rd y x7))) = w34 at D BR BS ⊢
   obtain ⟨⟨hc35_0,hc35_1,hc35_2,hc35_3,hc35_4⟩,hf35_0,hf35_1,hf35_2,hf35_3,hf35_4⟩ := cl5_ BS.out.2
   obtain ⟨⟨hc36_0,hc36_1,hc36_2,hc36_3,hc36_4⟩,hf36_0,hf36_1,hf36_2,hf36_3,hf36_4⟩ := cl5_ BR.out.2
   go_wp2
   refine bodyPost_ret (results_cell_row rfl _ _ gr 119 #[.int .i64 a1,.int .i64 x1,.int .i64 x2,.bool x3,.int .i64 (rd y x7)] (0,0) _ rfl (put5_ BR.out.2 _ _ _ _ _) Tryz.underlying119 rfl (by kernel_rfl)) rfl ?_
   exact ⟨_,_,_,_,_,by first|rfl|(simp;done),D.out.far5 BR.out.1 _ _ _ _ _⟩
  have csb3 : (x6 == 3) = false := beq_eq_false_iff_ne.mpr cs3
  have NC3 := ak cs3
  clear cs3
  exfalso
  have h0_ := HLx6.out
  have h1_ := HUx6.out
  have n0_ := NC0.out
  have n1_ := NC1.out
  have n2_ := NC2.out
  have n3_ := NC3.out
  omega


open Go.Proofs.YthplaakckfhaaaaGreat.Gen
/-! ### drawSets_any: function 110 -/
theorem hold_110 {p : Prop} (h : Aside0 p) : p := h.out
theorem drawSets_any {w0 w : World} {g : Nat} {l : List Int} (a1 : Int) (hl : l.length ≤ maxLen) (D0 : Dr w0 w g l w) :
    Calls Tryz.prog 110 #[.pointer (some ⟨g, 0, none⟩), .int .i64 a1] w fun e w' => ∃ (v : Value) (xs : List S119), e = .returned v ∧ Kd.R k119 119 w' w.heap.size (fun _ => True) v xs ∧ xs.length ≤ 7 ∧ Dr w0 w g l w' := by
 have hu := Tryz.underlying119
 have hu2 := Tryz.underlying48
 have D := ak D0
 have HL := ak hl
 clear D0 hl
 go_enter Tryz.func110,Tryz.ntmps110
 go_wp2_with ((with_reducible refine gate_dst (N := 8) rfl ?_);refine Kd.R_lit k119 _ 119 ?hg (N := 8) ?hd (xs := ([] : List S119)) (inner := []) (ok := fun _ => True) (okp := fun _ => True) ?hr ?hp (fun _ hk => hk) trivial (Below.refl _ _) (Nat.le_refl _) (by simp) ?_;(case hd => rfl);(case hg => rfl);(case hr => first|(go_simp;done)|(go_simp;rfl));(case hp => exact (Reps.none _ _));intro v_ w1 ho hb hg_ hnew_;clear hg_ hnew_;refine hold_110 ?_)
 refine ⟨?_⟩
 have T := ak (Kd.R_lower ho D.out.size)
 have D := ak (D.out.below hb)
 clear ho hb
 go_wp2
 go_loopg [5,6] 6 (fun gg v5 v6 wr => ∃ (xs : List S119) (j : Nat),v6 = .int .i64 j ∧ j ≤ 6 ∧ 6 - j ≤ gg ∧ xs.length ≤ j ∧ Aside0 (Kd.R k119 119 wr w.heap.size (fun _ => True) v5 xs) ∧ Aside0 (Dr w0 w g l wr))
 case atStart => exact ⟨[],0,rfl,by omega,by omega,Nat.le_refl _,T,D⟩
 case round =>
  clear T D
  obtain ⟨xs,j,rfl,hj,hgg,hx,T,D⟩ := hrel
  by_cases hlt : j < 6
  ·have hjb : decide ((j : Int) < 6) = true := decide_eq_true (by omega)
   go_wp2_with ((with_reducible refine gcal_ (f := 93) rfl ?_);refine gz_ (some 14) Tryz.func93 #[.pointer (some ⟨g,0,none⟩),.int .i64 3] ?_;refine (once_any 3 (by decide) HL.out D.out).mono ?_;rintro e w2 ⟨x1,rfl,K⟩;refine ⟨_,rfl,?_⟩;refine hold_110 ?_)
   refine ⟨?_⟩
   have T := ak (R_dr T.out D.out K)
   have D := ak (D.out.trans K)
   clear K
   cases x1 with
   | false =>
    go_wp2
    go_roundg (6 - (j + 1))
    case measure => omega
    case rel => exact ⟨xs,j + 1,by go_num,by omega,by omega,by omega,T,D⟩
   | true =>
    have DO := D
    have D := ak D.out.self
    go_wp2_with ((with_reducible refine gcal_ (f := 138) rfl ?_);refine gz_ (some 17) Tryz.func138 #[.pointer (some ⟨g,0,none⟩),.int .i64 a1] ?_;refine (drawSet_any a1 HL.out D.out.self).mono ?_;rintro e w3 ⟨f0,f1,f2,f3,f4,rfl,K⟩;refine ⟨_,rfl,?_⟩;refine hold_110 ?_)
    refine ⟨?_⟩
    have D := ak (D.out.trans K)
    clear K
    go_wp2_with ((with_reducible refine gate_dst (N := 7) rfl ?_);refine bx_ 7 #[.int .i64 0,.int .i64 0,.int .i64 0,.bool false,.int .i64 0] 119 ?_;intro gs hg w4 hbox hb;have hge := ak (Nat.le_of_eq hg.symm);clear hg;refine hold_110 ?_)
    refine ⟨?_⟩
    have BS := ak (show Bk _ w4 gs _ from ⟨Nat.le_trans D.out.size hge.out,hbox⟩)
    have D := ak (D.out.below hb)
    clear hbox hb hge
    obtain ⟨⟨hc5_0,hc5_1,hc5_2,hc5_3,hc5_4⟩,hf5_0,hf5_1,hf5_2,hf5_3,hf5_4⟩ := cl5_ BS.out.2
    go_upto_region 7 with (fail)
    have KS := ak (kept5_ (W := w4) (b := gs) (.int .i64 f0) (.int .i64 f1) (.int .i64 f2) (.bool f3) (.int .i64 f4))
    have D := ak (D.out.far5 BS.out.1 (.int .i64 f0) (.int .i64 f1) (.int .i64 f2) (.bool f3) (.int .i64 f4))
    have BS := ak (BS.out.put5 (.int .i64 f0) (.int .i64 f1) (.int .i64 f2) (.bool f3) (.int .i64 f4))
    clear KS
    generalize (((((w4.setCell ⟨gs,0,none⟩ (.int .i64 f0)).setCell ⟨gs,1,none⟩ (.int .i64 f1)).setCell ⟨gs,2,none⟩ (.int .i64 f2)).setCell ⟨gs,3,none⟩ (.bool f3)).setCell ⟨gs,4,none⟩ (.int .i64 f4)) = w6 at D BS ⊢
    obtain ⟨⟨hc7_0,hc7_1,hc7_2,hc7_3,hc7_4⟩,hf7_0,hf7_1,hf7_2,hf7_3,hf7_4⟩ := cl5_ BS.out.2
    obtain ⟨sb,hsb⟩ := slot_any f1
    go_wp2_with (go_at_call 139;refine (spec_l1Slot.calls f1 sb _ hsb).mono ?_;rintro e wq ⟨rfl,B0⟩;(try dsimp only);refine hold_110 ?_)
    refine ⟨?_⟩
    have hb := B0.below
    have BS := ak (BS.out.below hb)
    have D := ak (D.out.below hb)
    clear hb B0 hsb
    cases sb with
    | false =>
     obtain ⟨⟨hc8_0,hc8_1,hc8_2,hc8_3,hc8_4⟩,hf8_0,hf8_1,hf8_2,hf8_3,hf8_4⟩ := cl5_ BS.out.2
     have T := ak (R_dr T.out DO.out D.out)
     have D := ak (DO.out.trans D.out)
     clear DO
     go_wp2_with ((with_reducible refine gblt_ (b := .append) (xs := #[.tmp 23,.tmp 25]) rfl ?_);(try (refine gate_guard (by rfl) ?_;dsimp only));at_builtin;refine Kd.R_append k119 w.heap.size rfl (.tmp 23) (.tmp 25) 48 119 (.agg #[.int .i64 0,.int .i64 0,.int .i64 0,.bool false,.int .i64 0]) 40 rfl Tryz.underlying48 info119 rfl (by decide) (by omega) (u5) xs (⟨f0,f1,f2,f3,f4⟩ : S119) [.int .i64 f0,.int .i64 f1,.int .i64 f2,.bool f3,.int .i64 f4] (fun _ => True) (fun _ => False) rfl (by first|(go_simp;done)|(go_simp;rfl)) ?aP (fun _ hk => hk.elim) (fun _ _ => trivial) T.out (Below.refl _ _) D.out.size ?aL ?_;(case aP => exact k119_mkM _ _ _ (⟨f0,f1,f2,f3,f4⟩ : S119));(case aL => have := hx;omega);intro v_ w9 ho hb hg hat;clear hat;refine hold_110 ?_)
     refine ⟨?_⟩
     have D := ak (D.out.app hb hg (fun k e_ => ((Kd.R_bound T.out).1 k e_).2.1))
     have T := ak ho
     clear ho hb hg
     go_wp2
     go_roundg (6 - (j + 1))
     case measure => omega
     case rel => exact ⟨xs ++ [(⟨f0,f1,f2,f3,f4⟩ : S119)],j + 1,by go_num,by omega,by omega,by simp;omega,T,D⟩
    | true =>
     obtain ⟨⟨hc10_0,hc10_1,hc10_2,hc10_3,hc10_4⟩,hf10_0,hf10_1,hf10_2,hf10_3,hf10_4⟩ := cl5_ BS.out.2
     go_upto_region 9 with (fail)
     have KS := ak (kept1_ (W := wq) (b := gs) 1 (.int .i64 j))
     have D := ak (D.out.far (p := ⟨gs,1,none⟩) BS.out.1 (.int .i64 j))
     have BS := ak (BS.out.put1 1 (.int .i64 j) (cs' := #[.int .i64 f0,.int .i64 j,.int .i64 f2,.bool f3,.int .i64 f4]) rfl)
     clear KS
     generalize (wq.setCell ⟨gs,1,none⟩ (.int .i64 j)) = w11 at D BS ⊢
     obtain ⟨⟨hc12_0,hc12_1,hc12_2,hc12_3,hc12_4⟩,hf12_0,hf12_1,hf12_2,hf12_3,hf12_4⟩ := cl5_ BS.out.2
     have T := ak (R_dr T.out DO.out D.out)
     have D := ak (DO.out.trans D.out)
     clear DO
     go_wp2_with ((with_reducible refine gblt_ (b := .append) (xs := #[.tmp 23,.tmp 25]) rfl ?_);(try (refine gate_guard (by rfl) ?_;dsimp only));at_builtin;refine Kd.R_append k119 w.heap.size rfl (.tmp 23) (.tmp 25) 48 119 (.agg #[.int .i64 0,.int .i64 0,.int .i64 0,.bool false,.int .i64 0]) 40 rfl Tryz.underlying48 info119 rfl (by decide) (by omega) (u5) xs (⟨f0,j,f2,f3,f4⟩ : S119) [.int .i64 f0,.int .i64 j,.int .i64 f2,.bool f3,.int .i64 f4] (fun _ => True) (fun _ => False) rfl (by first|(go_simp;done)|(go_simp;rfl)) ?aP (fun _ hk => hk.elim) (fun _ _ => trivial) T.out (Below.refl _ _) D.out.size ?aL ?_;(case aP => exact k119_mkM _ _ _ (⟨f0,j,f2,f3,f4⟩ : S119));(case aL => have := hx;omega);intro v_ w13 ho hb hg hat;clear hat;refine hold_110 ?_)
     refine ⟨?_⟩
     have D := ak (D.out.app hb hg (fun k e_ => ((Kd.R_bound T.out).1 k e_).2.1))
     have T := ak ho
     clear ho hb hg
     go_wp2
     go_roundg (6 - (j + 1))
     case measure => omega
     case rel => exact ⟨xs ++ [(⟨f0,j,f2,f3,f4⟩ : S119)],j + 1,by go_num,by omega,by omega,by simp;omega,T,D⟩
  ·have hjb : decide ((j : Int) < 6) = false := decide_eq_false (by omega)
   obtain ⟨Ax,cx,ex⟩ := Kd.R_slice T.out
   subst ex
   have hxl := hx
   clear hgg
   go_wp2_with ((with_reducible refine gcal_ (f := 93) rfl ?_);refine gz_ (some 28) Tryz.func93 #[.pointer (some ⟨g,0,none⟩),.int .i64 20] ?_;refine (once_any 20 (by decide) HL.out D.out).mono ?_;rintro e w14 ⟨x1,rfl,K⟩;refine ⟨_,rfl,?_⟩;refine hold_110 ?_)
   refine ⟨?_⟩
   have T := ak (R_dr T.out D.out K)
   have D := ak (D.out.trans K)
   clear K
   cases x1 with
   | false =>
    go_wp2
    go_ret
    exact ⟨_,xs,by first|rfl|(simp;done),T.out,by omega,D.out⟩
   | true =>
    by_cases h1 : 1 < xs.length
    ·have h1b : decide ((xs.length : Int) > 1) = true := decide_eq_true (by omega)
     obtain ⟨ad,ea,hz0,hz1,hz2,hz3,hz4⟩ := at_T119 (Kd.R_reads' T.out).2.2 0 (by omega) (by omega)
     subst ea
     have qi : (0 < xs.length) = True := eq_true (by omega)
     simp only [show ((0 : Int)).toNat = 0 from rfl,show 0 * 5 = 0 from rfl,Addr.add_zero'] at hz0
     simp only [show ((0 : Int)).toNat = 0 from rfl,show 0 * 5 = 0 from rfl,Addr.add_zero'] at hz1
     simp only [show ((0 : Int)).toNat = 0 from rfl,show 0 * 5 = 0 from rfl,Addr.add_zero'] at hz2
     simp only [show ((0 : Int)).toNat = 0 from rfl,show 0 * 5 = 0 from rfl,Addr.add_zero'] at hz3
     simp only [show ((0 : Int)).toNat = 0 from rfl,show 0 * 5 = 0 from rfl,Addr.add_zero'] at hz4
     have p0 : ((0 : Int) ≤ 0) = True := eq_true (by omega)
     have q0 : ((0 : Int) < (xs.length : Int)) = True := eq_true (by omega)
     go_wp2_with ((with_reducible refine gblt_ (b := .append) (xs := #[.tmp 34,.tmp 38]) rfl ?_);(try (refine gate_guard (by rfl) ?_;dsimp only));at_builtin;refine Kd.R_append k119 w.heap.size rfl (.tmp 34) (.tmp 38) 48 119 (.agg #[.int .i64 0,.int .i64 0,.int .i64 0,.bool false,.int .i64 0]) 40 rfl Tryz.underlying48 info119 rfl (by decide) (by omega) (.slice (some ad) xs.length cx) xs (rd_T119 xs 0) [.int .i64 (rd_T119 xs 0).f0,.int .i64 (rd_T119 xs 0).f1,.int .i64 (rd_T119 xs 0).f2,.bool (rd_T119 xs 0).f3,.int .i64 (rd_T119 xs 0).f4] (fun _ => True) (fun _ => False) rfl (by first|(go_simp;done)|(go_simp;rfl)) ?aP (fun _ hk => hk.elim) (fun _ _ => trivial) T.out (Below.refl _ _) D.out.size ?aL ?_;(case aP => exact k119_mkM _ _ _ (rd_T119 xs 0));(case aL => omega);intro v_ w15 ho hb hg hat;clear hat;refine hold_110 ?_)
     refine ⟨?_⟩
     have D := ak (D.out.app hb hg (fun k e_ => ((Kd.R_bound T.out).1 k e_).2.1))
     have T := ak ho
     clear ho hb hg
     go_wp2
     go_ret
     exact ⟨_,xs ++ [(rd_T119 xs 0)],by first|rfl|(simp;done),T.out,by simp;omega,D.out⟩
    ·have h1b : decide ((xs.length : Int) > 1) = false := decide_eq_false (by omega)
     go_wp2
     go_ret
     exact ⟨_,xs,by first|rfl|(simp;done),T.out,by omega,D.out⟩


open Go.Proofs.YthplaakckfhaaaaGreat.Gen
/-! ### draw2_any: function 64 -/
theorem hold_64 {p : Prop} (h : Aside0 p) : p := h.out
theorem draw2_any {w0 w : World} {g : Nat} {l : List Int}  (hl : l.length ≤ maxLen) (D0 : Dr w0 w g l w) :
    Calls Tryz.prog 64 #[.pointer (some ⟨g, 0, none⟩)] w fun e w' => ∃ (f0 f1 f2 : Int) (v : Value) (xs : List S119), e = .returned (.agg #[.int .i64 f0, .int .i64 f1, .int .i64 f2, v]) ∧ Kd.R k119 119 w' w.heap.size (fun _ => True) v xs ∧ xs.length ≤ 7 ∧ Dr w0 w g l w' := by
 have hu := Tryz.underlying50
 have hu2 := Tryz.underlying119
 have D := ak D0
 have HL := ak hl
 clear D0 hl
 go_enter Tryz.func64,Tryz.ntmps64
 go_wp2_with ((with_reducible refine gate_dst (N := 2) rfl ?_);refine bx_ 2 #[.int .i64 0,.int .i64 0,.int .i64 0,.slice none 0 0] 50 ?_;intro gr hg w1 hbox hb;have hge := ak (Nat.le_of_eq hg.symm);clear hg;refine hold_64 ?_)
 refine ⟨?_⟩
 have BR := ak (show Bk _ w1 gr _ from ⟨Nat.le_trans D.out.size hge.out,hbox⟩)
 have D := ak (D.out.below hb)
 clear hbox hb hge
 go_wp2_with ((with_reducible refine gcal_ (f := 95) rfl ?_);refine gz_ (some 5) Tryz.func95 #[.pointer (some ⟨g,0,none⟩),.int .i64 3] ?_;refine (below_any 3 (by decide) HL.out D.out).mono ?_;rintro e w2 ⟨x1,rfl,hl_,hu_,K⟩;refine ⟨_,rfl,?_⟩;refine hold_64 ?_)
 refine ⟨?_⟩
 have BR := ak (BR.out.dr D.out K)
 have D := ak (D.out.trans K)
 clear K
 have HLx1 := ak hl_
 have HUx1 := ak (hu_ (by decide))
 clear hl_ hu_
 go_wp2_with ((with_reducible refine gcal_ (f := 95) rfl ?_);refine gz_ (some 8) Tryz.func95 #[.pointer (some ⟨g,0,none⟩),.int .i64 9] ?_;refine (below_any 9 (by decide) HL.out D.out).mono ?_;rintro e w3 ⟨x2,rfl,hl_,hu_,K⟩;refine ⟨_,rfl,?_⟩;refine hold_64 ?_)
 refine ⟨?_⟩
 have BR := ak (BR.out.dr D.out K)
 have D := ak (D.out.trans K)
 clear K
 have HLx2 := ak hl_
 have HUx2 := ak (hu_ (by decide))
 clear hl_ hu_
 go_wp2_with ((with_reducible refine gcal_ (f := 95) rfl ?_);refine gz_ (some 11) Tryz.func95 #[.pointer (some ⟨g,0,none⟩),.int .i64 3] ?_;refine (below_any 3 (by decide) HL.out D.out).mono ?_;rintro e w4 ⟨x3,rfl,hl_,hu_,K⟩;refine ⟨_,rfl,?_⟩;refine hold_64 ?_)
 refine ⟨?_⟩
 have BR := ak (BR.out.dr D.out K)
 have D := ak (D.out.trans K)
 clear K
 have HLx3 := ak hl_
 have HUx3 := ak (hu_ (by decide))
 clear hl_ hu_
 go_wp2_with ((with_reducible refine gate_dst (N := 3) rfl ?_);refine bx_ 3 #[.int .i64 0,.int .i64 0,.int .i64 0,.slice none 0 0] 50 ?_;intro gs hg w5 hbox hb;have hge := ak (Nat.le_of_eq hg.symm);clear hg;refine hold_64 ?_)
 refine ⟨?_⟩
 have NEBRBS := ak (Nat.ne_of_lt (Nat.lt_of_lt_of_le (blk_lt BR.out.2) hge.out))
 have BS := ak (show Bk _ w5 gs _ from ⟨Nat.le_trans D.out.size hge.out,hbox⟩)
 have BR := ak (BR.out.below hb)
 have D := ak (D.out.below hb)
 clear hbox hb hge
 obtain ⟨⟨hc6_0,hc6_1,hc6_2,hc6_3⟩,hf6_0,hf6_1,hf6_2,hf6_3⟩ := cl4_ BS.out.2
 go_upto_region 2 with (fail)
 have KS := ak (kept4_ (W := w5) (b := gs) (.int .i64 (wrap64 (1 + x1))) (.int .i64 (wrap64 (1 + x2))) (.int .i64 x3) (.slice none 0 0))
 have D := ak (D.out.far4 BS.out.1 (.int .i64 (wrap64 (1 + x1))) (.int .i64 (wrap64 (1 + x2))) (.int .i64 x3) (.slice none 0 0))
 have BR := ak (BR.out.kept KS.out NEBRBS.out)
 have BS := ak (BS.out.put4 (.int .i64 (wrap64 (1 + x1))) (.int .i64 (wrap64 (1 + x2))) (.int .i64 x3) (.slice none 0 0))
 clear KS
 generalize ((((w5.setCell ⟨gs,0,none⟩ (.int .i64 (wrap64 (1 + x1)))).setCell ⟨gs,1,none⟩ (.int .i64 (wrap64 (1 + x2)))).setCell ⟨gs,2,none⟩ (.int .i64 x3)).setCell ⟨gs,3,none⟩ (.slice none 0 0)) = w7 at D BR BS ⊢
 generalize wrap64 (1 + x1) = y1 at BS
 generalize wrap64 (1 + x2) = y2 at BS
 obtain ⟨⟨hc8_0,hc8_1,hc8_2,hc8_3⟩,hf8_0,hf8_1,hf8_2,hf8_3⟩ := cl4_ BS.out.2
 go_wp2_with ((with_reducible refine gcal_ (f := 110) rfl ?_);refine gz_ (some 16) Tryz.func110 #[.pointer (some ⟨g,0,none⟩),.int .i64 x3] ?_;refine (drawSets_any x3 HL.out D.out.self).mono ?_;rintro e w9 ⟨v_,ys,rfl,T,hyl,K⟩;refine ⟨_,rfl,?_⟩;refine hold_64 ?_)
 refine ⟨?_⟩
 have BR := ak (BR.out.dr D.out K)
 have BS := ak (BS.out.dr D.out K)
 have T := Kd.R_lower T D.out.size
 have D := ak (D.out.trans K)
 clear K
 have T := ak T
 have HY := ak hyl
 clear hyl
 obtain ⟨Ays,cys,eys⟩ := Kd.R_slice T.out
 subst eys
 obtain ⟨⟨hc10_0,hc10_1,hc10_2,hc10_3⟩,hf10_0,hf10_1,hf10_2,hf10_3⟩ := cl4_ BS.out.2
 go_upto_region 3 with (fail)
 have KS := ak (kept1_ (W := w9) (b := gs) 3 (.slice Ays ys.length cys))
 have D := ak (D.out.far (p := ⟨gs,3,none⟩) BS.out.1 (.slice Ays ys.length cys))
 have T := ak (R_off T.out BS.out.2 (by decide) KS.out)
 have BR := ak (BR.out.kept KS.out NEBRBS.out)
 have BS := ak (BS.out.put1 3 (.slice Ays ys.length cys) (cs' := #[.int .i64 y1,.int .i64 y2,.int .i64 x3,.slice Ays ys.length cys]) rfl)
 clear KS
 generalize (w9.setCell ⟨gs,3,none⟩ (.slice Ays ys.length cys)) = w11 at D T BR BS ⊢
 obtain ⟨⟨hc12_0,hc12_1,hc12_2,hc12_3⟩,hf12_0,hf12_1,hf12_2,hf12_3⟩ := cl4_ BS.out.2
 by_cases hy0 : ys.length = 0
 case' neg =>
  have hyb : ((ys.length : Int) == 0) = false := beq_eq_false_iff_ne.mpr (by omega)
  clear hy0
  go_upto_region 5 with (fail)
  clear hyb
  obtain ⟨wj,hw_⟩ : ∃ z_,z_ = w11 := ⟨_,rfl⟩
  subst hw_
 case' pos =>
  have hyb : ((ys.length : Int) == 0) = true := beq_iff_eq.mpr (by omega)
  clear hy0
  go_wp2_with (go_at_call 93;refine (once_any 6 (by decide) HL.out D.out).mono ?_;rintro e w13 ⟨x4,rfl,K⟩;(try dsimp only);refine hold_64 ?_)
  refine ⟨?_⟩
  have BR := ak (BR.out.dr D.out K)
  have BS := ak (BS.out.dr D.out K)
  have T := ak (R_dr T.out D.out K)
  have D := ak (D.out.trans K)
  clear K
  cases x4
  case' true =>
   go_upto_region 5 with (fail)
   obtain ⟨wj,hw_⟩ : ∃ z_,z_ = w13 := ⟨_,rfl⟩
   subst hw_
  case' false =>
   obtain ⟨⟨hc14_0,hc14_1,hc14_2,hc14_3⟩,hf14_0,hf14_1,hf14_2,hf14_3⟩ := cl4_ BS.out.2
   obtain ⟨ys,hys⟩ : ∃ y_ : List S119,y_ = ([(⟨x3,2,7,true,1⟩ : S119)] : List S119) := ⟨_,rfl⟩
   have Nys := ak hys
   clear hys
   go_wp2_with ((with_reducible refine gate_dst (N := 30) rfl ?_);refine Kd.R_lit k119 _ 119 ?hg (N := 30) ?hd (xs := ([(⟨x3,2,7,true,1⟩ : S119)] : List S119)) (inner := [.int .i64 x3,.int .i64 2,.int .i64 7,.bool true,.int .i64 1]) (ok := fun _ => True) (okp := fun _ => True) ?hr ?hp (fun _ hk => hk) trivial (Below.refl _ _) (Nat.le_refl _) (by simp) ?_;(case hd => rfl);(case hg => rfl);(case hr => first|(go_simp;done)|(go_simp;rfl));(case hp => exact (Reps.c5 (show Kd.M k119 _ _ _ (⟨x3,2,7,true,1⟩ : S119) [.int .i64 x3,.int .i64 2,.int .i64 7,.bool true,.int .i64 1] from (k119_mkM _ _ _ (⟨x3,2,7,true,1⟩ : S119))) (Reps.none _ _)));intro v_ w15 ho hb hg_ hnew_;clear hg_ hnew_;refine hold_64 ?_)
   refine ⟨?_⟩
   rw [← Nys.out] at ho
   have T := ak (Kd.R_lower ho D.out.size)
   have BR := ak (BR.out.below hb)
   have BS := ak (BS.out.below hb)
   have D := ak (D.out.below hb)
   clear ho hb
   have Yys : Aside0 (ys.length = 1) := ⟨by rw [Nys.out];rfl⟩
   clear Nys
   obtain ⟨Ays,cys,eys⟩ := Kd.R_slice T.out
   subst eys
   obtain ⟨⟨hc16_0,hc16_1,hc16_2,hc16_3⟩,hf16_0,hf16_1,hf16_2,hf16_3⟩ := cl4_ BS.out.2
   go_upto_region 5 with (fail)
   have KS := ak (kept1_ (W := w15) (b := gs) 3 (.slice Ays ys.length cys))
   have D := ak (D.out.far (p := ⟨gs,3,none⟩) BS.out.1 (.slice Ays ys.length cys))
   have T := ak (R_off T.out BS.out.2 (by decide) KS.out)
   have BR := ak (BR.out.kept KS.out NEBRBS.out)
   have BS := ak (BS.out.put1 3 (.slice Ays ys.length cys) (cs' := #[.int .i64 y1,.int .i64 y2,.int .i64 x3,.slice Ays ys.length cys]) rfl)
   clear KS
   generalize (w15.setCell ⟨gs,3,none⟩ (.slice Ays ys.length cys)) = w17 at D T BR BS ⊢
   have HY : Aside0 (ys.length ≤ 7) := ⟨by have := Yys.out;omega⟩
   obtain ⟨wj,hw_⟩ : ∃ z_,z_ = w17 := ⟨_,rfl⟩
   subst hw_
 all_goals
  go_wp2_with ((with_reducible refine gcal_ (f := 93) rfl ?_);refine gz_ (some 33) Tryz.func93 #[.pointer (some ⟨g,0,none⟩),.int .i64 14] ?_;refine (once_any 14 (by decide) HL.out D.out).mono ?_;rintro e w18 ⟨x5,rfl,K⟩;refine ⟨_,rfl,?_⟩;refine hold_64 ?_)
  refine ⟨?_⟩
  have BR := ak (BR.out.dr D.out K)
  have BS := ak (BS.out.dr D.out K)
  have T := ak (R_dr T.out D.out K)
  have D := ak (D.out.trans K)
  clear K
  cases x5 with
    | false =>
   obtain ⟨⟨hc19_0,hc19_1,hc19_2,hc19_3⟩,hf19_0,hf19_1,hf19_2,hf19_3⟩ := cl4_ BS.out.2
   obtain ⟨⟨hc20_0,hc20_1,hc20_2,hc20_3⟩,hf20_0,hf20_1,hf20_2,hf20_3⟩ := cl4_ BR.out.2
   go_wp2
   refine bodyPost_ret (results_cell_row rfl _ _ gr 50 #[.int .i64 y1,.int .i64 y2,.int .i64 x3,.slice Ays ys.length cys] (0,0) _ rfl (put4_ BR.out.2 _ _ _ _) Tryz.underlying50 rfl (by kernel_rfl)) rfl ?_
   exact ⟨_,_,_,_,ys,by first|rfl|(simp;done),R_off T.out BR.out.2 (by decide) (kept4_ _ _ _ _),HY.out,D.out.far4 BR.out.1 _ _ _ _⟩
    | true =>
   go_wp2_with ((with_reducible refine gcal_ (f := 95) rfl ?_);refine gz_ (some 35) Tryz.func95 #[.pointer (some ⟨g,0,none⟩),.int .i64 3] ?_;refine (below_any 3 (by decide) HL.out D.out).mono ?_;rintro e w21 ⟨x6,rfl,hl_,hu_,K⟩;refine ⟨_,rfl,?_⟩;refine hold_64 ?_)
   refine ⟨?_⟩
   have BR := ak (BR.out.dr D.out K)
   have BS := ak (BS.out.dr D.out K)
   have T := ak (R_dr T.out D.out K)
   have D := ak (D.out.trans K)
   clear K
   have HLx6 := ak hl_
   have HUx6 := ak (hu_ (by decide))
   clear hl_ hu_
   by_cases cs0 : x6 = 0
   ·subst cs0
    obtain ⟨y,hy⟩ : ∃ y_ : List Int,y_ = ([0,4,(-9223372036854775808)] : List Int) := ⟨_,rfl⟩
    have Ny := ak hy
    clear hy
    go_wp2_with ((with_reducible refine gate_dst (N := 38) rfl ?_);refine Kd.R_lit (Kd.int .i64) _ 2 ?hg (N := 38) ?hd (xs := ([0,4,(-9223372036854775808)] : List Int)) (inner := [.int .i64 0,.int .i64 4,.int .i64 (-9223372036854775808)]) (ok := fun _ => True) (okp := fun _ => True) ?hr ?hp (fun _ hk => hk) trivial (Below.refl _ _) (Nat.le_refl _) (by simp) ?_;(case hd => rfl);(case hg => rfl);(case hr => first|(go_simp;done)|(go_simp;rfl));(case hp => exact (Reps.one (show Kd.M (Kd.int .i64) _ _ _ 0 [.int .i64 0] from rfl) (Reps.one (show Kd.M (Kd.int .i64) _ _ _ 4 [.int .i64 4] from rfl) (Reps.one (show Kd.M (Kd.int .i64) _ _ _ (-9223372036854775808) [.int .i64 (-9223372036854775808)] from rfl) (Reps.none _ _)))));intro v_ w22 ho hb hg_ hnew_;clear hg_ hnew_;refine hold_64 ?_)
    refine ⟨?_⟩
    rw [← Ny.out] at ho
    have TL := ak (Kd.R_lower ho D.out.size)
    have BR := ak (BR.out.below hb)
    have BS := ak (BS.out.below hb)
    have T := ak (Kd.R_below T.out hb)
    have D := ak (D.out.below hb)
    clear ho hb
    obtain ⟨Ay,cy,ey⟩ := Kd.R_slice TL.out
    subst ey
    go_wp2_with ((with_reducible refine gcal_ (f := 95) rfl ?_);refine gz_ (some 40) Tryz.func95 #[.pointer (some ⟨g,0,none⟩),.int .i64 3] ?_;refine (below_any 3 (by decide) HL.out D.out).mono ?_;rintro e w23 ⟨x7,rfl,hl_,hu_,K⟩;refine ⟨_,rfl,?_⟩;refine hold_64 ?_)
    refine ⟨?_⟩
    have BR := ak (BR.out.dr D.out K)
    have BS := ak (BS.out.dr D.out K)
    have T := ak (R_dr T.out D.out K)
    have TL := ak (R_dr TL.out D.out K)
    have D := ak (D.out.trans K)
    clear K
    have HLx7 := ak hl_
    have HUx7 := ak (hu_ (by decide))
    clear hl_ hu_
    have Qx7 : Aside0 (x7 < (y.length : Int)) := ⟨by rw [Ny.out];exact HUx7.out⟩
    obtain ⟨adx7,eax7,hxx7⟩ := Kd.at_int (Kd.R_reads' TL.out).2.2 x7 HLx7.out Qx7.out
    subst eax7
    have pxx7 : (0 ≤ x7) = True := eq_true HLx7.out
    have qxx7 : (x7 < (y.length : Int)) = True := eq_true Qx7.out
    obtain ⟨⟨hc24_0,hc24_1,hc24_2,hc24_3⟩,hf24_0,hf24_1,hf24_2,hf24_3⟩ := cl4_ BS.out.2
    go_upto_region 13 with (fail)
    have KS := ak (kept1_ (W := w23) (b := gs) 0 (.int .i64 (rd y x7)))
    have D := ak (D.out.far (p := ⟨gs,0,none⟩) BS.out.1 (.int .i64 (rd y x7)))
    have T := ak (R_off T.out BS.out.2 (by decide) KS.out)
    have BR := ak (BR.out.kept KS.out NEBRBS.out)
    have BS := ak (BS.out.put1 0 (.int .i64 (rd y x7)) (cs' := #[.int .i64 (rd y x7),.int .i64 y2,.int .i64 x3,.slice Ays ys.length cys]) rfl)
    clear KS
    generalize (w23.setCell ⟨gs,0,none⟩ (.int .i64 (rd y x7))) = w25 at D T BR BS ⊢
    obtain ⟨⟨hc26_0,hc26_1,hc26_2,hc26_3⟩,hf26_0,hf26_1,hf26_2,hf26_3⟩ := cl4_ BS.out.2
    obtain ⟨⟨hc27_0,hc27_1,hc27_2,hc27_3⟩,hf27_0,hf27_1,hf27_2,hf27_3⟩ := cl4_ BR.out.2
    go_wp2
    refine bodyPost_ret (results_cell_row rfl _ _ gr 50 #[.int .i64 (rd y x7),.int .i64 y2,.int .i64 x3,.slice Ays ys.length cys] (0,0) _ rfl (put4_ BR.out.2 _ _ _ _) Tryz.underlying50 rfl (by kernel_rfl)) rfl ?_
    exact ⟨_,_,_,_,ys,by first|rfl|(simp;done),R_off T.out BR.out.2 (by decide) (kept4_ _ _ _ _),HY.out,D.out.far4 BR.out.1 _ _ _ _⟩
   have csb0 : (x6 == 0) = false := beq_eq_false_iff_ne.mpr cs0
   have NC0 := ak cs0
   clear cs0
   by_cases cs1 : x6 = 1
   ·subst cs1
    obtain ⟨y,hy⟩ : ∃ y_ : List Int,y_ = ([0,1000000,1000001,(-9223372036854775808)] : List Int) := ⟨_,rfl⟩
    have Ny := ak hy
    clear hy
    go_wp2_with ((with_reducible refine gate_dst (N := 46) rfl ?_);refine Kd.R_lit (Kd.int .i64) _ 2 ?hg (N := 46) ?hd (xs := ([0,1000000,1000001,(-9223372036854775808)] : List Int)) (inner := [.int .i64 0,.int .i64 1000000,.int .i64 1000001,.int .i64 (-9223372036854775808)]) (ok := fun _ => True) (okp := fun _ => True) ?hr ?hp (fun _ hk => hk) trivial (Below.refl _ _) (Nat.le_refl _) (by simp) ?_;(case hd => rfl);(case hg => rfl);(case hr => first|(go_simp;done)|(go_simp;rfl));(case hp => exact (Reps.one (show Kd.M (Kd.int .i64) _ _ _ 0 [.int .i64 0] from rfl) (Reps.one (show Kd.M (Kd.int .i64) _ _ _ 1000000 [.int .i64 1000000] from rfl) (Reps.one (show Kd.M (Kd.int .i64) _ _ _ 1000001 [.int .i64 1000001] from rfl) (Reps.one (show Kd.M (Kd.int .i64) _ _ _ (-9223372036854775808) [.int .i64 (-9223372036854775808)] from rfl) (Reps.none _ _))))));intro v_ w28 ho hb hg_ hnew_;clear hg_ hnew_;refine hold_64 ?_)
    refine ⟨?_⟩
    rw [← Ny.out] at ho
    have TL := ak (Kd.R_lower ho D.out.size)
    have BR := ak (BR.out.below hb)
    have BS := ak (BS.out.below hb)
    have T := ak (Kd.R_below T.out hb)
    have D := ak (D.out.below hb)
    clear ho hb
    obtain ⟨Ay,cy,ey⟩ := Kd.R_slice TL.out
    subst ey
    go_wp2_with ((with_reducible refine gcal_ (f := 95) rfl ?_);refine gz_ (some 48) Tryz.func95 #[.pointer (some ⟨g,0,none⟩),.int .i64 4] ?_;refine (below_any 4 (by decide) HL.out D.out).mono ?_;rintro e w29 ⟨x7,rfl,hl_,hu_,K⟩;refine ⟨_,rfl,?_⟩;refine hold_64 ?_)
    refine ⟨?_⟩
    have BR := ak (BR.out.dr D.out K)
    have BS := ak (BS.out.dr D.out K)
    have T := ak (R_dr T.out D.out K)
    have TL := ak (R_dr TL.out D.out K)
    have D := ak (D.out.trans K)
    clear K
    have HLx7 := ak hl_
    have HUx7 := ak (hu_ (by decide))
    clear hl_ hu_
    have Qx7 : Aside0 (x7 < (y.length : Int)) := ⟨by rw [Ny.out];exact HUx7.out⟩
    obtain ⟨adx7,eax7,hxx7⟩ := Kd.at_int (Kd.R_reads' TL.out).2.2 x7 HLx7.out Qx7.out
    subst eax7
    have pxx7 : (0 ≤ x7) = True := eq_true HLx7.out
    have qxx7 : (x7 < (y.length : Int)) = True := eq_true Qx7.out
    obtain ⟨⟨hc30_0,hc30_1,hc30_2,hc30_3⟩,hf30_0,hf30_1,hf30_2,hf30_3⟩ := cl4_ BS.out.2
    go_upto_region 13 with (fail)
    have KS := ak (kept1_ (W := w29) (b := gs) 1 (.int .i64 (rd y x7)))
    have D := ak (D.out.far (p := ⟨gs,1,none⟩) BS.out.1 (.int .i64 (rd y x7)))
    have T := ak (R_off T.out BS.out.2 (by decide) KS.out)
    have BR := ak (BR.out.kept KS.out NEBRBS.out)
    have BS := ak (BS.out.put1 1 (.int .i64 (rd y x7)) (cs' := #[.int .i64 y1,.int .i64 (rd y x7),.int .i64 x3,.slice Ays ys.length cys]) rfl)
    clear KS
    generalize (w29.setCell ⟨gs,1,none⟩ (.int .i64 (rd y x7))) = w31 at D T BR BS ⊢
    obtain ⟨⟨hc32_0,hc32_1,hc32_2,hc32_3⟩,hf32_0,hf32_1,hf32_2,hf32_3⟩ := cl4_ BS.out.2
    obtain ⟨⟨hc33_0,hc33_1,hc33_2,hc33_3⟩,hf33_0,hf33_1,hf33_2,hf33_3⟩ := cl4_ BR.out.2
    go_wp2
    refine bodyPost_ret (results_cell_row rfl _ _ gr 50 #[.int .i64 y1,.int .i64 (rd y x7),.int .i64 x3,.slice Ays ys.length cys] (0,0) _ rfl (put4_ BR.out.2 _ _ _ _) Tryz.underlying50 rfl (by kernel_rfl)) rfl ?_
    exact ⟨_,_,_,_,ys,by first|rfl|(simp;done),R_off T.out BR.out.2 (by decide) (kept4_ _ _ _ _),HY.out,D.out.far4 BR.out.1 _ _ _ _⟩
   have csb1 : (x6 == 1) = false := beq_eq_false_iff_ne.mpr cs1
   have NC1 := ak cs1
   clear cs1
   by_cases cs2 : x6 = 2
   ·subst cs2
    obtain ⟨y,hy⟩ : ∃ y_ : List Int,y_ = ([(-1),5,6,(-9223372036854775808)] : List Int) := ⟨_,rfl⟩
    have Ny := ak hy
    clear hy
    go_wp2_with ((with_reducible refine gate_dst (N := 54) rfl ?_);refine Kd.R_lit (Kd.int .i64) _ 2 ?hg (N := 54) ?hd (xs := ([(-1),5,6,(-9223372036854775808)] : List Int)) (inner := [.int .i64 (-1),.int .i64 5,.int .i64 6,.int .i64 (-9223372036854775808)]) (ok := fun _ => True) (okp := fun _ => True) ?hr ?hp (fun _ hk => hk) trivial (Below.refl _ _) (Nat.le_refl _) (by simp) ?_;(case hd => rfl);(case hg => rfl);(case hr => first|(go_simp;done)|(go_simp;rfl));(case hp => exact (Reps.one (show Kd.M (Kd.int .i64) _ _ _ (-1) [.int .i64 (-1)] from rfl) (Reps.one (show Kd.M (Kd.int .i64) _ _ _ 5 [.int .i64 5] from rfl) (Reps.one (show Kd.M (Kd.int .i64) _ _ _ 6 [.int .i64 6] from rfl) (Reps.one (show Kd.M (Kd.int .i64) _ _ _ (-9223372036854775808) [.int .i64 (-9223372036854775808)] from rfl) (Reps.none _ _))))));intro v_ w34 ho hb hg_ hnew_;clear hg_ hnew_;refine hold_64 ?_)
    refine ⟨?_⟩
    rw [← Ny.out] at ho
    have TL := ak (Kd.R_lower ho D.out.size)
    have BR := ak (BR.out.below hb)
    have BS := ak (BS.out.below hb)
    have T := ak (Kd.R_below T.out hb)
    have D := ak (D.out.below hb)
    clear ho hb
    obtain ⟨Ay,cy,ey⟩ := Kd.R_slice TL.out
    subst ey
    go_wp2_with ((with_reducible refine gcal_ (f := 95) rfl ?_);refine gz_ (some 56) Tryz.func95 #[.pointer (some ⟨g,0,none⟩),.int .i64 4] ?_;refine (below_any 4 (by decide) HL.out D.out).mono ?_;rintro e w35 ⟨x7,rfl,hl_,hu_,K⟩;refine ⟨_,rfl,?_⟩;refine hold_64 ?_)
    refine ⟨?_⟩
    have BR := ak (BR.out.dr D.out K)
    have BS := ak (BS.out.dr D.out K)
    have T := ak (R_dr T.out D.out K)
    have TL := ak (R_dr TL.out D.out K)
    have D := ak (D.out.trans K)
    clear K
    have HLx7 := ak hl_
    have HUx7 := ak (hu_ (by decide))
    clear hl_ hu_
    have Qx7 : Aside0 (x7 < (y.length : Int)) := ⟨by rw [Ny.out];exact HUx7.out⟩
    obtain ⟨adx7,eax7,hxx7⟩ := Kd.at_int (Kd.R_reads' TL.out).2.2 x7 HLx7.out Qx7.out
    subst eax7
    have pxx7 : (0 ≤ x7) = True := eq_true HLx7.out
    have qxx7 : (x7 < (y.length : Int)) = True := eq_true Qx7.out
    obtain ⟨⟨hc36_0,hc36_1,hc36_2,hc36_3⟩,hf36_0,hf36_1,hf36_2,hf36_3⟩ := cl4_ BS.out.2
    go_upto_region 13 with (fail)
    have KS := ak (kept1_ (W := w35) (b := gs) 2 (.int .i64 (rd y x7)))
    have D := ak (D.out.far (p := ⟨gs,2,none⟩) BS.out.1 (.int .i64 (rd y x7)))
    have T := ak (R_off T.out BS.out.2 (by decide) KS.out)
    have BR := ak (BR.out.kept KS.out NEBRBS.out)
    have BS := ak (BS.out.put1 2 (.int .i64 (rd y x7)) (cs' := #[.int .i64 y1,.int .i64 y2,.int .i64 (rd y x7),.slice Ays ys.length cys]) rfl)
    clear KS
    generalize (w35.setCell ⟨gs,2,none⟩ (.int .i64 (rd y x7))) = w37 at D T BR BS ⊢
    obtain ⟨⟨hc38_0,hc38_1,hc38_2,hc38_3⟩,hf38_0,hf38_1,hf38_2,hf38_3⟩ := cl4_ BS.out.2
    obtain ⟨⟨hc39_0,hc39_1,hc39_2,hc39_3⟩,hf39_0,hf39_1,hf39_2,hf39_3⟩ := cl4_ BR.out.2
    go_wp2
    refine bodyPost_ret (results_cell_row rfl _ _ gr 50 #[.int .i64 y1,.int .i64 y2,.int .i64 (rd y x7),.slice Ays ys.length cys] (0,0) _ rfl (put4_ BR.out.2 _ _ _ _) Tryz.underlying50 rfl (by kernel_rfl)) rfl ?_
    exact ⟨_,_,_,_,ys,by first|rfl|(simp;done),R_off T.out BR.out.2 (by decide) (kept4_ _ _ _ _),HY.out,D.out.far4 BR.out.1 _ _ _ _⟩
   have csb2 : (x6 == 2) = false := beq_eq_false_iff_ne.mpr cs2
   have NC2 := ak cs2
   clear cs2
   exfalso
   have h0_ := HLx6.out
   have h1_ := HUx6.out
   have n0_ := NC0.out
   have n1_ := NC1.out
   have n2_ := NC2.out
   omega


/-! ### spec_l1Id: function 29 -/
def spec_l1Id.f (a0 : Int) : Option (Bool) := (spec_l1In.f a0 1 1000000).bind fun t234 => (some t234)
theorem spec_l1Id.calls (a0 : Int) (r : Bool) (w : World) (h : spec_l1Id.f a0 = some r) :
    Calls Tryz.prog 29 #[.int .i64 a0] w fun e w' => e = .returned (.bool r) ∧ Drawn0 w w' := by
 have H : ((spec_l1In.f a0 1 1000000).bind fun t234 => (some t234)) = some r := h
 clear h
 replace H := bs_ H
 obtain ⟨t234,A2,H⟩ := H
 obtain rfl := Option.some.inj H
 go_enter Tryz.func29,Tryz.ntmps29
 go_wp2_with (first|((with_reducible refine gcal_ (f := 74) rfl ?_);refine gl_ (some 4) Tryz.func74 #[.int .i64 a0,.int .i64 1,.int .i64 1000000] ?_;(with_reducible refine (spec_l1In.calls a0 1 1000000 t234 _ A2.out).mono ?_);rintro e w' ⟨rfl,⟨nd,rfl⟩⟩;refine ⟨_,rfl,?_⟩))
 go_ret
 exact ⟨rs_,by repeat (first|exact Drawn0.refl _|apply Drawn0.step)⟩

/-! ### spec_l1Region: function 57 -/
def spec_l1Region.f (a0 : Int) : Option (Bool) := (spec_l1In.f a0 0 5).bind fun t235 => (some t235)
theorem spec_l1Region.calls (a0 : Int) (r : Bool) (w : World) (h : spec_l1Region.f a0 = some r) :
    Calls Tryz.prog 57 #[.int .i64 a0] w fun e w' => e = .returned (.bool r) ∧ Drawn0 w w' := by
 have H : ((spec_l1In.f a0 0 5).bind fun t235 => (some t235)) = some r := h
 clear h
 replace H := bs_ H
 obtain ⟨t235,A2,H⟩ := H
 obtain rfl := Option.some.inj H
 go_enter Tryz.func57,Tryz.ntmps57
 go_wp2_with (first|((with_reducible refine gcal_ (f := 74) rfl ?_);refine gl_ (some 4) Tryz.func74 #[.int .i64 a0,.int .i64 0,.int .i64 5] ?_;(with_reducible refine (spec_l1In.calls a0 0 5 t235 _ A2.out).mono ?_);rintro e w' ⟨rfl,⟨nd,rfl⟩⟩;refine ⟨_,rfl,?_⟩))
 go_ret
 exact ⟨rs_,by repeat (first|exact Drawn0.refl _|apply Drawn0.step)⟩

/-! ### spec_l1Value: function 106 -/
def spec_l1Value.f (a0 : Int) : Option (Bool) := (spec_l1In.f a0 (-1000000000) 1000000000).bind fun t236 => (some t236)
theorem spec_l1Value.calls (a0 : Int) (r : Bool) (w : World) (h : spec_l1Value.f a0 = some r) :
    Calls Tryz.prog 106 #[.int .i64 a0] w fun e w' => e = .returned (.bool r) ∧ Drawn0 w w' := by
 have H : ((spec_l1In.f a0 (-1000000000) 1000000000).bind fun t236 => (some t236)) = some r := h
 clear h
 replace H := bs_ H
 obtain ⟨t236,A2,H⟩ := H
 obtain rfl := Option.some.inj H
 go_enter Tryz.func106,Tryz.ntmps106
 go_wp2_with (first|((with_reducible refine gcal_ (f := 74) rfl ?_);refine gl_ (some 4) Tryz.func74 #[.int .i64 a0,.int .i64 (-1000000000),.int .i64 1000000000] ?_;(with_reducible refine (spec_l1In.calls a0 (-1000000000) 1000000000 t236 _ A2.out).mono ?_);rintro e w' ⟨rfl,⟨nd,rfl⟩⟩;refine ⟨_,rfl,?_⟩))
 go_ret
 exact ⟨rs_,by repeat (first|exact Drawn0.refl _|apply Drawn0.step)⟩

/-! ### spec_SetOk: function 142 -/
def spec_SetOk.f (a0_0 : Int) (a0_1 : Int) (a0_2 : Int) (a0_3 : Bool) (a0_4 : Int) : Option (Bool) := (spec_l1Region.f a0_0).bind fun t238 => (if t238 = true then ((spec_l1Slot.f a0_1).bind fun t239 => (if t239 = true then ((spec_l1Value.f a0_2).bind fun t240 => (if t240 = true then ((spec_l1In.f a0_4 0 999999).bind fun t241 => (some t241)) else (some false))) else (some false))) else (some false))
theorem spec_SetOk.calls (a0_0 : Int) (a0_1 : Int) (a0_2 : Int) (a0_3 : Bool) (a0_4 : Int) (r : Bool) (w : World) (h : spec_SetOk.f a0_0 a0_1 a0_2 a0_3 a0_4 = some r) :
    Calls Tryz.prog 142 #[.agg #[.int .i64 a0_0, .int .i64 a0_1, .int .i64 a0_2, .bool a0_3, .int .i64 a0_4]] w fun e w' => e = .returned (.bool r) ∧ Below w.heap.size w w' := by
 have hu119 := Tryz.underlying119
 have HB := ak (Below.refl w.heap.size w)
 have H : ((spec_l1Region.f a0_0).bind fun t238 => (if t238 = true then ((spec_l1Slot.f a0_1).bind fun t239 => (if t239 = true then ((spec_l1Value.f a0_2).bind fun t240 => (if t240 = true then ((spec_l1In.f a0_4 0 999999).bind fun t241 => (some t241)) else (some false))) else (some false))) else (some false))) = some r := h
 clear h
 replace H := bs_ H
 obtain ⟨t238,A2,H⟩ := H
 by_cases c3 : t238 = true
 ·subst c3
  replace H := it_ H
  replace H := bs_ H
  obtain ⟨t239,A4,H⟩ := H
  by_cases c5 : t239 = true
  ·subst c5
   replace H := it_ H
   replace H := bs_ H
   obtain ⟨t240,A6,H⟩ := H
   by_cases c7 : t240 = true
   ·subst c7
    replace H := it_ H
    replace H := bs_ H
    obtain ⟨t241,A8,H⟩ := H
    obtain rfl := Option.some.inj H
    go_enter Tryz.func142,Tryz.ntmps142
    go_wp2_with (first|((with_reducible refine gate_dst (N := 1) rfl ?_);refine bx_ 1 #[.int .i64 a0_0,.int .i64 a0_1,.int .i64 a0_2,.bool a0_3,.int .i64 a0_4] 119 ?_;intro gb237 hg w9 hbox hb;replace HB := nb_ hg hbox hb;obtain ⟨BK237,GW237,GE237,HB⟩ := HB;clear hb hbox hg;obtain ⟨⟨hcz10_0,hcz10_1,hcz10_2,hcz10_3,hcz10_4⟩,hfz10_0,hfz10_1,hfz10_2,hfz10_3,hfz10_4⟩ := cl5_ BK237.out)|((with_reducible refine gcal_ (f := 57) rfl ?_);refine gl_ (some 5) Tryz.func57 #[.int .i64 a0_0] ?_;(with_reducible refine (spec_l1Region.calls a0_0 true _ A2.out).mono ?_);rintro e w' ⟨rfl,⟨nd,rfl⟩⟩;refine ⟨_,rfl,?_⟩)|(go_at_call 139;(with_reducible refine (spec_l1Slot.calls a0_1 true _ A4.out).mono ?_);rintro e w' ⟨rfl,⟨nd,rfl⟩⟩)|(go_at_call 106;(with_reducible refine (spec_l1Value.calls a0_2 true _ A6.out).mono ?_);rintro e w' ⟨rfl,⟨nd,rfl⟩⟩)|(go_at_call 74;(with_reducible refine (spec_l1In.calls a0_4 0 999999 t241 _ A8.out).mono ?_);rintro e w' ⟨rfl,⟨nd,rfl⟩⟩))
    go_ret
    exact ⟨rf_,b_⟩
   ·replace c7 := Bool.eq_false_iff.mpr c7
    subst c7
    replace H := ie_ H
    obtain rfl := Option.some.inj H
    go_enter Tryz.func142,Tryz.ntmps142
    go_wp2_with (first|((with_reducible refine gate_dst (N := 1) rfl ?_);refine bx_ 1 #[.int .i64 a0_0,.int .i64 a0_1,.int .i64 a0_2,.bool a0_3,.int .i64 a0_4] 119 ?_;intro gb237 hg w11 hbox hb;replace HB := nb_ hg hbox hb;obtain ⟨BK237,GW237,GE237,HB⟩ := HB;clear hb hbox hg;obtain ⟨⟨hcz12_0,hcz12_1,hcz12_2,hcz12_3,hcz12_4⟩,hfz12_0,hfz12_1,hfz12_2,hfz12_3,hfz12_4⟩ := cl5_ BK237.out)|((with_reducible refine gcal_ (f := 57) rfl ?_);refine gl_ (some 5) Tryz.func57 #[.int .i64 a0_0] ?_;(with_reducible refine (spec_l1Region.calls a0_0 true _ A2.out).mono ?_);rintro e w' ⟨rfl,⟨nd,rfl⟩⟩;refine ⟨_,rfl,?_⟩)|(go_at_call 139;(with_reducible refine (spec_l1Slot.calls a0_1 true _ A4.out).mono ?_);rintro e w' ⟨rfl,⟨nd,rfl⟩⟩)|(go_at_call 106;(with_reducible refine (spec_l1Value.calls a0_2 false _ A6.out).mono ?_);rintro e w' ⟨rfl,⟨nd,rfl⟩⟩))
    go_ret
    exact ⟨rf_,b_⟩
  ·replace c5 := Bool.eq_false_iff.mpr c5
   subst c5
   replace H := ie_ H
   obtain rfl := Option.some.inj H
   go_enter Tryz.func142,Tryz.ntmps142
   go_wp2_with (first|((with_reducible refine gate_dst (N := 1) rfl ?_);refine bx_ 1 #[.int .i64 a0_0,.int .i64 a0_1,.int .i64 a0_2,.bool a0_3,.int .i64 a0_4] 119 ?_;intro gb237 hg w13 hbox hb;replace HB := nb_ hg hbox hb;obtain ⟨BK237,GW237,GE237,HB⟩ := HB;clear hb hbox hg;obtain ⟨⟨hcz14_0,hcz14_1,hcz14_2,hcz14_3,hcz14_4⟩,hfz14_0,hfz14_1,hfz14_2,hfz14_3,hfz14_4⟩ := cl5_ BK237.out)|((with_reducible refine gcal_ (f := 57) rfl ?_);refine gl_ (some 5) Tryz.func57 #[.int .i64 a0_0] ?_;(with_reducible refine (spec_l1Region.calls a0_0 true _ A2.out).mono ?_);rintro e w' ⟨rfl,⟨nd,rfl⟩⟩;refine ⟨_,rfl,?_⟩)|(go_at_call 139;(with_reducible refine (spec_l1Slot.calls a0_1 false _ A4.out).mono ?_);rintro e w' ⟨rfl,⟨nd,rfl⟩⟩))
   go_ret
   exact ⟨rf_,b_⟩
 ·replace c3 := Bool.eq_false_iff.mpr c3
  subst c3
  replace H := ie_ H
  obtain rfl := Option.some.inj H
  go_enter Tryz.func142,Tryz.ntmps142
  go_wp2_with (first|((with_reducible refine gate_dst (N := 1) rfl ?_);refine bx_ 1 #[.int .i64 a0_0,.int .i64 a0_1,.int .i64 a0_2,.bool a0_3,.int .i64 a0_4] 119 ?_;intro gb237 hg w15 hbox hb;replace HB := nb_ hg hbox hb;obtain ⟨BK237,GW237,GE237,HB⟩ := HB;clear hb hbox hg;obtain ⟨⟨hcz16_0,hcz16_1,hcz16_2,hcz16_3,hcz16_4⟩,hfz16_0,hfz16_1,hfz16_2,hfz16_3,hfz16_4⟩ := cl5_ BK237.out)|((with_reducible refine gcal_ (f := 57) rfl ?_);refine gl_ (some 5) Tryz.func57 #[.int .i64 a0_0] ?_;(with_reducible refine (spec_l1Region.calls a0_0 false _ A2.out).mono ?_);rintro e w' ⟨rfl,⟨nd,rfl⟩⟩;refine ⟨_,rfl,?_⟩))
  go_ret
  exact ⟨rf_,b_⟩

end Go.Proofs.YthplaakckfhaaaaGreat.XMs
