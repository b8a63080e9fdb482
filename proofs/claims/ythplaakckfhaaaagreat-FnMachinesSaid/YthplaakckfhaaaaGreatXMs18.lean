/- Proved: a call of each Go function here comes to what its Lean function tells. -/
import Derived.Test.YthplaakckfhaaaaGreatXMs0
namespace Go.Proofs.YthplaakckfhaaaaGreat.XMs
open Go.RowKit Go.Proofs.YthplaakckfhaaaaGreat.Aid Go.Proofs.YthplaakckfhaaaaGreatW.PrintWords Go.Proofs.YthplaakckfhaaaaGreatW.PrintLast Go.Proofs.YthplaakckfhaaaaGreatW.PrintMore
set_option linter.unusedVariables false
set_option maxHeartbeats 8000000
set_option maxRecDepth 100000
set_option linter.unusedSimpArgs false

/-! ### spec_l3Copy: function 60 -/
def spec_l3Copy.f (l0 : List (S87)) : Option ((List (S87))) := (some (([] : List (S87)) : List (S87))).bind fun y285 => (if y285.length + l0.length < 8796093022208 then (some (y285 ++ l0)) else (none))
theorem spec_l3Copy.calls (A0 : Option Addr) (c0 : Nat) (l0 : List (S87)) (r : List (S87)) (w : World) (hr0 : Kd.C k87 w A0 l0.length l0) (hc0 : l0.length ≤ c0) (h : spec_l3Copy.f l0 = some r) :
    Calls Tryz.prog 60 #[.slice A0 l0.length c0] w fun e w' => ∃ v0_ : Value, e = .returned (v0_) ∧ Kd.R k87 87 w' w.heap.size (fun _ => True) v0_ r ∧ Below w.heap.size w w' := by
 have HR0 := ak hr0
 have HC0 := ak hc0
 clear hr0 hc0
 have HB := ak (Below.refl w.heap.size w)
 have H : ((some (([] : List (S87)) : List (S87))).bind fun y285 => (if y285.length + l0.length < 8796093022208 then (some (y285 ++ l0)) else (none))) = some r := h
 clear h
 obtain ⟨y285,hy285⟩ : ∃ y_ : List (S87),y_ = (([] : List (S87))) := ⟨_,rfl⟩
 replace H : (if y285.length + l0.length < 8796093022208 then (some (y285 ++ l0)) else (none)) = some r := by first|(rw [hy285];with_reducible exact H)|(have H2_ := (Option.bind_some _ _).symm.trans H;rw [hy285];with_reducible exact H2_)|(have H2_ := (Option.bind_some _ _).symm.trans H;with_reducible exact H2_)|with_reducible exact H|(rw [hy285];exact H)|exact H
 have Ny285 := ak hy285
 clear hy285
 by_cases c2 : y285.length + l0.length < 8796093022208
 ·rw [if_pos c2] at H
  have LMc2 := ak c2
  clear c2
  obtain ⟨y288,hy288⟩ : ∃ y_ : List (S87),y_ = (y285 ++ l0) := ⟨_,rfl⟩
  replace H : (some y288) = some r := by first|(rw [hy288];with_reducible exact H)|(have H2_ := (Option.bind_some _ _).symm.trans H;rw [hy288];with_reducible exact H2_)|(have H2_ := (Option.bind_some _ _).symm.trans H;with_reducible exact H2_)|with_reducible exact H|(rw [hy288];exact H)|exact H
  have Ny288 := ak hy288
  clear hy288
  obtain rfl := Option.some.inj H
  go_enter Tryz.func60,Tryz.ntmps60
  go_wp2_with (first|((with_reducible refine gate_dst (N := 3) rfl ?_);refine Kd.R_lit k87 _ 87 ?hg (N := 3) ?hd (xs := ([] : List (S87))) (inner := []) (ok := fun _ => True) (okp := fun _ => True) ?hr ?hp (fun _ hk => hk) trivial (Below.refl _ _) (Nat.le_refl _) (by simp) ?_;(case hd => rfl);(case hg => rfl);(case hr => first|(go_simp;done)|(go_simp;rfl));(case hp => exact (Reps.none _ _));intro v286 w3 ho4 hb hg_ hnew_;clear hg_ hnew_;(first|rw [← Ny285.out] at ho4|(simp only [Int.reduceToNat] at ho4;rw [← Ny285.out] at ho4));have HO287 := ak (Kd.R_lower ho4 (below_size b_));replace HB := ak (below_step b_ hb);clear hb ho4)|((with_reducible refine gblt_ (b := .append) (xs := #[.tmp 3,.tmp 4]) rfl ?_);at_builtin;refine Kd.R_append_rows k87 (w0 := w) w.heap.size rfl (.tmp 3) (.tmp 4) 40 87 (.agg #[(.int .i64 0),(.int .i64 0)]) 16 rfl Tryz.underlying40 info87 rfl (by decide) (by omega) v286 y285 l0 _ _ _ (fun _ => True) (fun _ => False) rfl rfl ?aO ?aR (fun _ _ h => h) (fun _ h => h.elim) ?aF ?aB ?aS ?aL ?_;(case aR => repeat (first|exact (Kd.C_below HR0.out HB.out)|(with_reducible refine Kd.C_alloc ?_ _)|(with_reducible refine Kd.C_drewN ?_ _)|(with_reducible refine Kd.C_drew ?_)));(case aB => exact b_);(case aF => exact (fun _ _ => trivial));(case aO => exact (by (with_reducible repeat (first|apply Kd.R_alloc|apply Kd.R_drewN|apply Kd.R_drew));exact HO287.out));(case aS => exact (below_size b_));(case aL => have := LMc2.out;omega);intro v289 w5 ho hb hg hat;rw [← Ny288.out] at ho;replace HB := ak (hb);have HO290 := ak (ho);clear HO287;clear ho hb hg hat))
  go_ret
  exact ⟨_,rf_,by (with_reducible repeat (first|apply Kd.R_alloc|apply Kd.R_drewN|apply Kd.R_drew));exact HO290.out,b_⟩
 ·rw [if_neg c2] at H
  exact absurd H (by simp)

/-! ### spec_l6Record: function 68 -/
def spec_l6Record.f (a0_0 : Int) (a0_1 : Int) (a0_2 : Int) (l0_3 : List (S119)) : Option (Int × Int × Int × (List (S119))) := (some (([] : List (S119)) : List (S119))).bind fun y293 => (if y293.length + l0_3.length < 3518437208883 then (some (a0_0, a0_1, a0_2, (y293 ++ l0_3))) else (none))
theorem spec_l6Record.calls (a0_0 : Int) (a0_1 : Int) (a0_2 : Int) (A0_3 : Option Addr) (c0_3 : Nat) (l0_3 : List (S119)) (r1 : Int) (r2 : Int) (r3 : Int) (r4 : List (S119)) (w : World) (hr0_3 : Kd.C k119 w A0_3 l0_3.length l0_3) (hc0_3 : l0_3.length ≤ c0_3) (h : spec_l6Record.f a0_0 a0_1 a0_2 l0_3 = some (r1, r2, r3, r4)) :
    Calls Tryz.prog 68 #[.agg #[.int .i64 a0_0, .int .i64 a0_1, .int .i64 a0_2, .slice A0_3 l0_3.length c0_3]] w fun e w' => ∃ v3_ : Value, e = .returned (.agg #[.int .i64 r1, .int .i64 r2, .int .i64 r3, v3_]) ∧ Kd.R k119 119 w' w.heap.size (fun _ => True) v3_ r4 ∧ Below w.heap.size w w' := by
 have hu50 := Tryz.underlying50
 have HR0_3 := ak hr0_3
 have HC0_3 := ak hc0_3
 clear hr0_3 hc0_3
 have HB := ak (Below.refl w.heap.size w)
 have H : ((some (([] : List (S119)) : List (S119))).bind fun y293 => (if y293.length + l0_3.length < 3518437208883 then (some (a0_0,a0_1,a0_2,(y293 ++ l0_3))) else (none))) = some (r1,r2,r3,r4) := h
 clear h
 obtain ⟨y293,hy293⟩ : ∃ y_ : List (S119),y_ = (([] : List (S119))) := ⟨_,rfl⟩
 replace H : (if y293.length + l0_3.length < 3518437208883 then (some (a0_0,a0_1,a0_2,(y293 ++ l0_3))) else (none)) = some (r1,r2,r3,r4) := by first|(rw [hy293];with_reducible exact H)|(have H2_ := (Option.bind_some _ _).symm.trans H;rw [hy293];with_reducible exact H2_)|(have H2_ := (Option.bind_some _ _).symm.trans H;with_reducible exact H2_)|with_reducible exact H|(rw [hy293];exact H)|exact H
 have Ny293 := ak hy293
 clear hy293
 by_cases c2 : y293.length + l0_3.length < 3518437208883
 ·rw [if_pos c2] at H
  have LMc2 := ak c2
  clear c2
  obtain ⟨y296,hy296⟩ : ∃ y_ : List (S119),y_ = (y293 ++ l0_3) := ⟨_,rfl⟩
  replace H : (some (a0_0,a0_1,a0_2,y296)) = some (r1,r2,r3,r4) := by first|(rw [hy296];with_reducible exact H)|(have H2_ := (Option.bind_some _ _).symm.trans H;rw [hy296];with_reducible exact H2_)|(have H2_ := (Option.bind_some _ _).symm.trans H;with_reducible exact H2_)|with_reducible exact H|(rw [hy296];exact H)|exact H
  have Ny296 := ak hy296
  clear hy296
  simp only [Option.some.injEq,Prod.mk.injEq] at H
  obtain ⟨rfl,rfl,rfl,rfl⟩ := H
  go_enter Tryz.func68,Tryz.ntmps68
  go_wp2_with (first|((with_reducible refine gate_dst (N := 1) rfl ?_);refine bx_ 1 #[.int .i64 a0_0,.int .i64 a0_1,.int .i64 a0_2,.slice A0_3 l0_3.length c0_3] 50 ?_;intro gb291 hg w3 hbox hb;replace HB := nb_ hg hbox hb;obtain ⟨BK291,GW291,GE291,HB⟩ := HB;clear hb hbox hg)|((with_reducible refine gate_dst (N := 2) rfl ?_);refine bx_ 2 #[.int .i64 0,.int .i64 0,.int .i64 0,.slice none 0 0] 50 ?_;intro gb292 hg w4 hbox hb;replace HB := nb_ hg hbox hb;obtain ⟨BK292,GW292,GE292,HB⟩ := HB;have NB291_292 := ak ((nl_ BK291 hg));have NB292_291 := ak ((ng_ BK291 hg));replace BK291 := ak (blk_below (kb_ BK291) hb);clear hb hbox hg)|((with_reducible refine gate_dst (N := 3) rfl ?_);refine Kd.R_lit k119 _ 119 ?hg (N := 3) ?hd (xs := ([] : List (S119))) (inner := []) (ok := fun _ => True) (okp := fun _ => True) ?hr ?hp (fun _ hk => hk) trivial (Below.refl _ _) (Nat.le_refl _) (by simp) ?_;(case hd => rfl);(case hg => rfl);(case hr => first|(go_simp;done)|(go_simp;rfl));(case hp => exact (Reps.none _ _));intro v294 w5 ho6 hb hg_ hnew_;clear hg_ hnew_;(first|rw [← Ny293.out] at ho6|(simp only [Int.reduceToNat] at ho6;rw [← Ny293.out] at ho6));replace BK291 := ak (blk_below (kb_ BK291) hb);replace BK292 := ak (blk_below (kb_ BK292) hb);have HO295 := ak (Kd.R_lower ho6 (below_size b_));replace HB := ak (below_step b_ hb);clear hb ho6;have hnb7 := NB291_292.out;have hnc7 := NB292_291.out;obtain ⟨⟨hcz8_0,hcz8_1,hcz8_2,hcz8_3⟩,hfz8_0,hfz8_1,hfz8_2,hfz8_3⟩ := cl4_ BK291.out)|((with_reducible refine gblt_ (b := .append) (xs := #[.tmp 3,.tmp 5]) rfl ?_);at_builtin;refine Kd.R_append_rows k119 (w0 := w) w.heap.size rfl (.tmp 3) (.tmp 5) 48 119 (.agg #[(.int .i64 0),(.int .i64 0),(.int .i64 0),(.bool false),(.int .i64 0)]) 40 rfl Tryz.underlying48 info119 rfl (by decide) (by omega) v294 y293 l0_3 _ _ _ (fun _ => True) (fun _ => False) rfl rfl ?aO ?aR (fun _ _ h => h) (fun _ h => h.elim) ?aF ?aB ?aS ?aL ?_;(case aR => repeat (first|exact (Kd.C_below HR0_3.out HB.out)|(with_reducible refine Kd.C_alloc ?_ _)|(with_reducible refine Kd.C_drewN ?_ _)|(with_reducible refine Kd.C_drew ?_)));(case aB => exact b_);(case aF => exact (fun _ _ => trivial));(case aO => exact (by (with_reducible repeat (first|apply Kd.R_alloc|apply Kd.R_drewN|apply Kd.R_drew));exact HO295.out));(case aS => exact (below_size b_));(case aL => have := LMc2.out;omega);intro v297 w9 ho hb hg hat;rw [← Ny296.out] at ho;replace BK291 := ak (blk_grown (kb_ BK291) hg (Kd.R_ne HO295.out BK291.out (by decide)));replace BK292 := ak (blk_grown (kb_ BK292) hg (Kd.R_ne HO295.out BK292.out (by decide)));replace HB := ak (hb);have HO298 := ak (ho);clear HO295;clear ho hb hg hat;obtain ⟨Ao10,co10,eo10⟩ := Kd.R_slice HO298.out;subst eo10;obtain ⟨⟨hcz11_0,hcz11_1,hcz11_2,hcz11_3⟩,hfz11_0,hfz11_1,hfz11_2,hfz11_3⟩ := cl4_ BK291.out;obtain ⟨⟨hcz12_0,hcz12_1,hcz12_2,hcz12_3⟩,hfz12_0,hfz12_1,hfz12_2,hfz12_3⟩ := cl4_ BK292.out))
  refine bodyPost_ret (results_cell_row rfl _ _ gb292 50 #[.int .i64 a0_0,.int .i64 a0_1,.int .i64 a0_2,.slice Ao10 y296.length co10] (0,0) _ rfl (by (with_reducible repeat (first|refine blk_drewN ?_ _|refine blk_drew ?_|refine blk_alloc ?_ _));refine blk_put (cs := #[.int .i64 a0_0,.int .i64 a0_1,.int .i64 a0_2,.slice none 0 0]) ?_ 3 _ rfl;(with_reducible repeat (first|refine blk_drewN ?_ _|refine blk_drew ?_|refine blk_alloc ?_ _));refine blk_put (cs := #[.int .i64 a0_0,.int .i64 a0_1,.int .i64 0,.slice none 0 0]) ?_ 2 _ rfl;(with_reducible repeat (first|refine blk_drewN ?_ _|refine blk_drew ?_|refine blk_alloc ?_ _));refine blk_put (cs := #[.int .i64 a0_0,.int .i64 0,.int .i64 0,.slice none 0 0]) ?_ 1 _ rfl;(with_reducible repeat (first|refine blk_drewN ?_ _|refine blk_drew ?_|refine blk_alloc ?_ _));refine blk_put (cs := #[.int .i64 0,.int .i64 0,.int .i64 0,.slice none 0 0]) ?_ 0 _ rfl;(with_reducible repeat (first|refine blk_drewN ?_ _|refine blk_drew ?_|refine blk_alloc ?_ _));refine blk_far ?_ NB292_291.out _;(with_reducible repeat (first|refine blk_drewN ?_ _|refine blk_drew ?_|refine blk_alloc ?_ _));exact BK292.out) Tryz.underlying50 rfl (by kernel_rfl)) rfl ?_
  exact ⟨_,rf_,by (with_reducible repeat (first|apply Kd.R_alloc|apply Kd.R_drewN|apply Kd.R_drew));exact Kd.R_mono (Kd.R_far (p := ⟨gb292,3,none⟩) (Kd.R_far (p := ⟨gb292,2,none⟩) (Kd.R_far (p := ⟨gb292,1,none⟩) (Kd.R_far (p := ⟨gb292,0,none⟩) (Kd.R_far (p := ⟨gb291,3,none⟩) (Kd.R_types (Kd.R_types HO298.out BK291.out (by decide)) BK292.out (by decide)) (fun _ hk => hk.1.2) (.slice Ao10 y296.length co10)) (fun _ hk => hk.2) (.int .i64 a0_0)) (fun _ hk => hk.2) (.int .i64 a0_1)) (fun _ hk => hk.2) (.int .i64 a0_2)) (fun _ hk => hk.2) (.slice Ao10 y296.length co10)) (fun _ hk => trivial),b_⟩
 ·rw [if_neg c2] at H
  exact absurd H (by simp)

end Go.Proofs.YthplaakckfhaaaaGreat.XMs
