/- Proved: of each Go function here that a call comes to what the Lean function of its name tells. Written by a program of this session over the translation. No conditions beyond each theorem's own. -/
import Derived.Test.YthplaakckfhaaaaXRp0
namespace Go.Proofs.Ythplaakckfhaaaa.XRp
open Go.RowKit Go.Proofs.Ythplaakckfhaaaa.Aid Go.Proofs.YthplaakckfhaaaaW.PrintWords Go.Proofs.YthplaakckfhaaaaW.PrintLast Go.Proofs.YthplaakckfhaaaaW.PrintMore
set_option linter.unusedVariables false
set_option linter.unusedSimpArgs false

/-! ### spec_l3Copy: function 58 -/
def spec_l3Copy.f (l0 : List (S92)) : Option ((List (S92))) := (some (([] : List (S92)) : List (S92))).bind fun y284 => (if y284.length + l0.length < 8796093022208 then (some (y284 ++ l0)) else (none))
set_option maxHeartbeats 8000000 in
set_option maxRecDepth 100000 in
theorem spec_l3Copy.calls (A0 : Option Addr) (c0 : Nat) (l0 : List (S92)) (r : List (S92)) (w : World) (hr0 : Kd.C k92 w A0 l0.length l0) (hc0 : l0.length ≤ c0) (h : spec_l3Copy.f l0 = some r) :
    Calls Try.prog 58 #[.slice A0 l0.length c0] w fun e w' => ∃ v0_ : Value, e = .returned (v0_) ∧ Kd.R k92 92 w' w.heap.size (fun _ => True) v0_ r ∧ Below w.heap.size w w' := by
 have HR0 := Aside0.mk hr0
 have HC0 := Aside0.mk hc0
 clear hr0 hc0
 have HB := Aside0.mk (Below.refl w.heap.size w)
 have H : ((some (([] : List (S92)) : List (S92))).bind fun y284 => (if y284.length + l0.length < 8796093022208 then (some (y284 ++ l0)) else (none))) = some r := h
 clear h
 obtain ⟨y284,hy284⟩ : ∃ y_ : List (S92),y_ = (([] : List (S92))) := ⟨_,rfl⟩
 replace H : (if y284.length + l0.length < 8796093022208 then (some (y284 ++ l0)) else (none)) = some r := by first|(rw [hy284];with_reducible exact H)|(have H2_ := (Option.bind_some _ _).symm.trans H;rw [hy284];with_reducible exact H2_)|(have H2_ := (Option.bind_some _ _).symm.trans H;with_reducible exact H2_)|with_reducible exact H|(rw [hy284];exact H)|exact H
 have Ny284 := Aside0.mk hy284
 clear hy284
 by_cases c2 : y284.length + l0.length < 8796093022208
 ·rw [if_pos c2] at H
  have LMc2 := Aside0.mk c2
  clear c2
  obtain ⟨y287,hy287⟩ : ∃ y_ : List (S92),y_ = (y284 ++ l0) := ⟨_,rfl⟩
  replace H : (some y287) = some r := by first|(rw [hy287];with_reducible exact H)|(have H2_ := (Option.bind_some _ _).symm.trans H;rw [hy287];with_reducible exact H2_)|(have H2_ := (Option.bind_some _ _).symm.trans H;with_reducible exact H2_)|with_reducible exact H|(rw [hy287];exact H)|exact H
  have Ny287 := Aside0.mk hy287
  clear hy287
  obtain rfl := Option.some.inj H
  go_enter Try.func58,Try.ntmps58
  go_wp2_with (first|((with_reducible refine gate_dst (N := 3) rfl ?_);refine Kd.R_lit k92 _ 92 ?hg (N := 3) ?hd (xs := ([] : List (S92))) (inner := []) (ok := fun _ => True) (okp := fun _ => True) ?hr ?hp (fun _ hk => hk) trivial (Below.refl _ _) (Nat.le_refl _) (by simp) ?_;(case hd => rfl);(case hg => rfl);(case hr => first|(go_simp;done)|(go_simp;rfl));(case hp => exact (Reps.none _ _));intro v285 w3 ho4 hb hg_ hnew_;clear hg_ hnew_;(first|rw [← Ny284.out] at ho4|(simp only [Int.reduceToNat] at ho4;rw [← Ny284.out] at ho4));have HO286 := Aside0.mk (Kd.R_lower ho4 (below_size b_));replace HB := Aside0.mk (below_step b_ hb);clear hb ho4)|((with_reducible refine gblt_ (b := .append) (xs := #[.tmp 3,.tmp 4]) rfl ?_);at_builtin;refine Kd.R_append_rows k92 (w0 := w) w.heap.size rfl (.tmp 3) (.tmp 4) 36 92 (.agg #[(.int .i64 0),(.int .i64 0)]) 16 rfl Try.underlying36 info92 rfl (by decide) (by omega) v285 y284 l0 _ _ _ (fun _ => True) (fun _ => False) rfl rfl ?aO ?aR (fun _ _ h => h) (fun _ h => h.elim) ?aF ?aB ?aS ?aL ?_;(case aR => repeat (first|exact (Kd.C_below HR0.out HB.out)|(with_reducible refine Kd.C_alloc ?_ _)|(with_reducible refine Kd.C_drewN ?_ _)|(with_reducible refine Kd.C_drew ?_)));(case aB => exact b_);(case aF => exact (fun _ _ => trivial));(case aO => exact (by (with_reducible repeat (first|apply Kd.R_alloc|apply Kd.R_drewN|apply Kd.R_drew));exact HO286.out));(case aS => exact (below_size b_));(case aL => have := LMc2.out;omega);intro v288 w5 ho hb hg hat;rw [← Ny287.out] at ho;replace HB := Aside0.mk (hb);have HO289 := Aside0.mk (ho);clear HO286;clear ho hb hg hat))
  go_ret
  exact ⟨_,rf_,by (with_reducible repeat (first|apply Kd.R_alloc|apply Kd.R_drewN|apply Kd.R_drew));exact HO289.out,b_⟩
 ·rw [if_neg c2] at H
  exact absurd H (by simp)

/-! ### spec_l6Record: function 66 -/
def spec_l6Record.f (a0_0 : Int) (a0_1 : Int) (a0_2 : Int) (l0_3 : List (S127)) : Option (Int × Int × Int × (List (S127))) := (some (([] : List (S127)) : List (S127))).bind fun y292 => (if y292.length + l0_3.length < 3518437208883 then (some (a0_0, a0_1, a0_2, (y292 ++ l0_3))) else (none))
set_option maxHeartbeats 8000000 in
set_option maxRecDepth 100000 in
theorem spec_l6Record.calls (a0_0 : Int) (a0_1 : Int) (a0_2 : Int) (A0_3 : Option Addr) (c0_3 : Nat) (l0_3 : List (S127)) (r1 : Int) (r2 : Int) (r3 : Int) (r4 : List (S127)) (w : World) (hr0_3 : Kd.C k127 w A0_3 l0_3.length l0_3) (hc0_3 : l0_3.length ≤ c0_3) (h : spec_l6Record.f a0_0 a0_1 a0_2 l0_3 = some (r1, r2, r3, r4)) :
    Calls Try.prog 66 #[.agg #[.int .i64 a0_0, .int .i64 a0_1, .int .i64 a0_2, .slice A0_3 l0_3.length c0_3]] w fun e w' => ∃ v3_ : Value, e = .returned (.agg #[.int .i64 r1, .int .i64 r2, .int .i64 r3, v3_]) ∧ Kd.R k127 127 w' w.heap.size (fun _ => True) v3_ r4 ∧ Below w.heap.size w w' := by
 have hu45 := Try.underlying45
 have HR0_3 := Aside0.mk hr0_3
 have HC0_3 := Aside0.mk hc0_3
 clear hr0_3 hc0_3
 have HB := Aside0.mk (Below.refl w.heap.size w)
 have H : ((some (([] : List (S127)) : List (S127))).bind fun y292 => (if y292.length + l0_3.length < 3518437208883 then (some (a0_0,a0_1,a0_2,(y292 ++ l0_3))) else (none))) = some (r1,r2,r3,r4) := h
 clear h
 obtain ⟨y292,hy292⟩ : ∃ y_ : List (S127),y_ = (([] : List (S127))) := ⟨_,rfl⟩
 replace H : (if y292.length + l0_3.length < 3518437208883 then (some (a0_0,a0_1,a0_2,(y292 ++ l0_3))) else (none)) = some (r1,r2,r3,r4) := by first|(rw [hy292];with_reducible exact H)|(have H2_ := (Option.bind_some _ _).symm.trans H;rw [hy292];with_reducible exact H2_)|(have H2_ := (Option.bind_some _ _).symm.trans H;with_reducible exact H2_)|with_reducible exact H|(rw [hy292];exact H)|exact H
 have Ny292 := Aside0.mk hy292
 clear hy292
 by_cases c2 : y292.length + l0_3.length < 3518437208883
 ·rw [if_pos c2] at H
  have LMc2 := Aside0.mk c2
  clear c2
  obtain ⟨y295,hy295⟩ : ∃ y_ : List (S127),y_ = (y292 ++ l0_3) := ⟨_,rfl⟩
  replace H : (some (a0_0,a0_1,a0_2,y295)) = some (r1,r2,r3,r4) := by first|(rw [hy295];with_reducible exact H)|(have H2_ := (Option.bind_some _ _).symm.trans H;rw [hy295];with_reducible exact H2_)|(have H2_ := (Option.bind_some _ _).symm.trans H;with_reducible exact H2_)|with_reducible exact H|(rw [hy295];exact H)|exact H
  have Ny295 := Aside0.mk hy295
  clear hy295
  simp only [Option.some.injEq,Prod.mk.injEq] at H
  obtain ⟨rfl,rfl,rfl,rfl⟩ := H
  go_enter Try.func66,Try.ntmps66
  go_wp2_with (first|((with_reducible refine gate_dst (N := 1) rfl ?_);refine bx_ 1 #[.int .i64 a0_0,.int .i64 a0_1,.int .i64 a0_2,.slice A0_3 l0_3.length c0_3] 45 ?_;intro gb290 hg w3 hbox hb;replace HB := nb_ hg hbox hb;obtain ⟨BK290,GW290,GE290,HB⟩ := HB;clear hb hbox hg)|((with_reducible refine gate_dst (N := 2) rfl ?_);refine bx_ 2 #[.int .i64 0,.int .i64 0,.int .i64 0,.slice none 0 0] 45 ?_;intro gb291 hg w4 hbox hb;replace HB := nb_ hg hbox hb;obtain ⟨BK291,GW291,GE291,HB⟩ := HB;have NB290_291 := Aside0.mk ((nl_ BK290 hg));have NB291_290 := Aside0.mk ((ng_ BK290 hg));replace BK290 := Aside0.mk (blk_below (kb_ BK290) hb);clear hb hbox hg)|((with_reducible refine gate_dst (N := 3) rfl ?_);refine Kd.R_lit k127 _ 127 ?hg (N := 3) ?hd (xs := ([] : List (S127))) (inner := []) (ok := fun _ => True) (okp := fun _ => True) ?hr ?hp (fun _ hk => hk) trivial (Below.refl _ _) (Nat.le_refl _) (by simp) ?_;(case hd => rfl);(case hg => rfl);(case hr => first|(go_simp;done)|(go_simp;rfl));(case hp => exact (Reps.none _ _));intro v293 w5 ho6 hb hg_ hnew_;clear hg_ hnew_;(first|rw [← Ny292.out] at ho6|(simp only [Int.reduceToNat] at ho6;rw [← Ny292.out] at ho6));replace BK290 := Aside0.mk (blk_below (kb_ BK290) hb);replace BK291 := Aside0.mk (blk_below (kb_ BK291) hb);have HO294 := Aside0.mk (Kd.R_lower ho6 (below_size b_));replace HB := Aside0.mk (below_step b_ hb);clear hb ho6;have hnb7 := NB290_291.out;have hnc7 := NB291_290.out;obtain ⟨⟨hcz8_0,hcz8_1,hcz8_2,hcz8_3⟩,hfz8_0,hfz8_1,hfz8_2,hfz8_3⟩ := cl4_ BK290.out)|((with_reducible refine gblt_ (b := .append) (xs := #[.tmp 3,.tmp 5]) rfl ?_);at_builtin;refine Kd.R_append_rows k127 (w0 := w) w.heap.size rfl (.tmp 3) (.tmp 5) 43 127 (.agg #[(.int .i64 0),(.int .i64 0),(.int .i64 0),(.bool false),(.int .i64 0)]) 40 rfl Try.underlying43 info127 rfl (by decide) (by omega) v293 y292 l0_3 _ _ _ (fun _ => True) (fun _ => False) rfl rfl ?aO ?aR (fun _ _ h => h) (fun _ h => h.elim) ?aF ?aB ?aS ?aL ?_;(case aR => repeat (first|exact (Kd.C_below HR0_3.out HB.out)|(with_reducible refine Kd.C_alloc ?_ _)|(with_reducible refine Kd.C_drewN ?_ _)|(with_reducible refine Kd.C_drew ?_)));(case aB => exact b_);(case aF => exact (fun _ _ => trivial));(case aO => exact (by (with_reducible repeat (first|apply Kd.R_alloc|apply Kd.R_drewN|apply Kd.R_drew));exact HO294.out));(case aS => exact (below_size b_));(case aL => have := LMc2.out;omega);intro v296 w9 ho hb hg hat;rw [← Ny295.out] at ho;replace BK290 := Aside0.mk (blk_grown (kb_ BK290) hg (Kd.R_ne HO294.out BK290.out (by decide)));replace BK291 := Aside0.mk (blk_grown (kb_ BK291) hg (Kd.R_ne HO294.out BK291.out (by decide)));replace HB := Aside0.mk (hb);have HO297 := Aside0.mk (ho);clear HO294;clear ho hb hg hat;obtain ⟨Ao10,co10,eo10⟩ := Kd.R_slice HO297.out;subst eo10;obtain ⟨⟨hcz11_0,hcz11_1,hcz11_2,hcz11_3⟩,hfz11_0,hfz11_1,hfz11_2,hfz11_3⟩ := cl4_ BK290.out;obtain ⟨⟨hcz12_0,hcz12_1,hcz12_2,hcz12_3⟩,hfz12_0,hfz12_1,hfz12_2,hfz12_3⟩ := cl4_ BK291.out))
  refine bodyPost_ret (results_cell_row rfl _ _ gb291 45 #[.int .i64 a0_0,.int .i64 a0_1,.int .i64 a0_2,.slice Ao10 y295.length co10] (0,0) _ rfl (by (with_reducible repeat (first|refine blk_drewN ?_ _|refine blk_drew ?_|refine blk_alloc ?_ _));refine blk_put (cs := #[.int .i64 a0_0,.int .i64 a0_1,.int .i64 a0_2,.slice none 0 0]) ?_ 3 _ rfl;(with_reducible repeat (first|refine blk_drewN ?_ _|refine blk_drew ?_|refine blk_alloc ?_ _));refine blk_put (cs := #[.int .i64 a0_0,.int .i64 a0_1,.int .i64 0,.slice none 0 0]) ?_ 2 _ rfl;(with_reducible repeat (first|refine blk_drewN ?_ _|refine blk_drew ?_|refine blk_alloc ?_ _));refine blk_put (cs := #[.int .i64 a0_0,.int .i64 0,.int .i64 0,.slice none 0 0]) ?_ 1 _ rfl;(with_reducible repeat (first|refine blk_drewN ?_ _|refine blk_drew ?_|refine blk_alloc ?_ _));refine blk_put (cs := #[.int .i64 0,.int .i64 0,.int .i64 0,.slice none 0 0]) ?_ 0 _ rfl;(with_reducible repeat (first|refine blk_drewN ?_ _|refine blk_drew ?_|refine blk_alloc ?_ _));refine blk_far ?_ NB291_290.out _;(with_reducible repeat (first|refine blk_drewN ?_ _|refine blk_drew ?_|refine blk_alloc ?_ _));exact BK291.out) Try.underlying45 rfl (by kernel_rfl)) rfl ?_
  exact ⟨_,rf_,by (with_reducible repeat (first|apply Kd.R_alloc|apply Kd.R_drewN|apply Kd.R_drew));exact Kd.R_mono (Kd.R_far (p := ⟨gb291,3,none⟩) (Kd.R_far (p := ⟨gb291,2,none⟩) (Kd.R_far (p := ⟨gb291,1,none⟩) (Kd.R_far (p := ⟨gb291,0,none⟩) (Kd.R_far (p := ⟨gb290,3,none⟩) (Kd.R_types (Kd.R_types HO297.out BK290.out (by decide)) BK291.out (by decide)) (fun _ hk => hk.1.2) (.slice Ao10 y295.length co10)) (fun _ hk => hk.2) (.int .i64 a0_0)) (fun _ hk => hk.2) (.int .i64 a0_1)) (fun _ hk => hk.2) (.int .i64 a0_2)) (fun _ hk => hk.2) (.slice Ao10 y295.length co10)) (fun _ hk => trivial),b_⟩
 ·rw [if_neg c2] at H
  exact absurd H (by simp)

end Go.Proofs.Ythplaakckfhaaaa.XRp
