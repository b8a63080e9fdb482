/- Proved: of each Go function here that a call comes to what the Lean function of its name tells. Written by a program of this session over the translation. No conditions beyond each theorem's own. -/
import Derived.Test.YthplaakckfhaaaaXRp0
namespace Go.Proofs.Ythplaakckfhaaaa.XRp
open Go.RowKit Go.Proofs.Ythplaakckfhaaaa.Aid Go.Proofs.YthplaakckfhaaaaW.PrintWords Go.Proofs.YthplaakckfhaaaaW.PrintLast Go.Proofs.YthplaakckfhaaaaW.PrintMore
set_option linter.unusedVariables false
set_option linter.unusedSimpArgs false

/-! ### impl_Set_113: function 113 -/
def impl_Set_113.f (l0 : List (S127)) : Option ((List (S127))) := (some (([] : List (S127)) : List (S127))).bind fun y382 => (if y382.length + l0.length < 3518437208883 then (some (y382 ++ l0)) else (none))
set_option maxHeartbeats 8000000 in
set_option maxRecDepth 100000 in
theorem impl_Set_113.calls (A0 : Option Addr) (c0 : Nat) (l0 : List (S127)) (r : List (S127)) (w : World) (hr0 : Kd.C k127 w A0 l0.length l0) (hc0 : l0.length ≤ c0) (h : impl_Set_113.f l0 = some r) :
    Calls Try.prog 113 #[.slice A0 l0.length c0] w fun e w' => ∃ v0_ : Value, e = .returned (v0_) ∧ Kd.R k127 127 w' w.heap.size (fun _ => True) v0_ r ∧ Below w.heap.size w w' := by
 cases A0 with
  | none =>
  have hnil := fun (W : World) => Go.Lib.run_eql_slice_nil (P := Try.prog) W 43 127 none l0.length c0 0 0 Try.underlying43
  simp only [Option.isNone_none] at hnil
  have hl : l0 = [] := by
   rcases Nat.eq_zero_or_pos l0.length with h1 | h1
   ·exact List.length_eq_zero_iff.1 h1
   ·obtain ⟨_,e,_⟩ := hr0.2.2 h1
    cases e
  have hr : r = [] := by
   subst hl
   have h2 : some ([] : List _) = some r := by rw [← h];simp [impl_Set_113.f]
   exact (Option.some.inj h2).symm
  subst hr
  clear h hr0
  subst hl
  simp only [List.length_nil] at hnil
  go_enter Try.func113,Try.ntmps113
  go_wp2
  go_ret
  exact ⟨_,rfl,Kd.R_nil _ _ _ _ _,Below.refl _ _⟩
  | some ad0 =>
  have hnil := fun (W : World) => Go.Lib.run_eql_slice_nil (P := Try.prog) W 43 127 (some ad0) l0.length c0 0 0 Try.underlying43
  simp only [Option.isNone_some] at hnil
  have HR0 := Aside0.mk hr0
  have HC0 := Aside0.mk hc0
  clear hr0 hc0
  have HB := Aside0.mk (Below.refl w.heap.size w)
  have H : ((some (([] : List (S127)) : List (S127))).bind fun y382 => (if y382.length + l0.length < 3518437208883 then (some (y382 ++ l0)) else (none))) = some r := h
  clear h
  obtain ⟨y382,hy382⟩ : ∃ y_ : List (S127),y_ = (([] : List (S127))) := ⟨_,rfl⟩
  replace H : (if y382.length + l0.length < 3518437208883 then (some (y382 ++ l0)) else (none)) = some r := by first|(rw [hy382];with_reducible exact H)|(have H2_ := (Option.bind_some _ _).symm.trans H;rw [hy382];with_reducible exact H2_)|(have H2_ := (Option.bind_some _ _).symm.trans H;with_reducible exact H2_)|with_reducible exact H|(rw [hy382];exact H)|exact H
  have Ny382 := Aside0.mk hy382
  clear hy382
  by_cases c2 : y382.length + l0.length < 3518437208883
  ·rw [if_pos c2] at H
   have LMc2 := Aside0.mk c2
   clear c2
   obtain ⟨y385,hy385⟩ : ∃ y_ : List (S127),y_ = (y382 ++ l0) := ⟨_,rfl⟩
   replace H : (some y385) = some r := by first|(rw [hy385];with_reducible exact H)|(have H2_ := (Option.bind_some _ _).symm.trans H;rw [hy385];with_reducible exact H2_)|(have H2_ := (Option.bind_some _ _).symm.trans H;with_reducible exact H2_)|with_reducible exact H|(rw [hy385];exact H)|exact H
   have Ny385 := Aside0.mk hy385
   clear hy385
   obtain rfl := Option.some.inj H
   go_enter Try.func113,Try.ntmps113
   go_wp2_with (first|((with_reducible refine gate_dst (N := 5) rfl ?_);refine Kd.R_lit k127 _ 127 ?hg (N := 5) ?hd (xs := ([] : List (S127))) (inner := []) (ok := fun _ => True) (okp := fun _ => True) ?hr ?hp (fun _ hk => hk) trivial (Below.refl _ _) (Nat.le_refl _) (by simp) ?_;(case hd => rfl);(case hg => rfl);(case hr => first|(go_simp;done)|(go_simp;rfl));(case hp => exact (Reps.none _ _));intro v383 w3 ho4 hb hg_ hnew_;clear hg_ hnew_;(first|rw [← Ny382.out] at ho4|(simp only [Int.reduceToNat] at ho4;rw [← Ny382.out] at ho4));have HO384 := Aside0.mk (Kd.R_lower ho4 (below_size b_));replace HB := Aside0.mk (below_step b_ hb);clear hb ho4)|((with_reducible refine gblt_ (b := .append) (xs := #[.tmp 5,.tmp 6]) rfl ?_);at_builtin;refine Kd.R_append_rows k127 (w0 := w) w.heap.size rfl (.tmp 5) (.tmp 6) 43 127 (.agg #[(.int .i64 0),(.int .i64 0),(.int .i64 0),(.bool false),(.int .i64 0)]) 40 rfl Try.underlying43 info127 rfl (by decide) (by omega) v383 y382 l0 _ _ _ (fun _ => True) (fun _ => False) rfl rfl ?aO ?aR (fun _ _ h => h) (fun _ h => h.elim) ?aF ?aB ?aS ?aL ?_;(case aR => repeat (first|exact (Kd.C_below HR0.out HB.out)|(with_reducible refine Kd.C_alloc ?_ _)|(with_reducible refine Kd.C_drewN ?_ _)|(with_reducible refine Kd.C_drew ?_)));(case aB => exact b_);(case aF => exact (fun _ _ => trivial));(case aO => exact (by (with_reducible repeat (first|apply Kd.R_alloc|apply Kd.R_drewN|apply Kd.R_drew));exact HO384.out));(case aS => exact (below_size b_));(case aL => have := LMc2.out;omega);intro v386 w5 ho hb hg hat;rw [← Ny385.out] at ho;replace HB := Aside0.mk (hb);have HO387 := Aside0.mk (ho);clear HO384;clear ho hb hg hat))
   go_ret
   exact ⟨_,rf_,by (with_reducible repeat (first|apply Kd.R_alloc|apply Kd.R_drewN|apply Kd.R_drew));exact HO387.out,b_⟩
  ·rw [if_neg c2] at H
   exact absurd H (by simp)

/-! ### impl_cloneRecord: function 68 -/
def impl_cloneRecord.f (a0_0 : Int) (a0_1 : Int) (a0_2 : Int) (l0_3 : List (S127)) : Option (Int × Int × Int × (List (S127))) := (impl_Set_113.f l0_3).bind fun t390 => (some (a0_0, a0_1, a0_2, t390))
set_option maxHeartbeats 8000000 in
set_option maxRecDepth 100000 in
theorem impl_cloneRecord.calls (a0_0 : Int) (a0_1 : Int) (a0_2 : Int) (A0_3 : Option Addr) (c0_3 : Nat) (l0_3 : List (S127)) (r1 : Int) (r2 : Int) (r3 : Int) (r4 : List (S127)) (w : World) (hr0_3 : Kd.C k127 w A0_3 l0_3.length l0_3) (hc0_3 : l0_3.length ≤ c0_3) (h : impl_cloneRecord.f a0_0 a0_1 a0_2 l0_3 = some (r1, r2, r3, r4)) :
    Calls Try.prog 68 #[.agg #[.int .i64 a0_0, .int .i64 a0_1, .int .i64 a0_2, .slice A0_3 l0_3.length c0_3]] w fun e w' => ∃ v3_ : Value, e = .returned (.agg #[.int .i64 r1, .int .i64 r2, .int .i64 r3, v3_]) ∧ Kd.R k127 127 w' w.heap.size (fun _ => True) v3_ r4 ∧ Below w.heap.size w w' := by
 have hu45 := Try.underlying45
 have HR0_3 := Aside0.mk hr0_3
 have HC0_3 := Aside0.mk hc0_3
 clear hr0_3 hc0_3
 have HB := Aside0.mk (Below.refl w.heap.size w)
 have H : ((impl_Set_113.f l0_3).bind fun t390 => (some (a0_0,a0_1,a0_2,t390))) = some (r1,r2,r3,r4) := h
 clear h
 replace H := bs_ H
 obtain ⟨t390,A2,H⟩ := H
 simp only [Option.some.injEq,Prod.mk.injEq] at H
 obtain ⟨rfl,rfl,rfl,rfl⟩ := H
 go_enter Try.func68,Try.ntmps68
 go_wp2_with (first|((with_reducible refine gate_dst (N := 1) rfl ?_);refine bx_ 1 #[.int .i64 a0_0,.int .i64 a0_1,.int .i64 a0_2,.slice A0_3 l0_3.length c0_3] 45 ?_;intro gb388 hg w3 hbox hb;replace HB := nb_ hg hbox hb;obtain ⟨BK388,GW388,GE388,HB⟩ := HB;clear hb hbox hg)|((with_reducible refine gate_dst (N := 2) rfl ?_);refine bx_ 2 #[.int .i64 0,.int .i64 0,.int .i64 0,.slice none 0 0] 45 ?_;intro gb389 hg w4 hbox hb;replace HB := nb_ hg hbox hb;obtain ⟨BK389,GW389,GE389,HB⟩ := HB;have NB388_389 := Aside0.mk ((nl_ BK388 hg));have NB389_388 := Aside0.mk ((ng_ BK388 hg));replace BK388 := Aside0.mk (blk_below (kb_ BK388) hb);clear hb hbox hg;have hnb5 := NB388_389.out;have hnc5 := NB389_388.out;obtain ⟨⟨hcz6_0,hcz6_1,hcz6_2,hcz6_3⟩,hfz6_0,hfz6_1,hfz6_2,hfz6_3⟩ := cl4_ BK388.out)|((with_reducible refine gcal_ (f := 113) rfl ?_);refine gl_ (some 5) Try.func113 #[.slice A0_3 l0_3.length c0_3] ?_;(with_reducible refine (impl_Set_113.calls _ _ l0_3 t390 _ ?side1 ?side2 A2.out).mono ?_);(case side1 => exact cb_ HR0_3);(case side2 => exact HC0_3.out);rintro e w7 ⟨v391,rfl,ho0,hb⟩;refine ⟨_,rfl,?_⟩;replace BK388 := Aside0.mk (blk_below (kb_ BK388) hb);replace BK389 := Aside0.mk (blk_below (kb_ BK389) hb);have HO392 := Aside0.mk (Kd.R_lower ho0 (below_size b_));replace HB := Aside0.mk (below_step b_ hb);(try clear hb);(try clear hb2);(try clear hk);(try clear hi);(try clear ho0);obtain ⟨Ao8,co8,eo8⟩ := Kd.R_slice HO392.out;subst eo8;obtain ⟨⟨hcz9_0,hcz9_1,hcz9_2,hcz9_3⟩,hfz9_0,hfz9_1,hfz9_2,hfz9_3⟩ := cl4_ BK388.out;obtain ⟨⟨hcz10_0,hcz10_1,hcz10_2,hcz10_3⟩,hfz10_0,hfz10_1,hfz10_2,hfz10_3⟩ := cl4_ BK389.out))
 refine bodyPost_ret (results_cell_row rfl _ _ gb389 45 #[.int .i64 a0_0,.int .i64 a0_1,.int .i64 a0_2,.slice Ao8 t390.length co8] (0,0) _ rfl (by (with_reducible repeat (first|refine blk_drewN ?_ _|refine blk_drew ?_|refine blk_alloc ?_ _));refine blk_put (cs := #[.int .i64 a0_0,.int .i64 a0_1,.int .i64 a0_2,.slice none 0 0]) ?_ 3 _ rfl;(with_reducible repeat (first|refine blk_drewN ?_ _|refine blk_drew ?_|refine blk_alloc ?_ _));refine blk_put (cs := #[.int .i64 a0_0,.int .i64 a0_1,.int .i64 0,.slice none 0 0]) ?_ 2 _ rfl;(with_reducible repeat (first|refine blk_drewN ?_ _|refine blk_drew ?_|refine blk_alloc ?_ _));refine blk_put (cs := #[.int .i64 a0_0,.int .i64 0,.int .i64 0,.slice none 0 0]) ?_ 1 _ rfl;(with_reducible repeat (first|refine blk_drewN ?_ _|refine blk_drew ?_|refine blk_alloc ?_ _));refine blk_put (cs := #[.int .i64 0,.int .i64 0,.int .i64 0,.slice none 0 0]) ?_ 0 _ rfl;(with_reducible repeat (first|refine blk_drewN ?_ _|refine blk_drew ?_|refine blk_alloc ?_ _));refine blk_far ?_ NB389_388.out _;(with_reducible repeat (first|refine blk_drewN ?_ _|refine blk_drew ?_|refine blk_alloc ?_ _));exact BK389.out) Try.underlying45 rfl (by kernel_rfl)) rfl ?_
 exact ⟨_,rf_,by (with_reducible repeat (first|apply Kd.R_alloc|apply Kd.R_drewN|apply Kd.R_drew));exact Kd.R_mono (Kd.R_far (p := ⟨gb389,3,none⟩) (Kd.R_far (p := ⟨gb389,2,none⟩) (Kd.R_far (p := ⟨gb389,1,none⟩) (Kd.R_far (p := ⟨gb389,0,none⟩) (Kd.R_far (p := ⟨gb388,3,none⟩) (Kd.R_types (Kd.R_types HO392.out BK388.out (by decide)) BK389.out (by decide)) (fun _ hk => hk.1.2) (.slice Ao8 t390.length co8)) (fun _ hk => hk.2) (.int .i64 a0_0)) (fun _ hk => hk.2) (.int .i64 a0_1)) (fun _ hk => hk.2) (.int .i64 a0_2)) (fun _ hk => hk.2) (.slice Ao8 t390.length co8)) (fun _ hk => trivial),b_⟩

/-! ### slices_Clone_int64_int64: function 121 -/
def slices_Clone_int64_int64.f (l0 : List Int) : Option (List Int) := (some (([] : List Int) : List Int)).bind fun y393 => (if y393.length + l0.length < 17592186044416 then (some (y393 ++ l0)) else (none))
set_option maxHeartbeats 8000000 in
set_option maxRecDepth 100000 in
theorem slices_Clone_int64_int64.calls (A0 : Option Addr) (c0 : Nat) (l0 : List Int) (r : List Int) (w : World) (hr0 : Kd.C (Kd.int .i64) w A0 l0.length l0) (hc0 : l0.length ≤ c0) (h : slices_Clone_int64_int64.f l0 = some r) :
    Calls Try.prog 121 #[.slice A0 l0.length c0] w fun e w' => ∃ v0_ : Value, e = .returned (v0_) ∧ Kd.R (Kd.int .i64) 2 w' w.heap.size (fun _ => True) v0_ r ∧ Below w.heap.size w w' := by
 cases A0 with
  | none =>
  have hnil := fun (W : World) => Go.Lib.run_eql_slice_nil (P := Try.prog) W 24 2 none l0.length c0 0 0 Try.underlying24
  simp only [Option.isNone_none] at hnil
  have hl : l0 = [] := by
   rcases Nat.eq_zero_or_pos l0.length with h1 | h1
   ·exact List.length_eq_zero_iff.1 h1
   ·obtain ⟨_,e,_⟩ := hr0.2.2 h1
    cases e
  have hr : r = [] := by
   subst hl
   have h2 : some ([] : List _) = some r := by rw [← h];simp [slices_Clone_int64_int64.f]
   exact (Option.some.inj h2).symm
  subst hr
  clear h hr0
  subst hl
  simp only [List.length_nil] at hnil
  go_enter Try.func121,Try.ntmps121
  go_wp2
  go_ret
  exact ⟨_,rfl,Kd.R_nil _ _ _ _ _,Below.refl _ _⟩
  | some ad0 =>
  have hnil := fun (W : World) => Go.Lib.run_eql_slice_nil (P := Try.prog) W 24 2 (some ad0) l0.length c0 0 0 Try.underlying24
  simp only [Option.isNone_some] at hnil
  have HR0 := Aside0.mk hr0
  have HC0 := Aside0.mk hc0
  clear hr0 hc0
  have HB := Aside0.mk (Below.refl w.heap.size w)
  have H : ((some (([] : List Int) : List Int)).bind fun y393 => (if y393.length + l0.length < 17592186044416 then (some (y393 ++ l0)) else (none))) = some r := h
  clear h
  obtain ⟨y393,hy393⟩ : ∃ y_ : List Int,y_ = (([] : List Int)) := ⟨_,rfl⟩
  replace H : (if y393.length + l0.length < 17592186044416 then (some (y393 ++ l0)) else (none)) = some r := by first|(rw [hy393];with_reducible exact H)|(have H2_ := (Option.bind_some _ _).symm.trans H;rw [hy393];with_reducible exact H2_)|(have H2_ := (Option.bind_some _ _).symm.trans H;with_reducible exact H2_)|with_reducible exact H|(rw [hy393];exact H)|exact H
  have Ny393 := Aside0.mk hy393
  clear hy393
  by_cases c2 : y393.length + l0.length < 17592186044416
  ·rw [if_pos c2] at H
   have LMc2 := Aside0.mk c2
   clear c2
   obtain ⟨y396,hy396⟩ : ∃ y_ : List Int,y_ = (y393 ++ l0) := ⟨_,rfl⟩
   replace H : (some y396) = some r := by first|(rw [hy396];with_reducible exact H)|(have H2_ := (Option.bind_some _ _).symm.trans H;rw [hy396];with_reducible exact H2_)|(have H2_ := (Option.bind_some _ _).symm.trans H;with_reducible exact H2_)|with_reducible exact H|(rw [hy396];exact H)|exact H
   have Ny396 := Aside0.mk hy396
   clear hy396
   obtain rfl := Option.some.inj H
   go_enter Try.func121,Try.ntmps121
   go_wp2_with (first|((with_reducible refine gate_dst (N := 5) rfl ?_);refine Kd.R_lit (Kd.int .i64) _ 2 ?hg (N := 5) ?hd (xs := ([] : List Int)) (inner := []) (ok := fun _ => True) (okp := fun _ => True) ?hr ?hp (fun _ hk => hk) trivial (Below.refl _ _) (Nat.le_refl _) (by simp) ?_;(case hd => rfl);(case hg => rfl);(case hr => first|(go_simp;done)|(go_simp;rfl));(case hp => exact (Reps.none _ _));intro v394 w3 ho4 hb hg_ hnew_;clear hg_ hnew_;(first|rw [← Ny393.out] at ho4|(simp only [Int.reduceToNat] at ho4;rw [← Ny393.out] at ho4));have HO395 := Aside0.mk (Kd.R_lower ho4 (below_size b_));replace HB := Aside0.mk (below_step b_ hb);clear hb ho4)|((with_reducible refine gblt_ (b := .append) (xs := #[.tmp 5,.tmp 6]) rfl ?_);at_builtin;refine Kd.R_append_rows (Kd.int .i64) (w0 := w) w.heap.size rfl (.tmp 5) (.tmp 6) 24 2 (.int .i64 0) 8 rfl Try.underlying24 info2 rfl (by decide) (by omega) v394 y393 l0 _ _ _ (fun _ => True) (fun _ => False) rfl rfl ?aO ?aR (fun _ _ h => h) (fun _ h => h.elim) ?aF ?aB ?aS ?aL ?_;(case aR => repeat (first|exact (Kd.C_below HR0.out HB.out)|(with_reducible refine Kd.C_alloc ?_ _)|(with_reducible refine Kd.C_drewN ?_ _)|(with_reducible refine Kd.C_drew ?_)));(case aB => exact b_);(case aF => exact (fun _ _ => trivial));(case aO => exact (by (with_reducible repeat (first|apply Kd.R_alloc|apply Kd.R_drewN|apply Kd.R_drew));exact HO395.out));(case aS => exact (below_size b_));(case aL => have := LMc2.out;omega);intro v397 w5 ho hb hg hat;rw [← Ny396.out] at ho;replace HB := Aside0.mk (hb);have HO398 := Aside0.mk (ho);clear HO395;clear ho hb hg hat))
   go_ret
   exact ⟨_,rf_,by (with_reducible repeat (first|apply Kd.R_alloc|apply Kd.R_drewN|apply Kd.R_drew));exact HO398.out,b_⟩
  ·rw [if_neg c2] at H
   exact absurd H (by simp)

end Go.Proofs.Ythplaakckfhaaaa.XRp
