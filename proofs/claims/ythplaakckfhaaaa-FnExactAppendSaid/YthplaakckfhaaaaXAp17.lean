/- Proved: of each Go function here that a call comes to what the Lean function of its name tells. Written by a program of this session over the translation. No conditions beyond each theorem's own. -/
import Derived.Test.YthplaakckfhaaaaXAp0
namespace Go.Proofs.Ythplaakckfhaaaa.XAp
open Go.RowKit Go.Proofs.Ythplaakckfhaaaa.Aid Go.Proofs.YthplaakckfhaaaaW.PrintWords Go.Proofs.YthplaakckfhaaaaW.PrintLast Go.Proofs.YthplaakckfhaaaaW.PrintMore
set_option linter.unusedVariables false
set_option linter.unusedSimpArgs false

/-! ### impl_Cell_60: function 60 -/
def impl_Cell_60.f (l0 : List (S92)) : Option ((List (S92))) := (some (([] : List (S92)) : List (S92))).bind fun y347 => (if y347.length + l0.length < 8796093022208 then (some (y347 ++ l0)) else (none))
set_option maxHeartbeats 8000000 in
set_option maxRecDepth 100000 in
theorem impl_Cell_60.calls (A0 : Option Addr) (c0 : Nat) (l0 : List (S92)) (r : List (S92)) (w : World) (hr0 : Kd.C k92 w A0 l0.length l0) (hc0 : l0.length ≤ c0) (h : impl_Cell_60.f l0 = some r) :
    Calls Try.prog 60 #[.slice A0 l0.length c0] w fun e w' => ∃ v0_ : Value, e = .returned (v0_) ∧ Kd.R k92 92 w' w.heap.size (fun _ => True) v0_ r ∧ Below w.heap.size w w' := by
 cases A0 with
  | none =>
  have hnil := fun (W : World) => Go.Lib.run_eql_slice_nil (P := Try.prog) W 36 92 none l0.length c0 0 0 Try.underlying36
  simp only [Option.isNone_none] at hnil
  have hl : l0 = [] := by
   rcases Nat.eq_zero_or_pos l0.length with h1 | h1
   ·exact List.length_eq_zero_iff.1 h1
   ·obtain ⟨_,e,_⟩ := hr0.2.2 h1
    cases e
  have hr : r = [] := by
   subst hl
   have h2 : some ([] : List _) = some r := by rw [← h];simp [impl_Cell_60.f]
   exact (Option.some.inj h2).symm
  subst hr
  clear h hr0
  subst hl
  simp only [List.length_nil] at hnil
  go_enter Try.func60,Try.ntmps60
  go_wp2
  go_ret
  exact ⟨_,rfl,Kd.R_nil _ _ _ _ _,Below.refl _ _⟩
  | some ad0 =>
  have hnil := fun (W : World) => Go.Lib.run_eql_slice_nil (P := Try.prog) W 36 92 (some ad0) l0.length c0 0 0 Try.underlying36
  simp only [Option.isNone_some] at hnil
  have HR0 := Aside0.mk hr0
  have HC0 := Aside0.mk hc0
  clear hr0 hc0
  have HB := Aside0.mk (Below.refl w.heap.size w)
  have H : ((some (([] : List (S92)) : List (S92))).bind fun y347 => (if y347.length + l0.length < 8796093022208 then (some (y347 ++ l0)) else (none))) = some r := h
  clear h
  obtain ⟨y347,hy347⟩ : ∃ y_ : List (S92),y_ = (([] : List (S92))) := ⟨_,rfl⟩
  replace H : (if y347.length + l0.length < 8796093022208 then (some (y347 ++ l0)) else (none)) = some r := by first|(rw [hy347];with_reducible exact H)|(have H2_ := (Option.bind_some _ _).symm.trans H;rw [hy347];with_reducible exact H2_)|(have H2_ := (Option.bind_some _ _).symm.trans H;with_reducible exact H2_)|with_reducible exact H|(rw [hy347];exact H)|exact H
  have Ny347 := Aside0.mk hy347
  clear hy347
  by_cases c2 : y347.length + l0.length < 8796093022208
  ·rw [if_pos c2] at H
   have LMc2 := Aside0.mk c2
   clear c2
   obtain ⟨y350,hy350⟩ : ∃ y_ : List (S92),y_ = (y347 ++ l0) := ⟨_,rfl⟩
   replace H : (some y350) = some r := by first|(rw [hy350];with_reducible exact H)|(have H2_ := (Option.bind_some _ _).symm.trans H;rw [hy350];with_reducible exact H2_)|(have H2_ := (Option.bind_some _ _).symm.trans H;with_reducible exact H2_)|with_reducible exact H|(rw [hy350];exact H)|exact H
   have Ny350 := Aside0.mk hy350
   clear hy350
   obtain rfl := Option.some.inj H
   go_enter Try.func60,Try.ntmps60
   go_wp2_with (first|((with_reducible refine gate_dst (N := 5) rfl ?_);refine Kd.R_lit k92 _ 92 ?hg (N := 5) ?hd (xs := ([] : List (S92))) (inner := []) (ok := fun _ => True) (okp := fun _ => True) ?hr ?hp (fun _ hk => hk) trivial (Below.refl _ _) (Nat.le_refl _) (by simp) ?_;(case hd => rfl);(case hg => rfl);(case hr => first|(go_simp;done)|(go_simp;rfl));(case hp => exact (Reps.none _ _));intro v348 w3 ho4 hb hg_ hnew_;clear hg_ hnew_;(first|rw [← Ny347.out] at ho4|(simp only [Int.reduceToNat] at ho4;rw [← Ny347.out] at ho4));have HO349 := Aside0.mk (Kd.R_lower ho4 (below_size b_));replace HB := Aside0.mk (below_step b_ hb);clear hb ho4)|((with_reducible refine gblt_ (b := .append) (xs := #[.tmp 5,.tmp 6]) rfl ?_);at_builtin;refine Kd.R_append_rows k92 (w0 := w) w.heap.size rfl (.tmp 5) (.tmp 6) 36 92 (.agg #[(.int .i64 0),(.int .i64 0)]) 16 rfl Try.underlying36 info92 rfl (by decide) (by omega) v348 y347 l0 _ _ _ (fun _ => True) (fun _ => False) rfl rfl ?aO ?aR (fun _ _ h => h) (fun _ h => h.elim) ?aF ?aB ?aS ?aL ?_;(case aR => repeat (first|exact (Kd.C_below HR0.out HB.out)|(with_reducible refine Kd.C_alloc ?_ _)|(with_reducible refine Kd.C_drewN ?_ _)|(with_reducible refine Kd.C_drew ?_)));(case aB => exact b_);(case aF => exact (fun _ _ => trivial));(case aO => exact (by (with_reducible repeat (first|apply Kd.R_alloc|apply Kd.R_drewN|apply Kd.R_drew));exact HO349.out));(case aS => exact (below_size b_));(case aL => have := LMc2.out;omega);intro v351 w5 ho hb hg hat;rw [← Ny350.out] at ho;replace HB := Aside0.mk (hb);have HO352 := Aside0.mk (ho);clear HO349;clear ho hb hg hat))
   go_ret
   exact ⟨_,rf_,by (with_reducible repeat (first|apply Kd.R_alloc|apply Kd.R_drewN|apply Kd.R_drew));exact HO352.out,b_⟩
  ·rw [if_neg c2] at H
   exact absurd H (by simp)

/-! ### impl_Set_113: function 113 -/
def impl_Set_113.f (l0 : List (S127)) : Option ((List (S127))) := (some (([] : List (S127)) : List (S127))).bind fun y353 => (if y353.length + l0.length < 3518437208883 then (some (y353 ++ l0)) else (none))
set_option maxHeartbeats 8000000 in
set_option maxRecDepth 100000 in
theorem impl_Set_113.calls (A0 : Option Addr) (c0 : Nat) (l0 : List (S127)) (r : List (S127)) (w : World) (hr0 : Kd.C k127 w A0 l0.length l0) (hc0 : l0.length ≤ c0) (h : impl_Set_113.f l0 = some r) :
    Calls Try.prog 113 #[.slice A0 l0.length c0] w fun e w' => ∃ v0_ : Value, e = .returned (v0_) ∧ Kd.R k127 127 w' w.heap.size (fun _ => True) v0_ r ∧ Below w.heap.size w w' := by
 cases A0 with
  | none =>
  have hnil := fun (W : World) => Go.Lib.run_eql_slice_nil (P := Try.prog) W 43 127 none l0.length c0 0 0 Try.underlying43
  simp only [Option.isNone_none] at hnil
  have hl : l0 = [] := by
   rcases Nat.eq_zero_or_pos l0.length with h1 | h1
   ·exact List.length_eq_zero_iff.1 h1
   ·obtain ⟨_,e,_⟩ := hr0.2.2 h1
    cases e
  have hr : r = [] := by
   subst hl
   have h2 : some ([] : List _) = some r := by rw [← h];simp [impl_Set_113.f]
   exact (Option.some.inj h2).symm
  subst hr
  clear h hr0
  subst hl
  simp only [List.length_nil] at hnil
  go_enter Try.func113,Try.ntmps113
  go_wp2
  go_ret
  exact ⟨_,rfl,Kd.R_nil _ _ _ _ _,Below.refl _ _⟩
  | some ad0 =>
  have hnil := fun (W : World) => Go.Lib.run_eql_slice_nil (P := Try.prog) W 43 127 (some ad0) l0.length c0 0 0 Try.underlying43
  simp only [Option.isNone_some] at hnil
  have HR0 := Aside0.mk hr0
  have HC0 := Aside0.mk hc0
  clear hr0 hc0
  have HB := Aside0.mk (Below.refl w.heap.size w)
  have H : ((some (([] : List (S127)) : List (S127))).bind fun y353 => (if y353.length + l0.length < 3518437208883 then (some (y353 ++ l0)) else (none))) = some r := h
  clear h
  obtain ⟨y353,hy353⟩ : ∃ y_ : List (S127),y_ = (([] : List (S127))) := ⟨_,rfl⟩
  replace H : (if y353.length + l0.length < 3518437208883 then (some (y353 ++ l0)) else (none)) = some r := by first|(rw [hy353];with_reducible exact H)|(have H2_ := (Option.bind_some _ _).symm.trans H;rw [hy353];with_reducible exact H2_)|(have H2_ := (Option.bind_some _ _).symm.trans H;with_reducible exact H2_)|with_reducible exact H|(rw [hy353];exact H)|exact H
  have Ny353 := Aside0.mk hy353
  clear hy353
  by_cases c2 : y353.length + l0.length < 3518437208883
  ·rw [if_pos c2] at H
   have LMc2 := Aside0.mk c2
   clear c2
   obtain ⟨y356,hy356⟩ : ∃ y_ : List (S127),y_ = (y353 ++ l0) := ⟨_,rfl⟩
   replace H : (some y356) = some r := by first|(rw [hy356];with_reducible exact H)|(have H2_ := (Option.bind_some _ _).symm.trans H;rw [hy356];with_reducible exact H2_)|(have H2_ := (Option.bind_some _ _).symm.trans H;with_reducible exact H2_)|with_reducible exact H|(rw [hy356];exact H)|exact H
   have Ny356 := Aside0.mk hy356
   clear hy356
   obtain rfl := Option.some.inj H
   go_enter Try.func113,Try.ntmps113
   go_wp2_with (first|((with_reducible refine gate_dst (N := 5) rfl ?_);refine Kd.R_lit k127 _ 127 ?hg (N := 5) ?hd (xs := ([] : List (S127))) (inner := []) (ok := fun _ => True) (okp := fun _ => True) ?hr ?hp (fun _ hk => hk) trivial (Below.refl _ _) (Nat.le_refl _) (by simp) ?_;(case hd => rfl);(case hg => rfl);(case hr => first|(go_simp;done)|(go_simp;rfl));(case hp => exact (Reps.none _ _));intro v354 w3 ho4 hb hg_ hnew_;clear hg_ hnew_;(first|rw [← Ny353.out] at ho4|(simp only [Int.reduceToNat] at ho4;rw [← Ny353.out] at ho4));have HO355 := Aside0.mk (Kd.R_lower ho4 (below_size b_));replace HB := Aside0.mk (below_step b_ hb);clear hb ho4)|((with_reducible refine gblt_ (b := .append) (xs := #[.tmp 5,.tmp 6]) rfl ?_);at_builtin;refine Kd.R_append_rows k127 (w0 := w) w.heap.size rfl (.tmp 5) (.tmp 6) 43 127 (.agg #[(.int .i64 0),(.int .i64 0),(.int .i64 0),(.bool false),(.int .i64 0)]) 40 rfl Try.underlying43 info127 rfl (by decide) (by omega) v354 y353 l0 _ _ _ (fun _ => True) (fun _ => False) rfl rfl ?aO ?aR (fun _ _ h => h) (fun _ h => h.elim) ?aF ?aB ?aS ?aL ?_;(case aR => repeat (first|exact (Kd.C_below HR0.out HB.out)|(with_reducible refine Kd.C_alloc ?_ _)|(with_reducible refine Kd.C_drewN ?_ _)|(with_reducible refine Kd.C_drew ?_)));(case aB => exact b_);(case aF => exact (fun _ _ => trivial));(case aO => exact (by (with_reducible repeat (first|apply Kd.R_alloc|apply Kd.R_drewN|apply Kd.R_drew));exact HO355.out));(case aS => exact (below_size b_));(case aL => have := LMc2.out;omega);intro v357 w5 ho hb hg hat;rw [← Ny356.out] at ho;replace HB := Aside0.mk (hb);have HO358 := Aside0.mk (ho);clear HO355;clear ho hb hg hat))
   go_ret
   exact ⟨_,rf_,by (with_reducible repeat (first|apply Kd.R_alloc|apply Kd.R_drewN|apply Kd.R_drew));exact HO358.out,b_⟩
  ·rw [if_neg c2] at H
   exact absurd H (by simp)

/-! ### impl_cloneRecord: function 68 -/
def impl_cloneRecord.f (a0_0 : Int) (a0_1 : Int) (a0_2 : Int) (l0_3 : List (S127)) : Option (Int × Int × Int × (List (S127))) := (impl_Set_113.f l0_3).bind fun t361 => (some (a0_0, a0_1, a0_2, t361))
set_option maxHeartbeats 8000000 in
set_option maxRecDepth 100000 in
theorem impl_cloneRecord.calls (a0_0 : Int) (a0_1 : Int) (a0_2 : Int) (A0_3 : Option Addr) (c0_3 : Nat) (l0_3 : List (S127)) (r1 : Int) (r2 : Int) (r3 : Int) (r4 : List (S127)) (w : World) (hr0_3 : Kd.C k127 w A0_3 l0_3.length l0_3) (hc0_3 : l0_3.length ≤ c0_3) (h : impl_cloneRecord.f a0_0 a0_1 a0_2 l0_3 = some (r1, r2, r3, r4)) :
    Calls Try.prog 68 #[.agg #[.int .i64 a0_0, .int .i64 a0_1, .int .i64 a0_2, .slice A0_3 l0_3.length c0_3]] w fun e w' => ∃ v3_ : Value, e = .returned (.agg #[.int .i64 r1, .int .i64 r2, .int .i64 r3, v3_]) ∧ Kd.R k127 127 w' w.heap.size (fun _ => True) v3_ r4 ∧ Below w.heap.size w w' := by
 have hu45 := Try.underlying45
 have HR0_3 := Aside0.mk hr0_3
 have HC0_3 := Aside0.mk hc0_3
 clear hr0_3 hc0_3
 have HB := Aside0.mk (Below.refl w.heap.size w)
 have H : ((impl_Set_113.f l0_3).bind fun t361 => (some (a0_0,a0_1,a0_2,t361))) = some (r1,r2,r3,r4) := h
 clear h
 replace H := bs_ H
 obtain ⟨t361,A2,H⟩ := H
 simp only [Option.some.injEq,Prod.mk.injEq] at H
 obtain ⟨rfl,rfl,rfl,rfl⟩ := H
 go_enter Try.func68,Try.ntmps68
 go_wp2_with (first|((with_reducible refine gate_dst (N := 1) rfl ?_);refine bx_ 1 #[.int .i64 a0_0,.int .i64 a0_1,.int .i64 a0_2,.slice A0_3 l0_3.length c0_3] 45 ?_;intro gb359 hg w3 hbox hb;replace HB := nb_ hg hbox hb;obtain ⟨BK359,GW359,GE359,HB⟩ := HB;clear hb hbox hg)|((with_reducible refine gate_dst (N := 2) rfl ?_);refine bx_ 2 #[.int .i64 0,.int .i64 0,.int .i64 0,.slice none 0 0] 45 ?_;intro gb360 hg w4 hbox hb;replace HB := nb_ hg hbox hb;obtain ⟨BK360,GW360,GE360,HB⟩ := HB;have NB359_360 := Aside0.mk ((nl_ BK359 hg));have NB360_359 := Aside0.mk ((ng_ BK359 hg));replace BK359 := Aside0.mk (blk_below (kb_ BK359) hb);clear hb hbox hg;have hnb5 := NB359_360.out;have hnc5 := NB360_359.out;obtain ⟨⟨hcz6_0,hcz6_1,hcz6_2,hcz6_3⟩,hfz6_0,hfz6_1,hfz6_2,hfz6_3⟩ := cl4_ BK359.out)|((with_reducible refine gcal_ (f := 113) rfl ?_);refine gl_ (some 5) Try.func113 #[.slice A0_3 l0_3.length c0_3] ?_;(with_reducible refine (impl_Set_113.calls _ _ l0_3 t361 _ ?side1 ?side2 A2.out).mono ?_);(case side1 => exact cb_ HR0_3);(case side2 => exact HC0_3.out);rintro e w7 ⟨v362,rfl,ho0,hb⟩;refine ⟨_,rfl,?_⟩;replace BK359 := Aside0.mk (blk_below (kb_ BK359) hb);replace BK360 := Aside0.mk (blk_below (kb_ BK360) hb);have HO363 := Aside0.mk (Kd.R_lower ho0 (below_size b_));replace HB := Aside0.mk (below_step b_ hb);(try clear hb);(try clear hb2);(try clear hk);(try clear hi);(try clear ho0);obtain ⟨Ao8,co8,eo8⟩ := Kd.R_slice HO363.out;subst eo8;obtain ⟨⟨hcz9_0,hcz9_1,hcz9_2,hcz9_3⟩,hfz9_0,hfz9_1,hfz9_2,hfz9_3⟩ := cl4_ BK359.out;obtain ⟨⟨hcz10_0,hcz10_1,hcz10_2,hcz10_3⟩,hfz10_0,hfz10_1,hfz10_2,hfz10_3⟩ := cl4_ BK360.out))
 refine bodyPost_ret (results_cell_row rfl _ _ gb360 45 #[.int .i64 a0_0,.int .i64 a0_1,.int .i64 a0_2,.slice Ao8 t361.length co8] (0,0) _ rfl (by (with_reducible repeat (first|refine blk_drewN ?_ _|refine blk_drew ?_|refine blk_alloc ?_ _));refine blk_put (cs := #[.int .i64 a0_0,.int .i64 a0_1,.int .i64 a0_2,.slice none 0 0]) ?_ 3 _ rfl;(with_reducible repeat (first|refine blk_drewN ?_ _|refine blk_drew ?_|refine blk_alloc ?_ _));refine blk_put (cs := #[.int .i64 a0_0,.int .i64 a0_1,.int .i64 0,.slice none 0 0]) ?_ 2 _ rfl;(with_reducible repeat (first|refine blk_drewN ?_ _|refine blk_drew ?_|refine blk_alloc ?_ _));refine blk_put (cs := #[.int .i64 a0_0,.int .i64 0,.int .i64 0,.slice none 0 0]) ?_ 1 _ rfl;(with_reducible repeat (first|refine blk_drewN ?_ _|refine blk_drew ?_|refine blk_alloc ?_ _));refine blk_put (cs := #[.int .i64 0,.int .i64 0,.int .i64 0,.slice none 0 0]) ?_ 0 _ rfl;(with_reducible repeat (first|refine blk_drewN ?_ _|refine blk_drew ?_|refine blk_alloc ?_ _));refine blk_far ?_ NB360_359.out _;(with_reducible repeat (first|refine blk_drewN ?_ _|refine blk_drew ?_|refine blk_alloc ?_ _));exact BK360.out) Try.underlying45 rfl (by kernel_rfl)) rfl ?_
 exact ⟨_,rf_,by (with_reducible repeat (first|apply Kd.R_alloc|apply Kd.R_drewN|apply Kd.R_drew));exact Kd.R_mono (Kd.R_far (p := ⟨gb360,3,none⟩) (Kd.R_far (p := ⟨gb360,2,none⟩) (Kd.R_far (p := ⟨gb360,1,none⟩) (Kd.R_far (p := ⟨gb360,0,none⟩) (Kd.R_far (p := ⟨gb359,3,none⟩) (Kd.R_types (Kd.R_types HO363.out BK359.out (by decide)) BK360.out (by decide)) (fun _ hk => hk.1.2) (.slice Ao8 t361.length co8)) (fun _ hk => hk.2) (.int .i64 a0_0)) (fun _ hk => hk.2) (.int .i64 a0_1)) (fun _ hk => hk.2) (.int .i64 a0_2)) (fun _ hk => hk.2) (.slice Ao8 t361.length co8)) (fun _ hk => trivial),b_⟩

/-! ### slices_Clone_int64_int64: function 121 -/
def slices_Clone_int64_int64.f (l0 : List Int) : Option (List Int) := (some (([] : List Int) : List Int)).bind fun y364 => (if y364.length + l0.length < 17592186044416 then (some (y364 ++ l0)) else (none))
set_option maxHeartbeats 8000000 in
set_option maxRecDepth 100000 in
theorem slices_Clone_int64_int64.calls (A0 : Option Addr) (c0 : Nat) (l0 : List Int) (r : List Int) (w : World) (hr0 : Kd.C (Kd.int .i64) w A0 l0.length l0) (hc0 : l0.length ≤ c0) (h : slices_Clone_int64_int64.f l0 = some r) :
    Calls Try.prog 121 #[.slice A0 l0.length c0] w fun e w' => ∃ v0_ : Value, e = .returned (v0_) ∧ Kd.R (Kd.int .i64) 2 w' w.heap.size (fun _ => True) v0_ r ∧ Below w.heap.size w w' := by
 cases A0 with
  | none =>
  have hnil := fun (W : World) => Go.Lib.run_eql_slice_nil (P := Try.prog) W 24 2 none l0.length c0 0 0 Try.underlying24
  simp only [Option.isNone_none] at hnil
  have hl : l0 = [] := by
   rcases Nat.eq_zero_or_pos l0.length with h1 | h1
   ·exact List.length_eq_zero_iff.1 h1
   ·obtain ⟨_,e,_⟩ := hr0.2.2 h1
    cases e
  have hr : r = [] := by
   subst hl
   have h2 : some ([] : List _) = some r := by rw [← h];simp [slices_Clone_int64_int64.f]
   exact (Option.some.inj h2).symm
  subst hr
  clear h hr0
  subst hl
  simp only [List.length_nil] at hnil
  go_enter Try.func121,Try.ntmps121
  go_wp2
  go_ret
  exact ⟨_,rfl,Kd.R_nil _ _ _ _ _,Below.refl _ _⟩
  | some ad0 =>
  have hnil := fun (W : World) => Go.Lib.run_eql_slice_nil (P := Try.prog) W 24 2 (some ad0) l0.length c0 0 0 Try.underlying24
  simp only [Option.isNone_some] at hnil
  have HR0 := Aside0.mk hr0
  have HC0 := Aside0.mk hc0
  clear hr0 hc0
  have HB := Aside0.mk (Below.refl w.heap.size w)
  have H : ((some (([] : List Int) : List Int)).bind fun y364 => (if y364.length + l0.length < 17592186044416 then (some (y364 ++ l0)) else (none))) = some r := h
  clear h
  obtain ⟨y364,hy364⟩ : ∃ y_ : List Int,y_ = (([] : List Int)) := ⟨_,rfl⟩
  replace H : (if y364.length + l0.length < 17592186044416 then (some (y364 ++ l0)) else (none)) = some r := by first|(rw [hy364];with_reducible exact H)|(have H2_ := (Option.bind_some _ _).symm.trans H;rw [hy364];with_reducible exact H2_)|(have H2_ := (Option.bind_some _ _).symm.trans H;with_reducible exact H2_)|with_reducible exact H|(rw [hy364];exact H)|exact H
  have Ny364 := Aside0.mk hy364
  clear hy364
  by_cases c2 : y364.length + l0.length < 17592186044416
  ·rw [if_pos c2] at H
   have LMc2 := Aside0.mk c2
   clear c2
   obtain ⟨y367,hy367⟩ : ∃ y_ : List Int,y_ = (y364 ++ l0) := ⟨_,rfl⟩
   replace H : (some y367) = some r := by first|(rw [hy367];with_reducible exact H)|(have H2_ := (Option.bind_some _ _).symm.trans H;rw [hy367];with_reducible exact H2_)|(have H2_ := (Option.bind_some _ _).symm.trans H;with_reducible exact H2_)|with_reducible exact H|(rw [hy367];exact H)|exact H
   have Ny367 := Aside0.mk hy367
   clear hy367
   obtain rfl := Option.some.inj H
   go_enter Try.func121,Try.ntmps121
   go_wp2_with (first|((with_reducible refine gate_dst (N := 5) rfl ?_);refine Kd.R_lit (Kd.int .i64) _ 2 ?hg (N := 5) ?hd (xs := ([] : List Int)) (inner := []) (ok := fun _ => True) (okp := fun _ => True) ?hr ?hp (fun _ hk => hk) trivial (Below.refl _ _) (Nat.le_refl _) (by simp) ?_;(case hd => rfl);(case hg => rfl);(case hr => first|(go_simp;done)|(go_simp;rfl));(case hp => exact (Reps.none _ _));intro v365 w3 ho4 hb hg_ hnew_;clear hg_ hnew_;(first|rw [← Ny364.out] at ho4|(simp only [Int.reduceToNat] at ho4;rw [← Ny364.out] at ho4));have HO366 := Aside0.mk (Kd.R_lower ho4 (below_size b_));replace HB := Aside0.mk (below_step b_ hb);clear hb ho4)|((with_reducible refine gblt_ (b := .append) (xs := #[.tmp 5,.tmp 6]) rfl ?_);at_builtin;refine Kd.R_append_rows (Kd.int .i64) (w0 := w) w.heap.size rfl (.tmp 5) (.tmp 6) 24 2 (.int .i64 0) 8 rfl Try.underlying24 info2 rfl (by decide) (by omega) v365 y364 l0 _ _ _ (fun _ => True) (fun _ => False) rfl rfl ?aO ?aR (fun _ _ h => h) (fun _ h => h.elim) ?aF ?aB ?aS ?aL ?_;(case aR => repeat (first|exact (Kd.C_below HR0.out HB.out)|(with_reducible refine Kd.C_alloc ?_ _)|(with_reducible refine Kd.C_drewN ?_ _)|(with_reducible refine Kd.C_drew ?_)));(case aB => exact b_);(case aF => exact (fun _ _ => trivial));(case aO => exact (by (with_reducible repeat (first|apply Kd.R_alloc|apply Kd.R_drewN|apply Kd.R_drew));exact HO366.out));(case aS => exact (below_size b_));(case aL => have := LMc2.out;omega);intro v368 w5 ho hb hg hat;rw [← Ny367.out] at ho;replace HB := Aside0.mk (hb);have HO369 := Aside0.mk (ho);clear HO366;clear ho hb hg hat))
   go_ret
   exact ⟨_,rf_,by (with_reducible repeat (first|apply Kd.R_alloc|apply Kd.R_drewN|apply Kd.R_drew));exact HO369.out,b_⟩
  ·rw [if_neg c2] at H
   exact absurd H (by simp)

end Go.Proofs.Ythplaakckfhaaaa.XAp
