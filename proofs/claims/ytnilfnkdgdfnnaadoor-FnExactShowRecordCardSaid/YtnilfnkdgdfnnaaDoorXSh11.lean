/- Proved: of each Go function here that a call comes to what the Lean function of its name tells. Written by a program of this session over the translation. No conditions beyond each theorem's own. -/
import Derived.Test.YtnilfnkdgdfnnaaDoorXSh0
import Derived.Test.YtnilfnkdgdfnnaaDoorXSh1
import Derived.Test.YtnilfnkdgdfnnaaDoorXSh6
import Derived.Test.YtnilfnkdgdfnnaaDoorXSh8
import Derived.Test.YtnilfnkdgdfnnaaDoorXSh10
namespace Go.Proofs.YtnilfnkdgdfnnaaDoor.XSh
open Go.RowKit Go.Proofs.YtnilfnkdgdfnnaaDoor.Aid Go.Proofs.YtnilfnkdgdfnnaaDoorW.PrintWords Go.Proofs.YtnilfnkdgdfnnaaDoorW.PrintLast
set_option linter.unusedVariables false
set_option linter.unusedSimpArgs false

/-! ### laws_FnExactShowRecord: function 3 -/
def laws_FnExactShowRecord.f (k : Nat) (a0_0 : Int) (a0_1 : Int) (a0_2 : Int) (l0_3 : List (S56)) : Option (Bool) := (laws_szRecord.f a0_0 a0_1 a0_2 l0_3 1048576).bind fun t229 => (if t229 < 0 then (some true) else ((laws_toRecord.f k a0_0 a0_1 a0_2 l0_3).bind fun bt230 => ((spec_ShowRecord.f k bt230.1 bt230.2.1 bt230.2.2.1 bt230.2.2.2).bind fun t236 => ((laws_toRecord.f k a0_0 a0_1 a0_2 l0_3).bind fun bt237 => ((impl_ShowRecord.f k bt237.1 bt237.2.1 bt237.2.2.1 bt237.2.2.2).bind fun t244 => (if t244.toList = t236.toList then ((laws_toRecord.f k a0_0 a0_1 a0_2 l0_3).bind fun bt245 => ((laws_eqRecord.f k bt237.1 bt237.2.1 bt237.2.2.1 bt237.2.2.2 bt245.1 bt245.2.1 bt245.2.2.1 bt245.2.2.2).bind fun t251 => (if t251 = true then (some true) else (some false)))) else (some false)))))))

set_option maxHeartbeats 8000000 in
set_option maxRecDepth 100000 in
theorem laws_FnExactShowRecord.calls (k : Nat) (a0_0 : Int) (a0_1 : Int) (a0_2 : Int) (A0_3 : Option Addr) (c0_3 : Nat) (l0_3 : List (S56)) (r : Bool) (w : World) (htb : Aside0 (Tb w)) (hr0_3 : Kd.C k56 w A0_3 l0_3.length l0_3) (hc0_3 : l0_3.length ≤ c0_3) (h : laws_FnExactShowRecord.f k a0_0 a0_1 a0_2 l0_3 = some r) :
    Calls Tryd.prog 3 #[.agg #[.int .i64 a0_0, .int .i64 a0_1, .int .i64 a0_2, .slice A0_3 l0_3.length c0_3]] w fun e w' => e = .returned (.bool r) ∧ Below w.heap.size w w' := by
 have hu24 := Tryd.underlying24
 have hu29 := Tryd.underlying29
 have HR0_3 := Aside0.mk hr0_3
 have HC0_3 := Aside0.mk hc0_3
 clear hr0_3 hc0_3
 have HB := Aside0.mk (Below.refl w.heap.size w)
 have H : ((laws_szRecord.f a0_0 a0_1 a0_2 l0_3 1048576).bind fun t229 => (if t229 < 0 then (some true) else ((laws_toRecord.f k a0_0 a0_1 a0_2 l0_3).bind fun bt230 => ((spec_ShowRecord.f k bt230.1 bt230.2.1 bt230.2.2.1 bt230.2.2.2).bind fun t236 => ((laws_toRecord.f k a0_0 a0_1 a0_2 l0_3).bind fun bt237 => ((impl_ShowRecord.f k bt237.1 bt237.2.1 bt237.2.2.1 bt237.2.2.2).bind fun t244 => (if t244.toList = t236.toList then ((laws_toRecord.f k a0_0 a0_1 a0_2 l0_3).bind fun bt245 => ((laws_eqRecord.f k bt237.1 bt237.2.1 bt237.2.2.1 bt237.2.2.2 bt245.1 bt245.2.1 bt245.2.2.1 bt245.2.2.2).bind fun t251 => (if t251 = true then (some true) else (some false)))) else (some false)))))))) = some r := h
 clear h
 replace H := bs_ H
 obtain ⟨t229,A2,H⟩ := H
 by_cases c3 : t229 < 0
 ·rw [if_pos c3] at H
  have c3b0 : decide (t229 < 0) = true := decide_eq_true c3
  clear c3
  obtain rfl := Option.some.inj H
  go_enter Tryd.func3,Tryd.ntmps3
  go_wp2_with (first|((with_reducible refine gate_dst (N := 1) rfl ?_);refine bx_ 1 #[.int .i64 a0_0,.int .i64 a0_1,.int .i64 a0_2,.slice A0_3 l0_3.length c0_3] 24 ?_;intro gb228 hg w4 hbox hb;replace HB := nb_ hg hbox hb;obtain ⟨BK228,GW228,GE228,HB⟩ := HB;clear hb hbox hg;obtain ⟨⟨hcz5_0,hcz5_1,hcz5_2,hcz5_3⟩,hfz5_0,hfz5_1,hfz5_2,hfz5_3⟩ := cl4_ BK228.out)|((with_reducible refine gcal_ (f := 5) rfl ?_);refine gl_ (some 9) Tryd.func5 #[.agg #[.int .i64 a0_0,.int .i64 a0_1,.int .i64 a0_2,.slice A0_3 l0_3.length c0_3],.int .i64 1048576] ?_;(with_reducible refine (laws_szRecord.calls a0_0 a0_1 a0_2 _ _ l0_3 1048576 t229 _ ?side1 ?side2 A2.out).mono ?_);(case side1 => exact cb_ HR0_3);(case side2 => exact HC0_3.out);rintro e w6 ⟨rfl,hb⟩;refine ⟨_,rfl,?_⟩;replace BK228 := Aside0.mk (blk_below (kb_ BK228) hb);replace HB := Aside0.mk (below_step b_ hb);(try clear hb);(try clear hb2);(try clear hk);(try clear hi)))
  go_ret
  exact ⟨rf_,b_⟩
 ·rw [if_neg c3] at H
  have c3b0 : decide (t229 < 0) = false := decide_eq_false c3
  clear c3
  replace H := Option.bind_eq_some_iff.mp H
  obtain ⟨⟨t230,t231,t232,t233⟩,A70,H⟩ := H
  replace H : ((spec_ShowRecord.f k t230 t231 t232 t233).bind fun t236 => ((laws_toRecord.f k a0_0 a0_1 a0_2 l0_3).bind fun bt237 => ((impl_ShowRecord.f k bt237.1 bt237.2.1 bt237.2.2.1 bt237.2.2.2).bind fun t244 => (if t244.toList = t236.toList then ((laws_toRecord.f k a0_0 a0_1 a0_2 l0_3).bind fun bt245 => ((laws_eqRecord.f k bt237.1 bt237.2.1 bt237.2.2.1 bt237.2.2.2 bt245.1 bt245.2.1 bt245.2.2.1 bt245.2.2.2).bind fun t251 => (if t251 = true then (some true) else (some false)))) else (some false))))) = some r := H
  have A7 := Aside0.mk A70
  clear A70
  replace H := bs_ H
  obtain ⟨t236,A8,H⟩ := H
  replace H := Option.bind_eq_some_iff.mp H
  obtain ⟨⟨t237,t238,t239,t240⟩,A90,H⟩ := H
  replace H : ((impl_ShowRecord.f k t237 t238 t239 t240).bind fun t244 => (if t244.toList = t236.toList then ((laws_toRecord.f k a0_0 a0_1 a0_2 l0_3).bind fun bt245 => ((laws_eqRecord.f k t237 t238 t239 t240 bt245.1 bt245.2.1 bt245.2.2.1 bt245.2.2.2).bind fun t251 => (if t251 = true then (some true) else (some false)))) else (some false))) = some r := H
  have A9 := Aside0.mk A90
  clear A90
  replace H := bs_ H
  obtain ⟨t244,A10,H⟩ := H
  by_cases c11 : t244.toList = t236.toList
  ·rw [if_pos c11] at H
   have c11b0 : (t244.toList == t236.toList) = true := beq_iff_eq.mpr c11
   have c11b1 : (t244.toList != t236.toList) = false := bne_eq_false_iff_eq.mpr c11
   clear c11
   replace H := Option.bind_eq_some_iff.mp H
   obtain ⟨⟨t245,t246,t247,t248⟩,A120,H⟩ := H
   replace H : ((laws_eqRecord.f k t237 t238 t239 t240 t245 t246 t247 t248).bind fun t251 => (if t251 = true then (some true) else (some false))) = some r := H
   have A12 := Aside0.mk A120
   clear A120
   replace H := bs_ H
   obtain ⟨t251,A13,H⟩ := H
   by_cases c14 : t251 = true
   ·subst c14
    replace H := it_ H
    obtain rfl := Option.some.inj H
    go_enter Tryd.func3,Tryd.ntmps3
    try go_wp2_with (first|((with_reducible refine gate_dst (N := 1) rfl ?_);refine bx_ 1 #[.int .i64 a0_0,.int .i64 a0_1,.int .i64 a0_2,.slice A0_3 l0_3.length c0_3] 24 ?_;intro gb228 hg w15 hbox hb;replace HB := nb_ hg hbox hb;obtain ⟨BK228,GW228,GE228,HB⟩ := HB;clear hb hbox hg;obtain ⟨⟨hcz16_0,hcz16_1,hcz16_2,hcz16_3⟩,hfz16_0,hfz16_1,hfz16_2,hfz16_3⟩ := cl4_ BK228.out)|((with_reducible refine gcal_ (f := 5) rfl ?_);refine gl_ (some 9) Tryd.func5 #[.agg #[.int .i64 a0_0,.int .i64 a0_1,.int .i64 a0_2,.slice A0_3 l0_3.length c0_3],.int .i64 1048576] ?_;(with_reducible refine (laws_szRecord.calls a0_0 a0_1 a0_2 _ _ l0_3 1048576 t229 _ ?side1 ?side2 A2.out).mono ?_);(case side1 => exact cb_ HR0_3);(case side2 => exact HC0_3.out);rintro e w17 ⟨rfl,hb⟩;refine ⟨_,rfl,?_⟩;replace BK228 := Aside0.mk (blk_below (kb_ BK228) hb);replace HB := Aside0.mk (below_step b_ hb);(try clear hb);(try clear hb2);(try clear hk);(try clear hi);obtain ⟨⟨hcz18_0,hcz18_1,hcz18_2,hcz18_3⟩,hfz18_0,hfz18_1,hfz18_2,hfz18_3⟩ := cl4_ BK228.out)|((with_reducible refine gcal_ (f := 7) rfl ?_);refine gl_ (some 13) Tryd.func7 #[.agg #[.int .i64 a0_0,.int .i64 a0_1,.int .i64 a0_2,.slice A0_3 l0_3.length c0_3]] ?_;(with_reducible refine (laws_toRecord.calls k a0_0 a0_1 a0_2 _ _ l0_3 t230 t231 t232 t233 _ ?side1 ?side2 A7.out).mono ?_);(case side1 => exact cb_ HR0_3);(case side2 => exact HC0_3.out);rintro e w19 ⟨v234,rfl,ho0,hb⟩;refine ⟨_,rfl,?_⟩;replace BK228 := Aside0.mk (blk_below (kb_ BK228) hb);have HO235 := Aside0.mk (Kd.R_lower ho0 (below_size b_));replace HB := Aside0.mk (below_step b_ hb);(try clear hb);(try clear hb2);(try clear hk);(try clear hi);(try clear ho0);obtain ⟨Ao20,co20,eo20⟩ := Kd.R_slice HO235.out;subst eo20)|((with_reducible refine gcal_ (f := 6) rfl ?_);refine gl_ (some 14) Tryd.func6 #[.agg #[.int .i64 t230,.int .i64 t231,.int .i64 t232,.slice Ao20 t233.length co20]] ?_;(with_reducible refine (spec_ShowRecord.calls k t230 t231 t232 _ _ t233 t236 _ ?side1 ?side2 A8.out).mono ?_);(case side1 => repeat (first|exact (Kd.R_reads' HO235.out).2.2|(with_reducible refine Kd.C_alloc ?_ _)|(with_reducible refine Kd.C_drewN ?_ _)|(with_reducible refine Kd.C_drew ?_)));(case side2 => exact (Kd.R_reads' HO235.out).2.1);rintro e w21 ⟨rfl,hb⟩;refine ⟨_,rfl,?_⟩;replace HO235 := Aside0.mk (Kd.R_below (by (with_reducible repeat (first|apply Kd.R_alloc|apply Kd.R_drewN|apply Kd.R_drew));exact HO235.out) hb);replace BK228 := Aside0.mk (blk_below (kb_ BK228) hb);replace HB := Aside0.mk (below_step b_ hb);(try clear hb);(try clear hb2);(try clear hk);(try clear hi);obtain ⟨⟨hcz22_0,hcz22_1,hcz22_2,hcz22_3⟩,hfz22_0,hfz22_1,hfz22_2,hfz22_3⟩ := cl4_ BK228.out)|((with_reducible refine gcal_ (f := 7) rfl ?_);refine gl_ (some 16) Tryd.func7 #[.agg #[.int .i64 a0_0,.int .i64 a0_1,.int .i64 a0_2,.slice A0_3 l0_3.length c0_3]] ?_;(with_reducible refine (laws_toRecord.calls k a0_0 a0_1 a0_2 _ _ l0_3 t237 t238 t239 t240 _ ?side1 ?side2 A9.out).mono ?_);(case side1 => exact cb_ HR0_3);(case side2 => exact HC0_3.out);rintro e w23 ⟨v241,rfl,ho0,hb⟩;refine ⟨_,rfl,?_⟩;replace BK228 := Aside0.mk (blk_below (kb_ BK228) hb);have HO242 := Aside0.mk (Kd.R_lower (Kd.R_new' ho0 (Kd.R_lt (by (with_reducible repeat (first|apply Kd.R_alloc|apply Kd.R_drewN|apply Kd.R_drew));exact HO235.out))) (below_size b_));replace HO235 := Aside0.mk (Kd.R_elder' (by (with_reducible repeat (first|apply Kd.R_alloc|apply Kd.R_drewN|apply Kd.R_drew));exact HO235.out) (Kd.R_base ho0) hb);replace HB := Aside0.mk (below_step b_ hb);(try clear hb);(try clear hb2);(try clear hk);(try clear hi);(try clear ho0))|((with_reducible refine gate_dst (N := 5) rfl ?_);refine bx_ 5 #[.int .i64 0,.int .i64 0,.int .i64 0,.slice none 0 0] 29 ?_;intro gb243 hg w24 hbox hb;replace HO235 := Aside0.mk (Kd.R_below (by (with_reducible repeat (first|apply Kd.R_alloc|apply Kd.R_drewN|apply Kd.R_drew));exact HO235.out) hb);replace HO242 := Aside0.mk (Kd.R_below (by (with_reducible repeat (first|apply Kd.R_alloc|apply Kd.R_drewN|apply Kd.R_drew));exact HO242.out) hb);replace HB := nb_ hg hbox hb;obtain ⟨BK243,GW243,GE243,HB⟩ := HB;have NB228_243 := Aside0.mk ((nl_ BK228 hg));have NB243_228 := Aside0.mk ((ng_ BK228 hg));replace BK228 := Aside0.mk (blk_below (kb_ BK228) hb);clear hb hbox hg;have hnb25 := NB243_228.out;have hnc25 := NB228_243.out;obtain ⟨⟨hcz26_0,hcz26_1,hcz26_2,hcz26_3⟩,hfz26_0,hfz26_1,hfz26_2,hfz26_3⟩ := cl4_ BK243.out;obtain ⟨Ao27,co27,eo27⟩ := Kd.R_slice HO242.out;subst eo27)|((with_reducible refine gcal_ (f := 8) rfl ?_);refine gl_ (some 18) Tryd.func8 #[.agg #[.int .i64 t237,.int .i64 t238,.int .i64 t239,.slice Ao27 t240.length co27]] ?_;(with_reducible refine (impl_ShowRecord.calls k t237 t238 t239 _ _ t240 t244 _ ?sideT ?side1 ?side2 A10.out).mono ?_);(case sideT => exact tb_ htb);(case side1 => refine (Kd.R_reads' (e := 47) (base := w.heap.size) (ok := fun k_ => (True ∧ some k_ ≠ (.slice Ao20 t233.length co20 : Value).ownBlock)) (n := t240.length) (c := co27) ?_).2.2;exact (by (with_reducible repeat (first|apply Kd.R_alloc|apply Kd.R_drewN|apply Kd.R_drew));exact (Kd.R_mono (Kd.R_far (p := ⟨gb243,3,none⟩) (Kd.R_far (p := ⟨gb243,2,none⟩) (Kd.R_far (p := ⟨gb243,1,none⟩) (Kd.R_far (p := ⟨gb243,0,none⟩) (Kd.R_types HO242.out BK243.out (by decide)) (fun _ hk => hk.2) (.int .i64 t237)) (fun _ hk => hk.2) (.int .i64 t238)) (fun _ hk => hk.2) (.int .i64 t239)) (fun _ hk => hk.2) (.slice Ao27 t240.length co27)) (fun _ h_ => h_.1))));(case side2 => exact (Kd.R_reads' HO242.out).2.1);rintro e w28 ⟨rfl,hb⟩;refine ⟨_,rfl,?_⟩;replace HO235 := Aside0.mk (Kd.R_below (by (with_reducible repeat (first|apply Kd.R_alloc|apply Kd.R_drewN|apply Kd.R_drew));exact (Kd.R_mono (Kd.R_far (p := ⟨gb243,3,none⟩) (Kd.R_far (p := ⟨gb243,2,none⟩) (Kd.R_far (p := ⟨gb243,1,none⟩) (Kd.R_far (p := ⟨gb243,0,none⟩) (Kd.R_types HO235.out BK243.out (by decide)) (fun _ hk => hk.2) (.int .i64 t237)) (fun _ hk => hk.2) (.int .i64 t238)) (fun _ hk => hk.2) (.int .i64 t239)) (fun _ hk => hk.2) (.slice Ao27 t240.length co27)) (fun _ h_ => h_.1))) hb);replace HO242 := Aside0.mk (Kd.R_below (by (with_reducible repeat (first|apply Kd.R_alloc|apply Kd.R_drewN|apply Kd.R_drew));exact (Kd.R_mono (Kd.R_far (p := ⟨gb243,3,none⟩) (Kd.R_far (p := ⟨gb243,2,none⟩) (Kd.R_far (p := ⟨gb243,1,none⟩) (Kd.R_far (p := ⟨gb243,0,none⟩) (Kd.R_types HO242.out BK243.out (by decide)) (fun _ hk => hk.2) (.int .i64 t237)) (fun _ hk => hk.2) (.int .i64 t238)) (fun _ hk => hk.2) (.int .i64 t239)) (fun _ hk => hk.2) (.slice Ao27 t240.length co27)) (fun _ h_ => h_.1))) hb);replace BK228 := Aside0.mk (blk_below (kf_ BK228) hb);replace BK243 := Aside0.mk (blk_below (g := gb243) (o := .cells #[.int .i64 t237,.int .i64 t238,.int .i64 t239,.slice Ao27 t240.length co27] 29 (0,0)) (by (with_reducible repeat (first|refine blk_drewN ?_ _|refine blk_drew ?_|refine blk_alloc ?_ _));refine blk_put (cs := #[.int .i64 t237,.int .i64 t238,.int .i64 t239,.slice none 0 0]) ?_ 3 _ rfl;(with_reducible repeat (first|refine blk_drewN ?_ _|refine blk_drew ?_|refine blk_alloc ?_ _));refine blk_put (cs := #[.int .i64 t237,.int .i64 t238,.int .i64 0,.slice none 0 0]) ?_ 2 _ rfl;(with_reducible repeat (first|refine blk_drewN ?_ _|refine blk_drew ?_|refine blk_alloc ?_ _));refine blk_put (cs := #[.int .i64 t237,.int .i64 0,.int .i64 0,.slice none 0 0]) ?_ 1 _ rfl;(with_reducible repeat (first|refine blk_drewN ?_ _|refine blk_drew ?_|refine blk_alloc ?_ _));refine blk_put (cs := #[.int .i64 0,.int .i64 0,.int .i64 0,.slice none 0 0]) ?_ 0 _ rfl;(with_reducible repeat (first|refine blk_drewN ?_ _|refine blk_drew ?_|refine blk_alloc ?_ _));exact BK243.out) hb);replace HB := Aside0.mk (below_step b_ hb);(try clear hb);(try clear hb2);(try clear hk);(try clear hi)))
    replace HO235 := Aside0.mk (Kd.R_drew HO235.out)
    replace HO242 := Aside0.mk (Kd.R_drew HO242.out)
    replace BK228 := Aside0.mk (blk_drew BK228.out)
    replace BK243 := Aside0.mk (blk_drew BK243.out)
    replace HB := Aside0.mk (below_drew1 HB.out)
    refine st_ 5 (S := fun w' => hc4 w' gb243 (.int .i64 t237) (.int .i64 t238) (.int .i64 t239) (.slice Ao27 t240.length co27) (hd4 w' gb228 (.int .i64 a0_0) (.int .i64 a0_1) (.int .i64 a0_2) (.slice A0_3 l0_3.length c0_3))) hh_ (fun hHeld => ?_)
    generalize w28.drew = w29 at HO235 HO242 BK228 BK243 HB hHeld ⊢
    refine take_ (i := 0) (N := some 22) (v := ?_) (a' := ?_) #[true,false,false,false,false] rfl rfl (by kernel_rfl) (fun _ _ _ h => h) (Or.inl ⟨by rfl,?_⟩) hHeld ?_ ?_
    rotate_left
    ·rintro w' ⟨s0,s1,s2,s3,s4,s5,s6,s7⟩
     go_simp
     with_reducible rfl
    rotate_left
    ·simp only [Act.put,q1,q2,q3,i64_w,i32_w]
     rfl
    refine take_ (i := 1) (N := some 23) (v := ?_) (a' := ?_) #[true,true,false,false,false] rfl rfl (by kernel_rfl) (fun _ _ _ h => h) (Or.inl ⟨by rfl,?_⟩) hHeld ?_ ?_
    rotate_left
    ·rintro w' ⟨s0,s1,s2,s3,s4,s5,s6,s7⟩
     go_simp
     with_reducible rfl
    rotate_left
    ·simp only [Act.put,q1,q2,q3,i64_w,i32_w]
     rfl
    refine one_ (i := 2) (N := some 24) #[true,true,true,false,false] rfl rfl (by kernel_rfl) (by decide) (fun K hK => ?_)
    refine gs_ Tryd.func7 #[.agg #[.int .i64 a0_0,.int .i64 a0_1,.int .i64 a0_2,.slice A0_3 l0_3.length c0_3]] ?_
    with_reducible refine (laws_toRecord.calls k a0_0 a0_1 a0_2 _ _ l0_3 t245 t246 t247 t248 _ ?side1 ?side2 A12.out).mono ?_
    (case side1 => exact cb_ HR0_3)
    (case side2 => exact HC0_3.out)
    rintro e w30 ⟨v249,rfl,ho0,hb⟩
    refine ⟨_,rfl,?_⟩
    replace BK228 := Aside0.mk (blk_below (kb_ BK228) hb)
    replace BK243 := Aside0.mk (blk_below (kb_ BK243) hb)
    have HO250 := Aside0.mk (Kd.R_lower (Kd.R_new' (Kd.R_new' ho0 (Kd.R_lt (by (with_reducible repeat (first|apply Kd.R_alloc|apply Kd.R_drewN|apply Kd.R_drew));exact HO235.out))) (Kd.R_lt (by (with_reducible repeat (first|apply Kd.R_alloc|apply Kd.R_drewN|apply Kd.R_drew));exact HO242.out))) (below_size b_))
    replace HO235 := Aside0.mk (Kd.R_elder' (by (with_reducible repeat (first|apply Kd.R_alloc|apply Kd.R_drewN|apply Kd.R_drew));exact HO235.out) (Kd.R_base ho0) hb)
    replace HO242 := Aside0.mk (Kd.R_elder' (by (with_reducible repeat (first|apply Kd.R_alloc|apply Kd.R_drewN|apply Kd.R_drew));exact HO242.out) (Kd.R_base ho0) hb)
    replace HB := Aside0.mk (below_step b_ hb)
    (try clear hb)
    (try clear hb2)
    (try clear hk)
    (try clear hi)
    (try clear ho0)
    obtain ⟨Ao31,co31,eo31⟩ := Kd.R_slice HO250.out
    (first|subst eo31|(injection eo31 with f1_ f2_ f3_;have f4_ := f1_.symm;have f5_ := f3_.symm;clear f1_ f2_ f3_;subst f4_;subst f5_))
    refine hK.out _ _ hh_ (fun hHeld => ?_)
    clear hK K
    refine nr_ (some 24) _ ?_
    refine one_ (i := 3) (N := some 25) #[true,true,true,true,false] rfl rfl (by kernel_rfl) (by decide) (fun K hK => ?_)
    refine gs_ Tryd.func9 #[.agg #[.int .i64 t237,.int .i64 t238,.int .i64 t239,.slice Ao27 t240.length co27],.agg #[.int .i64 t245,.int .i64 t246,.int .i64 t247,.slice Ao31 t248.length co31]] ?_
    with_reducible refine (laws_eqRecord.calls k t237 t238 t239 _ _ t240 t245 t246 t247 _ _ t248 true _ ?side1 ?side2 ?side3 ?side4 A13.out).mono ?_
    (case side1 => repeat (first|exact (Kd.R_reads' HO242.out).2.2|(with_reducible refine Kd.C_alloc ?_ _)|(with_reducible refine Kd.C_drewN ?_ _)|(with_reducible refine Kd.C_drew ?_)))
    (case side2 => exact (Kd.R_reads' HO242.out).2.1)
    (case side3 => repeat (first|exact (Kd.R_reads' HO250.out).2.2|(with_reducible refine Kd.C_alloc ?_ _)|(with_reducible refine Kd.C_drewN ?_ _)|(with_reducible refine Kd.C_drew ?_)))
    (case side4 => exact (Kd.R_reads' HO250.out).2.1)
    rintro e w32 ⟨rfl,hb⟩
    refine ⟨_,rfl,?_⟩
    replace HO235 := Aside0.mk (Kd.R_below (by (with_reducible repeat (first|apply Kd.R_alloc|apply Kd.R_drewN|apply Kd.R_drew));exact HO235.out) hb)
    replace HO242 := Aside0.mk (Kd.R_below (by (with_reducible repeat (first|apply Kd.R_alloc|apply Kd.R_drewN|apply Kd.R_drew));exact HO242.out) hb)
    replace HO250 := Aside0.mk (Kd.R_below (by (with_reducible repeat (first|apply Kd.R_alloc|apply Kd.R_drewN|apply Kd.R_drew));exact HO250.out) hb)
    replace BK228 := Aside0.mk (blk_below (kb_ BK228) hb)
    replace BK243 := Aside0.mk (blk_below (kb_ BK243) hb)
    replace HB := Aside0.mk (below_step b_ hb)
    (try clear hb)
    (try clear hb2)
    (try clear hk)
    (try clear hi)
    refine hK.out _ _ hh_ (fun hHeld => ?_)
    clear hK K
    refine nr_ (some 25) _ ?_
    refine pure_ (i := 4) (N := some 26) (v := ?_) (a' := ?_) #[true,true,true,true,true] rfl rfl (by kernel_rfl) (fun _ _ _ h => h) (Or.inl ⟨by rfl,?_⟩) ?_ ?_
    rotate_left
    ·intro w'
     go_simp
     with_reducible rfl
    rotate_left
    ·simp only [Act.put,q1,q2,q3,i64_w,i32_w]
     rfl
    refine done_ (by kernel_rfl) ?_
    try go_wp2
    go_ret
    exact ⟨rf_,b_⟩
   ·replace c14 := Bool.eq_false_iff.mpr c14
    subst c14
    replace H := ie_ H
    obtain rfl := Option.some.inj H
    go_enter Tryd.func3,Tryd.ntmps3
    try go_wp2_with (first|((with_reducible refine gate_dst (N := 1) rfl ?_);refine bx_ 1 #[.int .i64 a0_0,.int .i64 a0_1,.int .i64 a0_2,.slice A0_3 l0_3.length c0_3] 24 ?_;intro gb228 hg w33 hbox hb;replace HB := nb_ hg hbox hb;obtain ⟨BK228,GW228,GE228,HB⟩ := HB;clear hb hbox hg;obtain ⟨⟨hcz34_0,hcz34_1,hcz34_2,hcz34_3⟩,hfz34_0,hfz34_1,hfz34_2,hfz34_3⟩ := cl4_ BK228.out)|((with_reducible refine gcal_ (f := 5) rfl ?_);refine gl_ (some 9) Tryd.func5 #[.agg #[.int .i64 a0_0,.int .i64 a0_1,.int .i64 a0_2,.slice A0_3 l0_3.length c0_3],.int .i64 1048576] ?_;(with_reducible refine (laws_szRecord.calls a0_0 a0_1 a0_2 _ _ l0_3 1048576 t229 _ ?side1 ?side2 A2.out).mono ?_);(case side1 => exact cb_ HR0_3);(case side2 => exact HC0_3.out);rintro e w35 ⟨rfl,hb⟩;refine ⟨_,rfl,?_⟩;replace BK228 := Aside0.mk (blk_below (kb_ BK228) hb);replace HB := Aside0.mk (below_step b_ hb);(try clear hb);(try clear hb2);(try clear hk);(try clear hi);obtain ⟨⟨hcz36_0,hcz36_1,hcz36_2,hcz36_3⟩,hfz36_0,hfz36_1,hfz36_2,hfz36_3⟩ := cl4_ BK228.out)|((with_reducible refine gcal_ (f := 7) rfl ?_);refine gl_ (some 13) Tryd.func7 #[.agg #[.int .i64 a0_0,.int .i64 a0_1,.int .i64 a0_2,.slice A0_3 l0_3.length c0_3]] ?_;(with_reducible refine (laws_toRecord.calls k a0_0 a0_1 a0_2 _ _ l0_3 t230 t231 t232 t233 _ ?side1 ?side2 A7.out).mono ?_);(case side1 => exact cb_ HR0_3);(case side2 => exact HC0_3.out);rintro e w37 ⟨v234,rfl,ho0,hb⟩;refine ⟨_,rfl,?_⟩;replace BK228 := Aside0.mk (blk_below (kb_ BK228) hb);have HO235 := Aside0.mk (Kd.R_lower ho0 (below_size b_));replace HB := Aside0.mk (below_step b_ hb);(try clear hb);(try clear hb2);(try clear hk);(try clear hi);(try clear ho0);obtain ⟨Ao38,co38,eo38⟩ := Kd.R_slice HO235.out;subst eo38)|((with_reducible refine gcal_ (f := 6) rfl ?_);refine gl_ (some 14) Tryd.func6 #[.agg #[.int .i64 t230,.int .i64 t231,.int .i64 t232,.slice Ao38 t233.length co38]] ?_;(with_reducible refine (spec_ShowRecord.calls k t230 t231 t232 _ _ t233 t236 _ ?side1 ?side2 A8.out).mono ?_);(case side1 => repeat (first|exact (Kd.R_reads' HO235.out).2.2|(with_reducible refine Kd.C_alloc ?_ _)|(with_reducible refine Kd.C_drewN ?_ _)|(with_reducible refine Kd.C_drew ?_)));(case side2 => exact (Kd.R_reads' HO235.out).2.1);rintro e w39 ⟨rfl,hb⟩;refine ⟨_,rfl,?_⟩;replace HO235 := Aside0.mk (Kd.R_below (by (with_reducible repeat (first|apply Kd.R_alloc|apply Kd.R_drewN|apply Kd.R_drew));exact HO235.out) hb);replace BK228 := Aside0.mk (blk_below (kb_ BK228) hb);replace HB := Aside0.mk (below_step b_ hb);(try clear hb);(try clear hb2);(try clear hk);(try clear hi);obtain ⟨⟨hcz40_0,hcz40_1,hcz40_2,hcz40_3⟩,hfz40_0,hfz40_1,hfz40_2,hfz40_3⟩ := cl4_ BK228.out)|((with_reducible refine gcal_ (f := 7) rfl ?_);refine gl_ (some 16) Tryd.func7 #[.agg #[.int .i64 a0_0,.int .i64 a0_1,.int .i64 a0_2,.slice A0_3 l0_3.length c0_3]] ?_;(with_reducible refine (laws_toRecord.calls k a0_0 a0_1 a0_2 _ _ l0_3 t237 t238 t239 t240 _ ?side1 ?side2 A9.out).mono ?_);(case side1 => exact cb_ HR0_3);(case side2 => exact HC0_3.out);rintro e w41 ⟨v241,rfl,ho0,hb⟩;refine ⟨_,rfl,?_⟩;replace BK228 := Aside0.mk (blk_below (kb_ BK228) hb);have HO242 := Aside0.mk (Kd.R_lower (Kd.R_new' ho0 (Kd.R_lt (by (with_reducible repeat (first|apply Kd.R_alloc|apply Kd.R_drewN|apply Kd.R_drew));exact HO235.out))) (below_size b_));replace HO235 := Aside0.mk (Kd.R_elder' (by (with_reducible repeat (first|apply Kd.R_alloc|apply Kd.R_drewN|apply Kd.R_drew));exact HO235.out) (Kd.R_base ho0) hb);replace HB := Aside0.mk (below_step b_ hb);(try clear hb);(try clear hb2);(try clear hk);(try clear hi);(try clear ho0))|((with_reducible refine gate_dst (N := 5) rfl ?_);refine bx_ 5 #[.int .i64 0,.int .i64 0,.int .i64 0,.slice none 0 0] 29 ?_;intro gb243 hg w42 hbox hb;replace HO235 := Aside0.mk (Kd.R_below (by (with_reducible repeat (first|apply Kd.R_alloc|apply Kd.R_drewN|apply Kd.R_drew));exact HO235.out) hb);replace HO242 := Aside0.mk (Kd.R_below (by (with_reducible repeat (first|apply Kd.R_alloc|apply Kd.R_drewN|apply Kd.R_drew));exact HO242.out) hb);replace HB := nb_ hg hbox hb;obtain ⟨BK243,GW243,GE243,HB⟩ := HB;have NB228_243 := Aside0.mk ((nl_ BK228 hg));have NB243_228 := Aside0.mk ((ng_ BK228 hg));replace BK228 := Aside0.mk (blk_below (kb_ BK228) hb);clear hb hbox hg;have hnb43 := NB243_228.out;have hnc43 := NB228_243.out;obtain ⟨⟨hcz44_0,hcz44_1,hcz44_2,hcz44_3⟩,hfz44_0,hfz44_1,hfz44_2,hfz44_3⟩ := cl4_ BK243.out;obtain ⟨Ao45,co45,eo45⟩ := Kd.R_slice HO242.out;subst eo45)|((with_reducible refine gcal_ (f := 8) rfl ?_);refine gl_ (some 18) Tryd.func8 #[.agg #[.int .i64 t237,.int .i64 t238,.int .i64 t239,.slice Ao45 t240.length co45]] ?_;(with_reducible refine (impl_ShowRecord.calls k t237 t238 t239 _ _ t240 t244 _ ?sideT ?side1 ?side2 A10.out).mono ?_);(case sideT => exact tb_ htb);(case side1 => refine (Kd.R_reads' (e := 47) (base := w.heap.size) (ok := fun k_ => (True ∧ some k_ ≠ (.slice Ao38 t233.length co38 : Value).ownBlock)) (n := t240.length) (c := co45) ?_).2.2;exact (by (with_reducible repeat (first|apply Kd.R_alloc|apply Kd.R_drewN|apply Kd.R_drew));exact (Kd.R_mono (Kd.R_far (p := ⟨gb243,3,none⟩) (Kd.R_far (p := ⟨gb243,2,none⟩) (Kd.R_far (p := ⟨gb243,1,none⟩) (Kd.R_far (p := ⟨gb243,0,none⟩) (Kd.R_types HO242.out BK243.out (by decide)) (fun _ hk => hk.2) (.int .i64 t237)) (fun _ hk => hk.2) (.int .i64 t238)) (fun _ hk => hk.2) (.int .i64 t239)) (fun _ hk => hk.2) (.slice Ao45 t240.length co45)) (fun _ h_ => h_.1))));(case side2 => exact (Kd.R_reads' HO242.out).2.1);rintro e w46 ⟨rfl,hb⟩;refine ⟨_,rfl,?_⟩;replace HO235 := Aside0.mk (Kd.R_below (by (with_reducible repeat (first|apply Kd.R_alloc|apply Kd.R_drewN|apply Kd.R_drew));exact (Kd.R_mono (Kd.R_far (p := ⟨gb243,3,none⟩) (Kd.R_far (p := ⟨gb243,2,none⟩) (Kd.R_far (p := ⟨gb243,1,none⟩) (Kd.R_far (p := ⟨gb243,0,none⟩) (Kd.R_types HO235.out BK243.out (by decide)) (fun _ hk => hk.2) (.int .i64 t237)) (fun _ hk => hk.2) (.int .i64 t238)) (fun _ hk => hk.2) (.int .i64 t239)) (fun _ hk => hk.2) (.slice Ao45 t240.length co45)) (fun _ h_ => h_.1))) hb);replace HO242 := Aside0.mk (Kd.R_below (by (with_reducible repeat (first|apply Kd.R_alloc|apply Kd.R_drewN|apply Kd.R_drew));exact (Kd.R_mono (Kd.R_far (p := ⟨gb243,3,none⟩) (Kd.R_far (p := ⟨gb243,2,none⟩) (Kd.R_far (p := ⟨gb243,1,none⟩) (Kd.R_far (p := ⟨gb243,0,none⟩) (Kd.R_types HO242.out BK243.out (by decide)) (fun _ hk => hk.2) (.int .i64 t237)) (fun _ hk => hk.2) (.int .i64 t238)) (fun _ hk => hk.2) (.int .i64 t239)) (fun _ hk => hk.2) (.slice Ao45 t240.length co45)) (fun _ h_ => h_.1))) hb);replace BK228 := Aside0.mk (blk_below (kf_ BK228) hb);replace BK243 := Aside0.mk (blk_below (g := gb243) (o := .cells #[.int .i64 t237,.int .i64 t238,.int .i64 t239,.slice Ao45 t240.length co45] 29 (0,0)) (by (with_reducible repeat (first|refine blk_drewN ?_ _|refine blk_drew ?_|refine blk_alloc ?_ _));refine blk_put (cs := #[.int .i64 t237,.int .i64 t238,.int .i64 t239,.slice none 0 0]) ?_ 3 _ rfl;(with_reducible repeat (first|refine blk_drewN ?_ _|refine blk_drew ?_|refine blk_alloc ?_ _));refine blk_put (cs := #[.int .i64 t237,.int .i64 t238,.int .i64 0,.slice none 0 0]) ?_ 2 _ rfl;(with_reducible repeat (first|refine blk_drewN ?_ _|refine blk_drew ?_|refine blk_alloc ?_ _));refine blk_put (cs := #[.int .i64 t237,.int .i64 0,.int .i64 0,.slice none 0 0]) ?_ 1 _ rfl;(with_reducible repeat (first|refine blk_drewN ?_ _|refine blk_drew ?_|refine blk_alloc ?_ _));refine blk_put (cs := #[.int .i64 0,.int .i64 0,.int .i64 0,.slice none 0 0]) ?_ 0 _ rfl;(with_reducible repeat (first|refine blk_drewN ?_ _|refine blk_drew ?_|refine blk_alloc ?_ _));exact BK243.out) hb);replace HB := Aside0.mk (below_step b_ hb);(try clear hb);(try clear hb2);(try clear hk);(try clear hi)))
    replace HO235 := Aside0.mk (Kd.R_drew HO235.out)
    replace HO242 := Aside0.mk (Kd.R_drew HO242.out)
    replace BK228 := Aside0.mk (blk_drew BK228.out)
    replace BK243 := Aside0.mk (blk_drew BK243.out)
    replace HB := Aside0.mk (below_drew1 HB.out)
    refine st_ 5 (S := fun w' => hc4 w' gb243 (.int .i64 t237) (.int .i64 t238) (.int .i64 t239) (.slice Ao45 t240.length co45) (hd4 w' gb228 (.int .i64 a0_0) (.int .i64 a0_1) (.int .i64 a0_2) (.slice A0_3 l0_3.length c0_3))) hh_ (fun hHeld => ?_)
    generalize w46.drew = w47 at HO235 HO242 BK228 BK243 HB hHeld ⊢
    refine take_ (i := 0) (N := some 22) (v := ?_) (a' := ?_) #[true,false,false,false,false] rfl rfl (by kernel_rfl) (fun _ _ _ h => h) (Or.inl ⟨by rfl,?_⟩) hHeld ?_ ?_
    rotate_left
    ·rintro w' ⟨s0,s1,s2,s3,s4,s5,s6,s7⟩
     go_simp
     with_reducible rfl
    rotate_left
    ·simp only [Act.put,q1,q2,q3,i64_w,i32_w]
     rfl
    refine take_ (i := 1) (N := some 23) (v := ?_) (a' := ?_) #[true,true,false,false,false] rfl rfl (by kernel_rfl) (fun _ _ _ h => h) (Or.inl ⟨by rfl,?_⟩) hHeld ?_ ?_
    rotate_left
    ·rintro w' ⟨s0,s1,s2,s3,s4,s5,s6,s7⟩
     go_simp
     with_reducible rfl
    rotate_left
    ·simp only [Act.put,q1,q2,q3,i64_w,i32_w]
     rfl
    refine one_ (i := 2) (N := some 24) #[true,true,true,false,false] rfl rfl (by kernel_rfl) (by decide) (fun K hK => ?_)
    refine gs_ Tryd.func7 #[.agg #[.int .i64 a0_0,.int .i64 a0_1,.int .i64 a0_2,.slice A0_3 l0_3.length c0_3]] ?_
    with_reducible refine (laws_toRecord.calls k a0_0 a0_1 a0_2 _ _ l0_3 t245 t246 t247 t248 _ ?side1 ?side2 A12.out).mono ?_
    (case side1 => exact cb_ HR0_3)
    (case side2 => exact HC0_3.out)
    rintro e w48 ⟨v249,rfl,ho0,hb⟩
    refine ⟨_,rfl,?_⟩
    replace BK228 := Aside0.mk (blk_below (kb_ BK228) hb)
    replace BK243 := Aside0.mk (blk_below (kb_ BK243) hb)
    have HO250 := Aside0.mk (Kd.R_lower (Kd.R_new' (Kd.R_new' ho0 (Kd.R_lt (by (with_reducible repeat (first|apply Kd.R_alloc|apply Kd.R_drewN|apply Kd.R_drew));exact HO235.out))) (Kd.R_lt (by (with_reducible repeat (first|apply Kd.R_alloc|apply Kd.R_drewN|apply Kd.R_drew));exact HO242.out))) (below_size b_))
    replace HO235 := Aside0.mk (Kd.R_elder' (by (with_reducible repeat (first|apply Kd.R_alloc|apply Kd.R_drewN|apply Kd.R_drew));exact HO235.out) (Kd.R_base ho0) hb)
    replace HO242 := Aside0.mk (Kd.R_elder' (by (with_reducible repeat (first|apply Kd.R_alloc|apply Kd.R_drewN|apply Kd.R_drew));exact HO242.out) (Kd.R_base ho0) hb)
    replace HB := Aside0.mk (below_step b_ hb)
    (try clear hb)
    (try clear hb2)
    (try clear hk)
    (try clear hi)
    (try clear ho0)
    obtain ⟨Ao49,co49,eo49⟩ := Kd.R_slice HO250.out
    (first|subst eo49|(injection eo49 with f1_ f2_ f3_;have f4_ := f1_.symm;have f5_ := f3_.symm;clear f1_ f2_ f3_;subst f4_;subst f5_))
    refine hK.out _ _ hh_ (fun hHeld => ?_)
    clear hK K
    refine nr_ (some 24) _ ?_
    refine one_ (i := 3) (N := some 25) #[true,true,true,true,false] rfl rfl (by kernel_rfl) (by decide) (fun K hK => ?_)
    refine gs_ Tryd.func9 #[.agg #[.int .i64 t237,.int .i64 t238,.int .i64 t239,.slice Ao45 t240.length co45],.agg #[.int .i64 t245,.int .i64 t246,.int .i64 t247,.slice Ao49 t248.length co49]] ?_
    with_reducible refine (laws_eqRecord.calls k t237 t238 t239 _ _ t240 t245 t246 t247 _ _ t248 false _ ?side1 ?side2 ?side3 ?side4 A13.out).mono ?_
    (case side1 => repeat (first|exact (Kd.R_reads' HO242.out).2.2|(with_reducible refine Kd.C_alloc ?_ _)|(with_reducible refine Kd.C_drewN ?_ _)|(with_reducible refine Kd.C_drew ?_)))
    (case side2 => exact (Kd.R_reads' HO242.out).2.1)
    (case side3 => repeat (first|exact (Kd.R_reads' HO250.out).2.2|(with_reducible refine Kd.C_alloc ?_ _)|(with_reducible refine Kd.C_drewN ?_ _)|(with_reducible refine Kd.C_drew ?_)))
    (case side4 => exact (Kd.R_reads' HO250.out).2.1)
    rintro e w50 ⟨rfl,hb⟩
    refine ⟨_,rfl,?_⟩
    replace HO235 := Aside0.mk (Kd.R_below (by (with_reducible repeat (first|apply Kd.R_alloc|apply Kd.R_drewN|apply Kd.R_drew));exact HO235.out) hb)
    replace HO242 := Aside0.mk (Kd.R_below (by (with_reducible repeat (first|apply Kd.R_alloc|apply Kd.R_drewN|apply Kd.R_drew));exact HO242.out) hb)
    replace HO250 := Aside0.mk (Kd.R_below (by (with_reducible repeat (first|apply Kd.R_alloc|apply Kd.R_drewN|apply Kd.R_drew));exact HO250.out) hb)
    replace BK228 := Aside0.mk (blk_below (kb_ BK228) hb)
    replace BK243 := Aside0.mk (blk_below (kb_ BK243) hb)
    replace HB := Aside0.mk (below_step b_ hb)
    (try clear hb)
    (try clear hb2)
    (try clear hk)
    (try clear hi)
    refine hK.out _ _ hh_ (fun hHeld => ?_)
    clear hK K
    refine nr_ (some 25) _ ?_
    refine pure_ (i := 4) (N := some 26) (v := ?_) (a' := ?_) #[true,true,true,true,true] rfl rfl (by kernel_rfl) (fun _ _ _ h => h) (Or.inl ⟨by rfl,?_⟩) ?_ ?_
    rotate_left
    ·intro w'
     go_simp
     with_reducible rfl
    rotate_left
    ·simp only [Act.put,q1,q2,q3,i64_w,i32_w]
     rfl
    refine done_ (by kernel_rfl) ?_
    try go_wp2
    go_ret
    exact ⟨rf_,b_⟩
  ·rw [if_neg c11] at H
   have c11b0 : (t244.toList == t236.toList) = false := beq_eq_false_iff_ne.mpr c11
   have c11b1 : (t244.toList != t236.toList) = true := bne_iff_ne.mpr c11
   obtain rfl := Option.some.inj H
   go_enter Tryd.func3,Tryd.ntmps3
   go_wp2_with (first|((with_reducible refine gate_dst (N := 1) rfl ?_);refine bx_ 1 #[.int .i64 a0_0,.int .i64 a0_1,.int .i64 a0_2,.slice A0_3 l0_3.length c0_3] 24 ?_;intro gb228 hg w51 hbox hb;replace HB := nb_ hg hbox hb;obtain ⟨BK228,GW228,GE228,HB⟩ := HB;clear hb hbox hg;obtain ⟨⟨hcz52_0,hcz52_1,hcz52_2,hcz52_3⟩,hfz52_0,hfz52_1,hfz52_2,hfz52_3⟩ := cl4_ BK228.out)|((with_reducible refine gcal_ (f := 5) rfl ?_);refine gl_ (some 9) Tryd.func5 #[.agg #[.int .i64 a0_0,.int .i64 a0_1,.int .i64 a0_2,.slice A0_3 l0_3.length c0_3],.int .i64 1048576] ?_;(with_reducible refine (laws_szRecord.calls a0_0 a0_1 a0_2 _ _ l0_3 1048576 t229 _ ?side1 ?side2 A2.out).mono ?_);(case side1 => exact cb_ HR0_3);(case side2 => exact HC0_3.out);rintro e w53 ⟨rfl,hb⟩;refine ⟨_,rfl,?_⟩;replace BK228 := Aside0.mk (blk_below (kb_ BK228) hb);replace HB := Aside0.mk (below_step b_ hb);(try clear hb);(try clear hb2);(try clear hk);(try clear hi);obtain ⟨⟨hcz54_0,hcz54_1,hcz54_2,hcz54_3⟩,hfz54_0,hfz54_1,hfz54_2,hfz54_3⟩ := cl4_ BK228.out)|((with_reducible refine gcal_ (f := 7) rfl ?_);refine gl_ (some 13) Tryd.func7 #[.agg #[.int .i64 a0_0,.int .i64 a0_1,.int .i64 a0_2,.slice A0_3 l0_3.length c0_3]] ?_;(with_reducible refine (laws_toRecord.calls k a0_0 a0_1 a0_2 _ _ l0_3 t230 t231 t232 t233 _ ?side1 ?side2 A7.out).mono ?_);(case side1 => exact cb_ HR0_3);(case side2 => exact HC0_3.out);rintro e w55 ⟨v234,rfl,ho0,hb⟩;refine ⟨_,rfl,?_⟩;replace BK228 := Aside0.mk (blk_below (kb_ BK228) hb);have HO235 := Aside0.mk (Kd.R_lower ho0 (below_size b_));replace HB := Aside0.mk (below_step b_ hb);(try clear hb);(try clear hb2);(try clear hk);(try clear hi);(try clear ho0);obtain ⟨Ao56,co56,eo56⟩ := Kd.R_slice HO235.out;subst eo56)|((with_reducible refine gcal_ (f := 6) rfl ?_);refine gl_ (some 14) Tryd.func6 #[.agg #[.int .i64 t230,.int .i64 t231,.int .i64 t232,.slice Ao56 t233.length co56]] ?_;(with_reducible refine (spec_ShowRecord.calls k t230 t231 t232 _ _ t233 t236 _ ?side1 ?side2 A8.out).mono ?_);(case side1 => repeat (first|exact (Kd.R_reads' HO235.out).2.2|(with_reducible refine Kd.C_alloc ?_ _)|(with_reducible refine Kd.C_drewN ?_ _)|(with_reducible refine Kd.C_drew ?_)));(case side2 => exact (Kd.R_reads' HO235.out).2.1);rintro e w57 ⟨rfl,hb⟩;refine ⟨_,rfl,?_⟩;replace HO235 := Aside0.mk (Kd.R_below (by (with_reducible repeat (first|apply Kd.R_alloc|apply Kd.R_drewN|apply Kd.R_drew));exact HO235.out) hb);replace BK228 := Aside0.mk (blk_below (kb_ BK228) hb);replace HB := Aside0.mk (below_step b_ hb);(try clear hb);(try clear hb2);(try clear hk);(try clear hi);obtain ⟨⟨hcz58_0,hcz58_1,hcz58_2,hcz58_3⟩,hfz58_0,hfz58_1,hfz58_2,hfz58_3⟩ := cl4_ BK228.out)|((with_reducible refine gcal_ (f := 7) rfl ?_);refine gl_ (some 16) Tryd.func7 #[.agg #[.int .i64 a0_0,.int .i64 a0_1,.int .i64 a0_2,.slice A0_3 l0_3.length c0_3]] ?_;(with_reducible refine (laws_toRecord.calls k a0_0 a0_1 a0_2 _ _ l0_3 t237 t238 t239 t240 _ ?side1 ?side2 A9.out).mono ?_);(case side1 => exact cb_ HR0_3);(case side2 => exact HC0_3.out);rintro e w59 ⟨v241,rfl,ho0,hb⟩;refine ⟨_,rfl,?_⟩;replace BK228 := Aside0.mk (blk_below (kb_ BK228) hb);have HO242 := Aside0.mk (Kd.R_lower (Kd.R_new' ho0 (Kd.R_lt (by (with_reducible repeat (first|apply Kd.R_alloc|apply Kd.R_drewN|apply Kd.R_drew));exact HO235.out))) (below_size b_));replace HO235 := Aside0.mk (Kd.R_elder' (by (with_reducible repeat (first|apply Kd.R_alloc|apply Kd.R_drewN|apply Kd.R_drew));exact HO235.out) (Kd.R_base ho0) hb);replace HB := Aside0.mk (below_step b_ hb);(try clear hb);(try clear hb2);(try clear hk);(try clear hi);(try clear ho0))|((with_reducible refine gate_dst (N := 5) rfl ?_);refine bx_ 5 #[.int .i64 0,.int .i64 0,.int .i64 0,.slice none 0 0] 29 ?_;intro gb243 hg w60 hbox hb;replace HO235 := Aside0.mk (Kd.R_below (by (with_reducible repeat (first|apply Kd.R_alloc|apply Kd.R_drewN|apply Kd.R_drew));exact HO235.out) hb);replace HO242 := Aside0.mk (Kd.R_below (by (with_reducible repeat (first|apply Kd.R_alloc|apply Kd.R_drewN|apply Kd.R_drew));exact HO242.out) hb);replace HB := nb_ hg hbox hb;obtain ⟨BK243,GW243,GE243,HB⟩ := HB;have NB228_243 := Aside0.mk ((nl_ BK228 hg));have NB243_228 := Aside0.mk ((ng_ BK228 hg));replace BK228 := Aside0.mk (blk_below (kb_ BK228) hb);clear hb hbox hg;have hnb61 := NB243_228.out;have hnc61 := NB228_243.out;obtain ⟨⟨hcz62_0,hcz62_1,hcz62_2,hcz62_3⟩,hfz62_0,hfz62_1,hfz62_2,hfz62_3⟩ := cl4_ BK243.out;obtain ⟨Ao63,co63,eo63⟩ := Kd.R_slice HO242.out;subst eo63)|((with_reducible refine gcal_ (f := 8) rfl ?_);refine gl_ (some 18) Tryd.func8 #[.agg #[.int .i64 t237,.int .i64 t238,.int .i64 t239,.slice Ao63 t240.length co63]] ?_;(with_reducible refine (impl_ShowRecord.calls k t237 t238 t239 _ _ t240 t244 _ ?sideT ?side1 ?side2 A10.out).mono ?_);(case sideT => exact tb_ htb);(case side1 => refine (Kd.R_reads' (e := 47) (base := w.heap.size) (ok := fun k_ => (True ∧ some k_ ≠ (.slice Ao56 t233.length co56 : Value).ownBlock)) (n := t240.length) (c := co63) ?_).2.2;exact (by (with_reducible repeat (first|apply Kd.R_alloc|apply Kd.R_drewN|apply Kd.R_drew));exact (Kd.R_mono (Kd.R_far (p := ⟨gb243,3,none⟩) (Kd.R_far (p := ⟨gb243,2,none⟩) (Kd.R_far (p := ⟨gb243,1,none⟩) (Kd.R_far (p := ⟨gb243,0,none⟩) (Kd.R_types HO242.out BK243.out (by decide)) (fun _ hk => hk.2) (.int .i64 t237)) (fun _ hk => hk.2) (.int .i64 t238)) (fun _ hk => hk.2) (.int .i64 t239)) (fun _ hk => hk.2) (.slice Ao63 t240.length co63)) (fun _ h_ => h_.1))));(case side2 => exact (Kd.R_reads' HO242.out).2.1);rintro e w64 ⟨rfl,hb⟩;refine ⟨_,rfl,?_⟩;replace HO235 := Aside0.mk (Kd.R_below (by (with_reducible repeat (first|apply Kd.R_alloc|apply Kd.R_drewN|apply Kd.R_drew));exact (Kd.R_mono (Kd.R_far (p := ⟨gb243,3,none⟩) (Kd.R_far (p := ⟨gb243,2,none⟩) (Kd.R_far (p := ⟨gb243,1,none⟩) (Kd.R_far (p := ⟨gb243,0,none⟩) (Kd.R_types HO235.out BK243.out (by decide)) (fun _ hk => hk.2) (.int .i64 t237)) (fun _ hk => hk.2) (.int .i64 t238)) (fun _ hk => hk.2) (.int .i64 t239)) (fun _ hk => hk.2) (.slice Ao63 t240.length co63)) (fun _ h_ => h_.1))) hb);replace HO242 := Aside0.mk (Kd.R_below (by (with_reducible repeat (first|apply Kd.R_alloc|apply Kd.R_drewN|apply Kd.R_drew));exact (Kd.R_mono (Kd.R_far (p := ⟨gb243,3,none⟩) (Kd.R_far (p := ⟨gb243,2,none⟩) (Kd.R_far (p := ⟨gb243,1,none⟩) (Kd.R_far (p := ⟨gb243,0,none⟩) (Kd.R_types HO242.out BK243.out (by decide)) (fun _ hk => hk.2) (.int .i64 t237)) (fun _ hk => hk.2) (.int .i64 t238)) (fun _ hk => hk.2) (.int .i64 t239)) (fun _ hk => hk.2) (.slice Ao63 t240.length co63)) (fun _ h_ => h_.1))) hb);replace BK228 := Aside0.mk (blk_below (kf_ BK228) hb);replace BK243 := Aside0.mk (blk_below (g := gb243) (o := .cells #[.int .i64 t237,.int .i64 t238,.int .i64 t239,.slice Ao63 t240.length co63] 29 (0,0)) (by (with_reducible repeat (first|refine blk_drewN ?_ _|refine blk_drew ?_|refine blk_alloc ?_ _));refine blk_put (cs := #[.int .i64 t237,.int .i64 t238,.int .i64 t239,.slice none 0 0]) ?_ 3 _ rfl;(with_reducible repeat (first|refine blk_drewN ?_ _|refine blk_drew ?_|refine blk_alloc ?_ _));refine blk_put (cs := #[.int .i64 t237,.int .i64 t238,.int .i64 0,.slice none 0 0]) ?_ 2 _ rfl;(with_reducible repeat (first|refine blk_drewN ?_ _|refine blk_drew ?_|refine blk_alloc ?_ _));refine blk_put (cs := #[.int .i64 t237,.int .i64 0,.int .i64 0,.slice none 0 0]) ?_ 1 _ rfl;(with_reducible repeat (first|refine blk_drewN ?_ _|refine blk_drew ?_|refine blk_alloc ?_ _));refine blk_put (cs := #[.int .i64 0,.int .i64 0,.int .i64 0,.slice none 0 0]) ?_ 0 _ rfl;(with_reducible repeat (first|refine blk_drewN ?_ _|refine blk_drew ?_|refine blk_alloc ?_ _));exact BK243.out) hb);replace HB := Aside0.mk (below_step b_ hb);(try clear hb);(try clear hb2);(try clear hk);(try clear hi)))
   go_ret
   exact ⟨rf_,b_⟩

end Go.Proofs.YtnilfnkdgdfnnaaDoor.XSh
