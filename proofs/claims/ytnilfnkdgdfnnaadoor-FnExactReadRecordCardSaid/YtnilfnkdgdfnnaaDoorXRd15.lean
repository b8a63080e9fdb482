/- Proved: of each Go function here that a call comes to what the Lean function of its name tells. Written by a program of this session over the translation. No conditions beyond each theorem's own. -/
import Derived.Test.YtnilfnkdgdfnnaaDoorXRd0
import Derived.Test.YtnilfnkdgdfnnaaDoorXRd1
import Derived.Test.YtnilfnkdgdfnnaaDoorXRd7
import Derived.Test.YtnilfnkdgdfnnaaDoorXRd10
import Derived.Test.YtnilfnkdgdfnnaaDoorXRd14
namespace Go.Proofs.YtnilfnkdgdfnnaaDoor.XRd
open Go.RowKit Go.Proofs.YtnilfnkdgdfnnaaDoor.Aid Go.Proofs.YtnilfnkdgdfnnaaDoorW.PrintWords Go.Proofs.YtnilfnkdgdfnnaaDoorW.PrintLast Go.Proofs.YtnilfnkdgdfnnaaDoorW.PrintMore
set_option linter.unusedVariables false
set_option linter.unusedSimpArgs false

/-! ### laws_FnExactReadRecord: function 4 -/
mutual
def laws_FnExactReadRecord.j0 : Nat → ByteArray → Bool → Bool → Int → Int → Int → List (S47) → Int → Int → Int → List (S47) → Option (Bool)
  | 0, _, _, _, _, _, _, _, _, _, _, _ => none
  | k + 1, x0, x4, x32, x300000, x300001, x300002, x300003, x308000, x308001, x308002, x308003 => if x32 = true then (some false) else ((laws_markRecord.f k x308000 x308001 x308002 x308003 1).bind fun bt309 => ((laws_heldRecord.f k x308000 x308001 x308002 bt309.2 1).bind fun t311 => (if t311 < 0 then (some false) else (if t311 = bt309.1 then ((impl_ReadRecord.f k x0).bind fun bt312 => ((laws_eqRecord.f k bt312.1 bt312.2.1 bt312.2.2.1 bt312.2.2.2.1 x300000 x300001 x300002 x300003).bind fun t320 => (if t320 = true then (laws_FnExactReadRecord.j1 k bt309.1 (bt312.2.2.2.2 != x4) x308000 x308001 x308002 bt309.2) else (laws_FnExactReadRecord.j1 k bt309.1 true x308000 x308001 x308002 bt309.2)))) else (some false)))))
def laws_FnExactReadRecord.j1 : Nat → Int → Bool → Int → Int → Int → List (S47) → Option (Bool)
  | 0, _, _, _, _, _, _ => none
  | k + 1, x7, x57, x308000, x308001, x308002, x308003 => if x57 = true then (some false) else ((laws_heldRecord.f k x308000 x308001 x308002 x308003 1).bind fun t321 => (if t321 < 0 then (some false) else (if t321 = x7 then (some true) else (some false))))
end
def laws_FnExactReadRecord.f (k : Nat) (a0 : ByteArray) : Option (Bool) := if (a0.size : Int) > 1048576 then (some true) else ((spec_ReadRecord.f k a0).bind fun bt292 => ((impl_ReadRecord.f k a0).bind fun bt300 => ((laws_eqRecord.f k bt300.1 bt300.2.1 bt300.2.2.1 bt300.2.2.2.1 bt292.1 bt292.2.1 bt292.2.2.1 bt292.2.2.2.1).bind fun t308 => (if t308 = true then (laws_FnExactReadRecord.j0 k a0 bt292.2.2.2.2 (bt300.2.2.2.2 != bt292.2.2.2.2) bt292.1 bt292.2.1 bt292.2.2.1 bt292.2.2.2.1 bt300.1 bt300.2.1 bt300.2.2.1 bt300.2.2.2.1) else (laws_FnExactReadRecord.j0 k a0 bt292.2.2.2.2 true bt292.1 bt292.2.1 bt292.2.2.1 bt292.2.2.2.1 bt300.1 bt300.2.1 bt300.2.2.1 bt300.2.2.2.1)))))

set_option maxHeartbeats 8000000 in
set_option maxRecDepth 100000 in
theorem laws_FnExactReadRecord.calls (k : Nat) (a0 : ByteArray) (r : Bool) (w : World) (htb : Aside0 (Tb w)) (h : laws_FnExactReadRecord.f k a0 = some r) :
    Calls Tryd.prog 4 #[.string a0] w fun e w' => e = .returned (.bool r) ∧ Below w.heap.size w w' := by
 have hu29 := Tryd.underlying29
 have HB := Aside0.mk (Below.refl w.heap.size w)
 have H : (if (a0.size : Int) > 1048576 then (some true) else ((spec_ReadRecord.f k a0).bind fun bt292 => ((impl_ReadRecord.f k a0).bind fun bt300 => ((laws_eqRecord.f k bt300.1 bt300.2.1 bt300.2.2.1 bt300.2.2.2.1 bt292.1 bt292.2.1 bt292.2.2.1 bt292.2.2.2.1).bind fun t308 => (if t308 = true then (laws_FnExactReadRecord.j0 k a0 bt292.2.2.2.2 (bt300.2.2.2.2 != bt292.2.2.2.2) bt292.1 bt292.2.1 bt292.2.2.1 bt292.2.2.2.1 bt300.1 bt300.2.1 bt300.2.2.1 bt300.2.2.2.1) else (laws_FnExactReadRecord.j0 k a0 bt292.2.2.2.2 true bt292.1 bt292.2.1 bt292.2.2.1 bt292.2.2.2.1 bt300.1 bt300.2.1 bt300.2.2.1 bt300.2.2.2.1)))))) = some r := h
 clear h
 by_cases c2 : (a0.size : Int) > 1048576
 ·rw [if_pos c2] at H
  have c2b0 : decide (1048576 < (a0.size : Int)) = true := decide_eq_true c2
  have c2b1 : decide (1048576 < a0.size) = true := decide_eq_true (by omega)
  clear c2
  obtain rfl := Option.some.inj H
  go_enter Tryd.func4,Tryd.ntmps4
  go_wp2
  go_ret
  exact ⟨rf_,b_⟩
 ·rw [if_neg c2] at H
  have c2b0 : decide (1048576 < (a0.size : Int)) = false := decide_eq_false c2
  have c2b1 : decide (1048576 < a0.size) = false := decide_eq_false (by omega)
  clear c2
  replace H := Option.bind_eq_some_iff.mp H
  obtain ⟨⟨t292,t293,t294,t295,t298⟩,A30,H⟩ := H
  replace H : ((impl_ReadRecord.f k a0).bind fun bt300 => ((laws_eqRecord.f k bt300.1 bt300.2.1 bt300.2.2.1 bt300.2.2.2.1 t292 t293 t294 t295).bind fun t308 => (if t308 = true then (laws_FnExactReadRecord.j0 k a0 t298 (bt300.2.2.2.2 != t298) t292 t293 t294 t295 bt300.1 bt300.2.1 bt300.2.2.1 bt300.2.2.2.1) else (laws_FnExactReadRecord.j0 k a0 t298 true t292 t293 t294 t295 bt300.1 bt300.2.1 bt300.2.2.1 bt300.2.2.2.1)))) = some r := H
  have A3 := Aside0.mk A30
  clear A30
  replace H := Option.bind_eq_some_iff.mp H
  obtain ⟨⟨t300,t301,t302,t303,t306⟩,A40,H⟩ := H
  replace H : ((laws_eqRecord.f k t300 t301 t302 t303 t292 t293 t294 t295).bind fun t308 => (if t308 = true then (laws_FnExactReadRecord.j0 k a0 t298 (t306 != t298) t292 t293 t294 t295 t300 t301 t302 t303) else (laws_FnExactReadRecord.j0 k a0 t298 true t292 t293 t294 t295 t300 t301 t302 t303))) = some r := H
  have A4 := Aside0.mk A40
  clear A40
  have HC5 := Aside0.mk H
  clear H
  go_enter Tryd.func4,Tryd.ntmps4
  go_upto_region 5 with (first|((with_reducible refine gcal_ (f := 10) rfl ?_);refine gl_ (some 16) Tryd.func10 #[.string a0] ?_;(with_reducible refine (spec_ReadRecord.calls k a0 t292 t293 t294 t295 t298 _ A3.out).mono ?_);rintro e w6 ⟨v296,rfl,ho0,hb⟩;refine ⟨_,rfl,?_⟩;have n0_ := Aside0.mk (Kd.R_lower ho0 (below_size b_));have n1_ := Aside0.mk (below_step b_ hb);clear HB;have HO297 := n0_;have HB := n1_;clear n0_ n1_;(try clear hb);(try clear hb2);(try clear hk);(try clear hi);(try clear ho0))|((with_reducible refine gate_dst (N := 3) rfl ?_);refine bx_ 3 #[.int .i64 0,.int .i64 0,.int .i64 0,.slice none 0 0] 29 ?_;intro gb299 hg w7 hbox hb;have n0_ := Aside0.mk (Kd.R_below (by (with_reducible repeat (first|apply Kd.R_alloc|apply Kd.R_drewN|apply Kd.R_drew));exact HO297.out) hb);have n1_ := Aside0.mk (below_step b_ hb);have n2_ := Aside0.mk (hbox);have n3_ := Aside0.mk ((gw_ (w := w) hg));have n4_ := Aside0.mk ((gw_ (w := w) hg));clear HO297;clear HB;have HO297 := n0_;have HB := n1_;have BK299 := n2_;have GW299 := n3_;have GE299 := n4_;clear n0_ n1_ n2_ n3_ n4_;clear hb hbox hg;obtain ⟨⟨hcz8_0,hcz8_1,hcz8_2,hcz8_3⟩,hfz8_0,hfz8_1,hfz8_2,hfz8_3⟩ := cl4_ BK299.out;obtain ⟨Ao9,co9,eo9⟩ := Kd.R_slice HO297.out;subst eo9)|((with_reducible refine gcal_ (f := 11) rfl ?_);refine gl_ (some 21) Tryd.func11 #[.string a0] ?_;(with_reducible refine (impl_ReadRecord.calls k a0 t300 t301 t302 t303 t306 _ ?sideT A4.out).mono ?_);(case sideT => exact tb_ htb);rintro e w10 ⟨v304,rfl,ho0,hb⟩;refine ⟨_,rfl,?_⟩;have n0_ := Aside0.mk (Kd.R_elder' (by (with_reducible repeat (first|apply Kd.R_alloc|apply Kd.R_drewN|apply Kd.R_drew));exact (Kd.R_mono (Kd.R_far (p := ⟨gb299,3,none⟩) (Kd.R_far (p := ⟨gb299,2,none⟩) (Kd.R_far (p := ⟨gb299,1,none⟩) (Kd.R_far (p := ⟨gb299,0,none⟩) (Kd.R_types HO297.out BK299.out (by decide)) (fun _ hk => hk.2) (.int .i64 t292)) (fun _ hk => hk.2) (.int .i64 t293)) (fun _ hk => hk.2) (.int .i64 t294)) (fun _ hk => hk.2) (.slice Ao9 t295.length co9)) (fun _ h_ => h_.1))) (Kd.R_base ho0) hb);have n1_ := Aside0.mk (Kd.R_lower (Kd.R_new' ho0 (Kd.R_lt (by (with_reducible repeat (first|apply Kd.R_alloc|apply Kd.R_drewN|apply Kd.R_drew));exact (Kd.R_mono (Kd.R_far (p := ⟨gb299,3,none⟩) (Kd.R_far (p := ⟨gb299,2,none⟩) (Kd.R_far (p := ⟨gb299,1,none⟩) (Kd.R_far (p := ⟨gb299,0,none⟩) (Kd.R_types HO297.out BK299.out (by decide)) (fun _ hk => hk.2) (.int .i64 t292)) (fun _ hk => hk.2) (.int .i64 t293)) (fun _ hk => hk.2) (.int .i64 t294)) (fun _ hk => hk.2) (.slice Ao9 t295.length co9)) (fun _ h_ => h_.1))))) (below_size b_));have n2_ := Aside0.mk (blk_below (g := gb299) (o := .cells #[.int .i64 t292,.int .i64 t293,.int .i64 t294,.slice Ao9 t295.length co9] 29 (0,0)) (by (with_reducible repeat (first|refine blk_drewN ?_ _|refine blk_drew ?_|refine blk_alloc ?_ _));refine blk_put (cs := #[.int .i64 t292,.int .i64 t293,.int .i64 t294,.slice none 0 0]) ?_ 3 _ rfl;(with_reducible repeat (first|refine blk_drewN ?_ _|refine blk_drew ?_|refine blk_alloc ?_ _));refine blk_put (cs := #[.int .i64 t292,.int .i64 t293,.int .i64 0,.slice none 0 0]) ?_ 2 _ rfl;(with_reducible repeat (first|refine blk_drewN ?_ _|refine blk_drew ?_|refine blk_alloc ?_ _));refine blk_put (cs := #[.int .i64 t292,.int .i64 0,.int .i64 0,.slice none 0 0]) ?_ 1 _ rfl;(with_reducible repeat (first|refine blk_drewN ?_ _|refine blk_drew ?_|refine blk_alloc ?_ _));refine blk_put (cs := #[.int .i64 0,.int .i64 0,.int .i64 0,.slice none 0 0]) ?_ 0 _ rfl;(with_reducible repeat (first|refine blk_drewN ?_ _|refine blk_drew ?_|refine blk_alloc ?_ _));exact BK299.out) hb);have n3_ := Aside0.mk (below_step b_ hb);clear HO297;clear BK299;clear HB;have HO297 := n0_;have HO305 := n1_;have BK299 := n2_;have HB := n3_;clear n0_ n1_ n2_ n3_;(try clear hb);(try clear hb2);(try clear hk);(try clear hi);(try clear ho0))|((with_reducible refine gate_dst (N := 5) rfl ?_);refine bx_ 5 #[.int .i64 0,.int .i64 0,.int .i64 0,.slice none 0 0] 29 ?_;intro gb307 hg w11 hbox hb;have n0_ := Aside0.mk (Kd.R_below (by (with_reducible repeat (first|apply Kd.R_alloc|apply Kd.R_drewN|apply Kd.R_drew));exact HO297.out) hb);have n1_ := Aside0.mk (Kd.R_below (by (with_reducible repeat (first|apply Kd.R_alloc|apply Kd.R_drewN|apply Kd.R_drew));exact HO305.out) hb);have n2_ := Aside0.mk (blk_below (kb_ BK299) hb);have n3_ := Aside0.mk (below_step b_ hb);have n4_ := Aside0.mk (hbox);have n5_ := Aside0.mk ((gw_ (w := w) hg));have n6_ := Aside0.mk ((gw_ (w := w) hg));have n7_ := Aside0.mk ((nl_ BK299 hg));have n8_ := Aside0.mk ((ng_ BK299 hg));clear HO297;clear HO305;clear BK299;clear HB;have HO297 := n0_;have HO305 := n1_;have BK299 := n2_;have HB := n3_;have BK307 := n4_;have GW307 := n5_;have GE307 := n6_;have NB299_307 := n7_;have NB307_299 := n8_;clear n0_ n1_ n2_ n3_ n4_ n5_ n6_ n7_ n8_;clear hb hbox hg;have hnb12 := NB307_299.out;have hnc12 := NB299_307.out;obtain ⟨⟨hcz13_0,hcz13_1,hcz13_2,hcz13_3⟩,hfz13_0,hfz13_1,hfz13_2,hfz13_3⟩ := cl4_ BK307.out;obtain ⟨Ao14,co14,eo14⟩ := Kd.R_slice HO305.out;subst eo14))
  (try simp only [Act.put,List.setIfInBounds_toArray,List.set_cons_zero,List.set_cons_succ])
  go_cut [32] (fun v32 wc => ∃ (kq : Nat) (x32_4 : Bool),v32 = .bool x32_4 ∧ Aside0 (laws_FnExactReadRecord.j0 kq a0 t298 x32_4 t292 t293 t294 t295 t300 t301 t302 t303 = some r) ∧ Aside0 (kq ≤ k) ∧ Aside0 (Kd.R k47 47 wc w.heap.size (fun k_ => some k_ ≠ ((.slice Ao14 t303.length co14) : Value).ownBlock) (.slice Ao9 t295.length co9) t295) ∧ Aside0 (Kd.R k47 47 wc w.heap.size (fun k_ => some k_ ≠ ((.slice Ao9 t295.length co9) : Value).ownBlock) (.slice Ao14 t303.length co14) t303) ∧ Aside0 (wc.heap[gb299]? = some (.cells #[.int .i64 t292,.int .i64 t293,.int .i64 t294,(.slice Ao9 t295.length co9)] 29 (0,0))) ∧ Aside0 (wc.heap[gb307]? = some (.cells #[.int .i64 t300,.int .i64 t301,.int .i64 t302,(.slice Ao14 t303.length co14)] 29 (0,0))) ∧ Aside0 (Below w.heap.size w wc))
  case first =>
   have H := HC5.out
   clear HC5
   replace H := bs_ H
   obtain ⟨t308,A15,H⟩ := H
   by_cases c16 : t308 = true
   ·subst c16
    replace H := it_ H
    have H' := Aside0.mk H
    clear H
    have hnb17 := NB307_299.out
    have hnc17 := NB299_307.out
    obtain ⟨⟨hcz18_0,hcz18_1,hcz18_2,hcz18_3⟩,hfz18_0,hfz18_1,hfz18_2,hfz18_3⟩ := cl4_ BK307.out
    obtain ⟨⟨hcz19_0,hcz19_1,hcz19_2,hcz19_3⟩,hfz19_0,hfz19_1,hfz19_2,hfz19_3⟩ := cl4_ BK299.out
    go_wp2_with (first|((with_reducible refine gcal_ (f := 9) rfl ?_);refine gl_ (some 26) Tryd.func9 #[.agg #[.int .i64 t300,.int .i64 t301,.int .i64 t302,.slice Ao14 t303.length co14],.agg #[.int .i64 t292,.int .i64 t293,.int .i64 t294,.slice Ao9 t295.length co9]] ?_;(with_reducible refine (laws_eqRecord.calls k t300 t301 t302 _ _ t303 t292 t293 t294 _ _ t295 true _ ?side1 ?side2 ?side3 ?side4 A15.out).mono ?_);(case side1 => refine (Kd.R_reads' (e := 47) (base := w.heap.size) (ok := fun k_ => (True ∧ some k_ ≠ (.slice Ao9 t295.length co9 : Value).ownBlock)) (n := t303.length) (c := co14) ?_).2.2;exact (by (with_reducible repeat (first|apply Kd.R_alloc|apply Kd.R_drewN|apply Kd.R_drew));exact (Kd.R_mono (Kd.R_far (p := ⟨gb307,3,none⟩) (Kd.R_far (p := ⟨gb307,2,none⟩) (Kd.R_far (p := ⟨gb307,1,none⟩) (Kd.R_far (p := ⟨gb307,0,none⟩) (Kd.R_types HO305.out BK307.out (by decide)) (fun _ hk => hk.2) (.int .i64 t300)) (fun _ hk => hk.2) (.int .i64 t301)) (fun _ hk => hk.2) (.int .i64 t302)) (fun _ hk => hk.2) (.slice Ao14 t303.length co14)) (fun _ h_ => h_.1))));(case side2 => exact (Kd.R_reads' HO305.out).2.1);(case side3 => refine (Kd.R_reads' (e := 47) (base := w.heap.size) (ok := fun k_ => (True ∧ some k_ ≠ (.slice Ao14 t303.length co14 : Value).ownBlock)) (n := t295.length) (c := co9) ?_).2.2;exact (by (with_reducible repeat (first|apply Kd.R_alloc|apply Kd.R_drewN|apply Kd.R_drew));exact (Kd.R_mono (Kd.R_far (p := ⟨gb307,3,none⟩) (Kd.R_far (p := ⟨gb307,2,none⟩) (Kd.R_far (p := ⟨gb307,1,none⟩) (Kd.R_far (p := ⟨gb307,0,none⟩) (Kd.R_types HO297.out BK307.out (by decide)) (fun _ hk => hk.2) (.int .i64 t300)) (fun _ hk => hk.2) (.int .i64 t301)) (fun _ hk => hk.2) (.int .i64 t302)) (fun _ hk => hk.2) (.slice Ao14 t303.length co14)) (fun _ h_ => h_.1))));(case side4 => exact (Kd.R_reads' HO297.out).2.1);rintro e w20 ⟨rfl,hb⟩;refine ⟨_,rfl,?_⟩;replace HO297 := Aside0.mk (Kd.R_below (by (with_reducible repeat (first|apply Kd.R_alloc|apply Kd.R_drewN|apply Kd.R_drew));exact (Kd.R_mono (Kd.R_far (p := ⟨gb307,3,none⟩) (Kd.R_far (p := ⟨gb307,2,none⟩) (Kd.R_far (p := ⟨gb307,1,none⟩) (Kd.R_far (p := ⟨gb307,0,none⟩) (Kd.R_types HO297.out BK307.out (by decide)) (fun _ hk => hk.2) (.int .i64 t300)) (fun _ hk => hk.2) (.int .i64 t301)) (fun _ hk => hk.2) (.int .i64 t302)) (fun _ hk => hk.2) (.slice Ao14 t303.length co14)) (fun _ h_ => h_.1))) hb);replace HO305 := Aside0.mk (Kd.R_below (by (with_reducible repeat (first|apply Kd.R_alloc|apply Kd.R_drewN|apply Kd.R_drew));exact (Kd.R_mono (Kd.R_far (p := ⟨gb307,3,none⟩) (Kd.R_far (p := ⟨gb307,2,none⟩) (Kd.R_far (p := ⟨gb307,1,none⟩) (Kd.R_far (p := ⟨gb307,0,none⟩) (Kd.R_types HO305.out BK307.out (by decide)) (fun _ hk => hk.2) (.int .i64 t300)) (fun _ hk => hk.2) (.int .i64 t301)) (fun _ hk => hk.2) (.int .i64 t302)) (fun _ hk => hk.2) (.slice Ao14 t303.length co14)) (fun _ h_ => h_.1))) hb);replace BK299 := Aside0.mk (blk_below (kf_ BK299) hb);replace BK307 := Aside0.mk (blk_below (g := gb307) (o := .cells #[.int .i64 t300,.int .i64 t301,.int .i64 t302,.slice Ao14 t303.length co14] 29 (0,0)) (by (with_reducible repeat (first|refine blk_drewN ?_ _|refine blk_drew ?_|refine blk_alloc ?_ _));refine blk_put (cs := #[.int .i64 t300,.int .i64 t301,.int .i64 t302,.slice none 0 0]) ?_ 3 _ rfl;(with_reducible repeat (first|refine blk_drewN ?_ _|refine blk_drew ?_|refine blk_alloc ?_ _));refine blk_put (cs := #[.int .i64 t300,.int .i64 t301,.int .i64 0,.slice none 0 0]) ?_ 2 _ rfl;(with_reducible repeat (first|refine blk_drewN ?_ _|refine blk_drew ?_|refine blk_alloc ?_ _));refine blk_put (cs := #[.int .i64 t300,.int .i64 0,.int .i64 0,.slice none 0 0]) ?_ 1 _ rfl;(with_reducible repeat (first|refine blk_drewN ?_ _|refine blk_drew ?_|refine blk_alloc ?_ _));refine blk_put (cs := #[.int .i64 0,.int .i64 0,.int .i64 0,.slice none 0 0]) ?_ 0 _ rfl;(with_reducible repeat (first|refine blk_drewN ?_ _|refine blk_drew ?_|refine blk_alloc ?_ _));exact BK307.out) hb);replace HB := Aside0.mk (below_step b_ hb);(try clear hb);(try clear hb2);(try clear hk);(try clear hi)))
    go_meet
    case rel => exact ⟨_,((t306 != t298)),rs_,H',⟨by first|omega|exact Nat.le_refl _⟩,⟨by (with_reducible repeat (first|apply Kd.R_alloc|apply Kd.R_drewN|apply Kd.R_drew));exact Kd.R_mono HO297.out (fun _ hk => hk.2)⟩,⟨by (with_reducible repeat (first|apply Kd.R_alloc|apply Kd.R_drewN|apply Kd.R_drew));exact Kd.R_mono HO305.out (fun _ hk => hk.2)⟩,⟨kb_ BK299⟩,⟨kb_ BK307⟩,⟨b_⟩⟩
   ·replace c16 := Bool.eq_false_iff.mpr c16
    subst c16
    replace H := ie_ H
    have H' := Aside0.mk H
    clear H
    have hnb21 := NB307_299.out
    have hnc21 := NB299_307.out
    obtain ⟨⟨hcz22_0,hcz22_1,hcz22_2,hcz22_3⟩,hfz22_0,hfz22_1,hfz22_2,hfz22_3⟩ := cl4_ BK307.out
    obtain ⟨⟨hcz23_0,hcz23_1,hcz23_2,hcz23_3⟩,hfz23_0,hfz23_1,hfz23_2,hfz23_3⟩ := cl4_ BK299.out
    go_wp2_with (first|((with_reducible refine gcal_ (f := 9) rfl ?_);refine gl_ (some 26) Tryd.func9 #[.agg #[.int .i64 t300,.int .i64 t301,.int .i64 t302,.slice Ao14 t303.length co14],.agg #[.int .i64 t292,.int .i64 t293,.int .i64 t294,.slice Ao9 t295.length co9]] ?_;(with_reducible refine (laws_eqRecord.calls k t300 t301 t302 _ _ t303 t292 t293 t294 _ _ t295 false _ ?side1 ?side2 ?side3 ?side4 A15.out).mono ?_);(case side1 => refine (Kd.R_reads' (e := 47) (base := w.heap.size) (ok := fun k_ => (True ∧ some k_ ≠ (.slice Ao9 t295.length co9 : Value).ownBlock)) (n := t303.length) (c := co14) ?_).2.2;exact (by (with_reducible repeat (first|apply Kd.R_alloc|apply Kd.R_drewN|apply Kd.R_drew));exact (Kd.R_mono (Kd.R_far (p := ⟨gb307,3,none⟩) (Kd.R_far (p := ⟨gb307,2,none⟩) (Kd.R_far (p := ⟨gb307,1,none⟩) (Kd.R_far (p := ⟨gb307,0,none⟩) (Kd.R_types HO305.out BK307.out (by decide)) (fun _ hk => hk.2) (.int .i64 t300)) (fun _ hk => hk.2) (.int .i64 t301)) (fun _ hk => hk.2) (.int .i64 t302)) (fun _ hk => hk.2) (.slice Ao14 t303.length co14)) (fun _ h_ => h_.1))));(case side2 => exact (Kd.R_reads' HO305.out).2.1);(case side3 => refine (Kd.R_reads' (e := 47) (base := w.heap.size) (ok := fun k_ => (True ∧ some k_ ≠ (.slice Ao14 t303.length co14 : Value).ownBlock)) (n := t295.length) (c := co9) ?_).2.2;exact (by (with_reducible repeat (first|apply Kd.R_alloc|apply Kd.R_drewN|apply Kd.R_drew));exact (Kd.R_mono (Kd.R_far (p := ⟨gb307,3,none⟩) (Kd.R_far (p := ⟨gb307,2,none⟩) (Kd.R_far (p := ⟨gb307,1,none⟩) (Kd.R_far (p := ⟨gb307,0,none⟩) (Kd.R_types HO297.out BK307.out (by decide)) (fun _ hk => hk.2) (.int .i64 t300)) (fun _ hk => hk.2) (.int .i64 t301)) (fun _ hk => hk.2) (.int .i64 t302)) (fun _ hk => hk.2) (.slice Ao14 t303.length co14)) (fun _ h_ => h_.1))));(case side4 => exact (Kd.R_reads' HO297.out).2.1);rintro e w24 ⟨rfl,hb⟩;refine ⟨_,rfl,?_⟩;replace HO297 := Aside0.mk (Kd.R_below (by (with_reducible repeat (first|apply Kd.R_alloc|apply Kd.R_drewN|apply Kd.R_drew));exact (Kd.R_mono (Kd.R_far (p := ⟨gb307,3,none⟩) (Kd.R_far (p := ⟨gb307,2,none⟩) (Kd.R_far (p := ⟨gb307,1,none⟩) (Kd.R_far (p := ⟨gb307,0,none⟩) (Kd.R_types HO297.out BK307.out (by decide)) (fun _ hk => hk.2) (.int .i64 t300)) (fun _ hk => hk.2) (.int .i64 t301)) (fun _ hk => hk.2) (.int .i64 t302)) (fun _ hk => hk.2) (.slice Ao14 t303.length co14)) (fun _ h_ => h_.1))) hb);replace HO305 := Aside0.mk (Kd.R_below (by (with_reducible repeat (first|apply Kd.R_alloc|apply Kd.R_drewN|apply Kd.R_drew));exact (Kd.R_mono (Kd.R_far (p := ⟨gb307,3,none⟩) (Kd.R_far (p := ⟨gb307,2,none⟩) (Kd.R_far (p := ⟨gb307,1,none⟩) (Kd.R_far (p := ⟨gb307,0,none⟩) (Kd.R_types HO305.out BK307.out (by decide)) (fun _ hk => hk.2) (.int .i64 t300)) (fun _ hk => hk.2) (.int .i64 t301)) (fun _ hk => hk.2) (.int .i64 t302)) (fun _ hk => hk.2) (.slice Ao14 t303.length co14)) (fun _ h_ => h_.1))) hb);replace BK299 := Aside0.mk (blk_below (kf_ BK299) hb);replace BK307 := Aside0.mk (blk_below (g := gb307) (o := .cells #[.int .i64 t300,.int .i64 t301,.int .i64 t302,.slice Ao14 t303.length co14] 29 (0,0)) (by (with_reducible repeat (first|refine blk_drewN ?_ _|refine blk_drew ?_|refine blk_alloc ?_ _));refine blk_put (cs := #[.int .i64 t300,.int .i64 t301,.int .i64 t302,.slice none 0 0]) ?_ 3 _ rfl;(with_reducible repeat (first|refine blk_drewN ?_ _|refine blk_drew ?_|refine blk_alloc ?_ _));refine blk_put (cs := #[.int .i64 t300,.int .i64 t301,.int .i64 0,.slice none 0 0]) ?_ 2 _ rfl;(with_reducible repeat (first|refine blk_drewN ?_ _|refine blk_drew ?_|refine blk_alloc ?_ _));refine blk_put (cs := #[.int .i64 t300,.int .i64 0,.int .i64 0,.slice none 0 0]) ?_ 1 _ rfl;(with_reducible repeat (first|refine blk_drewN ?_ _|refine blk_drew ?_|refine blk_alloc ?_ _));refine blk_put (cs := #[.int .i64 0,.int .i64 0,.int .i64 0,.slice none 0 0]) ?_ 0 _ rfl;(with_reducible repeat (first|refine blk_drewN ?_ _|refine blk_drew ?_|refine blk_alloc ?_ _));exact BK307.out) hb);replace HB := Aside0.mk (below_step b_ hb);(try clear hb);(try clear hb2);(try clear hk);(try clear hi)))
    go_meet
    case rel => exact ⟨_,(true),rs_,H',⟨by first|omega|exact Nat.le_refl _⟩,⟨by (with_reducible repeat (first|apply Kd.R_alloc|apply Kd.R_drewN|apply Kd.R_drew));exact Kd.R_mono HO297.out (fun _ hk => hk.2)⟩,⟨by (with_reducible repeat (first|apply Kd.R_alloc|apply Kd.R_drewN|apply Kd.R_drew));exact Kd.R_mono HO305.out (fun _ hk => hk.2)⟩,⟨kb_ BK299⟩,⟨kb_ BK307⟩,⟨b_⟩⟩
  case rest =>
   clear HC5
   try clear c1
   try clear c2
   try clear c2b0
   try clear c2b1
   try clear p2
   try clear c4
   try clear c9
   try clear c10
   try clear c11
   try clear c12
   try clear c16
   try clear c17
   try clear c21
   try clear hcz13_0
   try clear hcz13_1
   try clear hcz13_2
   try clear hcz13_3
   try clear hcz18_0
   try clear hcz18_1
   try clear hcz18_2
   try clear hcz18_3
   try clear hcz19_0
   try clear hcz19_1
   try clear hcz19_2
   try clear hcz19_3
   try clear hcz22_0
   try clear hcz22_1
   try clear hcz22_2
   try clear hcz22_3
   try clear hcz23_0
   try clear hcz23_1
   try clear hcz23_2
   try clear hcz23_3
   try clear hcz8_0
   try clear hcz8_1
   try clear hcz8_2
   try clear hcz8_3
   try clear hfz13_0
   try clear hfz13_1
   try clear hfz13_2
   try clear hfz13_3
   try clear hfz18_0
   try clear hfz18_1
   try clear hfz18_2
   try clear hfz18_3
   try clear hfz19_0
   try clear hfz19_1
   try clear hfz19_2
   try clear hfz19_3
   try clear hfz22_0
   try clear hfz22_1
   try clear hfz22_2
   try clear hfz22_3
   try clear hfz23_0
   try clear hfz23_1
   try clear hfz23_2
   try clear hfz23_3
   try clear hfz8_0
   try clear hfz8_1
   try clear hfz8_2
   try clear hfz8_3
   obtain ⟨kq,x32_4,rfl,HA,HJ4,HO_300003,HO_308003,BK299,BK307,HB⟩ := hcut
   cases kq with
   | zero => exact absurd HA.out (by simp [laws_FnExactReadRecord.j0])
   | succ kj4 =>
    have H := HA.out
    clear HA
    simp only [laws_FnExactReadRecord.j0] at H
    by_cases c25 : x32_4 = true
    ·subst c25
     replace H := it_ H
     obtain rfl := Option.some.inj H
     go_wp2
     go_ret
     exact ⟨rf_,b_⟩
    ·replace c25 := Bool.eq_false_iff.mpr c25
     subst c25
     replace H := ie_ H
     replace H := Option.bind_eq_some_iff.mp H
     obtain ⟨⟨t309,t310⟩,A260,H⟩ := H
     replace H : ((laws_heldRecord.f kj4 t300 t301 t302 t310 1).bind fun t311 => (if t311 < 0 then (some false) else (if t311 = t309 then ((impl_ReadRecord.f kj4 a0).bind fun bt312 => ((laws_eqRecord.f kj4 bt312.1 bt312.2.1 bt312.2.2.1 bt312.2.2.2.1 t292 t293 t294 t295).bind fun t320 => (if t320 = true then (laws_FnExactReadRecord.j1 kj4 t309 (bt312.2.2.2.2 != t298) t300 t301 t302 t310) else (laws_FnExactReadRecord.j1 kj4 t309 true t300 t301 t302 t310)))) else (some false)))) = some r := H
     have A26 := Aside0.mk A260
     clear A260
     replace H := bs_ H
     obtain ⟨t311,A27,H⟩ := H
     by_cases c28 : t311 < 0
     ·rw [if_pos c28] at H
      have c28b0 : decide (t311 < 0) = true := decide_eq_true c28
      clear c28
      obtain rfl := Option.some.inj H
      have hnb29 := NB307_299.out
      have hnc29 := NB299_307.out
      obtain ⟨⟨hcz30_0,hcz30_1,hcz30_2,hcz30_3⟩,hfz30_0,hfz30_1,hfz30_2,hfz30_3⟩ := cl4_ BK307.out
      go_wp2_with (first|((with_reducible refine gcal_ (f := 12) rfl ?_);refine gl_ (some 35) Tryd.func12 #[.agg #[.int .i64 t300,.int .i64 t301,.int .i64 t302,.slice Ao14 t303.length co14],.int .i64 1] ?_;(with_reducible refine (laws_markRecord.calls kj4 t300 t301 t302 (fun k_ => some k_ = (.slice Ao14 t303.length co14 : Value).ownBlock) (.slice Ao14 t303.length co14) t303 1 t309 t310 w _ ?side1 ?side2 A26.out).mono ?_);(case side1 => repeat (first|(with_reducible first|exact HB.out|apply below_alloc|apply pw_below_drewN|apply below_drew1|refine below_set ?_ GE299.out|refine below_set ?_ GE307.out)|exact HB.out));(case side2 => exact Kd.R_tight rfl HO_308003.out);rintro e w31 ⟨rfl,hy0,hb,hkp⟩;refine ⟨_,rfl,?_⟩;replace HO_300003 := Aside0.mk (Kd.R_mono (ok' := fun k_ => some k_ ≠ (.slice Ao14 t303.length co14 : Value).ownBlock) (Kd.R_keptB (HO_300003.out) hkp (fun k_ hk_ hs_ => (hk_) hs_)) (fun k_ hk_ => hk_.1));replace BK299 := Aside0.mk (blk_kept kk_ hkp (fun hs_ => (fun e_ => (Kd.R_ne HO_308003.out BK299.out (by decide)) e_) hs_));replace BK307 := Aside0.mk (blk_kept kk_ hkp (fun hs_ => (fun e_ => (Kd.R_ne HO_308003.out BK307.out (by decide)) e_) hs_));replace HO_308003 := Aside0.mk (Kd.R_reok rfl hy0 (fun k_ e_ => HO_308003.out.1 k_ e_));replace HB := Aside0.mk (hb);(try clear hb);(try clear hkp);(try clear hy0);obtain ⟨⟨hcz32_0,hcz32_1,hcz32_2,hcz32_3⟩,hfz32_0,hfz32_1,hfz32_2,hfz32_3⟩ := cl4_ BK307.out)|((with_reducible refine gcal_ (f := 13) rfl ?_);refine goesL_ (some 38) rfl rfl Tryd.func13 (by kernel_rfl) rfl #[.agg #[.int .i64 t300,.int .i64 t301,.int .i64 t302,.slice Ao14 t310.length co14],.int .i64 1] rfl (by (try simp only [List.map_toArray,List.map_cons,List.map_nil]);first|done|(rw [show t310.length = t303.length from (Kd.R_reads' HO_308003.out).1.symm] <;> rfl)|rfl|(simp only [List.length_drop,List.length_take];rfl)) ?_;(with_reducible refine (laws_heldRecord.calls kj4 t300 t301 t302 _ _ t310 1 t311 _ ?side1 ?side2 A27.out).mono ?_);(case side1 => repeat (first|exact (Kd.R_reads' HO_308003.out).2.2|(with_reducible refine Kd.C_alloc ?_ _)|(with_reducible refine Kd.C_drewN ?_ _)|(with_reducible refine Kd.C_drew ?_)));(case side2 => rw [show t310.length = t303.length from (Kd.R_reads' HO_308003.out).1.symm];exact (Kd.R_reads' HO_308003.out).2.1);rintro e w33 ⟨rfl,hb⟩;refine ⟨_,rfl,?_⟩;replace HO_300003 := Aside0.mk (Kd.R_below (by (with_reducible repeat (first|apply Kd.R_alloc|apply Kd.R_drewN|apply Kd.R_drew));exact HO_300003.out) hb);replace HO_308003 := Aside0.mk (Kd.R_below (by (with_reducible repeat (first|apply Kd.R_alloc|apply Kd.R_drewN|apply Kd.R_drew));exact HO_308003.out) hb);replace BK299 := Aside0.mk (blk_below (kb_ BK299) hb);replace BK307 := Aside0.mk (blk_below (kb_ BK307) hb);replace HB := Aside0.mk (below_step b_ hb);(try clear hb);(try clear hb2);(try clear hk);(try clear hi)))
      go_ret
      exact ⟨rf_,b_⟩
     ·rw [if_neg c28] at H
      have c28b0 : decide (t311 < 0) = false := decide_eq_false c28
      clear c28
      by_cases c34 : t311 = t309
      ·rw [if_pos c34] at H
       have c34b0 : (t311 == t309) = true := beq_iff_eq.mpr c34
       have c34b1 : (t311 != t309) = false := bne_eq_false_iff_eq.mpr c34
       clear c34
       replace H := Option.bind_eq_some_iff.mp H
       obtain ⟨⟨t312,t313,t314,t315,t318⟩,A350,H⟩ := H
       replace H : ((laws_eqRecord.f kj4 t312 t313 t314 t315 t292 t293 t294 t295).bind fun t320 => (if t320 = true then (laws_FnExactReadRecord.j1 kj4 t309 (t318 != t298) t300 t301 t302 t310) else (laws_FnExactReadRecord.j1 kj4 t309 true t300 t301 t302 t310))) = some r := H
       have A35 := Aside0.mk A350
       clear A350
       have HC36 := Aside0.mk H
       clear H
       have hnb37 := NB307_299.out
       have hnc37 := NB299_307.out
       obtain ⟨⟨hcz38_0,hcz38_1,hcz38_2,hcz38_3⟩,hfz38_0,hfz38_1,hfz38_2,hfz38_3⟩ := cl4_ BK307.out
       go_upto_region 16 with (first|((with_reducible refine gcal_ (f := 12) rfl ?_);refine gl_ (some 35) Tryd.func12 #[.agg #[.int .i64 t300,.int .i64 t301,.int .i64 t302,.slice Ao14 t303.length co14],.int .i64 1] ?_;(with_reducible refine (laws_markRecord.calls kj4 t300 t301 t302 (fun k_ => some k_ = (.slice Ao14 t303.length co14 : Value).ownBlock) (.slice Ao14 t303.length co14) t303 1 t309 t310 w _ ?side1 ?side2 A26.out).mono ?_);(case side1 => repeat (first|(with_reducible first|exact HB.out|apply below_alloc|apply pw_below_drewN|apply below_drew1|refine below_set ?_ GE299.out|refine below_set ?_ GE307.out)|exact HB.out));(case side2 => exact Kd.R_tight rfl HO_308003.out);rintro e w39 ⟨rfl,hy0,hb,hkp⟩;refine ⟨_,rfl,?_⟩;have n0_ := Aside0.mk (Kd.R_mono (ok' := fun k_ => some k_ ≠ (.slice Ao14 t303.length co14 : Value).ownBlock) (Kd.R_keptB (HO_300003.out) hkp (fun k_ hk_ hs_ => (hk_) hs_)) (fun k_ hk_ => hk_.1));have n1_ := Aside0.mk (Kd.R_reok rfl hy0 (fun k_ e_ => HO_308003.out.1 k_ e_));have n2_ := Aside0.mk (blk_kept kk_ hkp (fun hs_ => (fun e_ => (Kd.R_ne HO_308003.out BK299.out (by decide)) e_) hs_));have n3_ := Aside0.mk (blk_kept kk_ hkp (fun hs_ => (fun e_ => (Kd.R_ne HO_308003.out BK307.out (by decide)) e_) hs_));have n4_ := Aside0.mk (hb);clear HO_300003;clear HO_308003;clear BK299;clear BK307;clear HB;have HO_300003 := n0_;have HO_308003 := n1_;have BK299 := n2_;have BK307 := n3_;have HB := n4_;clear n0_ n1_ n2_ n3_ n4_;(try clear hb);(try clear hkp);(try clear hy0);obtain ⟨⟨hcz40_0,hcz40_1,hcz40_2,hcz40_3⟩,hfz40_0,hfz40_1,hfz40_2,hfz40_3⟩ := cl4_ BK307.out)|((with_reducible refine gcal_ (f := 13) rfl ?_);refine goesL_ (some 38) rfl rfl Tryd.func13 (by kernel_rfl) rfl #[.agg #[.int .i64 t300,.int .i64 t301,.int .i64 t302,.slice Ao14 t310.length co14],.int .i64 1] rfl (by (try simp only [List.map_toArray,List.map_cons,List.map_nil]);first|done|(rw [show t310.length = t303.length from (Kd.R_reads' HO_308003.out).1.symm] <;> rfl)|rfl|(simp only [List.length_drop,List.length_take];rfl)) ?_;(with_reducible refine (laws_heldRecord.calls kj4 t300 t301 t302 _ _ t310 1 t311 _ ?side1 ?side2 A27.out).mono ?_);(case side1 => repeat (first|exact (Kd.R_reads' HO_308003.out).2.2|(with_reducible refine Kd.C_alloc ?_ _)|(with_reducible refine Kd.C_drewN ?_ _)|(with_reducible refine Kd.C_drew ?_)));(case side2 => rw [show t310.length = t303.length from (Kd.R_reads' HO_308003.out).1.symm];exact (Kd.R_reads' HO_308003.out).2.1);rintro e w41 ⟨rfl,hb⟩;refine ⟨_,rfl,?_⟩;have n0_ := Aside0.mk (Kd.R_below (by (with_reducible repeat (first|apply Kd.R_alloc|apply Kd.R_drewN|apply Kd.R_drew));exact HO_300003.out) hb);have n1_ := Aside0.mk (Kd.R_below (by (with_reducible repeat (first|apply Kd.R_alloc|apply Kd.R_drewN|apply Kd.R_drew));exact HO_308003.out) hb);have n2_ := Aside0.mk (blk_below (kb_ BK299) hb);have n3_ := Aside0.mk (blk_below (kb_ BK307) hb);have n4_ := Aside0.mk (below_step b_ hb);clear HO_300003;clear HO_308003;clear BK299;clear BK307;clear HB;have HO_300003 := n0_;have HO_308003 := n1_;have BK299 := n2_;have BK307 := n3_;have HB := n4_;clear n0_ n1_ n2_ n3_ n4_;(try clear hb);(try clear hb2);(try clear hk);(try clear hi))|((with_reducible refine gcal_ (f := 11) rfl ?_);refine gl_ (some 46) Tryd.func11 #[.string a0] ?_;(with_reducible refine (impl_ReadRecord.calls kj4 a0 t312 t313 t314 t315 t318 _ ?sideT A35.out).mono ?_);(case sideT => exact tb_ htb);rintro e w42 ⟨v316,rfl,ho0,hb⟩;refine ⟨_,rfl,?_⟩;have n0_ := Aside0.mk (Kd.R_elder' (by (with_reducible repeat (first|apply Kd.R_alloc|apply Kd.R_drewN|apply Kd.R_drew));exact HO_300003.out) (Kd.R_base ho0) hb);have n1_ := Aside0.mk (Kd.R_elder' (by (with_reducible repeat (first|apply Kd.R_alloc|apply Kd.R_drewN|apply Kd.R_drew));exact HO_308003.out) (Kd.R_base ho0) hb);have n2_ := Aside0.mk (Kd.R_lower (Kd.R_new' (Kd.R_new' ho0 (Kd.R_lt (by (with_reducible repeat (first|apply Kd.R_alloc|apply Kd.R_drewN|apply Kd.R_drew));exact HO_300003.out))) (Kd.R_lt (by (with_reducible repeat (first|apply Kd.R_alloc|apply Kd.R_drewN|apply Kd.R_drew));exact HO_308003.out))) (below_size b_));have n3_ := Aside0.mk (blk_below (kb_ BK299) hb);have n4_ := Aside0.mk (blk_below (kb_ BK307) hb);have n5_ := Aside0.mk (below_step b_ hb);clear HO_300003;clear HO_308003;clear BK299;clear BK307;clear HB;have HO_300003 := n0_;have HO_308003 := n1_;have HO317 := n2_;have BK299 := n3_;have BK307 := n4_;have HB := n5_;clear n0_ n1_ n2_ n3_ n4_ n5_;(try clear hb);(try clear hb2);(try clear hk);(try clear hi);(try clear ho0))|((with_reducible refine gate_dst (N := 9) rfl ?_);refine bx_ 9 #[.int .i64 0,.int .i64 0,.int .i64 0,.slice none 0 0] 29 ?_;intro gb319 hg w43 hbox hb;have n0_ := Aside0.mk (Kd.R_below (by (with_reducible repeat (first|apply Kd.R_alloc|apply Kd.R_drewN|apply Kd.R_drew));exact HO_300003.out) hb);have n1_ := Aside0.mk (Kd.R_below (by (with_reducible repeat (first|apply Kd.R_alloc|apply Kd.R_drewN|apply Kd.R_drew));exact HO_308003.out) hb);have n2_ := Aside0.mk (Kd.R_below (by (with_reducible repeat (first|apply Kd.R_alloc|apply Kd.R_drewN|apply Kd.R_drew));exact HO317.out) hb);have n3_ := Aside0.mk (blk_below (kb_ BK299) hb);have n4_ := Aside0.mk (blk_below (kb_ BK307) hb);have n5_ := Aside0.mk (below_step b_ hb);have n6_ := Aside0.mk (hbox);have n7_ := Aside0.mk ((gw_ (w := w) hg));have n8_ := Aside0.mk ((gw_ (w := w) hg));have n9_ := Aside0.mk ((nl_ BK299 hg));have n10_ := Aside0.mk ((ng_ BK299 hg));have n11_ := Aside0.mk ((nl_ BK307 hg));have n12_ := Aside0.mk ((ng_ BK307 hg));clear HO_300003;clear HO_308003;clear HO317;clear BK299;clear BK307;clear HB;have HO_300003 := n0_;have HO_308003 := n1_;have HO317 := n2_;have BK299 := n3_;have BK307 := n4_;have HB := n5_;have BK319 := n6_;have GW319 := n7_;have GE319 := n8_;have NB299_319 := n9_;have NB319_299 := n10_;have NB307_319 := n11_;have NB319_307 := n12_;clear n0_ n1_ n2_ n3_ n4_ n5_ n6_ n7_ n8_ n9_ n10_ n11_ n12_;clear hb hbox hg;have hnb44 := NB319_299.out;have hnc44 := NB299_319.out;have hnb45 := NB319_307.out;have hnc45 := NB307_319.out;obtain ⟨⟨hcz46_0,hcz46_1,hcz46_2,hcz46_3⟩,hfz46_0,hfz46_1,hfz46_2,hfz46_3⟩ := cl4_ BK319.out;obtain ⟨Ao47,co47,eo47⟩ := Kd.R_slice HO317.out;subst eo47))
       (try simp only [Act.put,List.setIfInBounds_toArray,List.set_cons_zero,List.set_cons_succ])
       go_cut [57] (fun v57 wc => ∃ (kq : Nat) (x57_35 : Bool),v57 = .bool x57_35 ∧ Aside0 (laws_FnExactReadRecord.j1 kq t309 x57_35 t300 t301 t302 t310 = some r) ∧ Aside0 (kq ≤ kj4) ∧ Aside0 (Kd.R k47 47 wc w.heap.size (fun k_ => some k_ ≠ ((.slice Ao14 t303.length co14) : Value).ownBlock ∧ some k_ ≠ ((.slice Ao47 t315.length co47) : Value).ownBlock) (.slice Ao9 t295.length co9) t295) ∧ Aside0 (Kd.R k47 47 wc w.heap.size (fun k_ => some k_ ≠ ((.slice Ao9 t295.length co9) : Value).ownBlock ∧ some k_ ≠ ((.slice Ao47 t315.length co47) : Value).ownBlock) (.slice Ao14 t303.length co14) t310) ∧ Aside0 (Kd.R k47 47 wc w.heap.size (fun k_ => some k_ ≠ ((.slice Ao9 t295.length co9) : Value).ownBlock ∧ some k_ ≠ ((.slice Ao14 t303.length co14) : Value).ownBlock) (.slice Ao47 t315.length co47) t315) ∧ Aside0 (wc.heap[gb299]? = some (.cells #[.int .i64 t292,.int .i64 t293,.int .i64 t294,(.slice Ao9 t295.length co9)] 29 (0,0))) ∧ Aside0 (wc.heap[gb307]? = some (.cells #[.int .i64 t300,.int .i64 t301,.int .i64 t302,(.slice Ao14 t303.length co14)] 29 (0,0))) ∧ Aside0 (wc.heap[gb319]? = some (.cells #[.int .i64 t312,.int .i64 t313,.int .i64 t314,(.slice Ao47 t315.length co47)] 29 (0,0))) ∧ Aside0 (Below w.heap.size w wc))
       case first =>
        have H := HC36.out
        clear HC36
        replace H := bs_ H
        obtain ⟨t320,A48,H⟩ := H
        by_cases c49 : t320 = true
        ·subst c49
         replace H := it_ H
         have H' := Aside0.mk H
         clear H
         have hnb50 := NB319_299.out
         have hnc50 := NB299_319.out
         have hnb51 := NB319_307.out
         have hnc51 := NB307_319.out
         obtain ⟨⟨hcz52_0,hcz52_1,hcz52_2,hcz52_3⟩,hfz52_0,hfz52_1,hfz52_2,hfz52_3⟩ := cl4_ BK319.out
         have hnb53 := NB299_307.out
         have hnc53 := NB307_299.out
         obtain ⟨⟨hcz54_0,hcz54_1,hcz54_2,hcz54_3⟩,hfz54_0,hfz54_1,hfz54_2,hfz54_3⟩ := cl4_ BK299.out
         go_wp2_with (first|((with_reducible refine gcal_ (f := 9) rfl ?_);refine gl_ (some 51) Tryd.func9 #[.agg #[.int .i64 t312,.int .i64 t313,.int .i64 t314,.slice Ao47 t315.length co47],.agg #[.int .i64 t292,.int .i64 t293,.int .i64 t294,.slice Ao9 t295.length co9]] ?_;(with_reducible refine (laws_eqRecord.calls kj4 t312 t313 t314 _ _ t315 t292 t293 t294 _ _ t295 true _ ?side1 ?side2 ?side3 ?side4 A48.out).mono ?_);(case side1 => refine (Kd.R_reads' (e := 47) (base := w.heap.size) (ok := fun k_ => ((True ∧ some k_ ≠ (.slice Ao9 t295.length co9 : Value).ownBlock) ∧ some k_ ≠ (.slice Ao14 t303.length co14 : Value).ownBlock)) (n := t315.length) (c := co47) ?_).2.2;exact (by (with_reducible repeat (first|apply Kd.R_alloc|apply Kd.R_drewN|apply Kd.R_drew));exact (Kd.R_mono (Kd.R_far (p := ⟨gb319,3,none⟩) (Kd.R_far (p := ⟨gb319,2,none⟩) (Kd.R_far (p := ⟨gb319,1,none⟩) (Kd.R_far (p := ⟨gb319,0,none⟩) (Kd.R_types HO317.out BK319.out (by decide)) (fun _ hk => hk.2) (.int .i64 t312)) (fun _ hk => hk.2) (.int .i64 t313)) (fun _ hk => hk.2) (.int .i64 t314)) (fun _ hk => hk.2) (.slice Ao47 t315.length co47)) (fun _ h_ => h_.1))));(case side2 => exact (Kd.R_reads' HO317.out).2.1);(case side3 => refine (Kd.R_reads' (e := 47) (base := w.heap.size) (ok := fun k_ => (some k_ ≠ (.slice Ao14 t303.length co14 : Value).ownBlock ∧ some k_ ≠ (.slice Ao47 t315.length co47 : Value).ownBlock)) (n := t295.length) (c := co9) ?_).2.2;exact (by (with_reducible repeat (first|apply Kd.R_alloc|apply Kd.R_drewN|apply Kd.R_drew));exact (Kd.R_mono (Kd.R_far (p := ⟨gb319,3,none⟩) (Kd.R_far (p := ⟨gb319,2,none⟩) (Kd.R_far (p := ⟨gb319,1,none⟩) (Kd.R_far (p := ⟨gb319,0,none⟩) (Kd.R_types HO_300003.out BK319.out (by decide)) (fun _ hk => hk.2) (.int .i64 t312)) (fun _ hk => hk.2) (.int .i64 t313)) (fun _ hk => hk.2) (.int .i64 t314)) (fun _ hk => hk.2) (.slice Ao47 t315.length co47)) (fun _ h_ => h_.1))));(case side4 => exact (Kd.R_reads' HO_300003.out).2.1);rintro e w55 ⟨rfl,hb⟩;refine ⟨_,rfl,?_⟩;replace HO_300003 := Aside0.mk (Kd.R_below (by (with_reducible repeat (first|apply Kd.R_alloc|apply Kd.R_drewN|apply Kd.R_drew));exact (Kd.R_mono (Kd.R_far (p := ⟨gb319,3,none⟩) (Kd.R_far (p := ⟨gb319,2,none⟩) (Kd.R_far (p := ⟨gb319,1,none⟩) (Kd.R_far (p := ⟨gb319,0,none⟩) (Kd.R_types HO_300003.out BK319.out (by decide)) (fun _ hk => hk.2) (.int .i64 t312)) (fun _ hk => hk.2) (.int .i64 t313)) (fun _ hk => hk.2) (.int .i64 t314)) (fun _ hk => hk.2) (.slice Ao47 t315.length co47)) (fun _ h_ => h_.1))) hb);replace HO_308003 := Aside0.mk (Kd.R_below (by (with_reducible repeat (first|apply Kd.R_alloc|apply Kd.R_drewN|apply Kd.R_drew));exact (Kd.R_mono (Kd.R_far (p := ⟨gb319,3,none⟩) (Kd.R_far (p := ⟨gb319,2,none⟩) (Kd.R_far (p := ⟨gb319,1,none⟩) (Kd.R_far (p := ⟨gb319,0,none⟩) (Kd.R_types HO_308003.out BK319.out (by decide)) (fun _ hk => hk.2) (.int .i64 t312)) (fun _ hk => hk.2) (.int .i64 t313)) (fun _ hk => hk.2) (.int .i64 t314)) (fun _ hk => hk.2) (.slice Ao47 t315.length co47)) (fun _ h_ => h_.1))) hb);replace HO317 := Aside0.mk (Kd.R_below (by (with_reducible repeat (first|apply Kd.R_alloc|apply Kd.R_drewN|apply Kd.R_drew));exact (Kd.R_mono (Kd.R_far (p := ⟨gb319,3,none⟩) (Kd.R_far (p := ⟨gb319,2,none⟩) (Kd.R_far (p := ⟨gb319,1,none⟩) (Kd.R_far (p := ⟨gb319,0,none⟩) (Kd.R_types HO317.out BK319.out (by decide)) (fun _ hk => hk.2) (.int .i64 t312)) (fun _ hk => hk.2) (.int .i64 t313)) (fun _ hk => hk.2) (.int .i64 t314)) (fun _ hk => hk.2) (.slice Ao47 t315.length co47)) (fun _ h_ => h_.1))) hb);replace BK299 := Aside0.mk (blk_below (kf_ BK299) hb);replace BK307 := Aside0.mk (blk_below (kf_ BK307) hb);replace BK319 := Aside0.mk (blk_below (g := gb319) (o := .cells #[.int .i64 t312,.int .i64 t313,.int .i64 t314,.slice Ao47 t315.length co47] 29 (0,0)) (by (with_reducible repeat (first|refine blk_drewN ?_ _|refine blk_drew ?_|refine blk_alloc ?_ _));refine blk_put (cs := #[.int .i64 t312,.int .i64 t313,.int .i64 t314,.slice none 0 0]) ?_ 3 _ rfl;(with_reducible repeat (first|refine blk_drewN ?_ _|refine blk_drew ?_|refine blk_alloc ?_ _));refine blk_put (cs := #[.int .i64 t312,.int .i64 t313,.int .i64 0,.slice none 0 0]) ?_ 2 _ rfl;(with_reducible repeat (first|refine blk_drewN ?_ _|refine blk_drew ?_|refine blk_alloc ?_ _));refine blk_put (cs := #[.int .i64 t312,.int .i64 0,.int .i64 0,.slice none 0 0]) ?_ 1 _ rfl;(with_reducible repeat (first|refine blk_drewN ?_ _|refine blk_drew ?_|refine blk_alloc ?_ _));refine blk_put (cs := #[.int .i64 0,.int .i64 0,.int .i64 0,.slice none 0 0]) ?_ 0 _ rfl;(with_reducible repeat (first|refine blk_drewN ?_ _|refine blk_drew ?_|refine blk_alloc ?_ _));exact BK319.out) hb);replace HB := Aside0.mk (below_step b_ hb);(try clear hb);(try clear hb2);(try clear hk);(try clear hi)))
         go_meet
         case rel => exact ⟨_,((t318 != t298)),rs_,H',⟨by have := HJ4.out;first|omega|exact Nat.le_refl _⟩,⟨by (with_reducible repeat (first|apply Kd.R_alloc|apply Kd.R_drewN|apply Kd.R_drew));exact HO_300003.out⟩,⟨by (with_reducible repeat (first|apply Kd.R_alloc|apply Kd.R_drewN|apply Kd.R_drew));exact HO_308003.out⟩,⟨by (with_reducible repeat (first|apply Kd.R_alloc|apply Kd.R_drewN|apply Kd.R_drew));exact Kd.R_mono HO317.out (fun _ hk => ⟨hk.1.2,hk.2⟩)⟩,⟨kb_ BK299⟩,⟨kb_ BK307⟩,⟨kb_ BK319⟩,⟨b_⟩⟩
        ·replace c49 := Bool.eq_false_iff.mpr c49
         subst c49
         replace H := ie_ H
         have H' := Aside0.mk H
         clear H
         have hnb56 := NB319_299.out
         have hnc56 := NB299_319.out
         have hnb57 := NB319_307.out
         have hnc57 := NB307_319.out
         obtain ⟨⟨hcz58_0,hcz58_1,hcz58_2,hcz58_3⟩,hfz58_0,hfz58_1,hfz58_2,hfz58_3⟩ := cl4_ BK319.out
         have hnb59 := NB299_307.out
         have hnc59 := NB307_299.out
         obtain ⟨⟨hcz60_0,hcz60_1,hcz60_2,hcz60_3⟩,hfz60_0,hfz60_1,hfz60_2,hfz60_3⟩ := cl4_ BK299.out
         go_wp2_with (first|((with_reducible refine gcal_ (f := 9) rfl ?_);refine gl_ (some 51) Tryd.func9 #[.agg #[.int .i64 t312,.int .i64 t313,.int .i64 t314,.slice Ao47 t315.length co47],.agg #[.int .i64 t292,.int .i64 t293,.int .i64 t294,.slice Ao9 t295.length co9]] ?_;(with_reducible refine (laws_eqRecord.calls kj4 t312 t313 t314 _ _ t315 t292 t293 t294 _ _ t295 false _ ?side1 ?side2 ?side3 ?side4 A48.out).mono ?_);(case side1 => refine (Kd.R_reads' (e := 47) (base := w.heap.size) (ok := fun k_ => ((True ∧ some k_ ≠ (.slice Ao9 t295.length co9 : Value).ownBlock) ∧ some k_ ≠ (.slice Ao14 t303.length co14 : Value).ownBlock)) (n := t315.length) (c := co47) ?_).2.2;exact (by (with_reducible repeat (first|apply Kd.R_alloc|apply Kd.R_drewN|apply Kd.R_drew));exact (Kd.R_mono (Kd.R_far (p := ⟨gb319,3,none⟩) (Kd.R_far (p := ⟨gb319,2,none⟩) (Kd.R_far (p := ⟨gb319,1,none⟩) (Kd.R_far (p := ⟨gb319,0,none⟩) (Kd.R_types HO317.out BK319.out (by decide)) (fun _ hk => hk.2) (.int .i64 t312)) (fun _ hk => hk.2) (.int .i64 t313)) (fun _ hk => hk.2) (.int .i64 t314)) (fun _ hk => hk.2) (.slice Ao47 t315.length co47)) (fun _ h_ => h_.1))));(case side2 => exact (Kd.R_reads' HO317.out).2.1);(case side3 => refine (Kd.R_reads' (e := 47) (base := w.heap.size) (ok := fun k_ => (some k_ ≠ (.slice Ao14 t303.length co14 : Value).ownBlock ∧ some k_ ≠ (.slice Ao47 t315.length co47 : Value).ownBlock)) (n := t295.length) (c := co9) ?_).2.2;exact (by (with_reducible repeat (first|apply Kd.R_alloc|apply Kd.R_drewN|apply Kd.R_drew));exact (Kd.R_mono (Kd.R_far (p := ⟨gb319,3,none⟩) (Kd.R_far (p := ⟨gb319,2,none⟩) (Kd.R_far (p := ⟨gb319,1,none⟩) (Kd.R_far (p := ⟨gb319,0,none⟩) (Kd.R_types HO_300003.out BK319.out (by decide)) (fun _ hk => hk.2) (.int .i64 t312)) (fun _ hk => hk.2) (.int .i64 t313)) (fun _ hk => hk.2) (.int .i64 t314)) (fun _ hk => hk.2) (.slice Ao47 t315.length co47)) (fun _ h_ => h_.1))));(case side4 => exact (Kd.R_reads' HO_300003.out).2.1);rintro e w61 ⟨rfl,hb⟩;refine ⟨_,rfl,?_⟩;replace HO_300003 := Aside0.mk (Kd.R_below (by (with_reducible repeat (first|apply Kd.R_alloc|apply Kd.R_drewN|apply Kd.R_drew));exact (Kd.R_mono (Kd.R_far (p := ⟨gb319,3,none⟩) (Kd.R_far (p := ⟨gb319,2,none⟩) (Kd.R_far (p := ⟨gb319,1,none⟩) (Kd.R_far (p := ⟨gb319,0,none⟩) (Kd.R_types HO_300003.out BK319.out (by decide)) (fun _ hk => hk.2) (.int .i64 t312)) (fun _ hk => hk.2) (.int .i64 t313)) (fun _ hk => hk.2) (.int .i64 t314)) (fun _ hk => hk.2) (.slice Ao47 t315.length co47)) (fun _ h_ => h_.1))) hb);replace HO_308003 := Aside0.mk (Kd.R_below (by (with_reducible repeat (first|apply Kd.R_alloc|apply Kd.R_drewN|apply Kd.R_drew));exact (Kd.R_mono (Kd.R_far (p := ⟨gb319,3,none⟩) (Kd.R_far (p := ⟨gb319,2,none⟩) (Kd.R_far (p := ⟨gb319,1,none⟩) (Kd.R_far (p := ⟨gb319,0,none⟩) (Kd.R_types HO_308003.out BK319.out (by decide)) (fun _ hk => hk.2) (.int .i64 t312)) (fun _ hk => hk.2) (.int .i64 t313)) (fun _ hk => hk.2) (.int .i64 t314)) (fun _ hk => hk.2) (.slice Ao47 t315.length co47)) (fun _ h_ => h_.1))) hb);replace HO317 := Aside0.mk (Kd.R_below (by (with_reducible repeat (first|apply Kd.R_alloc|apply Kd.R_drewN|apply Kd.R_drew));exact (Kd.R_mono (Kd.R_far (p := ⟨gb319,3,none⟩) (Kd.R_far (p := ⟨gb319,2,none⟩) (Kd.R_far (p := ⟨gb319,1,none⟩) (Kd.R_far (p := ⟨gb319,0,none⟩) (Kd.R_types HO317.out BK319.out (by decide)) (fun _ hk => hk.2) (.int .i64 t312)) (fun _ hk => hk.2) (.int .i64 t313)) (fun _ hk => hk.2) (.int .i64 t314)) (fun _ hk => hk.2) (.slice Ao47 t315.length co47)) (fun _ h_ => h_.1))) hb);replace BK299 := Aside0.mk (blk_below (kf_ BK299) hb);replace BK307 := Aside0.mk (blk_below (kf_ BK307) hb);replace BK319 := Aside0.mk (blk_below (g := gb319) (o := .cells #[.int .i64 t312,.int .i64 t313,.int .i64 t314,.slice Ao47 t315.length co47] 29 (0,0)) (by (with_reducible repeat (first|refine blk_drewN ?_ _|refine blk_drew ?_|refine blk_alloc ?_ _));refine blk_put (cs := #[.int .i64 t312,.int .i64 t313,.int .i64 t314,.slice none 0 0]) ?_ 3 _ rfl;(with_reducible repeat (first|refine blk_drewN ?_ _|refine blk_drew ?_|refine blk_alloc ?_ _));refine blk_put (cs := #[.int .i64 t312,.int .i64 t313,.int .i64 0,.slice none 0 0]) ?_ 2 _ rfl;(with_reducible repeat (first|refine blk_drewN ?_ _|refine blk_drew ?_|refine blk_alloc ?_ _));refine blk_put (cs := #[.int .i64 t312,.int .i64 0,.int .i64 0,.slice none 0 0]) ?_ 1 _ rfl;(with_reducible repeat (first|refine blk_drewN ?_ _|refine blk_drew ?_|refine blk_alloc ?_ _));refine blk_put (cs := #[.int .i64 0,.int .i64 0,.int .i64 0,.slice none 0 0]) ?_ 0 _ rfl;(with_reducible repeat (first|refine blk_drewN ?_ _|refine blk_drew ?_|refine blk_alloc ?_ _));exact BK319.out) hb);replace HB := Aside0.mk (below_step b_ hb);(try clear hb);(try clear hb2);(try clear hk);(try clear hi)))
         go_meet
         case rel => exact ⟨_,(true),rs_,H',⟨by have := HJ4.out;first|omega|exact Nat.le_refl _⟩,⟨by (with_reducible repeat (first|apply Kd.R_alloc|apply Kd.R_drewN|apply Kd.R_drew));exact HO_300003.out⟩,⟨by (with_reducible repeat (first|apply Kd.R_alloc|apply Kd.R_drewN|apply Kd.R_drew));exact HO_308003.out⟩,⟨by (with_reducible repeat (first|apply Kd.R_alloc|apply Kd.R_drewN|apply Kd.R_drew));exact Kd.R_mono HO317.out (fun _ hk => ⟨hk.1.2,hk.2⟩)⟩,⟨kb_ BK299⟩,⟨kb_ BK307⟩,⟨kb_ BK319⟩,⟨b_⟩⟩
       case rest =>
        clear HC36
        try clear c1
        try clear c2
        try clear c2b0
        try clear c2b1
        try clear p2
        try clear c3
        try clear c4
        try clear c5
        try clear c9
        try clear c10
        try clear c11
        try clear c12
        try clear c13
        try clear c16
        try clear c17
        try clear c21
        try clear c25
        try clear c28
        try clear c28b0
        try clear c29
        try clear c34
        try clear c34b0
        try clear c34b1
        try clear c37
        try clear c44
        try clear c45
        try clear c49
        try clear c50
        try clear c51
        try clear c53
        try clear c56
        try clear c57
        try clear c59
        try clear hcz13_0
        try clear hcz13_1
        try clear hcz13_2
        try clear hcz13_3
        try clear hcz18_0
        try clear hcz18_1
        try clear hcz18_2
        try clear hcz18_3
        try clear hcz19_0
        try clear hcz19_1
        try clear hcz19_2
        try clear hcz19_3
        try clear hcz22_0
        try clear hcz22_1
        try clear hcz22_2
        try clear hcz22_3
        try clear hcz23_0
        try clear hcz23_1
        try clear hcz23_2
        try clear hcz23_3
        try clear hcz30_0
        try clear hcz30_1
        try clear hcz30_2
        try clear hcz30_3
        try clear hcz32_0
        try clear hcz32_1
        try clear hcz32_2
        try clear hcz32_3
        try clear hcz38_0
        try clear hcz38_1
        try clear hcz38_2
        try clear hcz38_3
        try clear hcz40_0
        try clear hcz40_1
        try clear hcz40_2
        try clear hcz40_3
        try clear hcz46_0
        try clear hcz46_1
        try clear hcz46_2
        try clear hcz46_3
        try clear hcz52_0
        try clear hcz52_1
        try clear hcz52_2
        try clear hcz52_3
        try clear hcz54_0
        try clear hcz54_1
        try clear hcz54_2
        try clear hcz54_3
        try clear hcz58_0
        try clear hcz58_1
        try clear hcz58_2
        try clear hcz58_3
        try clear hcz60_0
        try clear hcz60_1
        try clear hcz60_2
        try clear hcz60_3
        try clear hcz8_0
        try clear hcz8_1
        try clear hcz8_2
        try clear hcz8_3
        try clear hfz13_0
        try clear hfz13_1
        try clear hfz13_2
        try clear hfz13_3
        try clear hfz18_0
        try clear hfz18_1
        try clear hfz18_2
        try clear hfz18_3
        try clear hfz19_0
        try clear hfz19_1
        try clear hfz19_2
        try clear hfz19_3
        try clear hfz22_0
        try clear hfz22_1
        try clear hfz22_2
        try clear hfz22_3
        try clear hfz23_0
        try clear hfz23_1
        try clear hfz23_2
        try clear hfz23_3
        try clear hfz30_0
        try clear hfz30_1
        try clear hfz30_2
        try clear hfz30_3
        try clear hfz32_0
        try clear hfz32_1
        try clear hfz32_2
        try clear hfz32_3
        try clear hfz38_0
        try clear hfz38_1
        try clear hfz38_2
        try clear hfz38_3
        try clear hfz40_0
        try clear hfz40_1
        try clear hfz40_2
        try clear hfz40_3
        try clear hfz46_0
        try clear hfz46_1
        try clear hfz46_2
        try clear hfz46_3
        try clear hfz52_0
        try clear hfz52_1
        try clear hfz52_2
        try clear hfz52_3
        try clear hfz54_0
        try clear hfz54_1
        try clear hfz54_2
        try clear hfz54_3
        try clear hfz58_0
        try clear hfz58_1
        try clear hfz58_2
        try clear hfz58_3
        try clear hfz60_0
        try clear hfz60_1
        try clear hfz60_2
        try clear hfz60_3
        try clear hfz8_0
        try clear hfz8_1
        try clear hfz8_2
        try clear hfz8_3
        try clear p2
        obtain ⟨kq,x57_35,rfl,HA,HJ35,HO_300003,HO_308003,HO_320003,BK299,BK307,BK319,HB⟩ := hcut
        have hl308003_35 := (Kd.R_reads' HO_308003.out).1
        rw [hl308003_35] at HO_308003
        (try simp only [hl308003_35])
        (try simp only [hl308003_35] at BK299)
        (try simp only [hl308003_35] at BK307)
        (try simp only [hl308003_35] at BK319)
        (try simp only [hl308003_35] at HO_300003)
        (try simp only [hl308003_35] at HO_320003)
        cases kq with
        | zero => exact absurd HA.out (by simp [laws_FnExactReadRecord.j1])
        | succ kj35 =>
         have H := HA.out
         clear HA
         simp only [laws_FnExactReadRecord.j1] at H
         by_cases c62 : x57_35 = true
         ·subst c62
          replace H := it_ H
          obtain rfl := Option.some.inj H
          go_wp2
          go_ret
          exact ⟨rf_,b_⟩
         ·replace c62 := Bool.eq_false_iff.mpr c62
          subst c62
          replace H := ie_ H
          replace H := bs_ H
          obtain ⟨t321,A63,H⟩ := H
          by_cases c64 : t321 < 0
          ·rw [if_pos c64] at H
           have c64b0 : decide (t321 < 0) = true := decide_eq_true c64
           clear c64
           obtain rfl := Option.some.inj H
           have hnb65 := NB307_299.out
           have hnc65 := NB299_307.out
           have hnb66 := NB307_319.out
           have hnc66 := NB319_307.out
           obtain ⟨⟨hcz67_0,hcz67_1,hcz67_2,hcz67_3⟩,hfz67_0,hfz67_1,hfz67_2,hfz67_3⟩ := cl4_ BK307.out
           go_wp2_with (first|((with_reducible refine gcal_ (f := 13) rfl ?_);refine gl_ (some 60) Tryd.func13 #[.agg #[.int .i64 t300,.int .i64 t301,.int .i64 t302,.slice Ao14 t310.length co14],.int .i64 1] ?_;(with_reducible refine (laws_heldRecord.calls kj35 t300 t301 t302 _ _ t310 1 t321 _ ?side1 ?side2 A63.out).mono ?_);(case side1 => repeat (first|exact (Kd.R_reads' HO_308003.out).2.2|(with_reducible refine Kd.C_alloc ?_ _)|(with_reducible refine Kd.C_drewN ?_ _)|(with_reducible refine Kd.C_drew ?_)));(case side2 => exact (Kd.R_reads' HO_308003.out).2.1);rintro e w68 ⟨rfl,hb⟩;refine ⟨_,rfl,?_⟩;replace HO_300003 := Aside0.mk (Kd.R_below (by (with_reducible repeat (first|apply Kd.R_alloc|apply Kd.R_drewN|apply Kd.R_drew));exact HO_300003.out) hb);replace HO_308003 := Aside0.mk (Kd.R_below (by (with_reducible repeat (first|apply Kd.R_alloc|apply Kd.R_drewN|apply Kd.R_drew));exact HO_308003.out) hb);replace HO_320003 := Aside0.mk (Kd.R_below (by (with_reducible repeat (first|apply Kd.R_alloc|apply Kd.R_drewN|apply Kd.R_drew));exact HO_320003.out) hb);replace BK299 := Aside0.mk (blk_below (kb_ BK299) hb);replace BK307 := Aside0.mk (blk_below (kb_ BK307) hb);replace BK319 := Aside0.mk (blk_below (kb_ BK319) hb);replace HB := Aside0.mk (below_step b_ hb);(try clear hb);(try clear hb2);(try clear hk);(try clear hi)))
           go_ret
           exact ⟨rf_,b_⟩
          ·rw [if_neg c64] at H
           have c64b0 : decide (t321 < 0) = false := decide_eq_false c64
           clear c64
           by_cases c69 : t321 = t309
           ·rw [if_pos c69] at H
            have c69b0 : (t321 == t309) = true := beq_iff_eq.mpr c69
            have c69b1 : (t321 != t309) = false := bne_eq_false_iff_eq.mpr c69
            clear c69
            obtain rfl := Option.some.inj H
            have hnb70 := NB307_299.out
            have hnc70 := NB299_307.out
            have hnb71 := NB307_319.out
            have hnc71 := NB319_307.out
            obtain ⟨⟨hcz72_0,hcz72_1,hcz72_2,hcz72_3⟩,hfz72_0,hfz72_1,hfz72_2,hfz72_3⟩ := cl4_ BK307.out
            go_wp2_with (first|((with_reducible refine gcal_ (f := 13) rfl ?_);refine gl_ (some 60) Tryd.func13 #[.agg #[.int .i64 t300,.int .i64 t301,.int .i64 t302,.slice Ao14 t310.length co14],.int .i64 1] ?_;(with_reducible refine (laws_heldRecord.calls kj35 t300 t301 t302 _ _ t310 1 t321 _ ?side1 ?side2 A63.out).mono ?_);(case side1 => repeat (first|exact (Kd.R_reads' HO_308003.out).2.2|(with_reducible refine Kd.C_alloc ?_ _)|(with_reducible refine Kd.C_drewN ?_ _)|(with_reducible refine Kd.C_drew ?_)));(case side2 => exact (Kd.R_reads' HO_308003.out).2.1);rintro e w73 ⟨rfl,hb⟩;refine ⟨_,rfl,?_⟩;replace HO_300003 := Aside0.mk (Kd.R_below (by (with_reducible repeat (first|apply Kd.R_alloc|apply Kd.R_drewN|apply Kd.R_drew));exact HO_300003.out) hb);replace HO_308003 := Aside0.mk (Kd.R_below (by (with_reducible repeat (first|apply Kd.R_alloc|apply Kd.R_drewN|apply Kd.R_drew));exact HO_308003.out) hb);replace HO_320003 := Aside0.mk (Kd.R_below (by (with_reducible repeat (first|apply Kd.R_alloc|apply Kd.R_drewN|apply Kd.R_drew));exact HO_320003.out) hb);replace BK299 := Aside0.mk (blk_below (kb_ BK299) hb);replace BK307 := Aside0.mk (blk_below (kb_ BK307) hb);replace BK319 := Aside0.mk (blk_below (kb_ BK319) hb);replace HB := Aside0.mk (below_step b_ hb);(try clear hb);(try clear hb2);(try clear hk);(try clear hi)))
            go_ret
            exact ⟨rf_,b_⟩
           ·rw [if_neg c69] at H
            have c69b0 : (t321 == t309) = false := beq_eq_false_iff_ne.mpr c69
            have c69b1 : (t321 != t309) = true := bne_iff_ne.mpr c69
            obtain rfl := Option.some.inj H
            have hnb74 := NB307_299.out
            have hnc74 := NB299_307.out
            have hnb75 := NB307_319.out
            have hnc75 := NB319_307.out
            obtain ⟨⟨hcz76_0,hcz76_1,hcz76_2,hcz76_3⟩,hfz76_0,hfz76_1,hfz76_2,hfz76_3⟩ := cl4_ BK307.out
            go_wp2_with (first|((with_reducible refine gcal_ (f := 13) rfl ?_);refine gl_ (some 60) Tryd.func13 #[.agg #[.int .i64 t300,.int .i64 t301,.int .i64 t302,.slice Ao14 t310.length co14],.int .i64 1] ?_;(with_reducible refine (laws_heldRecord.calls kj35 t300 t301 t302 _ _ t310 1 t321 _ ?side1 ?side2 A63.out).mono ?_);(case side1 => repeat (first|exact (Kd.R_reads' HO_308003.out).2.2|(with_reducible refine Kd.C_alloc ?_ _)|(with_reducible refine Kd.C_drewN ?_ _)|(with_reducible refine Kd.C_drew ?_)));(case side2 => exact (Kd.R_reads' HO_308003.out).2.1);rintro e w77 ⟨rfl,hb⟩;refine ⟨_,rfl,?_⟩;replace HO_300003 := Aside0.mk (Kd.R_below (by (with_reducible repeat (first|apply Kd.R_alloc|apply Kd.R_drewN|apply Kd.R_drew));exact HO_300003.out) hb);replace HO_308003 := Aside0.mk (Kd.R_below (by (with_reducible repeat (first|apply Kd.R_alloc|apply Kd.R_drewN|apply Kd.R_drew));exact HO_308003.out) hb);replace HO_320003 := Aside0.mk (Kd.R_below (by (with_reducible repeat (first|apply Kd.R_alloc|apply Kd.R_drewN|apply Kd.R_drew));exact HO_320003.out) hb);replace BK299 := Aside0.mk (blk_below (kb_ BK299) hb);replace BK307 := Aside0.mk (blk_below (kb_ BK307) hb);replace BK319 := Aside0.mk (blk_below (kb_ BK319) hb);replace HB := Aside0.mk (below_step b_ hb);(try clear hb);(try clear hb2);(try clear hk);(try clear hi)))
            go_ret
            exact ⟨rf_,b_⟩
      ·rw [if_neg c34] at H
       have c34b0 : (t311 == t309) = false := beq_eq_false_iff_ne.mpr c34
       have c34b1 : (t311 != t309) = true := bne_iff_ne.mpr c34
       obtain rfl := Option.some.inj H
       have hnb78 := NB307_299.out
       have hnc78 := NB299_307.out
       obtain ⟨⟨hcz79_0,hcz79_1,hcz79_2,hcz79_3⟩,hfz79_0,hfz79_1,hfz79_2,hfz79_3⟩ := cl4_ BK307.out
       go_wp2_with (first|((with_reducible refine gcal_ (f := 12) rfl ?_);refine gl_ (some 35) Tryd.func12 #[.agg #[.int .i64 t300,.int .i64 t301,.int .i64 t302,.slice Ao14 t303.length co14],.int .i64 1] ?_;(with_reducible refine (laws_markRecord.calls kj4 t300 t301 t302 (fun k_ => some k_ = (.slice Ao14 t303.length co14 : Value).ownBlock) (.slice Ao14 t303.length co14) t303 1 t309 t310 w _ ?side1 ?side2 A26.out).mono ?_);(case side1 => repeat (first|(with_reducible first|exact HB.out|apply below_alloc|apply pw_below_drewN|apply below_drew1|refine below_set ?_ GE299.out|refine below_set ?_ GE307.out)|exact HB.out));(case side2 => exact Kd.R_tight rfl HO_308003.out);rintro e w80 ⟨rfl,hy0,hb,hkp⟩;refine ⟨_,rfl,?_⟩;replace HO_300003 := Aside0.mk (Kd.R_mono (ok' := fun k_ => some k_ ≠ (.slice Ao14 t303.length co14 : Value).ownBlock) (Kd.R_keptB (HO_300003.out) hkp (fun k_ hk_ hs_ => (hk_) hs_)) (fun k_ hk_ => hk_.1));replace BK299 := Aside0.mk (blk_kept kk_ hkp (fun hs_ => (fun e_ => (Kd.R_ne HO_308003.out BK299.out (by decide)) e_) hs_));replace BK307 := Aside0.mk (blk_kept kk_ hkp (fun hs_ => (fun e_ => (Kd.R_ne HO_308003.out BK307.out (by decide)) e_) hs_));replace HO_308003 := Aside0.mk (Kd.R_reok rfl hy0 (fun k_ e_ => HO_308003.out.1 k_ e_));replace HB := Aside0.mk (hb);(try clear hb);(try clear hkp);(try clear hy0);obtain ⟨⟨hcz81_0,hcz81_1,hcz81_2,hcz81_3⟩,hfz81_0,hfz81_1,hfz81_2,hfz81_3⟩ := cl4_ BK307.out)|((with_reducible refine gcal_ (f := 13) rfl ?_);refine goesL_ (some 38) rfl rfl Tryd.func13 (by kernel_rfl) rfl #[.agg #[.int .i64 t300,.int .i64 t301,.int .i64 t302,.slice Ao14 t310.length co14],.int .i64 1] rfl (by (try simp only [List.map_toArray,List.map_cons,List.map_nil]);first|done|(rw [show t310.length = t303.length from (Kd.R_reads' HO_308003.out).1.symm] <;> rfl)|rfl|(simp only [List.length_drop,List.length_take];rfl)) ?_;(with_reducible refine (laws_heldRecord.calls kj4 t300 t301 t302 _ _ t310 1 t311 _ ?side1 ?side2 A27.out).mono ?_);(case side1 => repeat (first|exact (Kd.R_reads' HO_308003.out).2.2|(with_reducible refine Kd.C_alloc ?_ _)|(with_reducible refine Kd.C_drewN ?_ _)|(with_reducible refine Kd.C_drew ?_)));(case side2 => rw [show t310.length = t303.length from (Kd.R_reads' HO_308003.out).1.symm];exact (Kd.R_reads' HO_308003.out).2.1);rintro e w82 ⟨rfl,hb⟩;refine ⟨_,rfl,?_⟩;replace HO_300003 := Aside0.mk (Kd.R_below (by (with_reducible repeat (first|apply Kd.R_alloc|apply Kd.R_drewN|apply Kd.R_drew));exact HO_300003.out) hb);replace HO_308003 := Aside0.mk (Kd.R_below (by (with_reducible repeat (first|apply Kd.R_alloc|apply Kd.R_drewN|apply Kd.R_drew));exact HO_308003.out) hb);replace BK299 := Aside0.mk (blk_below (kb_ BK299) hb);replace BK307 := Aside0.mk (blk_below (kb_ BK307) hb);replace HB := Aside0.mk (below_step b_ hb);(try clear hb);(try clear hb2);(try clear hk);(try clear hi)))
       go_ret
       exact ⟨rf_,b_⟩

end Go.Proofs.YtnilfnkdgdfnnaaDoor.XRd
