/- Proved: a call of each Go function here comes to what its Lean function tells. -/
import Derived.Test.YthplaakckfhaaaaGreatXMs0
import Derived.Test.YthplaakckfhaaaaGreatXMs18
namespace Go.Proofs.YthplaakckfhaaaaGreat.XMs
open Go.RowKit Go.Proofs.YthplaakckfhaaaaGreat.Aid Go.Proofs.YthplaakckfhaaaaGreatW.PrintWords Go.Proofs.YthplaakckfhaaaaGreatW.PrintLast Go.Proofs.YthplaakckfhaaaaGreatW.PrintMore
set_option linter.unusedVariables false
set_option maxHeartbeats 8000000
set_option maxRecDepth 100000
set_option linter.unusedSimpArgs false

/-! ### spec_l6Copy: function 31 -/
mutual
def spec_l6Copy.l0 : Nat → Int → Bool → List (S83) → List (S50) → List Int → Bool → List (S83) → List Int → Option (Bool × (List (S83)) × (List (S50)) × List Int)
  | 0, _, _, _, _, _, _, _, _ => none
  | k + 1, x4, x300000, x300001, x300002, x300003, x308000, x308001, x308003 => if x4 < (x300001.length : Int) then (if 0 ≤ x4 then ((spec_l3Copy.f ((rd_T83 x300001 x4).f1)).bind fun t310 => (if x308001.length < 4398046511104 then (spec_l6Copy.l0 k (wrap64 (x4 + 1)) x300000 x300001 x300002 x300003 x308000 (x308001 ++ [(⟨(rd_T83 x300001 x4).f0, t310⟩ : S83)]) x308003) else (none))) else (none)) else (spec_l6Copy.l1 k 0 x300000 x300001 x300002 x300003 x308000 x308001 ([] : List (S50)) x308003)
def spec_l6Copy.l1 : Nat → Int → Bool → List (S83) → List (S50) → List Int → Bool → List (S83) → List (S50) → List Int → Option (Bool × (List (S83)) × (List (S50)) × List Int)
  | 0, _, _, _, _, _, _, _, _, _ => none
  | k + 1, x5, x300000, x300001, x300002, x300003, x308000, x308001, x308002, x308003 => if x5 < (x300002.length : Int) then (if 0 ≤ x5 then ((spec_l6Record.f ((rd_T50 x300002 x5).f0) ((rd_T50 x300002 x5).f1) ((rd_T50 x300002 x5).f2) ((rd_T50 x300002 x5).f3)).bind fun bt317 => (if x308002.length < 2932031007402 then (spec_l6Copy.l1 k (wrap64 (x5 + 1)) x300000 x300001 x300002 x300003 x308000 x308001 (x308002 ++ [(⟨bt317.1, bt317.2.1, bt317.2.2.1, bt317.2.2.2⟩ : S50)]) x308003) else (none))) else (none)) else (some (x308000, x308001, x308002, x308003))
end
def spec_l6Copy.f (k : Nat) (a0_0 : Bool) (l0_1 : List (S83)) (l0_2 : List (S50)) (l0_3 : List Int) : Option (Bool × (List (S83)) × (List (S50)) × List Int) := (some (([] : List Int) : List Int)).bind fun y301 => (if y301.length + l0_3.length < 17592186044416 then (spec_l6Copy.l0 k 0 a0_0 l0_1 l0_2 l0_3 a0_0 ([] : List (S83)) (y301 ++ l0_3)) else (none))

def spec_l6Copy.T1 : Bool × List (List Nat × List Nat) := (true, [([], []), ([0], [0]), ([], []), ([], []), ([3], [3]), ([2, 4], [2, 4]), ([1, 5], [1, 5]), ([], []), ([7, 6, 5, 0, 1, 2, 3, 4, 5, 6, 7], [6, 7])])
def spec_l6Copy.B1 : List Nat := [0, 1, 0, 0, 8, 28, 63, 0, 255]
theorem spec_l6Copy.tab1 : rtab .any (opsOf Tryz.f31 1) = spec_l6Copy.T1 := by kernel_rfl
theorem spec_l6Copy.bits1 : waitsOk spec_l6Copy.T1.2 spec_l6Copy.B1 = true := by kernel_rfl
def spec_l6Copy.T5 : Bool × List (List Nat × List Nat) := (true, [([], []), ([0], [0]), ([], []), ([2], [2]), ([], []), ([3, 4], [3, 4]), ([5], [5]), ([6], [6]), ([], []), ([8], [8]), ([], []), ([9, 10], [9, 10]), ([11], [11]), ([12], [12]), ([13], [13]), ([7, 14], [7, 14]), ([15], [15]), ([1, 16, 14], [1, 16]), ([0, 1, 2, 3, 4, 5, 6, 7, 8, 9, 10, 11, 12, 13, 14, 15, 16, 17], []), ([18, 17, 17, 0, 1, 2, 3, 4, 5, 6, 7, 8, 9, 10, 11, 12, 13, 14, 15, 16, 17], [17, 18])])
def spec_l6Copy.B5 : List Nat := [0, 1, 0, 4, 0, 28, 60, 124, 0, 256, 0, 1792, 3840, 7936, 16128, 32764, 65532, 131071, 262143, 524287]
theorem spec_l6Copy.tab5 : rtab .any (opsOf Tryz.f31 5) = spec_l6Copy.T5 := by kernel_rfl
theorem spec_l6Copy.bits5 : waitsOk spec_l6Copy.T5.2 spec_l6Copy.B5 = true := by kernel_rfl
def spec_l6Copy.T9 : Bool × List (List Nat × List Nat) := (true, [([], []), ([0], [0]), ([], []), ([2], [2]), ([], []), ([3, 4], [3, 4]), ([5], [5]), ([6], [6]), ([7], [7]), ([1, 8, 7], [1, 8]), ([0, 1, 2, 3, 4, 5, 6, 7, 8, 9], []), ([10, 9, 9, 0, 1, 2, 3, 4, 5, 6, 7, 8, 9], [9, 10])])
def spec_l6Copy.B9 : List Nat := [0, 1, 0, 4, 0, 28, 60, 124, 252, 511, 1023, 2047]
theorem spec_l6Copy.tab9 : rtab .any (opsOf Tryz.f31 9) = spec_l6Copy.T9 := by kernel_rfl
theorem spec_l6Copy.bits9 : waitsOk spec_l6Copy.T9.2 spec_l6Copy.B9 = true := by kernel_rfl
theorem spec_l6Copy.calls (k : Nat) (a0_0 : Bool) (A0_1 : Option Addr) (c0_1 : Nat) (l0_1 : List (S83)) (A0_2 : Option Addr) (c0_2 : Nat) (l0_2 : List (S50)) (A0_3 : Option Addr) (c0_3 : Nat) (l0_3 : List Int) (r1 : Bool) (r2 : List (S83)) (r3 : List (S50)) (r4 : List Int) (w : World) (hr0_1 : Kd.C k83 w A0_1 l0_1.length l0_1) (hc0_1 : l0_1.length ≤ c0_1) (hr0_2 : Kd.C k50 w A0_2 l0_2.length l0_2) (hc0_2 : l0_2.length ≤ c0_2) (hr0_3 : Kd.C (Kd.int .i64) w A0_3 l0_3.length l0_3) (hc0_3 : l0_3.length ≤ c0_3) (h : spec_l6Copy.f k a0_0 l0_1 l0_2 l0_3 = some (r1, r2, r3, r4)) :
    Calls Tryz.prog 31 #[.agg #[.bool a0_0, .slice A0_1 l0_1.length c0_1, .slice A0_2 l0_2.length c0_2, .slice A0_3 l0_3.length c0_3]] w fun e w' => ∃ v1_ v2_ v3_ : Value, e = .returned (.agg #[.bool r1, v1_, v2_, v3_]) ∧ Kd.S k83 83 w' w.heap.size (fun _ => True) v1_ r2 ∧ Kd.S k50 50 w' w.heap.size (fun _ => True) v2_ r3 ∧ Kd.R (Kd.int .i64) 2 w' w.heap.size (fun _ => True) v3_ r4 ∧ Below w.heap.size w w' := by
 have hu31 := Tryz.underlying31
 have hu83 := Tryz.underlying83
 have hu50 := Tryz.underlying50
 have HR0_1 := ak hr0_1
 have HC0_1 := ak hc0_1
 clear hr0_1 hc0_1
 have HR0_2 := ak hr0_2
 have HC0_2 := ak hc0_2
 clear hr0_2 hc0_2
 have HR0_3 := ak hr0_3
 have HC0_3 := ak hc0_3
 clear hr0_3 hc0_3
 have HB := ak (Below.refl w.heap.size w)
 have H : ((some (([] : List Int) : List Int)).bind fun y301 => (if y301.length + l0_3.length < 17592186044416 then (spec_l6Copy.l0 k 0 a0_0 l0_1 l0_2 l0_3 a0_0 ([] : List (S83)) (y301 ++ l0_3)) else (none))) = some (r1,r2,r3,r4) := h
 clear h
 obtain ⟨y301,hy301⟩ : ∃ y_ : List Int,y_ = (([] : List Int)) := ⟨_,rfl⟩
 replace H : (if y301.length + l0_3.length < 17592186044416 then (spec_l6Copy.l0 k 0 a0_0 l0_1 l0_2 l0_3 a0_0 ([] : List (S83)) (y301 ++ l0_3)) else (none)) = some (r1,r2,r3,r4) := by first|(rw [hy301];with_reducible exact H)|(have H2_ := (Option.bind_some _ _).symm.trans H;rw [hy301];with_reducible exact H2_)|(have H2_ := (Option.bind_some _ _).symm.trans H;with_reducible exact H2_)|with_reducible exact H|(rw [hy301];exact H)|exact H
 have Ny301 := ak hy301
 clear hy301
 by_cases c2 : y301.length + l0_3.length < 17592186044416
 ·rw [if_pos c2] at H
  have LMc2 := ak c2
  clear c2
  obtain ⟨y304,hy304⟩ : ∃ y_ : List Int,y_ = (y301 ++ l0_3) := ⟨_,rfl⟩
  replace H : (spec_l6Copy.l0 k 0 a0_0 l0_1 l0_2 l0_3 a0_0 ([] : List (S83)) y304) = some (r1,r2,r3,r4) := by first|(rw [hy304];with_reducible exact H)|(have H2_ := (Option.bind_some _ _).symm.trans H;rw [hy304];with_reducible exact H2_)|(have H2_ := (Option.bind_some _ _).symm.trans H;with_reducible exact H2_)|with_reducible exact H|(rw [hy304];exact H)|exact H
  have Ny304 := ak hy304
  clear hy304
  have H' := ak H
  clear H
  go_enter Tryz.func31,Tryz.ntmps31
  try go_wp2_with (first|((with_reducible refine gate_dst (N := 1) rfl ?_);refine bx_ 1 #[.bool a0_0,.slice A0_1 l0_1.length c0_1,.slice A0_2 l0_2.length c0_2,.slice A0_3 l0_3.length c0_3] 31 ?_;intro gb299 hg w3 hbox hb;replace HB := nb_ hg hbox hb;obtain ⟨BK299,GW299,GE299,HB⟩ := HB;clear hb hbox hg)|((with_reducible refine gate_dst (N := 2) rfl ?_);refine bx_ 2 #[.bool false,.slice none 0 0,.slice none 0 0,.slice none 0 0] 31 ?_;intro gb300 hg w4 hbox hb;replace HB := nb_ hg hbox hb;obtain ⟨BK300,GW300,GE300,HB⟩ := HB;have NB299_300 := ak ((nl_ BK299 hg));have NB300_299 := ak ((ng_ BK299 hg));replace BK299 := ak (blk_below (kb_ BK299) hb);clear hb hbox hg))
  replace BK299 := ak (blk_drew BK299.out)
  replace BK300 := ak (blk_drew BK300.out)
  replace HB := ak (below_drew1 HB.out)
  refine st_ 9 (S := fun w' => hd4 w' gb299 (.bool a0_0) (.slice A0_1 l0_1.length c0_1) (.slice A0_2 l0_2.length c0_2) (.slice A0_3 l0_3.length c0_3)) hh_ (fun hHeld => ?_);refine with_tabW spec_l6Copy.tab1 spec_l6Copy.bits1 (fun HT_ HW_ => ?_)
  generalize w4.drew = w5 at BK299 BK300 HB hHeld ⊢
  refine pv_ 0 6 ?_
  refine pv_ 3 9 ?_
  refine tx_ 1 7 hHeld ?_
  refine tx_ 4 10 hHeld ?_
  refine join_ (σ := Value × Value × Nat) 1 #[true,true,true,true,true,true,true,true,false] (fun s_ => [(8,s_.1),(11,s_.2.1),(3,.pointer (some ⟨s_.2.2,0,none⟩)),(12,.agg #[.bool a0_0,.slice none 0 0,.slice none 0 0,s_.2.1])]) (fun s_ w' => (w'.cell? ⟨gb299,0,none⟩ = some (.bool a0_0) ∧ w'.cell? ⟨gb299,1,none⟩ = some (.slice A0_1 l0_1.length c0_1) ∧ w'.cell? ⟨gb299,2,none⟩ = some (.slice A0_2 l0_2.length c0_2) ∧ w'.cell? ⟨gb299,3,none⟩ = some (.slice A0_3 l0_3.length c0_3)) ∧ (Kd.R (Kd.int .i64) 2 w' w.heap.size (fun _ => True) s_.2.1 y304) ∧ (w'.heap[gb299]? = some (.cells #[.bool a0_0,.slice A0_1 l0_1.length c0_1,.slice A0_2 l0_2.length c0_2,.slice A0_3 l0_3.length c0_3] 31 (0,0))) ∧ (w'.heap[gb300]? = some (.cells #[.bool false,.slice none 0 0,.slice none 0 0,.slice none 0 0] 31 (0,0))) ∧ (w'.heap[s_.2.2]? = some (.cells #[.bool false,.slice none 0 0,.slice none 0 0,.slice none 0 0] 31 (0,0))) ∧ (w.heap.size ≤ s_.2.2) ∧ (w.heap.size ≤ s_.2.2) ∧ (gb299 ≠ s_.2.2) ∧ (s_.2.2 ≠ gb299) ∧ (gb300 ≠ s_.2.2) ∧ (s_.2.2 ≠ gb300) ∧ (Below w.heap.size w w')) ?_ ?_
  rotate_left
  ·intro hCont
   refine two_ (i := 2) (j := 7) (Ni := some 8) (Nj := some 3) #[true,true,true,true,true,false,false,false,false] #[true,true,false,true,true,false,false,true,false] rfl rfl rfl rfl (two_of HT_.out (by kernel_rfl)) (by decide) (by decide) (fun K hK => ?_) (fun K hK => ?_)
   ·skip
    refine Kd.R_lit_step (Kd.int .i64) _ 2 ?hg (N := 8) ?hd (xs := ([] : List Int)) (inner := []) (ok := fun _ => True) (okp := fun _ => True) ?hr ?hp (fun _ hk => hk) trivial (Below.refl _ _) (Nat.le_refl _) (by simp) ?_;(case hd => rfl);(case hg => rfl);(case hr => first|(go_simp;done)|(go_simp;rfl));(case hp => exact (Reps.none _ _))
    intro v302 w6 ho7 hb hg_ hnew_
    clear hg_ hnew_
    (first|rw [← Ny301.out] at ho7|(simp only [Int.reduceToNat] at ho7;rw [← Ny301.out] at ho7))
    replace BK299 := ak (blk_below (kb_ BK299) hb)
    replace BK300 := ak (blk_below (kb_ BK300) hb)
    have HO303 := ak (Kd.R_lower ho7 (below_size b_))
    replace HB := ak (below_step b_ hb)
    clear hb ho7
    refine hK.out _ _ hh_ (fun hHeld => ?_)
    clear hK K
    refine nr_ (some 8) _ ?_
    refine two_ (i := 5) (j := 7) (Ni := some 11) (Nj := some 3) #[true,true,true,true,true,true,false,false,false] #[true,true,true,true,true,false,false,true,false] rfl rfl rfl rfl (two_of HT_.out (by kernel_rfl)) (by decide) (by decide) (fun K hK => ?_) (fun K hK => ?_)
    ·skip
     refine Kd.R_append_rows_step (Kd.int .i64) (w0 := w) w.heap.size (by rfl) (.tmp 8) (.tmp 10) 24 2 (.int .i64 0) 8 rfl Tryz.underlying24 info2 rfl (by decide) (by omega) v302 y301 l0_3 _ _ _ (fun _ => True) (fun _ => False) rfl rfl ?aO ?aR (fun _ _ h => h) (fun _ h => h.elim) ?aF ?aB ?aS ?aL ?_
     (case aR => repeat (first|exact (Kd.C_below HR0_3.out HB.out)|(with_reducible refine Kd.C_alloc ?_ _)|(with_reducible refine Kd.C_drewN ?_ _)|(with_reducible refine Kd.C_drew ?_)))
     (case aB => exact b_)
     (case aF => exact (fun _ _ => trivial))
     (case aO => exact (by (with_reducible repeat (first|apply Kd.R_alloc|apply Kd.R_drewN|apply Kd.R_drew));exact HO303.out))
     (case aS => exact (below_size b_))
     (case aL => have := LMc2.out;omega)
     intro v305 w8 ho hb hg hat
     rw [← Ny304.out] at ho
     replace BK299 := ak (blk_grown (kb_ BK299) hg (Kd.R_ne HO303.out BK299.out (by decide)))
     replace BK300 := ak (blk_grown (kb_ BK300) hg (Kd.R_ne HO303.out BK300.out (by decide)))
     replace HB := ak (hb)
     have HO306 := ak (ho)
     clear HO303
     clear ho hb hg hat
     obtain ⟨Ao9,co9,eo9⟩ := Kd.R_slice HO306.out
     (first|subst eo9|(injection eo9 with f1_ f2_ f3_;have f4_ := f1_.symm;have f5_ := f3_.symm;clear f1_ f2_ f3_;subst f4_;subst f5_))
     refine hK.out _ _ hh_ (fun hHeld => ?_)
     clear hK K
     refine nr_ (some 11) _ ?_
     refine pv_ 6 12 ?_
     refine oy_ 7 3 (fun K hK => ?_)
     refine box_step ?hg (N := 3) ?hd (cs := #[.bool false,.slice none 0 0,.slice none 0 0,.slice none 0 0]) (t := 31) ?hr ?_;(case hd => rfl);(case hg => rfl);(case hr => first|(go_simp;done)|(go_simp;rfl))
     intro gb307 hg w10 hbox hb
     replace HO306 := ak (Kd.R_below (by (with_reducible repeat (first|apply Kd.R_alloc|apply Kd.R_drewN|apply Kd.R_drew));exact HO306.out) hb)
     have BK307 := ak (hbox)
     have GW307 := ak ((gw_ (w := w) hg))
     have GE307 := ak ((gw_ (w := w) hg))
     replace HB := ak (below_step b_ hb)
     have NB299_307 := ak ((nl_ BK299 hg))
     have NB307_299 := ak ((ng_ BK299 hg))
     replace BK299 := ak (blk_below (kb_ BK299) hb)
     have NB300_307 := ak ((nl_ BK300 hg))
     have NB307_300 := ak ((ng_ BK300 hg))
     replace BK300 := ak (blk_below (kb_ BK300) hb)
     clear hb hbox hg
     refine hK.out _ _ hh_ (fun hHeld => ?_)
     clear hK K
     refine nr_ (some 3) _ ?_
     exact norm_ (by simp only [putAll,Act.put,List.setIfInBounds_toArray,List.set_cons_zero,List.set_cons_succ]) (hCont (v302,.slice Ao9 y304.length co9,gb307) _ ⟨hHeld,(by (with_reducible repeat (first|apply Kd.R_alloc|apply Kd.R_drewN|apply Kd.R_drew));exact HO306.out),kk_,kk_,kk_,GW307.out,GE307.out,NB299_307.out,NB307_299.out,NB300_307.out,NB307_300.out,b_⟩)
    ·skip
     refine box_step ?hg (N := 3) ?hd (cs := #[.bool false,.slice none 0 0,.slice none 0 0,.slice none 0 0]) (t := 31) ?hr ?_;(case hd => rfl);(case hg => rfl);(case hr => first|(go_simp;done)|(go_simp;rfl))
     intro gb307 hg w8 hbox hb
     replace HO303 := ak (Kd.R_below (by (with_reducible repeat (first|apply Kd.R_alloc|apply Kd.R_drewN|apply Kd.R_drew));exact HO303.out) hb)
     have BK307 := ak (hbox)
     have GW307 := ak ((gw_ (w := w) hg))
     have GE307 := ak ((gw_ (w := w) hg))
     replace HB := ak (below_step b_ hb)
     have NB299_307 := ak ((nl_ BK299 hg))
     have NB307_299 := ak ((ng_ BK299 hg))
     replace BK299 := ak (blk_below (kb_ BK299) hb)
     have NB300_307 := ak ((nl_ BK300 hg))
     have NB307_300 := ak ((ng_ BK300 hg))
     replace BK300 := ak (blk_below (kb_ BK300) hb)
     clear hb hbox hg
     refine hK.out _ _ hh_ (fun hHeld => ?_)
     clear hK K
     refine nr_ (some 3) _ ?_
     refine oy_ 5 11 (fun K hK => ?_)
     refine Kd.R_append_rows_step (Kd.int .i64) (w0 := w) w.heap.size (by rfl) (.tmp 8) (.tmp 10) 24 2 (.int .i64 0) 8 rfl Tryz.underlying24 info2 rfl (by decide) (by omega) v302 y301 l0_3 _ _ _ (fun _ => True) (fun _ => False) rfl rfl ?aO ?aR (fun _ _ h => h) (fun _ h => h.elim) ?aF ?aB ?aS ?aL ?_
     (case aR => repeat (first|exact (Kd.C_below HR0_3.out HB.out)|(with_reducible refine Kd.C_alloc ?_ _)|(with_reducible refine Kd.C_drewN ?_ _)|(with_reducible refine Kd.C_drew ?_)))
     (case aB => exact b_)
     (case aF => exact (fun _ _ => trivial))
     (case aO => exact (by (with_reducible repeat (first|apply Kd.R_alloc|apply Kd.R_drewN|apply Kd.R_drew));exact HO303.out))
     (case aS => exact (below_size b_))
     (case aL => have := LMc2.out;omega)
     intro v305 w9 ho hb hg hat
     rw [← Ny304.out] at ho
     replace BK299 := ak (blk_grown (kb_ BK299) hg (Kd.R_ne HO303.out BK299.out (by decide)))
     replace BK300 := ak (blk_grown (kb_ BK300) hg (Kd.R_ne HO303.out BK300.out (by decide)))
     replace BK307 := ak (blk_grown (kb_ BK307) hg (Kd.R_ne HO303.out BK307.out (by decide)))
     replace HB := ak (hb)
     have HO306 := ak (ho)
     clear HO303
     clear ho hb hg hat
     obtain ⟨Ao10,co10,eo10⟩ := Kd.R_slice HO306.out
     (first|subst eo10|(injection eo10 with f1_ f2_ f3_;have f4_ := f1_.symm;have f5_ := f3_.symm;clear f1_ f2_ f3_;subst f4_;subst f5_))
     refine hK.out _ _ hh_ (fun hHeld => ?_)
     clear hK K
     refine nr_ (some 11) _ ?_
     refine pv_ 6 12 ?_
     exact norm_ (by simp only [putAll,Act.put,List.setIfInBounds_toArray,List.set_cons_zero,List.set_cons_succ]) (hCont (v302,.slice Ao10 y304.length co10,gb307) _ ⟨hHeld,(by (with_reducible repeat (first|apply Kd.R_alloc|apply Kd.R_drewN|apply Kd.R_drew));exact HO306.out),kk_,kk_,kk_,GW307.out,GE307.out,NB299_307.out,NB307_299.out,NB300_307.out,NB307_300.out,b_⟩)
   ·skip
    refine box_step ?hg (N := 3) ?hd (cs := #[.bool false,.slice none 0 0,.slice none 0 0,.slice none 0 0]) (t := 31) ?hr ?_;(case hd => rfl);(case hg => rfl);(case hr => first|(go_simp;done)|(go_simp;rfl))
    intro gb307 hg w6 hbox hb
    have BK307 := ak (hbox)
    have GW307 := ak ((gw_ (w := w) hg))
    have GE307 := ak ((gw_ (w := w) hg))
    replace HB := ak (below_step b_ hb)
    have NB299_307 := ak ((nl_ BK299 hg))
    have NB307_299 := ak ((ng_ BK299 hg))
    replace BK299 := ak (blk_below (kb_ BK299) hb)
    have NB300_307 := ak ((nl_ BK300 hg))
    have NB307_300 := ak ((ng_ BK300 hg))
    replace BK300 := ak (blk_below (kb_ BK300) hb)
    clear hb hbox hg
    refine hK.out _ _ hh_ (fun hHeld => ?_)
    clear hK K
    refine nr_ (some 3) _ ?_
    refine oy_ 2 8 (fun K hK => ?_)
    refine Kd.R_lit_step (Kd.int .i64) _ 2 ?hg (N := 8) ?hd (xs := ([] : List Int)) (inner := []) (ok := fun _ => True) (okp := fun _ => True) ?hr ?hp (fun _ hk => hk) trivial (Below.refl _ _) (Nat.le_refl _) (by simp) ?_;(case hd => rfl);(case hg => rfl);(case hr => first|(go_simp;done)|(go_simp;rfl));(case hp => exact (Reps.none _ _))
    intro v302 w7 ho8 hb hg_ hnew_
    clear hg_ hnew_
    (first|rw [← Ny301.out] at ho8|(simp only [Int.reduceToNat] at ho8;rw [← Ny301.out] at ho8))
    replace BK299 := ak (blk_below (kb_ BK299) hb)
    replace BK300 := ak (blk_below (kb_ BK300) hb)
    replace BK307 := ak (blk_below (kb_ BK307) hb)
    have HO303 := ak (Kd.R_lower ho8 (below_size b_))
    replace HB := ak (below_step b_ hb)
    clear hb ho8
    refine hK.out _ _ hh_ (fun hHeld => ?_)
    clear hK K
    refine nr_ (some 8) _ ?_
    refine oy_ 5 11 (fun K hK => ?_)
    refine Kd.R_append_rows_step (Kd.int .i64) (w0 := w) w.heap.size (by rfl) (.tmp 8) (.tmp 10) 24 2 (.int .i64 0) 8 rfl Tryz.underlying24 info2 rfl (by decide) (by omega) v302 y301 l0_3 _ _ _ (fun _ => True) (fun _ => False) rfl rfl ?aO ?aR (fun _ _ h => h) (fun _ h => h.elim) ?aF ?aB ?aS ?aL ?_
    (case aR => repeat (first|exact (Kd.C_below HR0_3.out HB.out)|(with_reducible refine Kd.C_alloc ?_ _)|(with_reducible refine Kd.C_drewN ?_ _)|(with_reducible refine Kd.C_drew ?_)))
    (case aB => exact b_)
    (case aF => exact (fun _ _ => trivial))
    (case aO => exact (by (with_reducible repeat (first|apply Kd.R_alloc|apply Kd.R_drewN|apply Kd.R_drew));exact HO303.out))
    (case aS => exact (below_size b_))
    (case aL => have := LMc2.out;omega)
    intro v305 w9 ho hb hg hat
    rw [← Ny304.out] at ho
    replace BK299 := ak (blk_grown (kb_ BK299) hg (Kd.R_ne HO303.out BK299.out (by decide)))
    replace BK300 := ak (blk_grown (kb_ BK300) hg (Kd.R_ne HO303.out BK300.out (by decide)))
    replace BK307 := ak (blk_grown (kb_ BK307) hg (Kd.R_ne HO303.out BK307.out (by decide)))
    replace HB := ak (hb)
    have HO306 := ak (ho)
    clear HO303
    clear ho hb hg hat
    obtain ⟨Ao10,co10,eo10⟩ := Kd.R_slice HO306.out
    (first|subst eo10|(injection eo10 with f1_ f2_ f3_;have f4_ := f1_.symm;have f5_ := f3_.symm;clear f1_ f2_ f3_;subst f4_;subst f5_))
    refine hK.out _ _ hh_ (fun hHeld => ?_)
    clear hK K
    refine nr_ (some 11) _ ?_
    refine pv_ 6 12 ?_
    exact norm_ (by simp only [putAll,Act.put,List.setIfInBounds_toArray,List.set_cons_zero,List.set_cons_succ]) (hCont (v302,.slice Ao10 y304.length co10,gb307) _ ⟨hHeld,(by (with_reducible repeat (first|apply Kd.R_alloc|apply Kd.R_drewN|apply Kd.R_drew));exact HO306.out),kk_,kk_,kk_,GW307.out,GE307.out,NB299_307.out,NB307_299.out,NB300_307.out,NB307_300.out,b_⟩)
  rintro ⟨v302,v305,gb307⟩ w11 ⟨hS_,h0_,h1_,h2_,h3_,h4_,h5_,h6_,h7_,h8_,h9_,h10_⟩
  have n0_ : Aside0 (Kd.R (Kd.int .i64) 2 w11 w.heap.size (fun _ => True) v305 y304) := ⟨h0_⟩
  have n1_ : Aside0 (w11.heap[gb299]? = some (.cells #[.bool a0_0,.slice A0_1 l0_1.length c0_1,.slice A0_2 l0_2.length c0_2,.slice A0_3 l0_3.length c0_3] 31 (0,0))) := ⟨h1_⟩
  have n2_ : Aside0 (w11.heap[gb300]? = some (.cells #[.bool false,.slice none 0 0,.slice none 0 0,.slice none 0 0] 31 (0,0))) := ⟨h2_⟩
  have n3_ : Aside0 (w11.heap[gb307]? = some (.cells #[.bool false,.slice none 0 0,.slice none 0 0,.slice none 0 0] 31 (0,0))) := ⟨h3_⟩
  have n4_ : Aside0 (w.heap.size ≤ gb307) := ⟨h4_⟩
  have n5_ : Aside0 (w.heap.size ≤ gb307) := ⟨h5_⟩
  have n6_ : Aside0 (gb299 ≠ gb307) := ⟨h6_⟩
  have n7_ : Aside0 (gb307 ≠ gb299) := ⟨h7_⟩
  have n8_ : Aside0 (gb300 ≠ gb307) := ⟨h8_⟩
  have n9_ : Aside0 (gb307 ≠ gb300) := ⟨h9_⟩
  have n10_ : Aside0 (Below w.heap.size w w11) := ⟨h10_⟩
  clear BK299
  clear BK300
  clear HB
  clear h0_ h1_ h2_ h3_ h4_ h5_ h6_ h7_ h8_ h9_ h10_
  have HO306 := n0_
  have BK299 := n1_
  have BK300 := n2_
  have BK307 := n3_
  have GW307 := n4_
  have GE307 := n5_
  have NB299_307 := n6_
  have NB307_299 := n7_
  have NB300_307 := n8_
  have NB307_300 := n9_
  have HB := n10_
  clear n0_ n1_ n2_ n3_ n4_ n5_ n6_ n7_ n8_ n9_ n10_
  have hHeld : w11.cell? ⟨gb299,0,none⟩ = some (.bool a0_0) ∧ w11.cell? ⟨gb299,1,none⟩ = some (.slice A0_1 l0_1.length c0_1) ∧ w11.cell? ⟨gb299,2,none⟩ = some (.slice A0_2 l0_2.length c0_2) ∧ w11.cell? ⟨gb299,3,none⟩ = some (.slice A0_3 l0_3.length c0_3) := hS_
  obtain ⟨Ao12,co12,eo12⟩ := Kd.R_slice HO306.out
  (first|subst eo12|(injection eo12 with f1_ f2_ f3_;have f4_ := f1_.symm;have f5_ := f3_.symm;clear f1_ f2_ f3_;subst f4_;subst f5_))
  refine norm_ (a' := ?_) ?_ ?_
  rotate_left
  ·simp only [putAll,Act.put,List.setIfInBounds_toArray,List.set_cons_zero,List.set_cons_succ]
   rfl
  refine oz_ (i := 8) (N := none) HT_.out rfl rfl (by kernel_rfl) (by decide) (fun K hK => ?_)
  have hs13 : w11.cell? ⟨gb307,0,none⟩ = some (.bool false) := (blk_cell BK307.out 0).trans rfl
  have hfs13 := blk_frozen BK307.out 0
  have hns13_0 := NB299_307.out
  have hns13_1 := NB300_307.out
  have hms13_0 := NB307_299.out
  have hms13_1 := NB307_300.out
  have hs14 : w11.cell? ⟨gb307,1,none⟩ = some (.slice none 0 0) := (blk_cell BK307.out 1).trans rfl
  have hfs14 := blk_frozen BK307.out 1
  have hns14_0 := NB299_307.out
  have hns14_1 := NB300_307.out
  have hms14_0 := NB307_299.out
  have hms14_1 := NB307_300.out
  have hs15 : w11.cell? ⟨gb307,2,none⟩ = some (.slice none 0 0) := (blk_cell BK307.out 2).trans rfl
  have hfs15 := blk_frozen BK307.out 2
  have hns15_0 := NB299_307.out
  have hns15_1 := NB300_307.out
  have hms15_0 := NB307_299.out
  have hms15_1 := NB307_300.out
  have hs16 : w11.cell? ⟨gb307,3,none⟩ = some (.slice none 0 0) := (blk_cell BK307.out 3).trans rfl
  have hfs16 := blk_frozen BK307.out 3
  have hns16_0 := NB299_307.out
  have hns16_1 := NB300_307.out
  have hms16_0 := NB307_299.out
  have hms16_1 := NB307_300.out
  refine skip_ (w1 := ?_) (by rfl) rfl ?_ ?_
  rotate_left
  ·go_simp
   rfl
  refine hK.out _ _ ⟨((cell_far (p := ⟨gb307,_,none⟩) NB299_307.out _).trans (((cell_far (p := ⟨gb307,_,none⟩) NB299_307.out _).trans (((cell_far (p := ⟨gb307,_,none⟩) NB299_307.out _).trans (((cell_far (p := ⟨gb307,_,none⟩) NB299_307.out _).trans (hHeld.1)))))))),((cell_far (p := ⟨gb307,_,none⟩) NB299_307.out _).trans (((cell_far (p := ⟨gb307,_,none⟩) NB299_307.out _).trans (((cell_far (p := ⟨gb307,_,none⟩) NB299_307.out _).trans (((cell_far (p := ⟨gb307,_,none⟩) NB299_307.out _).trans (hHeld.2.1)))))))),((cell_far (p := ⟨gb307,_,none⟩) NB299_307.out _).trans (((cell_far (p := ⟨gb307,_,none⟩) NB299_307.out _).trans (((cell_far (p := ⟨gb307,_,none⟩) NB299_307.out _).trans (((cell_far (p := ⟨gb307,_,none⟩) NB299_307.out _).trans (hHeld.2.2.1)))))))),((cell_far (p := ⟨gb307,_,none⟩) NB299_307.out _).trans (((cell_far (p := ⟨gb307,_,none⟩) NB299_307.out _).trans (((cell_far (p := ⟨gb307,_,none⟩) NB299_307.out _).trans (((cell_far (p := ⟨gb307,_,none⟩) NB299_307.out _).trans (hHeld.2.2.2))))))))⟩ (fun hHeld => ?_)
  clear hK K
  refine done_ (done_of HT_.out (by kernel_rfl)) ?_
  try go_wp2
  go_loopg [4] k (fun kq v4 w' => ∃ (x4_1 : Int) (x308001_1 : List (S83)) (u308001 : Value),v4 = .int .i64 x4_1 ∧ Aside0 (spec_l6Copy.l0 kq x4_1 a0_0 l0_1 l0_2 l0_3 a0_0 x308001_1 y304 = some (r1,r2,r3,r4)) ∧ Aside0 (kq ≤ k) ∧ Aside0 (Kd.S k83 83 w' w.heap.size (fun _ => True) u308001 x308001_1) ∧ Aside0 (Kd.R (Kd.int .i64) 2 w' w.heap.size (fun _ => True) (.slice Ao12 y304.length co12) y304) ∧ Aside0 (w'.heap[gb299]? = some (.cells #[.bool a0_0,(.slice A0_1 l0_1.length c0_1),(.slice A0_2 l0_2.length c0_2),(.slice A0_3 l0_3.length c0_3)] 31 (0,0))) ∧ Aside0 (w'.heap[gb300]? = some (.cells #[.bool false,(.slice none 0 0),(.slice none 0 0),(.slice none 0 0)] 31 (0,0))) ∧ Aside0 (w'.heap[gb307]? = some (.cells #[.bool a0_0,u308001,(.slice none 0 0),(.slice Ao12 y304.length co12)] 31 (0,0))) ∧ Aside0 (Below w.heap.size w w'))
  case atStart => exact ⟨(0),(([] : List (S83))),(.slice none 0 0),rs_,H',⟨Nat.le_refl _⟩,⟨by first|exact Kd.S_nil _ _ _ _ _|exact Kd.N_nil _ _ _ _ _|exact Kd.V_nil _ _ _ _ _|exact Kd.Q_nil _ _ _ _ _|exact Kd.R_nil _ _ _ _ _⟩,⟨by (with_reducible repeat (first|apply Kd.R_alloc|apply Kd.R_drewN|apply Kd.R_drew));exact Kd.R_mono (Kd.R_far (p := ⟨gb307,3,none⟩) (Kd.R_far (p := ⟨gb307,2,none⟩) (Kd.R_far (p := ⟨gb307,1,none⟩) (Kd.R_far (p := ⟨gb307,0,none⟩) (Kd.R_types HO306.out BK307.out (by decide)) (fun _ hk => hk.2) (.bool a0_0)) (fun _ hk => hk.2) (.slice none 0 0)) (fun _ hk => hk.2) (.slice none 0 0)) (fun _ hk => hk.2) (.slice Ao12 y304.length co12)) (fun _ hk => trivial)⟩,⟨kf_ BK299⟩,⟨kf_ BK300⟩,⟨pt4_ (kb_ BK307) _ _ _ _⟩,⟨b_⟩⟩
  case round =>
   clear H'
   try clear c2
   try clear p2
   try clear c3
   obtain ⟨x4_1,x308001_1,u308001,rfl,HA,HK1,HO_308001,HO_308003,BK299,BK300,BK307,HB⟩ := hrel
   cases gk with
   | zero => exact absurd HA.out (by simp [spec_l6Copy.l0])
   | succ k1 =>
    have H := HA.out
    clear HA
    simp only [spec_l6Copy.l0] at H
    by_cases c17 : x4_1 < (l0_1.length : Int)
    ·rw [if_pos c17] at H
     have c17b0 : decide (x4_1 < (l0_1.length : Int)) = true := decide_eq_true c17
     clear c17
     by_cases c18 : 0 ≤ x4_1
     ·rw [if_pos c18] at H
      have c18b0 : decide (0 ≤ x4_1) = true := decide_eq_true c18
      clear c18
      replace H := bs_ H
      obtain ⟨t310,A19,H⟩ := H
      by_cases c20 : x308001_1.length < 4398046511104
      ·rw [if_pos c20] at H
       have LMc20 := ak c20
       clear c20
       obtain ⟨y313,hy313⟩ : ∃ y_ : List (S83),y_ = (x308001_1 ++ [(⟨(rd_T83 l0_1 x4_1).f0,t310⟩ : S83)]) := ⟨_,rfl⟩
       replace H : (spec_l6Copy.l0 k1 (wrap64 (x4_1 + 1)) a0_0 l0_1 l0_2 l0_3 a0_0 y313 y304) = some (r1,r2,r3,r4) := by first|(rw [hy313];with_reducible exact H)|(have H2_ := (Option.bind_some _ _).symm.trans H;rw [hy313];with_reducible exact H2_)|(have H2_ := (Option.bind_some _ _).symm.trans H;with_reducible exact H2_)|with_reducible exact H|(rw [hy313];exact H)|exact H
       have Ny313 := ak hy313
       clear hy313
       have H' := ak H
       clear H
       have hnb21 := NB299_300.out
       have hnc21 := NB300_299.out
       have hnb22 := NB299_307.out
       have hnc22 := NB307_299.out
       obtain ⟨⟨hcz23_0,hcz23_1,hcz23_2,hcz23_3⟩,hfz23_0,hfz23_1,hfz23_2,hfz23_3⟩ := cl4_ BK299.out
       try go_wp2
       replace HO_308001 := ak (Kd.S_drew HO_308001.out)
       replace HO_308003 := ak (Kd.R_drew HO_308003.out)
       replace BK299 := ak (blk_drew BK299.out)
       replace BK300 := ak (blk_drew BK300.out)
       replace BK307 := ak (blk_drew BK307.out)
       replace HB := ak (below_drew1 HB.out)
       have p308 : 0 ≤ (x4_1 : Int) := od_
       have q308 : x4_1 < (l0_1.length : Int) := od_
       obtain ⟨ad308,A308_1,c308_1,e308,hx308_0,hx308_1,hl308_1,hi308_1⟩ := at_T83 HR0_1.out x4_1 p308 q308
       have hw308_1 := hx308_1
       have hw308_0 := hx308_0
       cases e308
       replace hx308_0 := hx_ HB hx308_0
       replace hx308_1 := hx_ HB hx308_1
       have HR308_1 := ak hi308_1
       have HC308_1 := ak hl308_1
       clear hi308_1 hl308_1
       replace p308 := eq_true p308
       replace q308 := eq_true q308
       have p309 : 0 ≤ (x4_1 : Int) := od_
       have q309 : x4_1 < (l0_1.length : Int) := od_
       obtain ⟨ad309,A309_1,c309_1,e309,hx309_0,hx309_1,hl309_1,hi309_1⟩ := at_T83 HR0_1.out x4_1 p309 q309
       have hw309_1 := hx309_1
       have hw309_0 := hx309_0
       obtain rfl : ad308 = ad309 := (by injection e309)
       replace hx309_0 := hx_ HB hx309_0
       replace hx309_1 := hx_ HB hx309_1
       have HR309_1 := ak hi309_1
       have HC309_1 := ak hl309_1
       clear hi309_1 hl309_1
       replace p309 := eq_true p309
       replace q309 := eq_true q309
       have ea_ := Option.some.inj (hx308_1.symm.trans hx309_1)
       injection ea_ with ea_ en_ ec_
       subst ea_
       subst ec_
       clear en_
       refine std_ 20 (S := fun w' => hc4 w' gb307 (.bool a0_0) (u308001) (.slice none 0 0) (.slice Ao12 y304.length co12) (hc4 w' gb299 (.bool a0_0) (.slice (some ad308) l0_1.length c0_1) (.slice A0_2 l0_2.length c0_2) (.slice A0_3 l0_3.length c0_3) (he2 w' (ad308.add ((x4_1).toNat * 2)) (.int .i64 ((rd_T83 l0_1 x4_1).f0)) (.slice A308_1 ((rd_T83 l0_1 x4_1).f1).length c308_1) (hf2 w' (ad308.add ((x4_1).toNat * 2)) (.int .i64 ((rd_T83 l0_1 x4_1).f0)) (.slice A308_1 ((rd_T83 l0_1 x4_1).f1).length c308_1))))) (ds := [19]) hh_ (fun hHeld => ?_);refine with_tabW spec_l6Copy.tab5 spec_l6Copy.bits5 (fun HT_ HW_ => ?_)
       generalize wr.drew = w24 at HO_308001 HO_308003 BK299 BK300 BK307 HB HR308_1 HR309_1 hx308_0 hx308_1 hx309_0 hx309_1 hHeld ⊢
       refine pv_ 0 20 ?_
       refine pv_ 2 22 ?_
       refine pv_ 4 24 ?_
       refine pv_ 8 28 ?_
       refine pv_ 10 30 ?_
       refine tx_ 1 21 hHeld ?_
       refine tx_ 3 23 hHeld ?_
       refine pv_ 5 25 ?_
       refine pv_ 6 26 ?_
       refine tx_ 7 27 hHeld ?_
       refine tx_ 9 29 hHeld ?_
       refine pv_ 11 31 ?_
       refine pv_ 12 32 ?_
       refine tx_ 13 33 hHeld ?_
       refine oy_ 14 34 (fun K hK => ?_)
       refine gs_ Tryz.func60 #[.slice A308_1 ((rd_T83 l0_1 x4_1).f1).length c308_1] ?_
       with_reducible refine (spec_l3Copy.calls _ _ ((rd_T83 l0_1 x4_1).f1) t310 _ ?side1 ?side2 A19.out).mono ?_
       (case side1 => exact cb_ HR309_1)
       (case side2 => exact HC309_1.out)
       rintro e w25 ⟨v311,rfl,ho0,hb⟩
       refine ⟨_,rfl,?_⟩
       replace HO_308001 := ak (Kd.S_elder' (by (with_reducible repeat (first|apply Kd.S_alloc|apply Kd.S_drewN|apply Kd.S_drew));exact HO_308001.out) (Kd.R_base ho0) hb)
       replace HO_308003 := ak (Kd.R_below (by (with_reducible repeat (first|apply Kd.R_alloc|apply Kd.R_drewN|apply Kd.R_drew));exact HO_308003.out) hb)
       replace BK299 := ak (blk_below (kb_ BK299) hb)
       replace BK300 := ak (blk_below (kb_ BK300) hb)
       replace BK307 := ak (blk_below (kb_ BK307) hb)
       have HO312 := ak (Kd.R_lower ho0 (below_size b_))
       replace HB := ak (below_step b_ hb)
       (try clear hb)
       (try clear hb2)
       (try clear hk)
       (try clear hi)
       (try clear ho0)
       obtain ⟨Ao26,co26,eo26⟩ := Kd.R_slice HO312.out
       (first|subst eo26|(injection eo26 with f1_ f2_ f3_;have f4_ := f1_.symm;have f5_ := f3_.symm;clear f1_ f2_ f3_;subst f4_;subst f5_))
       refine hK.out _ _ hh_ (fun hHeld => ?_)
       clear hK K
       refine nr_ (some 34) _ ?_
       refine pv_ 15 35 ?_
       refine oy_ 16 36 (fun K hK => ?_)
       refine value_ (w1 := ?_) (v := ?_) (by rfl) rfl ?_ ?_
       rotate_left 2
       ·go_simp
        constructor
        ·rfl
        ·rfl
       refine hK.out _ _ ⟨(blk_cell (blk_alloc BK307.out _) 0).trans rfl,(blk_cell (blk_alloc BK307.out _) 1).trans rfl,(blk_cell (blk_alloc BK307.out _) 2).trans rfl,(blk_cell (blk_alloc BK307.out _) 3).trans rfl,(blk_cell (blk_alloc BK299.out _) 0).trans rfl,(blk_cell (blk_alloc BK299.out _) 1).trans rfl,(blk_cell (blk_alloc BK299.out _) 2).trans rfl,(blk_cell (blk_alloc BK299.out _) 3).trans rfl,(World.cell?_alloc_lt _ _ _ (World.block_lt_of_cell? _ _ ((hx_ HB hw308_0)))).trans ((hx_ HB hw308_0)),(World.cell?_alloc_lt _ _ _ (World.block_lt_of_cell? _ _ ((hx_ HB hw308_1)))).trans ((hx_ HB hw308_1)),(World.cell?_alloc_lt _ _ _ (World.block_lt_of_cell? _ _ ((hx_ HB hw309_0)))).trans ((hx_ HB hw309_0)),(World.cell?_alloc_lt _ _ _ (World.block_lt_of_cell? _ _ ((hx_ HB hw309_1)))).trans ((hx_ HB hw309_1))⟩ (fun hHeld => ?_)
       clear hK K
       refine nr_ (some 36) _ ?_
       refine oy_ 17 37 (fun K hK => ?_)
       refine Kd.S_append_step k83 (w0 := w) w.heap.size (by rfl) (.tmp 21) (.tmp 36) 28 83 (.agg #[(.int .i64 0),(.slice none 0 0)]) 32 rfl Tryz.underlying28 info83 rfl (by decide) (by omega) u308001 x308001_1 (⟨(rd_T83 l0_1 x4_1).f0,t310⟩ : S83) [.int .i64 ((rd_T83 l0_1 x4_1).f0),.slice Ao26 t310.length co26] (fun _ => True) (fun k_ => some k_ = (.slice Ao26 t310.length co26 : Value).ownBlock) rfl rfl ?aP (fun k_ hk_ => ((Kd.R_mono (ok' := fun k_ => ((fun _ => True)) k_ ∧ some k_ ≠ (u308001 : Value).ownBlock) (Kd.R_apart' (HO312.out) (Kd.S_typed HO_308001.out) (by decide)) (fun k_ hk => ⟨trivial,hk.2⟩))).1 k_ hk_.symm) ?aF ?aO ?aB ?aS ?aL ?_
       (case aP => exact k83_mkM _ _ _ (⟨(rd_T83 l0_1 x4_1).f0,t310⟩ : S83) (Kd.R_mono (Kd.R_tight rfl (Kd.R_mono (ok' := fun k_ => ((fun _ => True)) k_ ∧ some k_ ≠ (u308001 : Value).ownBlock) (Kd.R_apart' (HO312.out) (Kd.S_typed HO_308001.out) (by decide)) (fun k_ hk => ⟨trivial,hk.2⟩))) (fun _ h_ => h_)))
       (case aB => exact b_)
       (case aF => exact (fun _ _ => trivial))
       (case aO => exact (by (with_reducible repeat (first|apply Kd.S_alloc|apply Kd.S_drewN|apply Kd.S_drew));exact Kd.S_mono HO_308001.out (fun k_ hk => ⟨trivial,fun e_ => hk.2 e_⟩)))
       (case aS => exact (below_size b_))
       (case aL => have := LMc20.out;omega)
       intro v314 w27 ho hb hg hat
       rw [← Ny313.out] at ho
       replace HO_308003 := ak (Kd.R_over' (by (with_reducible repeat (first|apply Kd.R_alloc|apply Kd.R_drewN|apply Kd.R_drew));exact HO_308003.out) (Kd.S_typed (by (with_reducible repeat (first|apply Kd.S_alloc|apply Kd.S_drewN|apply Kd.S_drew));exact HO_308001.out)) (by decide) hg)
       replace BK299 := ak (blk_grown (kb_ BK299) hg (Kd.S_ne HO_308001.out BK299.out (by decide)))
       replace BK300 := ak (blk_grown (kb_ BK300) hg (Kd.S_ne HO_308001.out BK300.out (by decide)))
       replace BK307 := ak (blk_grown (kb_ BK307) hg (Kd.S_ne HO_308001.out BK307.out (by decide)))
       replace HB := ak (hb)
       have HO315 := ak (ho)
       clear HO_308001 HO312
       clear ho hb hg hat
       obtain ⟨Ao28,co28,eo28⟩ := Kd.S_slice HO315.out
       (first|subst eo28|(injection eo28 with f1_ f2_ f3_;have f4_ := f1_.symm;have f5_ := f3_.symm;clear f1_ f2_ f3_;subst f4_;subst f5_))
       refine hK.out _ _ hh_ (fun hHeld => ?_)
       clear hK K
       refine nr_ (some 37) _ ?_
       refine pv_ 18 38 ?_
       refine last_ (i := 19) (N := none) #[true,true,true,true,true,true,true,true,true,true,true,true,true,true,true,true,true,true,true,true] rfl rfl (one_of HT_.out (by kernel_rfl)) (by decide) (fun K hK => ?_)
       have hs29 : w27.cell? ⟨gb307,1,none⟩ = some (u308001) := (blk_cell BK307.out 1).trans rfl
       have hfs29 := blk_frozen BK307.out 1
       have hns29_0 := NB299_307.out
       have hns29_1 := NB300_307.out
       have hms29_0 := NB307_299.out
       have hms29_1 := NB307_300.out
       refine skip_ (w1 := ?_) (by rfl) rfl ?_ ?_
       rotate_left
       ·go_simp
        rfl
       refine hK.out _ _ ?_
       clear hK K
       refine done_ (done_of HT_.out (by kernel_rfl)) ?_
       try go_wp2
       go_roundg k1
       case measure => have := HK1.out;omega
       case rel => exact ⟨(wrap64 (x4_1 + 1)),(y313),(.slice Ao28 y313.length co28),rs_,H',⟨by have := HK1.out;omega⟩,⟨by (with_reducible repeat (first|apply Kd.S_alloc|apply Kd.S_drewN|apply Kd.S_drew));exact Kd.S_mono (Kd.S_far (p := ⟨gb307,1,none⟩) (Kd.S_types HO315.out BK307.out (by decide)) (fun _ hk => hk.2) (.slice Ao28 y313.length co28)) (fun _ hk => trivial)⟩,⟨by (with_reducible repeat (first|apply Kd.R_alloc|apply Kd.R_drewN|apply Kd.R_drew));exact Kd.R_mono (Kd.R_far (p := ⟨gb307,1,none⟩) (Kd.R_types HO_308003.out BK307.out (by decide)) (fun _ hk => hk.2) (.slice Ao28 y313.length co28)) (fun _ hk => trivial)⟩,⟨kf_ BK299⟩,⟨kf_ BK300⟩,⟨by (with_reducible repeat (first|refine blk_drewN ?_ _|refine blk_drew ?_|refine blk_alloc ?_ _));refine blk_put (cs := #[.bool a0_0,u308001,.slice none 0 0,.slice Ao12 y304.length co12]) ?_ 1 _ rfl;(with_reducible repeat (first|refine blk_drewN ?_ _|refine blk_drew ?_|refine blk_alloc ?_ _));exact BK307.out⟩,⟨b_⟩⟩
      ·rw [if_neg c20] at H
       exact absurd H (by simp)
     ·rw [if_neg c18] at H
      exact absurd H (by simp)
    ·rw [if_neg c17] at H
     have c17b0 : decide (x4_1 < (l0_1.length : Int)) = false := decide_eq_false c17
     clear c17
     have H' := ak H
     clear H
     have hnb30 := NB299_300.out
     have hnc30 := NB300_299.out
     have hnb31 := NB299_307.out
     have hnc31 := NB307_299.out
     obtain ⟨⟨hcz32_0,hcz32_1,hcz32_2,hcz32_3⟩,hfz32_0,hfz32_1,hfz32_2,hfz32_3⟩ := cl4_ BK299.out
     go_wp2
     go_loopg [5] k1 (fun kq v5 w' => ∃ (x5_2 : Int) (x308002_2 : List (S50)) (u308002 : Value),v5 = .int .i64 x5_2 ∧ Aside0 (spec_l6Copy.l1 kq x5_2 a0_0 l0_1 l0_2 l0_3 a0_0 x308001_1 x308002_2 y304 = some (r1,r2,r3,r4)) ∧ Aside0 (kq ≤ k1) ∧ Aside0 (Kd.S k83 83 w' w.heap.size (fun _ => True) u308001 x308001_1) ∧ Aside0 (Kd.S k50 50 w' w.heap.size (fun _ => True) u308002 x308002_2) ∧ Aside0 (Kd.R (Kd.int .i64) 2 w' w.heap.size (fun _ => True) (.slice Ao12 y304.length co12) y304) ∧ Aside0 (w'.heap[gb299]? = some (.cells #[.bool a0_0,(.slice A0_1 l0_1.length c0_1),(.slice A0_2 l0_2.length c0_2),(.slice A0_3 l0_3.length c0_3)] 31 (0,0))) ∧ Aside0 (w'.heap[gb300]? = some (.cells #[.bool false,(.slice none 0 0),(.slice none 0 0),(.slice none 0 0)] 31 (0,0))) ∧ Aside0 (w'.heap[gb307]? = some (.cells #[.bool a0_0,u308001,u308002,(.slice Ao12 y304.length co12)] 31 (0,0))) ∧ Aside0 (Below w.heap.size w w'))
     case atStart => exact ⟨(0),(([] : List (S50))),(.slice none 0 0),rs_,H',⟨Nat.le_refl _⟩,⟨by (with_reducible repeat (first|apply Kd.S_alloc|apply Kd.S_drewN|apply Kd.S_drew));exact HO_308001.out⟩,⟨by first|exact Kd.S_nil _ _ _ _ _|exact Kd.N_nil _ _ _ _ _|exact Kd.V_nil _ _ _ _ _|exact Kd.Q_nil _ _ _ _ _|exact Kd.R_nil _ _ _ _ _⟩,⟨by (with_reducible repeat (first|apply Kd.R_alloc|apply Kd.R_drewN|apply Kd.R_drew));exact HO_308003.out⟩,⟨kb_ BK299⟩,⟨kb_ BK300⟩,⟨kb_ BK307⟩,⟨b_⟩⟩
     case round =>
      clear H'
      try clear c1
      try clear c2
      try clear p2
      try clear c3
      try clear p3
      try clear q3
      try clear hx3
      try clear c6
      try clear p6
      try clear c17
      try clear c17b0
      try clear c18
      try clear c18b0
      try clear c20
      try clear c21
      try clear c22
      try clear c30
      try clear p30
      try clear q30
      try clear hx30
      try clear c31
      try clear hcz23_0 hcz23_1 hcz23_2 hcz23_3
      try clear hcz32_0 hcz32_1 hcz32_2 hcz32_3
      try clear hfz23_0 hfz23_1 hfz23_2 hfz23_3
      try clear hfz32_0 hfz32_1 hfz32_2 hfz32_3
      try clear hx308_0
      try clear hx308_1
      try clear hx309_0
      try clear hx309_1
      try clear p2
      try clear p308
      try clear p309
      try clear q308
      try clear q309
      obtain ⟨x5_2,x308002_2,u308002,rfl,HA,HK2,HO_308001,HO_308002,HO_308003,BK299,BK300,BK307,HB⟩ := hrel
      cases gk with
      | zero => exact absurd HA.out (by simp [spec_l6Copy.l1])
      | succ k2 =>
       have H := HA.out
       clear HA
       simp only [spec_l6Copy.l1] at H
       by_cases c33 : x5_2 < (l0_2.length : Int)
       ·rw [if_pos c33] at H
        have c33b0 : decide (x5_2 < (l0_2.length : Int)) = true := decide_eq_true c33
        clear c33
        by_cases c34 : 0 ≤ x5_2
        ·rw [if_pos c34] at H
         have c34b0 : decide (0 ≤ x5_2) = true := decide_eq_true c34
         clear c34
         replace H := Option.bind_eq_some_iff.mp H
         obtain ⟨⟨t317,t318,t319,t320⟩,A350,H⟩ := H
         replace H : (if x308002_2.length < 2932031007402 then (spec_l6Copy.l1 k2 (wrap64 (x5_2 + 1)) a0_0 l0_1 l0_2 l0_3 a0_0 x308001_1 (x308002_2 ++ [(⟨t317,t318,t319,t320⟩ : S50)]) y304) else (none)) = some (r1,r2,r3,r4) := H
         have A35 := ak A350
         clear A350
         by_cases c36 : x308002_2.length < 2932031007402
         ·rw [if_pos c36] at H
          have LMc36 := ak c36
          clear c36
          obtain ⟨y323,hy323⟩ : ∃ y_ : List (S50),y_ = (x308002_2 ++ [(⟨t317,t318,t319,t320⟩ : S50)]) := ⟨_,rfl⟩
          replace H : (spec_l6Copy.l1 k2 (wrap64 (x5_2 + 1)) a0_0 l0_1 l0_2 l0_3 a0_0 x308001_1 y323 y304) = some (r1,r2,r3,r4) := by first|(rw [hy323];with_reducible exact H)|(have H2_ := (Option.bind_some _ _).symm.trans H;rw [hy323];with_reducible exact H2_)|(have H2_ := (Option.bind_some _ _).symm.trans H;with_reducible exact H2_)|with_reducible exact H|(rw [hy323];exact H)|exact H
          have Ny323 := ak hy323
          clear hy323
          have H' := ak H
          clear H
          have hnb37 := NB299_300.out
          have hnc37 := NB300_299.out
          have hnb38 := NB299_307.out
          have hnc38 := NB307_299.out
          obtain ⟨⟨hcz39_0,hcz39_1,hcz39_2,hcz39_3⟩,hfz39_0,hfz39_1,hfz39_2,hfz39_3⟩ := cl4_ BK299.out
          try go_wp2
          replace HO_308001 := ak (Kd.S_drew HO_308001.out)
          replace HO_308002 := ak (Kd.S_drew HO_308002.out)
          replace HO_308003 := ak (Kd.R_drew HO_308003.out)
          replace BK299 := ak (blk_drew BK299.out)
          replace BK300 := ak (blk_drew BK300.out)
          replace BK307 := ak (blk_drew BK307.out)
          replace HB := ak (below_drew1 HB.out)
          have p316 : 0 ≤ (x5_2 : Int) := od_
          have q316 : x5_2 < (l0_2.length : Int) := od_
          obtain ⟨ad316,A316_3,c316_3,e316,hx316_0,hx316_1,hx316_2,hx316_3,hl316_3,hi316_3⟩ := at_T50 HR0_2.out x5_2 p316 q316
          have hw316_3 := hx316_3
          have hw316_2 := hx316_2
          have hw316_1 := hx316_1
          have hw316_0 := hx316_0
          cases e316
          replace hx316_0 := hx_ HB hx316_0
          replace hx316_1 := hx_ HB hx316_1
          replace hx316_2 := hx_ HB hx316_2
          replace hx316_3 := hx_ HB hx316_3
          have HR316_3 := ak hi316_3
          have HC316_3 := ak hl316_3
          clear hi316_3 hl316_3
          replace p316 := eq_true p316
          replace q316 := eq_true q316
          refine std_ 12 (S := fun w' => hc4 w' gb307 (.bool a0_0) (u308001) (u308002) (.slice Ao12 y304.length co12) (hc4 w' gb299 (.bool a0_0) (.slice A0_1 l0_1.length c0_1) (.slice (some ad316) l0_2.length c0_2) (.slice A0_3 l0_3.length c0_3) (hf4 w' (ad316.add ((x5_2).toNat * 4)) (.int .i64 ((rd_T50 l0_2 x5_2).f0)) (.int .i64 ((rd_T50 l0_2 x5_2).f1)) (.int .i64 ((rd_T50 l0_2 x5_2).f2)) (.slice A316_3 ((rd_T50 l0_2 x5_2).f3).length c316_3)))) (ds := [11]) hh_ (fun hHeld => ?_);refine with_tabW spec_l6Copy.tab9 spec_l6Copy.bits9 (fun HT_ HW_ => ?_)
          generalize wr.drew = w40 at HO_308001 HO_308002 HO_308003 BK299 BK300 BK307 HB HR316_3 hx316_0 hx316_1 hx316_2 hx316_3 hHeld ⊢
          refine pv_ 0 46 ?_
          refine pv_ 2 48 ?_
          refine pv_ 4 50 ?_
          refine tx_ 1 47 hHeld ?_
          refine tx_ 3 49 hHeld ?_
          refine pv_ 5 51 ?_
          refine tx_ 6 52 hHeld ?_
          refine oy_ 7 53 (fun K hK => ?_)
          refine gs_ Tryz.func68 #[.agg #[.int .i64 ((rd_T50 l0_2 x5_2).f0),.int .i64 ((rd_T50 l0_2 x5_2).f1),.int .i64 ((rd_T50 l0_2 x5_2).f2),.slice A316_3 ((rd_T50 l0_2 x5_2).f3).length c316_3]] ?_
          with_reducible refine (spec_l6Record.calls ((rd_T50 l0_2 x5_2).f0) ((rd_T50 l0_2 x5_2).f1) ((rd_T50 l0_2 x5_2).f2) _ _ ((rd_T50 l0_2 x5_2).f3) t317 t318 t319 t320 _ ?side1 ?side2 A35.out).mono ?_
          (case side1 => exact cb_ HR316_3)
          (case side2 => exact HC316_3.out)
          rintro e w41 ⟨v321,rfl,ho0,hb⟩
          refine ⟨_,rfl,?_⟩
          replace HO_308001 := ak (Kd.S_below (by (with_reducible repeat (first|apply Kd.S_alloc|apply Kd.S_drewN|apply Kd.S_drew));exact HO_308001.out) hb)
          replace HO_308002 := ak (Kd.S_elder' (by (with_reducible repeat (first|apply Kd.S_alloc|apply Kd.S_drewN|apply Kd.S_drew));exact HO_308002.out) (Kd.R_base ho0) hb)
          replace HO_308003 := ak (Kd.R_below (by (with_reducible repeat (first|apply Kd.R_alloc|apply Kd.R_drewN|apply Kd.R_drew));exact HO_308003.out) hb)
          replace BK299 := ak (blk_below (kb_ BK299) hb)
          replace BK300 := ak (blk_below (kb_ BK300) hb)
          replace BK307 := ak (blk_below (kb_ BK307) hb)
          have HO322 := ak (Kd.R_lower ho0 (below_size b_))
          replace HB := ak (below_step b_ hb)
          (try clear hb)
          (try clear hb2)
          (try clear hk)
          (try clear hi)
          (try clear ho0)
          obtain ⟨Ao43,co43,eo43⟩ := Kd.R_slice HO322.out
          (first|subst eo43|(injection eo43 with f1_ f2_ f3_;have f4_ := f1_.symm;have f5_ := f3_.symm;clear f1_ f2_ f3_;subst f4_;subst f5_))
          refine hK.out _ _ hh_ (fun hHeld => ?_)
          clear hK K
          refine nr_ (some 53) _ ?_
          refine oy_ 8 54 (fun K hK => ?_)
          refine value_ (w1 := ?_) (v := ?_) (by rfl) rfl ?_ ?_
          rotate_left 2
          ·go_simp
           constructor
           ·rfl
           ·rfl
          refine hK.out _ _ ⟨(blk_cell (blk_alloc BK307.out _) 0).trans rfl,(blk_cell (blk_alloc BK307.out _) 1).trans rfl,(blk_cell (blk_alloc BK307.out _) 2).trans rfl,(blk_cell (blk_alloc BK307.out _) 3).trans rfl,(blk_cell (blk_alloc BK299.out _) 0).trans rfl,(blk_cell (blk_alloc BK299.out _) 1).trans rfl,(blk_cell (blk_alloc BK299.out _) 2).trans rfl,(blk_cell (blk_alloc BK299.out _) 3).trans rfl,(World.cell?_alloc_lt _ _ _ (World.block_lt_of_cell? _ _ ((hx_ HB hw316_0)))).trans ((hx_ HB hw316_0)),(World.cell?_alloc_lt _ _ _ (World.block_lt_of_cell? _ _ ((hx_ HB hw316_1)))).trans ((hx_ HB hw316_1)),(World.cell?_alloc_lt _ _ _ (World.block_lt_of_cell? _ _ ((hx_ HB hw316_2)))).trans ((hx_ HB hw316_2)),(World.cell?_alloc_lt _ _ _ (World.block_lt_of_cell? _ _ ((hx_ HB hw316_3)))).trans ((hx_ HB hw316_3))⟩ (fun hHeld => ?_)
          clear hK K
          refine nr_ (some 54) _ ?_
          refine oy_ 9 55 (fun K hK => ?_)
          refine Kd.S_append_step k50 (w0 := w) w.heap.size (by rfl) (.tmp 47) (.tmp 54) 29 50 (.agg #[(.int .i64 0),(.int .i64 0),(.int .i64 0),(.slice none 0 0)]) 48 rfl Tryz.underlying29 info50 rfl (by decide) (by omega) u308002 x308002_2 (⟨t317,t318,t319,t320⟩ : S50) [.int .i64 t317,.int .i64 t318,.int .i64 t319,.slice Ao43 t320.length co43] (fun _ => True) (fun k_ => some k_ = (.slice Ao43 t320.length co43 : Value).ownBlock) rfl rfl ?aP (fun k_ hk_ => ((Kd.R_mono (ok' := fun k_ => ((fun _ => True)) k_ ∧ some k_ ≠ (u308002 : Value).ownBlock) (Kd.R_apart' (HO322.out) (Kd.S_typed HO_308002.out) (by decide)) (fun k_ hk => ⟨trivial,hk.2⟩))).1 k_ hk_.symm) ?aF ?aO ?aB ?aS ?aL ?_
          (case aP => exact k50_mkM _ _ _ (⟨t317,t318,t319,t320⟩ : S50) (Kd.R_mono (Kd.R_tight rfl (Kd.R_mono (ok' := fun k_ => ((fun _ => True)) k_ ∧ some k_ ≠ (u308002 : Value).ownBlock) (Kd.R_apart' (HO322.out) (Kd.S_typed HO_308002.out) (by decide)) (fun k_ hk => ⟨trivial,hk.2⟩))) (fun _ h_ => h_)))
          (case aB => exact b_)
          (case aF => exact (fun _ _ => trivial))
          (case aO => exact (by (with_reducible repeat (first|apply Kd.S_alloc|apply Kd.S_drewN|apply Kd.S_drew));exact Kd.S_mono HO_308002.out (fun k_ hk => ⟨trivial,fun e_ => hk.2 e_⟩)))
          (case aS => exact (below_size b_))
          (case aL => have := LMc36.out;omega)
          intro v324 w42 ho hb hg hat
          rw [← Ny323.out] at ho
          replace HO_308001 := ak (Kd.S_over' (by (with_reducible repeat (first|apply Kd.S_alloc|apply Kd.S_drewN|apply Kd.S_drew));exact HO_308001.out) (Kd.S_typed (by (with_reducible repeat (first|apply Kd.S_alloc|apply Kd.S_drewN|apply Kd.S_drew));exact HO_308002.out)) (by decide) hg)
          replace HO_308003 := ak (Kd.R_over' (by (with_reducible repeat (first|apply Kd.R_alloc|apply Kd.R_drewN|apply Kd.R_drew));exact HO_308003.out) (Kd.S_typed (by (with_reducible repeat (first|apply Kd.S_alloc|apply Kd.S_drewN|apply Kd.S_drew));exact HO_308002.out)) (by decide) hg)
          replace BK299 := ak (blk_grown (kb_ BK299) hg (Kd.S_ne HO_308002.out BK299.out (by decide)))
          replace BK300 := ak (blk_grown (kb_ BK300) hg (Kd.S_ne HO_308002.out BK300.out (by decide)))
          replace BK307 := ak (blk_grown (kb_ BK307) hg (Kd.S_ne HO_308002.out BK307.out (by decide)))
          replace HB := ak (hb)
          have HO325 := ak (ho)
          clear HO_308002 HO322
          clear ho hb hg hat
          obtain ⟨Ao44,co44,eo44⟩ := Kd.S_slice HO325.out
          (first|subst eo44|(injection eo44 with f1_ f2_ f3_;have f4_ := f1_.symm;have f5_ := f3_.symm;clear f1_ f2_ f3_;subst f4_;subst f5_))
          refine hK.out _ _ hh_ (fun hHeld => ?_)
          clear hK K
          refine nr_ (some 55) _ ?_
          refine pv_ 10 56 ?_
          refine last_ (i := 11) (N := none) #[true,true,true,true,true,true,true,true,true,true,true,true] rfl rfl (one_of HT_.out (by kernel_rfl)) (by decide) (fun K hK => ?_)
          have hs45 : w42.cell? ⟨gb307,2,none⟩ = some (u308002) := (blk_cell BK307.out 2).trans rfl
          have hfs45 := blk_frozen BK307.out 2
          have hns45_0 := NB299_307.out
          have hns45_1 := NB300_307.out
          have hms45_0 := NB307_299.out
          have hms45_1 := NB307_300.out
          refine skip_ (w1 := ?_) (by rfl) rfl ?_ ?_
          rotate_left
          ·go_simp
           rfl
          refine hK.out _ _ ?_
          clear hK K
          refine done_ (done_of HT_.out (by kernel_rfl)) ?_
          try go_wp2
          go_roundg k2
          case measure => have := HK1.out;have := HK2.out;omega
          case rel => exact ⟨(wrap64 (x5_2 + 1)),(y323),(.slice Ao44 y323.length co44),rs_,H',⟨by have := HK1.out;have := HK2.out;omega⟩,⟨by (with_reducible repeat (first|apply Kd.S_alloc|apply Kd.S_drewN|apply Kd.S_drew));exact Kd.S_mono (Kd.S_far (p := ⟨gb307,2,none⟩) (Kd.S_types HO_308001.out BK307.out (by decide)) (fun _ hk => hk.2) (.slice Ao44 y323.length co44)) (fun _ hk => trivial)⟩,⟨by (with_reducible repeat (first|apply Kd.S_alloc|apply Kd.S_drewN|apply Kd.S_drew));exact Kd.S_mono (Kd.S_far (p := ⟨gb307,2,none⟩) (Kd.S_types HO325.out BK307.out (by decide)) (fun _ hk => hk.2) (.slice Ao44 y323.length co44)) (fun _ hk => trivial)⟩,⟨by (with_reducible repeat (first|apply Kd.R_alloc|apply Kd.R_drewN|apply Kd.R_drew));exact Kd.R_mono (Kd.R_far (p := ⟨gb307,2,none⟩) (Kd.R_types HO_308003.out BK307.out (by decide)) (fun _ hk => hk.2) (.slice Ao44 y323.length co44)) (fun _ hk => trivial)⟩,⟨kf_ BK299⟩,⟨kf_ BK300⟩,⟨by (with_reducible repeat (first|refine blk_drewN ?_ _|refine blk_drew ?_|refine blk_alloc ?_ _));refine blk_put (cs := #[.bool a0_0,u308001,u308002,.slice Ao12 y304.length co12]) ?_ 2 _ rfl;(with_reducible repeat (first|refine blk_drewN ?_ _|refine blk_drew ?_|refine blk_alloc ?_ _));exact BK307.out⟩,⟨b_⟩⟩
         ·rw [if_neg c36] at H
          exact absurd H (by simp)
        ·rw [if_neg c34] at H
         exact absurd H (by simp)
       ·rw [if_neg c33] at H
        have c33b0 : decide (x5_2 < (l0_2.length : Int)) = false := decide_eq_false c33
        clear c33
        simp only [Option.some.injEq,Prod.mk.injEq] at H
        obtain ⟨rfl,rfl,rfl,rfl⟩ := H
        have hnb46 := NB299_300.out
        have hnc46 := NB300_299.out
        have hnb47 := NB299_307.out
        have hnc47 := NB307_299.out
        obtain ⟨⟨hcz48_0,hcz48_1,hcz48_2,hcz48_3⟩,hfz48_0,hfz48_1,hfz48_2,hfz48_3⟩ := cl4_ BK299.out
        have hnb49 := NB307_300.out
        have hnc49 := NB300_307.out
        obtain ⟨⟨hcz50_0,hcz50_1,hcz50_2,hcz50_3⟩,hfz50_0,hfz50_1,hfz50_2,hfz50_3⟩ := cl4_ BK307.out
        obtain ⟨⟨hcz51_0,hcz51_1,hcz51_2,hcz51_3⟩,hfz51_0,hfz51_1,hfz51_2,hfz51_3⟩ := cl4_ BK300.out
        obtain ⟨Ao52,co52,eo52⟩ := Kd.S_slice HO_308001.out
        subst eo52
        obtain ⟨Ao53,co53,eo53⟩ := Kd.S_slice HO_308002.out
        subst eo53
        go_wp2
        refine bodyPost_ret (results_cell_row rfl _ _ gb300 31 #[.bool a0_0,.slice Ao52 x308001_1.length co52,.slice Ao53 x308002_2.length co53,.slice Ao12 y304.length co12] (0,0) _ rfl (pt4_ (kb_ BK300) _ _ _ _) Tryz.underlying31 rfl (by kernel_rfl)) rfl ?_
        exact ⟨_,_,_,rf_,by (with_reducible repeat (first|apply Kd.S_alloc|apply Kd.S_drewN|apply Kd.S_drew));exact Kd.S_mono (Kd.S_far (p := ⟨gb300,3,none⟩) (Kd.S_far (p := ⟨gb300,2,none⟩) (Kd.S_far (p := ⟨gb300,1,none⟩) (Kd.S_far (p := ⟨gb300,0,none⟩) (Kd.S_types HO_308001.out BK300.out (by decide)) (fun _ hk => hk.2) (.bool a0_0)) (fun _ hk => hk.2) (.slice Ao52 x308001_1.length co52)) (fun _ hk => hk.2) (.slice Ao53 x308002_2.length co53)) (fun _ hk => hk.2) (.slice Ao12 y304.length co12)) (fun _ hk => trivial),by (with_reducible repeat (first|apply Kd.S_alloc|apply Kd.S_drewN|apply Kd.S_drew));exact Kd.S_mono (Kd.S_far (p := ⟨gb300,3,none⟩) (Kd.S_far (p := ⟨gb300,2,none⟩) (Kd.S_far (p := ⟨gb300,1,none⟩) (Kd.S_far (p := ⟨gb300,0,none⟩) (Kd.S_types HO_308002.out BK300.out (by decide)) (fun _ hk => hk.2) (.bool a0_0)) (fun _ hk => hk.2) (.slice Ao52 x308001_1.length co52)) (fun _ hk => hk.2) (.slice Ao53 x308002_2.length co53)) (fun _ hk => hk.2) (.slice Ao12 y304.length co12)) (fun _ hk => trivial),by (with_reducible repeat (first|apply Kd.R_alloc|apply Kd.R_drewN|apply Kd.R_drew));exact Kd.R_mono (Kd.R_far (p := ⟨gb300,3,none⟩) (Kd.R_far (p := ⟨gb300,2,none⟩) (Kd.R_far (p := ⟨gb300,1,none⟩) (Kd.R_far (p := ⟨gb300,0,none⟩) (Kd.R_types HO_308003.out BK300.out (by decide)) (fun _ hk => hk.2) (.bool a0_0)) (fun _ hk => hk.2) (.slice Ao52 x308001_1.length co52)) (fun _ hk => hk.2) (.slice Ao53 x308002_2.length co53)) (fun _ hk => hk.2) (.slice Ao12 y304.length co12)) (fun _ hk => trivial),b_⟩
 ·rw [if_neg c2] at H
  exact absurd H (by simp)

/-! ### spec_l6At: function 108 -/
def spec_l6At.l0 : Nat → Int → Int → Bool → List (S83) → List (S50) → List Int → Option (Int)
  | 0, _, _, _, _, _, _ => none
  | k + 1, x1, x5, x327000, x327001, x327002, x327003 => if x5 < (x327001.length : Int) then (if 0 ≤ x5 then (if ((rd_T83 x327001 x5).f0) = x1 then (some x5) else (spec_l6At.l0 k x1 (wrap64 (x5 + 1)) x327000 x327001 x327002 x327003)) else (none)) else (some (-1))
def spec_l6At.f (k : Nat) (a0_0 : Bool) (l0_1 : List (S83)) (l0_2 : List (S50)) (l0_3 : List Int) (a1 : Int) : Option (Int) := spec_l6At.l0 k a1 0 a0_0 l0_1 l0_2 l0_3

theorem spec_l6At.calls (k : Nat) (a0_0 : Bool) (A0_1 : Option Addr) (c0_1 : Nat) (l0_1 : List (S83)) (A0_2 : Option Addr) (c0_2 : Nat) (l0_2 : List (S50)) (A0_3 : Option Addr) (c0_3 : Nat) (l0_3 : List Int) (a1 : Int) (r : Int) (w : World) (hr0_1 : Kd.C k83 w A0_1 l0_1.length l0_1) (hc0_1 : l0_1.length ≤ c0_1) (hr0_2 : Kd.C k50 w A0_2 l0_2.length l0_2) (hc0_2 : l0_2.length ≤ c0_2) (hr0_3 : Kd.C (Kd.int .i64) w A0_3 l0_3.length l0_3) (hc0_3 : l0_3.length ≤ c0_3) (h : spec_l6At.f k a0_0 l0_1 l0_2 l0_3 a1 = some r) :
    Calls Tryz.prog 108 #[.agg #[.bool a0_0, .slice A0_1 l0_1.length c0_1, .slice A0_2 l0_2.length c0_2, .slice A0_3 l0_3.length c0_3], .int .i64 a1] w fun e w' => e = .returned (.int .i64 r) ∧ Below w.heap.size w w' := by
 have hu31 := Tryz.underlying31
 have HR0_1 := ak hr0_1
 have HC0_1 := ak hc0_1
 clear hr0_1 hc0_1
 have HR0_2 := ak hr0_2
 have HC0_2 := ak hc0_2
 clear hr0_2 hc0_2
 have HR0_3 := ak hr0_3
 have HC0_3 := ak hc0_3
 clear hr0_3 hc0_3
 have HB := ak (Below.refl w.heap.size w)
 have H : (spec_l6At.l0 k a1 0 a0_0 l0_1 l0_2 l0_3) = some r := h
 clear h
 have H' := ak H
 clear H
 go_enter Tryz.func108,Tryz.ntmps108
 go_wp2_with (first|((with_reducible refine gate_dst (N := 2) rfl ?_);refine bx_ 2 #[.bool a0_0,.slice A0_1 l0_1.length c0_1,.slice A0_2 l0_2.length c0_2,.slice A0_3 l0_3.length c0_3] 31 ?_;intro gb326 hg w3 hbox hb;replace HB := nb_ hg hbox hb;obtain ⟨BK326,GW326,GE326,HB⟩ := HB;clear hb hbox hg))
 go_loopg [5] k (fun kq v5 w' => ∃ (x5_1 : Int),v5 = .int .i64 x5_1 ∧ Aside0 (spec_l6At.l0 kq a1 x5_1 a0_0 l0_1 l0_2 l0_3 = some r) ∧ Aside0 (kq ≤ k) ∧ Aside0 (w'.heap[gb326]? = some (.cells #[.bool a0_0,(.slice A0_1 l0_1.length c0_1),(.slice A0_2 l0_2.length c0_2),(.slice A0_3 l0_3.length c0_3)] 31 (0,0))) ∧ Aside0 (Below w.heap.size w w'))
 case atStart => exact ⟨(0),rs_,H',⟨Nat.le_refl _⟩,⟨kb_ BK326⟩,⟨b_⟩⟩
 case round =>
  clear H'
  try clear c1
  try clear p2
  obtain ⟨x5_1,rfl,HA,HK1,BK326,HB⟩ := hrel
  cases gk with
    | zero => exact absurd HA.out (by simp [spec_l6At.l0])
    | succ k1 =>
   have H := HA.out
   clear HA
   simp only [spec_l6At.l0] at H
   by_cases c4 : x5_1 < (l0_1.length : Int)
   ·rw [if_pos c4] at H
    have c4b0 : decide (x5_1 < (l0_1.length : Int)) = true := decide_eq_true c4
    clear c4
    by_cases c5 : 0 ≤ x5_1
    ·rw [if_pos c5] at H
     have c5b0 : decide (0 ≤ x5_1) = true := decide_eq_true c5
     clear c5
     by_cases c6 : ((rd_T83 l0_1 x5_1).f0) = a1
     ·rw [if_pos c6] at H
      have c6b0 : (((rd_T83 l0_1 x5_1).f0) == a1) = true := beq_iff_eq.mpr c6
      have c6b1 : (((rd_T83 l0_1 x5_1).f0) != a1) = false := bne_eq_false_iff_eq.mpr c6
      clear c6
      obtain rfl := Option.some.inj H
      obtain ⟨⟨hcz7_0,hcz7_1,hcz7_2,hcz7_3⟩,hfz7_0,hfz7_1,hfz7_2,hfz7_3⟩ := cl4_ BK326.out
      have p327 : 0 ≤ (x5_1 : Int) := od_
      have q327 : x5_1 < (l0_1.length : Int) := od_
      obtain ⟨ad327,A327_1,c327_1,e327,hx327_0,hx327_1,hl327_1,hi327_1⟩ := at_T83 HR0_1.out x5_1 p327 q327
      cases e327
      replace hx327_0 := hx_ HB hx327_0
      replace hx327_1 := hx_ HB hx327_1
      have HR327_1 := ak hi327_1
      have HC327_1 := ak hl327_1
      clear hi327_1 hl327_1
      replace p327 := eq_true p327
      replace q327 := eq_true q327
      go_wp2
      go_ret
      exact ⟨rf_,b_⟩
     ·rw [if_neg c6] at H
      have c6b0 : (((rd_T83 l0_1 x5_1).f0) == a1) = false := beq_eq_false_iff_ne.mpr c6
      have c6b1 : (((rd_T83 l0_1 x5_1).f0) != a1) = true := bne_iff_ne.mpr c6
      have H' := ak H
      clear H
      obtain ⟨⟨hcz8_0,hcz8_1,hcz8_2,hcz8_3⟩,hfz8_0,hfz8_1,hfz8_2,hfz8_3⟩ := cl4_ BK326.out
      have p327 : 0 ≤ (x5_1 : Int) := od_
      have q327 : x5_1 < (l0_1.length : Int) := od_
      obtain ⟨ad327,A327_1,c327_1,e327,hx327_0,hx327_1,hl327_1,hi327_1⟩ := at_T83 HR0_1.out x5_1 p327 q327
      cases e327
      replace hx327_0 := hx_ HB hx327_0
      replace hx327_1 := hx_ HB hx327_1
      have HR327_1 := ak hi327_1
      have HC327_1 := ak hl327_1
      clear hi327_1 hl327_1
      replace p327 := eq_true p327
      replace q327 := eq_true q327
      go_wp2
      go_roundg k1
      case measure => have := HK1.out;omega
      case rel => exact ⟨(wrap64 (x5_1 + 1)),rs_,H',⟨by have := HK1.out;omega⟩,⟨kb_ BK326⟩,⟨b_⟩⟩
    ·rw [if_neg c5] at H
     exact absurd H (by simp)
   ·rw [if_neg c4] at H
    have c4b0 : decide (x5_1 < (l0_1.length : Int)) = false := decide_eq_false c4
    clear c4
    obtain rfl := Option.some.inj H
    obtain ⟨⟨hcz9_0,hcz9_1,hcz9_2,hcz9_3⟩,hfz9_0,hfz9_1,hfz9_2,hfz9_3⟩ := cl4_ BK326.out
    go_wp2
    go_ret
    exact ⟨rf_,b_⟩

end Go.Proofs.YthplaakckfhaaaaGreat.XMs
