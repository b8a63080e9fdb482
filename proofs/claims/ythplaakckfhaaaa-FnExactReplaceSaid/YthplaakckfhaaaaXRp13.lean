/- Proved: of each Go function here that a call comes to what the Lean function of its name tells. Written by a program of this session over the translation. No conditions beyond each theorem's own. -/
import Derived.Test.YthplaakckfhaaaaXRp0
import Derived.Test.YthplaakckfhaaaaXRp12
namespace Go.Proofs.Ythplaakckfhaaaa.XRp
open Go.RowKit Go.Proofs.Ythplaakckfhaaaa.Aid Go.Proofs.YthplaakckfhaaaaW.PrintWords Go.Proofs.YthplaakckfhaaaaW.PrintLast Go.Proofs.YthplaakckfhaaaaW.PrintMore
set_option linter.unusedVariables false
set_option linter.unusedSimpArgs false

/-! ### spec_l6Copy: function 73 -/
mutual
def spec_l6Copy.l0 : Nat → Int → Bool → List (S79) → List (S45) → List Int → Bool → List (S79) → List Int → Option (Bool × (List (S79)) × (List (S45)) × List Int)
  | 0, _, _, _, _, _, _, _, _ => none
  | k + 1, x4, x299000, x299001, x299002, x299003, x307000, x307001, x307003 => if x4 < (x299001.length : Int) then (if 0 ≤ x4 then ((spec_l3Copy.f ((rd_T79 x299001 x4).f1)).bind fun t309 => (if x307001.length < 4398046511104 then (spec_l6Copy.l0 k (wrap64 (x4 + 1)) x299000 x299001 x299002 x299003 x307000 (x307001 ++ [(⟨(rd_T79 x299001 x4).f0, t309⟩ : S79)]) x307003) else (none))) else (none)) else (spec_l6Copy.l1 k 0 x299000 x299001 x299002 x299003 x307000 x307001 ([] : List (S45)) x307003)
def spec_l6Copy.l1 : Nat → Int → Bool → List (S79) → List (S45) → List Int → Bool → List (S79) → List (S45) → List Int → Option (Bool × (List (S79)) × (List (S45)) × List Int)
  | 0, _, _, _, _, _, _, _, _, _ => none
  | k + 1, x5, x299000, x299001, x299002, x299003, x307000, x307001, x307002, x307003 => if x5 < (x299002.length : Int) then (if 0 ≤ x5 then ((spec_l6Record.f ((rd_T45 x299002 x5).f0) ((rd_T45 x299002 x5).f1) ((rd_T45 x299002 x5).f2) ((rd_T45 x299002 x5).f3)).bind fun bt316 => (if x307002.length < 2932031007402 then (spec_l6Copy.l1 k (wrap64 (x5 + 1)) x299000 x299001 x299002 x299003 x307000 x307001 (x307002 ++ [(⟨bt316.1, bt316.2.1, bt316.2.2.1, bt316.2.2.2⟩ : S45)]) x307003) else (none))) else (none)) else (some (x307000, x307001, x307002, x307003))
end
def spec_l6Copy.f (k : Nat) (a0_0 : Bool) (l0_1 : List (S79)) (l0_2 : List (S45)) (l0_3 : List Int) : Option (Bool × (List (S79)) × (List (S45)) × List Int) := (some (([] : List Int) : List Int)).bind fun y300 => (if y300.length + l0_3.length < 17592186044416 then (spec_l6Copy.l0 k 0 a0_0 l0_1 l0_2 l0_3 a0_0 ([] : List (S79)) (y300 ++ l0_3)) else (none))

def spec_l6Copy.T1 : Bool × List (List Nat × List Nat) := (true, [([], []), ([0], [0]), ([], []), ([], []), ([3], [3]), ([2, 4], [2, 4]), ([1, 5], [1, 5]), ([], []), ([7, 6, 5, 0, 1, 2, 3, 4, 5, 6, 7], [6, 7])])
def spec_l6Copy.B1 : List Nat := [0, 1, 0, 0, 8, 28, 63, 0, 255]
theorem spec_l6Copy.tab1 : rtab .any (opsOf Try.f73 1) = spec_l6Copy.T1 := by kernel_rfl
theorem spec_l6Copy.bits1 : waitsOk spec_l6Copy.T1.2 spec_l6Copy.B1 = true := by kernel_rfl
def spec_l6Copy.T5 : Bool × List (List Nat × List Nat) := (true, [([], []), ([0], [0]), ([], []), ([2], [2]), ([], []), ([3, 4], [3, 4]), ([5], [5]), ([6], [6]), ([], []), ([8], [8]), ([], []), ([9, 10], [9, 10]), ([11], [11]), ([12], [12]), ([13], [13]), ([7, 14], [7, 14]), ([15], [15]), ([1, 16, 14], [1, 16]), ([0, 1, 2, 3, 4, 5, 6, 7, 8, 9, 10, 11, 12, 13, 14, 15, 16, 17], []), ([18, 17, 17, 0, 1, 2, 3, 4, 5, 6, 7, 8, 9, 10, 11, 12, 13, 14, 15, 16, 17], [17, 18])])
def spec_l6Copy.B5 : List Nat := [0, 1, 0, 4, 0, 28, 60, 124, 0, 256, 0, 1792, 3840, 7936, 16128, 32764, 65532, 131071, 262143, 524287]
theorem spec_l6Copy.tab5 : rtab .any (opsOf Try.f73 5) = spec_l6Copy.T5 := by kernel_rfl
theorem spec_l6Copy.bits5 : waitsOk spec_l6Copy.T5.2 spec_l6Copy.B5 = true := by kernel_rfl
def spec_l6Copy.T9 : Bool × List (List Nat × List Nat) := (true, [([], []), ([0], [0]), ([], []), ([2], [2]), ([], []), ([3, 4], [3, 4]), ([5], [5]), ([6], [6]), ([7], [7]), ([1, 8, 7], [1, 8]), ([0, 1, 2, 3, 4, 5, 6, 7, 8, 9], []), ([10, 9, 9, 0, 1, 2, 3, 4, 5, 6, 7, 8, 9], [9, 10])])
def spec_l6Copy.B9 : List Nat := [0, 1, 0, 4, 0, 28, 60, 124, 252, 511, 1023, 2047]
theorem spec_l6Copy.tab9 : rtab .any (opsOf Try.f73 9) = spec_l6Copy.T9 := by kernel_rfl
theorem spec_l6Copy.bits9 : waitsOk spec_l6Copy.T9.2 spec_l6Copy.B9 = true := by kernel_rfl
set_option maxHeartbeats 8000000 in
set_option maxRecDepth 100000 in
theorem spec_l6Copy.calls (k : Nat) (a0_0 : Bool) (A0_1 : Option Addr) (c0_1 : Nat) (l0_1 : List (S79)) (A0_2 : Option Addr) (c0_2 : Nat) (l0_2 : List (S45)) (A0_3 : Option Addr) (c0_3 : Nat) (l0_3 : List Int) (r1 : Bool) (r2 : List (S79)) (r3 : List (S45)) (r4 : List Int) (w : World) (hr0_1 : Kd.C k79 w A0_1 l0_1.length l0_1) (hc0_1 : l0_1.length ≤ c0_1) (hr0_2 : Kd.C k45 w A0_2 l0_2.length l0_2) (hc0_2 : l0_2.length ≤ c0_2) (hr0_3 : Kd.C (Kd.int .i64) w A0_3 l0_3.length l0_3) (hc0_3 : l0_3.length ≤ c0_3) (h : spec_l6Copy.f k a0_0 l0_1 l0_2 l0_3 = some (r1, r2, r3, r4)) :
    Calls Try.prog 73 #[.agg #[.bool a0_0, .slice A0_1 l0_1.length c0_1, .slice A0_2 l0_2.length c0_2, .slice A0_3 l0_3.length c0_3]] w fun e w' => ∃ v1_ v2_ v3_ : Value, e = .returned (.agg #[.bool r1, v1_, v2_, v3_]) ∧ Kd.S k79 79 w' w.heap.size (fun _ => True) v1_ r2 ∧ Kd.S k45 45 w' w.heap.size (fun _ => True) v2_ r3 ∧ Kd.R (Kd.int .i64) 2 w' w.heap.size (fun _ => True) v3_ r4 ∧ Below w.heap.size w w' := by
 have hu32 := Try.underlying32
 have hu79 := Try.underlying79
 have hu45 := Try.underlying45
 have HR0_1 := Aside0.mk hr0_1
 have HC0_1 := Aside0.mk hc0_1
 clear hr0_1 hc0_1
 have HR0_2 := Aside0.mk hr0_2
 have HC0_2 := Aside0.mk hc0_2
 clear hr0_2 hc0_2
 have HR0_3 := Aside0.mk hr0_3
 have HC0_3 := Aside0.mk hc0_3
 clear hr0_3 hc0_3
 have HB := Aside0.mk (Below.refl w.heap.size w)
 have H : ((some (([] : List Int) : List Int)).bind fun y300 => (if y300.length + l0_3.length < 17592186044416 then (spec_l6Copy.l0 k 0 a0_0 l0_1 l0_2 l0_3 a0_0 ([] : List (S79)) (y300 ++ l0_3)) else (none))) = some (r1,r2,r3,r4) := h
 clear h
 obtain ⟨y300,hy300⟩ : ∃ y_ : List Int,y_ = (([] : List Int)) := ⟨_,rfl⟩
 replace H : (if y300.length + l0_3.length < 17592186044416 then (spec_l6Copy.l0 k 0 a0_0 l0_1 l0_2 l0_3 a0_0 ([] : List (S79)) (y300 ++ l0_3)) else (none)) = some (r1,r2,r3,r4) := by first|(rw [hy300];with_reducible exact H)|(have H2_ := (Option.bind_some _ _).symm.trans H;rw [hy300];with_reducible exact H2_)|(have H2_ := (Option.bind_some _ _).symm.trans H;with_reducible exact H2_)|with_reducible exact H|(rw [hy300];exact H)|exact H
 have Ny300 := Aside0.mk hy300
 clear hy300
 by_cases c2 : y300.length + l0_3.length < 17592186044416
 ·rw [if_pos c2] at H
  have LMc2 := Aside0.mk c2
  clear c2
  obtain ⟨y303,hy303⟩ : ∃ y_ : List Int,y_ = (y300 ++ l0_3) := ⟨_,rfl⟩
  replace H : (spec_l6Copy.l0 k 0 a0_0 l0_1 l0_2 l0_3 a0_0 ([] : List (S79)) y303) = some (r1,r2,r3,r4) := by first|(rw [hy303];with_reducible exact H)|(have H2_ := (Option.bind_some _ _).symm.trans H;rw [hy303];with_reducible exact H2_)|(have H2_ := (Option.bind_some _ _).symm.trans H;with_reducible exact H2_)|with_reducible exact H|(rw [hy303];exact H)|exact H
  have Ny303 := Aside0.mk hy303
  clear hy303
  have H' := Aside0.mk H
  clear H
  go_enter Try.func73,Try.ntmps73
  try go_wp2_with (first|((with_reducible refine gate_dst (N := 1) rfl ?_);refine bx_ 1 #[.bool a0_0,.slice A0_1 l0_1.length c0_1,.slice A0_2 l0_2.length c0_2,.slice A0_3 l0_3.length c0_3] 32 ?_;intro gb298 hg w3 hbox hb;replace HB := nb_ hg hbox hb;obtain ⟨BK298,GW298,GE298,HB⟩ := HB;clear hb hbox hg)|((with_reducible refine gate_dst (N := 2) rfl ?_);refine bx_ 2 #[.bool false,.slice none 0 0,.slice none 0 0,.slice none 0 0] 32 ?_;intro gb299 hg w4 hbox hb;replace HB := nb_ hg hbox hb;obtain ⟨BK299,GW299,GE299,HB⟩ := HB;have NB298_299 := Aside0.mk ((nl_ BK298 hg));have NB299_298 := Aside0.mk ((ng_ BK298 hg));replace BK298 := Aside0.mk (blk_below (kb_ BK298) hb);clear hb hbox hg))
  replace BK298 := Aside0.mk (blk_drew BK298.out)
  replace BK299 := Aside0.mk (blk_drew BK299.out)
  replace HB := Aside0.mk (below_drew1 HB.out)
  refine st_ 9 (S := fun w' => hd4 w' gb298 (.bool a0_0) (.slice A0_1 l0_1.length c0_1) (.slice A0_2 l0_2.length c0_2) (.slice A0_3 l0_3.length c0_3)) hh_ (fun hHeld => ?_);refine with_tabW spec_l6Copy.tab1 spec_l6Copy.bits1 (fun HT_ HW_ => ?_)
  generalize w4.drew = w5 at BK298 BK299 HB hHeld ⊢
  refine pv_ 0 6 ?_
  refine pv_ 3 9 ?_
  refine tx_ 1 7 hHeld ?_
  refine tx_ 4 10 hHeld ?_
  refine join_ (σ := Value × Value × Nat) 1 #[true,true,true,true,true,true,true,true,false] (fun s_ => [(8,s_.1),(11,s_.2.1),(3,.pointer (some ⟨s_.2.2,0,none⟩)),(12,.agg #[.bool a0_0,.slice none 0 0,.slice none 0 0,s_.2.1])]) (fun s_ w' => (w'.cell? ⟨gb298,0,none⟩ = some (.bool a0_0) ∧ w'.cell? ⟨gb298,1,none⟩ = some (.slice A0_1 l0_1.length c0_1) ∧ w'.cell? ⟨gb298,2,none⟩ = some (.slice A0_2 l0_2.length c0_2) ∧ w'.cell? ⟨gb298,3,none⟩ = some (.slice A0_3 l0_3.length c0_3)) ∧ (Kd.R (Kd.int .i64) 2 w' w.heap.size (fun _ => True) s_.2.1 y303) ∧ (w'.heap[gb298]? = some (.cells #[.bool a0_0,.slice A0_1 l0_1.length c0_1,.slice A0_2 l0_2.length c0_2,.slice A0_3 l0_3.length c0_3] 32 (0,0))) ∧ (w'.heap[gb299]? = some (.cells #[.bool false,.slice none 0 0,.slice none 0 0,.slice none 0 0] 32 (0,0))) ∧ (w'.heap[s_.2.2]? = some (.cells #[.bool false,.slice none 0 0,.slice none 0 0,.slice none 0 0] 32 (0,0))) ∧ (w.heap.size ≤ s_.2.2) ∧ (w.heap.size ≤ s_.2.2) ∧ (gb298 ≠ s_.2.2) ∧ (s_.2.2 ≠ gb298) ∧ (gb299 ≠ s_.2.2) ∧ (s_.2.2 ≠ gb299) ∧ (Below w.heap.size w w')) ?_ ?_
  rotate_left
  ·intro hCont
   refine two_ (i := 2) (j := 7) (Ni := some 8) (Nj := some 3) #[true,true,true,true,true,false,false,false,false] #[true,true,false,true,true,false,false,true,false] rfl rfl rfl rfl (two_of HT_.out (by kernel_rfl)) (by decide) (by decide) (fun K hK => ?_) (fun K hK => ?_)
   ·skip
    refine Kd.R_lit_step (Kd.int .i64) _ 2 ?hg (N := 8) ?hd (xs := ([] : List Int)) (inner := []) (ok := fun _ => True) (okp := fun _ => True) ?hr ?hp (fun _ hk => hk) trivial (Below.refl _ _) (Nat.le_refl _) (by simp) ?_;(case hd => rfl);(case hg => rfl);(case hr => first|(go_simp;done)|(go_simp;rfl));(case hp => exact (Reps.none _ _))
    intro v301 w6 ho7 hb hg_ hnew_
    clear hg_ hnew_
    (first|rw [← Ny300.out] at ho7|(simp only [Int.reduceToNat] at ho7;rw [← Ny300.out] at ho7))
    replace BK298 := Aside0.mk (blk_below (kb_ BK298) hb)
    replace BK299 := Aside0.mk (blk_below (kb_ BK299) hb)
    have HO302 := Aside0.mk (Kd.R_lower ho7 (below_size b_))
    replace HB := Aside0.mk (below_step b_ hb)
    clear hb ho7
    refine hK.out _ _ hh_ (fun hHeld => ?_)
    clear hK K
    refine nr_ (some 8) _ ?_
    refine two_ (i := 5) (j := 7) (Ni := some 11) (Nj := some 3) #[true,true,true,true,true,true,false,false,false] #[true,true,true,true,true,false,false,true,false] rfl rfl rfl rfl (two_of HT_.out (by kernel_rfl)) (by decide) (by decide) (fun K hK => ?_) (fun K hK => ?_)
    ·skip
     refine Kd.R_append_rows_step (Kd.int .i64) (w0 := w) w.heap.size (by rfl) (.tmp 8) (.tmp 10) 24 2 (.int .i64 0) 8 rfl Try.underlying24 info2 rfl (by decide) (by omega) v301 y300 l0_3 _ _ _ (fun _ => True) (fun _ => False) rfl rfl ?aO ?aR (fun _ _ h => h) (fun _ h => h.elim) ?aF ?aB ?aS ?aL ?_
     (case aR => repeat (first|exact (Kd.C_below HR0_3.out HB.out)|(with_reducible refine Kd.C_alloc ?_ _)|(with_reducible refine Kd.C_drewN ?_ _)|(with_reducible refine Kd.C_drew ?_)))
     (case aB => exact b_)
     (case aF => exact (fun _ _ => trivial))
     (case aO => exact (by (with_reducible repeat (first|apply Kd.R_alloc|apply Kd.R_drewN|apply Kd.R_drew));exact HO302.out))
     (case aS => exact (below_size b_))
     (case aL => have := LMc2.out;omega)
     intro v304 w8 ho hb hg hat
     rw [← Ny303.out] at ho
     replace BK298 := Aside0.mk (blk_grown (kb_ BK298) hg (Kd.R_ne HO302.out BK298.out (by decide)))
     replace BK299 := Aside0.mk (blk_grown (kb_ BK299) hg (Kd.R_ne HO302.out BK299.out (by decide)))
     replace HB := Aside0.mk (hb)
     have HO305 := Aside0.mk (ho)
     clear HO302
     clear ho hb hg hat
     obtain ⟨Ao9,co9,eo9⟩ := Kd.R_slice HO305.out
     (first|subst eo9|(injection eo9 with f1_ f2_ f3_;have f4_ := f1_.symm;have f5_ := f3_.symm;clear f1_ f2_ f3_;subst f4_;subst f5_))
     refine hK.out _ _ hh_ (fun hHeld => ?_)
     clear hK K
     refine nr_ (some 11) _ ?_
     refine pv_ 6 12 ?_
     refine oy_ 7 3 (fun K hK => ?_)
     refine box_step ?hg (N := 3) ?hd (cs := #[.bool false,.slice none 0 0,.slice none 0 0,.slice none 0 0]) (t := 32) ?hr ?_;(case hd => rfl);(case hg => rfl);(case hr => first|(go_simp;done)|(go_simp;rfl))
     intro gb306 hg w10 hbox hb
     replace HO305 := Aside0.mk (Kd.R_below (by (with_reducible repeat (first|apply Kd.R_alloc|apply Kd.R_drewN|apply Kd.R_drew));exact HO305.out) hb)
     have BK306 := Aside0.mk (hbox)
     have GW306 := Aside0.mk ((gw_ (w := w) hg))
     have GE306 := Aside0.mk ((gw_ (w := w) hg))
     replace HB := Aside0.mk (below_step b_ hb)
     have NB298_306 := Aside0.mk ((nl_ BK298 hg))
     have NB306_298 := Aside0.mk ((ng_ BK298 hg))
     replace BK298 := Aside0.mk (blk_below (kb_ BK298) hb)
     have NB299_306 := Aside0.mk ((nl_ BK299 hg))
     have NB306_299 := Aside0.mk ((ng_ BK299 hg))
     replace BK299 := Aside0.mk (blk_below (kb_ BK299) hb)
     clear hb hbox hg
     refine hK.out _ _ hh_ (fun hHeld => ?_)
     clear hK K
     refine nr_ (some 3) _ ?_
     exact norm_ (by simp only [putAll,Act.put,List.setIfInBounds_toArray,List.set_cons_zero,List.set_cons_succ]) (hCont (v301,.slice Ao9 y303.length co9,gb306) _ ⟨hHeld,(by (with_reducible repeat (first|apply Kd.R_alloc|apply Kd.R_drewN|apply Kd.R_drew));exact HO305.out),kk_,kk_,kk_,GW306.out,GE306.out,NB298_306.out,NB306_298.out,NB299_306.out,NB306_299.out,b_⟩)
    ·skip
     refine box_step ?hg (N := 3) ?hd (cs := #[.bool false,.slice none 0 0,.slice none 0 0,.slice none 0 0]) (t := 32) ?hr ?_;(case hd => rfl);(case hg => rfl);(case hr => first|(go_simp;done)|(go_simp;rfl))
     intro gb306 hg w8 hbox hb
     replace HO302 := Aside0.mk (Kd.R_below (by (with_reducible repeat (first|apply Kd.R_alloc|apply Kd.R_drewN|apply Kd.R_drew));exact HO302.out) hb)
     have BK306 := Aside0.mk (hbox)
     have GW306 := Aside0.mk ((gw_ (w := w) hg))
     have GE306 := Aside0.mk ((gw_ (w := w) hg))
     replace HB := Aside0.mk (below_step b_ hb)
     have NB298_306 := Aside0.mk ((nl_ BK298 hg))
     have NB306_298 := Aside0.mk ((ng_ BK298 hg))
     replace BK298 := Aside0.mk (blk_below (kb_ BK298) hb)
     have NB299_306 := Aside0.mk ((nl_ BK299 hg))
     have NB306_299 := Aside0.mk ((ng_ BK299 hg))
     replace BK299 := Aside0.mk (blk_below (kb_ BK299) hb)
     clear hb hbox hg
     refine hK.out _ _ hh_ (fun hHeld => ?_)
     clear hK K
     refine nr_ (some 3) _ ?_
     refine oy_ 5 11 (fun K hK => ?_)
     refine Kd.R_append_rows_step (Kd.int .i64) (w0 := w) w.heap.size (by rfl) (.tmp 8) (.tmp 10) 24 2 (.int .i64 0) 8 rfl Try.underlying24 info2 rfl (by decide) (by omega) v301 y300 l0_3 _ _ _ (fun _ => True) (fun _ => False) rfl rfl ?aO ?aR (fun _ _ h => h) (fun _ h => h.elim) ?aF ?aB ?aS ?aL ?_
     (case aR => repeat (first|exact (Kd.C_below HR0_3.out HB.out)|(with_reducible refine Kd.C_alloc ?_ _)|(with_reducible refine Kd.C_drewN ?_ _)|(with_reducible refine Kd.C_drew ?_)))
     (case aB => exact b_)
     (case aF => exact (fun _ _ => trivial))
     (case aO => exact (by (with_reducible repeat (first|apply Kd.R_alloc|apply Kd.R_drewN|apply Kd.R_drew));exact HO302.out))
     (case aS => exact (below_size b_))
     (case aL => have := LMc2.out;omega)
     intro v304 w9 ho hb hg hat
     rw [← Ny303.out] at ho
     replace BK298 := Aside0.mk (blk_grown (kb_ BK298) hg (Kd.R_ne HO302.out BK298.out (by decide)))
     replace BK299 := Aside0.mk (blk_grown (kb_ BK299) hg (Kd.R_ne HO302.out BK299.out (by decide)))
     replace BK306 := Aside0.mk (blk_grown (kb_ BK306) hg (Kd.R_ne HO302.out BK306.out (by decide)))
     replace HB := Aside0.mk (hb)
     have HO305 := Aside0.mk (ho)
     clear HO302
     clear ho hb hg hat
     obtain ⟨Ao10,co10,eo10⟩ := Kd.R_slice HO305.out
     (first|subst eo10|(injection eo10 with f1_ f2_ f3_;have f4_ := f1_.symm;have f5_ := f3_.symm;clear f1_ f2_ f3_;subst f4_;subst f5_))
     refine hK.out _ _ hh_ (fun hHeld => ?_)
     clear hK K
     refine nr_ (some 11) _ ?_
     refine pv_ 6 12 ?_
     exact norm_ (by simp only [putAll,Act.put,List.setIfInBounds_toArray,List.set_cons_zero,List.set_cons_succ]) (hCont (v301,.slice Ao10 y303.length co10,gb306) _ ⟨hHeld,(by (with_reducible repeat (first|apply Kd.R_alloc|apply Kd.R_drewN|apply Kd.R_drew));exact HO305.out),kk_,kk_,kk_,GW306.out,GE306.out,NB298_306.out,NB306_298.out,NB299_306.out,NB306_299.out,b_⟩)
   ·skip
    refine box_step ?hg (N := 3) ?hd (cs := #[.bool false,.slice none 0 0,.slice none 0 0,.slice none 0 0]) (t := 32) ?hr ?_;(case hd => rfl);(case hg => rfl);(case hr => first|(go_simp;done)|(go_simp;rfl))
    intro gb306 hg w6 hbox hb
    have BK306 := Aside0.mk (hbox)
    have GW306 := Aside0.mk ((gw_ (w := w) hg))
    have GE306 := Aside0.mk ((gw_ (w := w) hg))
    replace HB := Aside0.mk (below_step b_ hb)
    have NB298_306 := Aside0.mk ((nl_ BK298 hg))
    have NB306_298 := Aside0.mk ((ng_ BK298 hg))
    replace BK298 := Aside0.mk (blk_below (kb_ BK298) hb)
    have NB299_306 := Aside0.mk ((nl_ BK299 hg))
    have NB306_299 := Aside0.mk ((ng_ BK299 hg))
    replace BK299 := Aside0.mk (blk_below (kb_ BK299) hb)
    clear hb hbox hg
    refine hK.out _ _ hh_ (fun hHeld => ?_)
    clear hK K
    refine nr_ (some 3) _ ?_
    refine oy_ 2 8 (fun K hK => ?_)
    refine Kd.R_lit_step (Kd.int .i64) _ 2 ?hg (N := 8) ?hd (xs := ([] : List Int)) (inner := []) (ok := fun _ => True) (okp := fun _ => True) ?hr ?hp (fun _ hk => hk) trivial (Below.refl _ _) (Nat.le_refl _) (by simp) ?_;(case hd => rfl);(case hg => rfl);(case hr => first|(go_simp;done)|(go_simp;rfl));(case hp => exact (Reps.none _ _))
    intro v301 w7 ho8 hb hg_ hnew_
    clear hg_ hnew_
    (first|rw [← Ny300.out] at ho8|(simp only [Int.reduceToNat] at ho8;rw [← Ny300.out] at ho8))
    replace BK298 := Aside0.mk (blk_below (kb_ BK298) hb)
    replace BK299 := Aside0.mk (blk_below (kb_ BK299) hb)
    replace BK306 := Aside0.mk (blk_below (kb_ BK306) hb)
    have HO302 := Aside0.mk (Kd.R_lower ho8 (below_size b_))
    replace HB := Aside0.mk (below_step b_ hb)
    clear hb ho8
    refine hK.out _ _ hh_ (fun hHeld => ?_)
    clear hK K
    refine nr_ (some 8) _ ?_
    refine oy_ 5 11 (fun K hK => ?_)
    refine Kd.R_append_rows_step (Kd.int .i64) (w0 := w) w.heap.size (by rfl) (.tmp 8) (.tmp 10) 24 2 (.int .i64 0) 8 rfl Try.underlying24 info2 rfl (by decide) (by omega) v301 y300 l0_3 _ _ _ (fun _ => True) (fun _ => False) rfl rfl ?aO ?aR (fun _ _ h => h) (fun _ h => h.elim) ?aF ?aB ?aS ?aL ?_
    (case aR => repeat (first|exact (Kd.C_below HR0_3.out HB.out)|(with_reducible refine Kd.C_alloc ?_ _)|(with_reducible refine Kd.C_drewN ?_ _)|(with_reducible refine Kd.C_drew ?_)))
    (case aB => exact b_)
    (case aF => exact (fun _ _ => trivial))
    (case aO => exact (by (with_reducible repeat (first|apply Kd.R_alloc|apply Kd.R_drewN|apply Kd.R_drew));exact HO302.out))
    (case aS => exact (below_size b_))
    (case aL => have := LMc2.out;omega)
    intro v304 w9 ho hb hg hat
    rw [← Ny303.out] at ho
    replace BK298 := Aside0.mk (blk_grown (kb_ BK298) hg (Kd.R_ne HO302.out BK298.out (by decide)))
    replace BK299 := Aside0.mk (blk_grown (kb_ BK299) hg (Kd.R_ne HO302.out BK299.out (by decide)))
    replace BK306 := Aside0.mk (blk_grown (kb_ BK306) hg (Kd.R_ne HO302.out BK306.out (by decide)))
    replace HB := Aside0.mk (hb)
    have HO305 := Aside0.mk (ho)
    clear HO302
    clear ho hb hg hat
    obtain ⟨Ao10,co10,eo10⟩ := Kd.R_slice HO305.out
    (first|subst eo10|(injection eo10 with f1_ f2_ f3_;have f4_ := f1_.symm;have f5_ := f3_.symm;clear f1_ f2_ f3_;subst f4_;subst f5_))
    refine hK.out _ _ hh_ (fun hHeld => ?_)
    clear hK K
    refine nr_ (some 11) _ ?_
    refine pv_ 6 12 ?_
    exact norm_ (by simp only [putAll,Act.put,List.setIfInBounds_toArray,List.set_cons_zero,List.set_cons_succ]) (hCont (v301,.slice Ao10 y303.length co10,gb306) _ ⟨hHeld,(by (with_reducible repeat (first|apply Kd.R_alloc|apply Kd.R_drewN|apply Kd.R_drew));exact HO305.out),kk_,kk_,kk_,GW306.out,GE306.out,NB298_306.out,NB306_298.out,NB299_306.out,NB306_299.out,b_⟩)
  rintro ⟨v301,v304,gb306⟩ w11 ⟨hS_,h0_,h1_,h2_,h3_,h4_,h5_,h6_,h7_,h8_,h9_,h10_⟩
  have n0_ : Aside0 (Kd.R (Kd.int .i64) 2 w11 w.heap.size (fun _ => True) v304 y303) := ⟨h0_⟩
  have n1_ : Aside0 (w11.heap[gb298]? = some (.cells #[.bool a0_0,.slice A0_1 l0_1.length c0_1,.slice A0_2 l0_2.length c0_2,.slice A0_3 l0_3.length c0_3] 32 (0,0))) := ⟨h1_⟩
  have n2_ : Aside0 (w11.heap[gb299]? = some (.cells #[.bool false,.slice none 0 0,.slice none 0 0,.slice none 0 0] 32 (0,0))) := ⟨h2_⟩
  have n3_ : Aside0 (w11.heap[gb306]? = some (.cells #[.bool false,.slice none 0 0,.slice none 0 0,.slice none 0 0] 32 (0,0))) := ⟨h3_⟩
  have n4_ : Aside0 (w.heap.size ≤ gb306) := ⟨h4_⟩
  have n5_ : Aside0 (w.heap.size ≤ gb306) := ⟨h5_⟩
  have n6_ : Aside0 (gb298 ≠ gb306) := ⟨h6_⟩
  have n7_ : Aside0 (gb306 ≠ gb298) := ⟨h7_⟩
  have n8_ : Aside0 (gb299 ≠ gb306) := ⟨h8_⟩
  have n9_ : Aside0 (gb306 ≠ gb299) := ⟨h9_⟩
  have n10_ : Aside0 (Below w.heap.size w w11) := ⟨h10_⟩
  clear BK298
  clear BK299
  clear HB
  clear h0_ h1_ h2_ h3_ h4_ h5_ h6_ h7_ h8_ h9_ h10_
  have HO305 := n0_
  have BK298 := n1_
  have BK299 := n2_
  have BK306 := n3_
  have GW306 := n4_
  have GE306 := n5_
  have NB298_306 := n6_
  have NB306_298 := n7_
  have NB299_306 := n8_
  have NB306_299 := n9_
  have HB := n10_
  clear n0_ n1_ n2_ n3_ n4_ n5_ n6_ n7_ n8_ n9_ n10_
  have hHeld : w11.cell? ⟨gb298,0,none⟩ = some (.bool a0_0) ∧ w11.cell? ⟨gb298,1,none⟩ = some (.slice A0_1 l0_1.length c0_1) ∧ w11.cell? ⟨gb298,2,none⟩ = some (.slice A0_2 l0_2.length c0_2) ∧ w11.cell? ⟨gb298,3,none⟩ = some (.slice A0_3 l0_3.length c0_3) := hS_
  obtain ⟨Ao12,co12,eo12⟩ := Kd.R_slice HO305.out
  (first|subst eo12|(injection eo12 with f1_ f2_ f3_;have f4_ := f1_.symm;have f5_ := f3_.symm;clear f1_ f2_ f3_;subst f4_;subst f5_))
  refine norm_ (a' := ?_) ?_ ?_
  rotate_left
  ·simp only [putAll,Act.put,List.setIfInBounds_toArray,List.set_cons_zero,List.set_cons_succ]
   rfl
  refine oz_ (i := 8) (N := none) HT_.out rfl rfl (by kernel_rfl) (by decide) (fun K hK => ?_)
  have hs13 : w11.cell? ⟨gb306,0,none⟩ = some (.bool false) := (blk_cell BK306.out 0).trans rfl
  have hfs13 := blk_frozen BK306.out 0
  have hns13_0 := NB298_306.out
  have hns13_1 := NB299_306.out
  have hms13_0 := NB306_298.out
  have hms13_1 := NB306_299.out
  have hs14 : w11.cell? ⟨gb306,1,none⟩ = some (.slice none 0 0) := (blk_cell BK306.out 1).trans rfl
  have hfs14 := blk_frozen BK306.out 1
  have hns14_0 := NB298_306.out
  have hns14_1 := NB299_306.out
  have hms14_0 := NB306_298.out
  have hms14_1 := NB306_299.out
  have hs15 : w11.cell? ⟨gb306,2,none⟩ = some (.slice none 0 0) := (blk_cell BK306.out 2).trans rfl
  have hfs15 := blk_frozen BK306.out 2
  have hns15_0 := NB298_306.out
  have hns15_1 := NB299_306.out
  have hms15_0 := NB306_298.out
  have hms15_1 := NB306_299.out
  have hs16 : w11.cell? ⟨gb306,3,none⟩ = some (.slice none 0 0) := (blk_cell BK306.out 3).trans rfl
  have hfs16 := blk_frozen BK306.out 3
  have hns16_0 := NB298_306.out
  have hns16_1 := NB299_306.out
  have hms16_0 := NB306_298.out
  have hms16_1 := NB306_299.out
  refine skip_ (w1 := ?_) (by rfl) rfl ?_ ?_
  rotate_left
  ·go_simp
   rfl
  refine hK.out _ _ ⟨((cell_far (p := ⟨gb306,_,none⟩) NB298_306.out _).trans (((cell_far (p := ⟨gb306,_,none⟩) NB298_306.out _).trans (((cell_far (p := ⟨gb306,_,none⟩) NB298_306.out _).trans (((cell_far (p := ⟨gb306,_,none⟩) NB298_306.out _).trans (hHeld.1)))))))),((cell_far (p := ⟨gb306,_,none⟩) NB298_306.out _).trans (((cell_far (p := ⟨gb306,_,none⟩) NB298_306.out _).trans (((cell_far (p := ⟨gb306,_,none⟩) NB298_306.out _).trans (((cell_far (p := ⟨gb306,_,none⟩) NB298_306.out _).trans (hHeld.2.1)))))))),((cell_far (p := ⟨gb306,_,none⟩) NB298_306.out _).trans (((cell_far (p := ⟨gb306,_,none⟩) NB298_306.out _).trans (((cell_far (p := ⟨gb306,_,none⟩) NB298_306.out _).trans (((cell_far (p := ⟨gb306,_,none⟩) NB298_306.out _).trans (hHeld.2.2.1)))))))),((cell_far (p := ⟨gb306,_,none⟩) NB298_306.out _).trans (((cell_far (p := ⟨gb306,_,none⟩) NB298_306.out _).trans (((cell_far (p := ⟨gb306,_,none⟩) NB298_306.out _).trans (((cell_far (p := ⟨gb306,_,none⟩) NB298_306.out _).trans (hHeld.2.2.2))))))))⟩ (fun hHeld => ?_)
  clear hK K
  refine done_ (done_of HT_.out (by kernel_rfl)) ?_
  try go_wp2
  go_loopg [4] k (fun kq v4 w' => ∃ (x4_1 : Int) (x307001_1 : List (S79)) (u307001 : Value),v4 = .int .i64 x4_1 ∧ Aside0 (spec_l6Copy.l0 kq x4_1 a0_0 l0_1 l0_2 l0_3 a0_0 x307001_1 y303 = some (r1,r2,r3,r4)) ∧ Aside0 (kq ≤ k) ∧ Aside0 (Kd.S k79 79 w' w.heap.size (fun _ => True) u307001 x307001_1) ∧ Aside0 (Kd.R (Kd.int .i64) 2 w' w.heap.size (fun _ => True) (.slice Ao12 y303.length co12) y303) ∧ Aside0 (w'.heap[gb298]? = some (.cells #[.bool a0_0,(.slice A0_1 l0_1.length c0_1),(.slice A0_2 l0_2.length c0_2),(.slice A0_3 l0_3.length c0_3)] 32 (0,0))) ∧ Aside0 (w'.heap[gb299]? = some (.cells #[.bool false,(.slice none 0 0),(.slice none 0 0),(.slice none 0 0)] 32 (0,0))) ∧ Aside0 (w'.heap[gb306]? = some (.cells #[.bool a0_0,u307001,(.slice none 0 0),(.slice Ao12 y303.length co12)] 32 (0,0))) ∧ Aside0 (Below w.heap.size w w'))
  case atStart => exact ⟨(0),(([] : List (S79))),(.slice none 0 0),rs_,H',⟨Nat.le_refl _⟩,⟨by first|exact Kd.S_nil _ _ _ _ _|exact Kd.N_nil _ _ _ _ _|exact Kd.V_nil _ _ _ _ _|exact Kd.Q_nil _ _ _ _ _|exact Kd.R_nil _ _ _ _ _⟩,⟨by (with_reducible repeat (first|apply Kd.R_alloc|apply Kd.R_drewN|apply Kd.R_drew));exact Kd.R_mono (Kd.R_far (p := ⟨gb306,3,none⟩) (Kd.R_far (p := ⟨gb306,2,none⟩) (Kd.R_far (p := ⟨gb306,1,none⟩) (Kd.R_far (p := ⟨gb306,0,none⟩) (Kd.R_types HO305.out BK306.out (by decide)) (fun _ hk => hk.2) (.bool a0_0)) (fun _ hk => hk.2) (.slice none 0 0)) (fun _ hk => hk.2) (.slice none 0 0)) (fun _ hk => hk.2) (.slice Ao12 y303.length co12)) (fun _ hk => trivial)⟩,⟨kf_ BK298⟩,⟨kf_ BK299⟩,⟨by (with_reducible repeat (first|refine blk_drewN ?_ _|refine blk_drew ?_|refine blk_alloc ?_ _));refine blk_put (cs := #[.bool a0_0,.slice none 0 0,.slice none 0 0,.slice none 0 0]) ?_ 3 _ rfl;(with_reducible repeat (first|refine blk_drewN ?_ _|refine blk_drew ?_|refine blk_alloc ?_ _));refine blk_put (cs := #[.bool a0_0,.slice none 0 0,.slice none 0 0,.slice none 0 0]) ?_ 2 _ rfl;(with_reducible repeat (first|refine blk_drewN ?_ _|refine blk_drew ?_|refine blk_alloc ?_ _));refine blk_put (cs := #[.bool a0_0,.slice none 0 0,.slice none 0 0,.slice none 0 0]) ?_ 1 _ rfl;(with_reducible repeat (first|refine blk_drewN ?_ _|refine blk_drew ?_|refine blk_alloc ?_ _));refine blk_put (cs := #[.bool false,.slice none 0 0,.slice none 0 0,.slice none 0 0]) ?_ 0 _ rfl;(with_reducible repeat (first|refine blk_drewN ?_ _|refine blk_drew ?_|refine blk_alloc ?_ _));exact BK306.out⟩,⟨b_⟩⟩
  case round =>
   clear H'
   try clear c2
   try clear p2
   try clear c7
   obtain ⟨x4_1,x307001_1,u307001,rfl,HA,HK1,HO_307001,HO_307003,BK298,BK299,BK306,HB⟩ := hrel
   cases gk with
   | zero => exact absurd HA.out (by simp [spec_l6Copy.l0])
   | succ k1 =>
    have H := HA.out
    clear HA
    simp only [spec_l6Copy.l0] at H
    by_cases c17 : x4_1 < (l0_1.length : Int)
    ·rw [if_pos c17] at H
     have c17b0 : decide (x4_1 < (l0_1.length : Int)) = true := decide_eq_true c17
     clear c17
     by_cases c18 : 0 ≤ x4_1
     ·rw [if_pos c18] at H
      have c18b0 : decide (0 ≤ x4_1) = true := decide_eq_true c18
      clear c18
      replace H := bs_ H
      obtain ⟨t309,A19,H⟩ := H
      by_cases c20 : x307001_1.length < 4398046511104
      ·rw [if_pos c20] at H
       have LMc20 := Aside0.mk c20
       clear c20
       obtain ⟨y312,hy312⟩ : ∃ y_ : List (S79),y_ = (x307001_1 ++ [(⟨(rd_T79 l0_1 x4_1).f0,t309⟩ : S79)]) := ⟨_,rfl⟩
       replace H : (spec_l6Copy.l0 k1 (wrap64 (x4_1 + 1)) a0_0 l0_1 l0_2 l0_3 a0_0 y312 y303) = some (r1,r2,r3,r4) := by first|(rw [hy312];with_reducible exact H)|(have H2_ := (Option.bind_some _ _).symm.trans H;rw [hy312];with_reducible exact H2_)|(have H2_ := (Option.bind_some _ _).symm.trans H;with_reducible exact H2_)|with_reducible exact H|(rw [hy312];exact H)|exact H
       have Ny312 := Aside0.mk hy312
       clear hy312
       have H' := Aside0.mk H
       clear H
       have hnb21 := NB298_299.out
       have hnc21 := NB299_298.out
       have hnb22 := NB298_306.out
       have hnc22 := NB306_298.out
       obtain ⟨⟨hcz23_0,hcz23_1,hcz23_2,hcz23_3⟩,hfz23_0,hfz23_1,hfz23_2,hfz23_3⟩ := cl4_ BK298.out
       try go_wp2
       replace HO_307001 := Aside0.mk (Kd.S_drew HO_307001.out)
       replace HO_307003 := Aside0.mk (Kd.R_drew HO_307003.out)
       replace BK298 := Aside0.mk (blk_drew BK298.out)
       replace BK299 := Aside0.mk (blk_drew BK299.out)
       replace BK306 := Aside0.mk (blk_drew BK306.out)
       replace HB := Aside0.mk (below_drew1 HB.out)
       have p307 : 0 ≤ (x4_1 : Int) := od_
       have q307 : x4_1 < (l0_1.length : Int) := od_
       obtain ⟨ad307,A307_1,c307_1,e307,hx307_0,hx307_1,hl307_1,hi307_1⟩ := at_T79 HR0_1.out x4_1 p307 q307
       have hw307_1 := hx307_1
       have hw307_0 := hx307_0
       cases e307
       replace hx307_0 := hx_ HB hx307_0
       replace hx307_1 := hx_ HB hx307_1
       have HR307_1 := Aside0.mk hi307_1
       have HC307_1 := Aside0.mk hl307_1
       clear hi307_1 hl307_1
       replace p307 := eq_true p307
       replace q307 := eq_true q307
       have p308 : 0 ≤ (x4_1 : Int) := od_
       have q308 : x4_1 < (l0_1.length : Int) := od_
       obtain ⟨ad308,A308_1,c308_1,e308,hx308_0,hx308_1,hl308_1,hi308_1⟩ := at_T79 HR0_1.out x4_1 p308 q308
       have hw308_1 := hx308_1
       have hw308_0 := hx308_0
       obtain rfl : ad307 = ad308 := (by injection e308)
       replace hx308_0 := hx_ HB hx308_0
       replace hx308_1 := hx_ HB hx308_1
       have HR308_1 := Aside0.mk hi308_1
       have HC308_1 := Aside0.mk hl308_1
       clear hi308_1 hl308_1
       replace p308 := eq_true p308
       replace q308 := eq_true q308
       have ea_ := Option.some.inj (hx307_1.symm.trans hx308_1)
       injection ea_ with ea_ en_ ec_
       subst ea_
       subst ec_
       clear en_
       refine std_ 20 (S := fun w' => hc4 w' gb306 (.bool a0_0) (u307001) (.slice none 0 0) (.slice Ao12 y303.length co12) (hc4 w' gb298 (.bool a0_0) (.slice (some ad307) l0_1.length c0_1) (.slice A0_2 l0_2.length c0_2) (.slice A0_3 l0_3.length c0_3) (he2 w' (ad307.add ((x4_1).toNat * 2)) (.int .i64 ((rd_T79 l0_1 x4_1).f0)) (.slice A307_1 ((rd_T79 l0_1 x4_1).f1).length c307_1) (hf2 w' (ad307.add ((x4_1).toNat * 2)) (.int .i64 ((rd_T79 l0_1 x4_1).f0)) (.slice A307_1 ((rd_T79 l0_1 x4_1).f1).length c307_1))))) (ds := [19]) hh_ (fun hHeld => ?_);refine with_tabW spec_l6Copy.tab5 spec_l6Copy.bits5 (fun HT_ HW_ => ?_)
       generalize wr.drew = w24 at HO_307001 HO_307003 BK298 BK299 BK306 HB HR307_1 HR308_1 hx307_0 hx307_1 hx308_0 hx308_1 hHeld ⊢
       refine pv_ 0 20 ?_
       refine pv_ 2 22 ?_
       refine pv_ 4 24 ?_
       refine pv_ 8 28 ?_
       refine pv_ 10 30 ?_
       refine tx_ 1 21 hHeld ?_
       refine tx_ 3 23 hHeld ?_
       refine pv_ 5 25 ?_
       refine pv_ 6 26 ?_
       refine tx_ 7 27 hHeld ?_
       refine tx_ 9 29 hHeld ?_
       refine pv_ 11 31 ?_
       refine pv_ 12 32 ?_
       refine tx_ 13 33 hHeld ?_
       refine oy_ 14 34 (fun K hK => ?_)
       refine gs_ Try.func58 #[.slice A307_1 ((rd_T79 l0_1 x4_1).f1).length c307_1] ?_
       with_reducible refine (spec_l3Copy.calls _ _ ((rd_T79 l0_1 x4_1).f1) t309 _ ?side1 ?side2 A19.out).mono ?_
       (case side1 => exact cb_ HR308_1)
       (case side2 => exact HC308_1.out)
       rintro e w25 ⟨v310,rfl,ho0,hb⟩
       refine ⟨_,rfl,?_⟩
       replace HO_307001 := Aside0.mk (Kd.S_elder' (by (with_reducible repeat (first|apply Kd.S_alloc|apply Kd.S_drewN|apply Kd.S_drew));exact HO_307001.out) (Kd.R_base ho0) hb)
       replace HO_307003 := Aside0.mk (Kd.R_below (by (with_reducible repeat (first|apply Kd.R_alloc|apply Kd.R_drewN|apply Kd.R_drew));exact HO_307003.out) hb)
       replace BK298 := Aside0.mk (blk_below (kb_ BK298) hb)
       replace BK299 := Aside0.mk (blk_below (kb_ BK299) hb)
       replace BK306 := Aside0.mk (blk_below (kb_ BK306) hb)
       have HO311 := Aside0.mk (Kd.R_lower ho0 (below_size b_))
       replace HB := Aside0.mk (below_step b_ hb)
       (try clear hb)
       (try clear hb2)
       (try clear hk)
       (try clear hi)
       (try clear ho0)
       obtain ⟨Ao26,co26,eo26⟩ := Kd.R_slice HO311.out
       (first|subst eo26|(injection eo26 with f1_ f2_ f3_;have f4_ := f1_.symm;have f5_ := f3_.symm;clear f1_ f2_ f3_;subst f4_;subst f5_))
       refine hK.out _ _ hh_ (fun hHeld => ?_)
       clear hK K
       refine nr_ (some 34) _ ?_
       refine pv_ 15 35 ?_
       refine oy_ 16 36 (fun K hK => ?_)
       refine value_ (w1 := ?_) (v := ?_) (by rfl) rfl ?_ ?_
       rotate_left 2
       ·go_simp
        constructor
        ·rfl
        ·rfl
       refine hK.out _ _ ⟨(blk_cell (blk_alloc BK306.out _) 0).trans rfl,(blk_cell (blk_alloc BK306.out _) 1).trans rfl,(blk_cell (blk_alloc BK306.out _) 2).trans rfl,(blk_cell (blk_alloc BK306.out _) 3).trans rfl,(blk_cell (blk_alloc BK298.out _) 0).trans rfl,(blk_cell (blk_alloc BK298.out _) 1).trans rfl,(blk_cell (blk_alloc BK298.out _) 2).trans rfl,(blk_cell (blk_alloc BK298.out _) 3).trans rfl,(World.cell?_alloc_lt _ _ _ (World.block_lt_of_cell? _ _ ((hx_ HB hw307_0)))).trans ((hx_ HB hw307_0)),(World.cell?_alloc_lt _ _ _ (World.block_lt_of_cell? _ _ ((hx_ HB hw307_1)))).trans ((hx_ HB hw307_1)),(World.cell?_alloc_lt _ _ _ (World.block_lt_of_cell? _ _ ((hx_ HB hw308_0)))).trans ((hx_ HB hw308_0)),(World.cell?_alloc_lt _ _ _ (World.block_lt_of_cell? _ _ ((hx_ HB hw308_1)))).trans ((hx_ HB hw308_1))⟩ (fun hHeld => ?_)
       clear hK K
       refine nr_ (some 36) _ ?_
       refine oy_ 17 37 (fun K hK => ?_)
       refine Kd.S_append_step k79 (w0 := w) w.heap.size (by rfl) (.tmp 21) (.tmp 36) 29 79 (.agg #[(.int .i64 0),(.slice none 0 0)]) 32 rfl Try.underlying29 info79 rfl (by decide) (by omega) u307001 x307001_1 (⟨(rd_T79 l0_1 x4_1).f0,t309⟩ : S79) [.int .i64 ((rd_T79 l0_1 x4_1).f0),.slice Ao26 t309.length co26] (fun _ => True) (fun k_ => some k_ = (.slice Ao26 t309.length co26 : Value).ownBlock) rfl rfl ?aP (fun k_ hk_ => ((Kd.R_mono (ok' := fun k_ => ((fun _ => True)) k_ ∧ some k_ ≠ (u307001 : Value).ownBlock) (Kd.R_apart' (HO311.out) (Kd.S_typed HO_307001.out) (by decide)) (fun k_ hk => ⟨trivial,hk.2⟩))).1 k_ hk_.symm) ?aF ?aO ?aB ?aS ?aL ?_
       (case aP => exact k79_mkM _ _ _ (⟨(rd_T79 l0_1 x4_1).f0,t309⟩ : S79) (Kd.R_mono (Kd.R_tight rfl (Kd.R_mono (ok' := fun k_ => ((fun _ => True)) k_ ∧ some k_ ≠ (u307001 : Value).ownBlock) (Kd.R_apart' (HO311.out) (Kd.S_typed HO_307001.out) (by decide)) (fun k_ hk => ⟨trivial,hk.2⟩))) (fun _ h_ => h_)))
       (case aB => exact b_)
       (case aF => exact (fun _ _ => trivial))
       (case aO => exact (by (with_reducible repeat (first|apply Kd.S_alloc|apply Kd.S_drewN|apply Kd.S_drew));exact Kd.S_mono HO_307001.out (fun k_ hk => ⟨trivial,fun e_ => hk.2 e_⟩)))
       (case aS => exact (below_size b_))
       (case aL => have := LMc20.out;omega)
       intro v313 w27 ho hb hg hat
       rw [← Ny312.out] at ho
       replace HO_307003 := Aside0.mk (Kd.R_over' (by (with_reducible repeat (first|apply Kd.R_alloc|apply Kd.R_drewN|apply Kd.R_drew));exact HO_307003.out) (Kd.S_typed (by (with_reducible repeat (first|apply Kd.S_alloc|apply Kd.S_drewN|apply Kd.S_drew));exact HO_307001.out)) (by decide) hg)
       replace BK298 := Aside0.mk (blk_grown (kb_ BK298) hg (Kd.S_ne HO_307001.out BK298.out (by decide)))
       replace BK299 := Aside0.mk (blk_grown (kb_ BK299) hg (Kd.S_ne HO_307001.out BK299.out (by decide)))
       replace BK306 := Aside0.mk (blk_grown (kb_ BK306) hg (Kd.S_ne HO_307001.out BK306.out (by decide)))
       replace HB := Aside0.mk (hb)
       have HO314 := Aside0.mk (ho)
       clear HO_307001 HO311
       clear ho hb hg hat
       obtain ⟨Ao28,co28,eo28⟩ := Kd.S_slice HO314.out
       (first|subst eo28|(injection eo28 with f1_ f2_ f3_;have f4_ := f1_.symm;have f5_ := f3_.symm;clear f1_ f2_ f3_;subst f4_;subst f5_))
       refine hK.out _ _ hh_ (fun hHeld => ?_)
       clear hK K
       refine nr_ (some 37) _ ?_
       refine pv_ 18 38 ?_
       refine last_ (i := 19) (N := none) #[true,true,true,true,true,true,true,true,true,true,true,true,true,true,true,true,true,true,true,true] rfl rfl (one_of HT_.out (by kernel_rfl)) (by decide) (fun K hK => ?_)
       have hs29 : w27.cell? ⟨gb306,1,none⟩ = some (u307001) := (blk_cell BK306.out 1).trans rfl
       have hfs29 := blk_frozen BK306.out 1
       have hns29_0 := NB298_306.out
       have hns29_1 := NB299_306.out
       have hms29_0 := NB306_298.out
       have hms29_1 := NB306_299.out
       refine skip_ (w1 := ?_) (by rfl) rfl ?_ ?_
       rotate_left
       ·go_simp
        rfl
       refine hK.out _ _ ?_
       clear hK K
       refine done_ (done_of HT_.out (by kernel_rfl)) ?_
       try go_wp2
       go_roundg k1
       case measure => have := HK1.out;omega
       case rel => exact ⟨(wrap64 (x4_1 + 1)),(y312),(.slice Ao28 y312.length co28),rs_,H',⟨by have := HK1.out;omega⟩,⟨by (with_reducible repeat (first|apply Kd.S_alloc|apply Kd.S_drewN|apply Kd.S_drew));exact Kd.S_mono (Kd.S_far (p := ⟨gb306,1,none⟩) (Kd.S_types HO314.out BK306.out (by decide)) (fun _ hk => hk.2) (.slice Ao28 y312.length co28)) (fun _ hk => trivial)⟩,⟨by (with_reducible repeat (first|apply Kd.R_alloc|apply Kd.R_drewN|apply Kd.R_drew));exact Kd.R_mono (Kd.R_far (p := ⟨gb306,1,none⟩) (Kd.R_types HO_307003.out BK306.out (by decide)) (fun _ hk => hk.2) (.slice Ao28 y312.length co28)) (fun _ hk => trivial)⟩,⟨kf_ BK298⟩,⟨kf_ BK299⟩,⟨by (with_reducible repeat (first|refine blk_drewN ?_ _|refine blk_drew ?_|refine blk_alloc ?_ _));refine blk_put (cs := #[.bool a0_0,u307001,.slice none 0 0,.slice Ao12 y303.length co12]) ?_ 1 _ rfl;(with_reducible repeat (first|refine blk_drewN ?_ _|refine blk_drew ?_|refine blk_alloc ?_ _));exact BK306.out⟩,⟨b_⟩⟩
      ·rw [if_neg c20] at H
       exact absurd H (by simp)
     ·rw [if_neg c18] at H
      exact absurd H (by simp)
    ·rw [if_neg c17] at H
     have c17b0 : decide (x4_1 < (l0_1.length : Int)) = false := decide_eq_false c17
     clear c17
     have H' := Aside0.mk H
     clear H
     have hnb30 := NB298_299.out
     have hnc30 := NB299_298.out
     have hnb31 := NB298_306.out
     have hnc31 := NB306_298.out
     obtain ⟨⟨hcz32_0,hcz32_1,hcz32_2,hcz32_3⟩,hfz32_0,hfz32_1,hfz32_2,hfz32_3⟩ := cl4_ BK298.out
     go_wp2
     go_loopg [5] k1 (fun kq v5 w' => ∃ (x5_2 : Int) (x307002_2 : List (S45)) (u307002 : Value),v5 = .int .i64 x5_2 ∧ Aside0 (spec_l6Copy.l1 kq x5_2 a0_0 l0_1 l0_2 l0_3 a0_0 x307001_1 x307002_2 y303 = some (r1,r2,r3,r4)) ∧ Aside0 (kq ≤ k1) ∧ Aside0 (Kd.S k79 79 w' w.heap.size (fun _ => True) u307001 x307001_1) ∧ Aside0 (Kd.S k45 45 w' w.heap.size (fun _ => True) u307002 x307002_2) ∧ Aside0 (Kd.R (Kd.int .i64) 2 w' w.heap.size (fun _ => True) (.slice Ao12 y303.length co12) y303) ∧ Aside0 (w'.heap[gb298]? = some (.cells #[.bool a0_0,(.slice A0_1 l0_1.length c0_1),(.slice A0_2 l0_2.length c0_2),(.slice A0_3 l0_3.length c0_3)] 32 (0,0))) ∧ Aside0 (w'.heap[gb299]? = some (.cells #[.bool false,(.slice none 0 0),(.slice none 0 0),(.slice none 0 0)] 32 (0,0))) ∧ Aside0 (w'.heap[gb306]? = some (.cells #[.bool a0_0,u307001,u307002,(.slice Ao12 y303.length co12)] 32 (0,0))) ∧ Aside0 (Below w.heap.size w w'))
     case atStart => exact ⟨(0),(([] : List (S45))),(.slice none 0 0),rs_,H',⟨Nat.le_refl _⟩,⟨by (with_reducible repeat (first|apply Kd.S_alloc|apply Kd.S_drewN|apply Kd.S_drew));exact HO_307001.out⟩,⟨by first|exact Kd.S_nil _ _ _ _ _|exact Kd.N_nil _ _ _ _ _|exact Kd.V_nil _ _ _ _ _|exact Kd.Q_nil _ _ _ _ _|exact Kd.R_nil _ _ _ _ _⟩,⟨by (with_reducible repeat (first|apply Kd.R_alloc|apply Kd.R_drewN|apply Kd.R_drew));exact HO_307003.out⟩,⟨kb_ BK298⟩,⟨kb_ BK299⟩,⟨kb_ BK306⟩,⟨b_⟩⟩
     case round =>
      clear H'
      try clear c1
      try clear c2
      try clear p2
      try clear c3
      try clear p3
      try clear q3
      try clear hx3
      try clear c5
      try clear p6
      try clear c7
      try clear c17
      try clear c17b0
      try clear c18
      try clear c18b0
      try clear c20
      try clear c21
      try clear c22
      try clear c30
      try clear p30
      try clear q30
      try clear hx30
      try clear c31
      try clear hcz23_0
      try clear hcz23_1
      try clear hcz23_2
      try clear hcz23_3
      try clear hcz32_0
      try clear hcz32_1
      try clear hcz32_2
      try clear hcz32_3
      try clear hfz23_0
      try clear hfz23_1
      try clear hfz23_2
      try clear hfz23_3
      try clear hfz32_0
      try clear hfz32_1
      try clear hfz32_2
      try clear hfz32_3
      try clear hx307_0
      try clear hx307_1
      try clear hx308_0
      try clear hx308_1
      try clear p2
      try clear p307
      try clear p308
      try clear q307
      try clear q308
      obtain ⟨x5_2,x307002_2,u307002,rfl,HA,HK2,HO_307001,HO_307002,HO_307003,BK298,BK299,BK306,HB⟩ := hrel
      cases gk with
      | zero => exact absurd HA.out (by simp [spec_l6Copy.l1])
      | succ k2 =>
       have H := HA.out
       clear HA
       simp only [spec_l6Copy.l1] at H
       by_cases c33 : x5_2 < (l0_2.length : Int)
       ·rw [if_pos c33] at H
        have c33b0 : decide (x5_2 < (l0_2.length : Int)) = true := decide_eq_true c33
        clear c33
        by_cases c34 : 0 ≤ x5_2
        ·rw [if_pos c34] at H
         have c34b0 : decide (0 ≤ x5_2) = true := decide_eq_true c34
         clear c34
         replace H := Option.bind_eq_some_iff.mp H
         obtain ⟨⟨t316,t317,t318,t319⟩,A350,H⟩ := H
         replace H : (if x307002_2.length < 2932031007402 then (spec_l6Copy.l1 k2 (wrap64 (x5_2 + 1)) a0_0 l0_1 l0_2 l0_3 a0_0 x307001_1 (x307002_2 ++ [(⟨t316,t317,t318,t319⟩ : S45)]) y303) else (none)) = some (r1,r2,r3,r4) := H
         have A35 := Aside0.mk A350
         clear A350
         by_cases c36 : x307002_2.length < 2932031007402
         ·rw [if_pos c36] at H
          have LMc36 := Aside0.mk c36
          clear c36
          obtain ⟨y322,hy322⟩ : ∃ y_ : List (S45),y_ = (x307002_2 ++ [(⟨t316,t317,t318,t319⟩ : S45)]) := ⟨_,rfl⟩
          replace H : (spec_l6Copy.l1 k2 (wrap64 (x5_2 + 1)) a0_0 l0_1 l0_2 l0_3 a0_0 x307001_1 y322 y303) = some (r1,r2,r3,r4) := by first|(rw [hy322];with_reducible exact H)|(have H2_ := (Option.bind_some _ _).symm.trans H;rw [hy322];with_reducible exact H2_)|(have H2_ := (Option.bind_some _ _).symm.trans H;with_reducible exact H2_)|with_reducible exact H|(rw [hy322];exact H)|exact H
          have Ny322 := Aside0.mk hy322
          clear hy322
          have H' := Aside0.mk H
          clear H
          have hnb37 := NB298_299.out
          have hnc37 := NB299_298.out
          have hnb38 := NB298_306.out
          have hnc38 := NB306_298.out
          obtain ⟨⟨hcz39_0,hcz39_1,hcz39_2,hcz39_3⟩,hfz39_0,hfz39_1,hfz39_2,hfz39_3⟩ := cl4_ BK298.out
          try go_wp2
          replace HO_307001 := Aside0.mk (Kd.S_drew HO_307001.out)
          replace HO_307002 := Aside0.mk (Kd.S_drew HO_307002.out)
          replace HO_307003 := Aside0.mk (Kd.R_drew HO_307003.out)
          replace BK298 := Aside0.mk (blk_drew BK298.out)
          replace BK299 := Aside0.mk (blk_drew BK299.out)
          replace BK306 := Aside0.mk (blk_drew BK306.out)
          replace HB := Aside0.mk (below_drew1 HB.out)
          have p315 : 0 ≤ (x5_2 : Int) := od_
          have q315 : x5_2 < (l0_2.length : Int) := od_
          obtain ⟨ad315,A315_3,c315_3,e315,hx315_0,hx315_1,hx315_2,hx315_3,hl315_3,hi315_3⟩ := at_T45 HR0_2.out x5_2 p315 q315
          have hw315_3 := hx315_3
          have hw315_2 := hx315_2
          have hw315_1 := hx315_1
          have hw315_0 := hx315_0
          cases e315
          replace hx315_0 := hx_ HB hx315_0
          replace hx315_1 := hx_ HB hx315_1
          replace hx315_2 := hx_ HB hx315_2
          replace hx315_3 := hx_ HB hx315_3
          have HR315_3 := Aside0.mk hi315_3
          have HC315_3 := Aside0.mk hl315_3
          clear hi315_3 hl315_3
          replace p315 := eq_true p315
          replace q315 := eq_true q315
          refine std_ 12 (S := fun w' => hc4 w' gb306 (.bool a0_0) (u307001) (u307002) (.slice Ao12 y303.length co12) (hc4 w' gb298 (.bool a0_0) (.slice A0_1 l0_1.length c0_1) (.slice (some ad315) l0_2.length c0_2) (.slice A0_3 l0_3.length c0_3) (hf4 w' (ad315.add ((x5_2).toNat * 4)) (.int .i64 ((rd_T45 l0_2 x5_2).f0)) (.int .i64 ((rd_T45 l0_2 x5_2).f1)) (.int .i64 ((rd_T45 l0_2 x5_2).f2)) (.slice A315_3 ((rd_T45 l0_2 x5_2).f3).length c315_3)))) (ds := [11]) hh_ (fun hHeld => ?_);refine with_tabW spec_l6Copy.tab9 spec_l6Copy.bits9 (fun HT_ HW_ => ?_)
          generalize wr.drew = w40 at HO_307001 HO_307002 HO_307003 BK298 BK299 BK306 HB HR315_3 hx315_0 hx315_1 hx315_2 hx315_3 hHeld ⊢
          refine pv_ 0 46 ?_
          refine pv_ 2 48 ?_
          refine pv_ 4 50 ?_
          refine tx_ 1 47 hHeld ?_
          refine tx_ 3 49 hHeld ?_
          refine pv_ 5 51 ?_
          refine tx_ 6 52 hHeld ?_
          refine oy_ 7 53 (fun K hK => ?_)
          refine gs_ Try.func66 #[.agg #[.int .i64 ((rd_T45 l0_2 x5_2).f0),.int .i64 ((rd_T45 l0_2 x5_2).f1),.int .i64 ((rd_T45 l0_2 x5_2).f2),.slice A315_3 ((rd_T45 l0_2 x5_2).f3).length c315_3]] ?_
          with_reducible refine (spec_l6Record.calls ((rd_T45 l0_2 x5_2).f0) ((rd_T45 l0_2 x5_2).f1) ((rd_T45 l0_2 x5_2).f2) _ _ ((rd_T45 l0_2 x5_2).f3) t316 t317 t318 t319 _ ?side1 ?side2 A35.out).mono ?_
          (case side1 => exact cb_ HR315_3)
          (case side2 => exact HC315_3.out)
          rintro e w41 ⟨v320,rfl,ho0,hb⟩
          refine ⟨_,rfl,?_⟩
          replace HO_307001 := Aside0.mk (Kd.S_below (by (with_reducible repeat (first|apply Kd.S_alloc|apply Kd.S_drewN|apply Kd.S_drew));exact HO_307001.out) hb)
          replace HO_307002 := Aside0.mk (Kd.S_elder' (by (with_reducible repeat (first|apply Kd.S_alloc|apply Kd.S_drewN|apply Kd.S_drew));exact HO_307002.out) (Kd.R_base ho0) hb)
          replace HO_307003 := Aside0.mk (Kd.R_below (by (with_reducible repeat (first|apply Kd.R_alloc|apply Kd.R_drewN|apply Kd.R_drew));exact HO_307003.out) hb)
          replace BK298 := Aside0.mk (blk_below (kb_ BK298) hb)
          replace BK299 := Aside0.mk (blk_below (kb_ BK299) hb)
          replace BK306 := Aside0.mk (blk_below (kb_ BK306) hb)
          have HO321 := Aside0.mk (Kd.R_lower ho0 (below_size b_))
          replace HB := Aside0.mk (below_step b_ hb)
          (try clear hb)
          (try clear hb2)
          (try clear hk)
          (try clear hi)
          (try clear ho0)
          obtain ⟨Ao43,co43,eo43⟩ := Kd.R_slice HO321.out
          (first|subst eo43|(injection eo43 with f1_ f2_ f3_;have f4_ := f1_.symm;have f5_ := f3_.symm;clear f1_ f2_ f3_;subst f4_;subst f5_))
          refine hK.out _ _ hh_ (fun hHeld => ?_)
          clear hK K
          refine nr_ (some 53) _ ?_
          refine oy_ 8 54 (fun K hK => ?_)
          refine value_ (w1 := ?_) (v := ?_) (by rfl) rfl ?_ ?_
          rotate_left 2
          ·go_simp
           constructor
           ·rfl
           ·rfl
          refine hK.out _ _ ⟨(blk_cell (blk_alloc BK306.out _) 0).trans rfl,(blk_cell (blk_alloc BK306.out _) 1).trans rfl,(blk_cell (blk_alloc BK306.out _) 2).trans rfl,(blk_cell (blk_alloc BK306.out _) 3).trans rfl,(blk_cell (blk_alloc BK298.out _) 0).trans rfl,(blk_cell (blk_alloc BK298.out _) 1).trans rfl,(blk_cell (blk_alloc BK298.out _) 2).trans rfl,(blk_cell (blk_alloc BK298.out _) 3).trans rfl,(World.cell?_alloc_lt _ _ _ (World.block_lt_of_cell? _ _ ((hx_ HB hw315_0)))).trans ((hx_ HB hw315_0)),(World.cell?_alloc_lt _ _ _ (World.block_lt_of_cell? _ _ ((hx_ HB hw315_1)))).trans ((hx_ HB hw315_1)),(World.cell?_alloc_lt _ _ _ (World.block_lt_of_cell? _ _ ((hx_ HB hw315_2)))).trans ((hx_ HB hw315_2)),(World.cell?_alloc_lt _ _ _ (World.block_lt_of_cell? _ _ ((hx_ HB hw315_3)))).trans ((hx_ HB hw315_3))⟩ (fun hHeld => ?_)
          clear hK K
          refine nr_ (some 54) _ ?_
          refine oy_ 9 55 (fun K hK => ?_)
          refine Kd.S_append_step k45 (w0 := w) w.heap.size (by rfl) (.tmp 47) (.tmp 54) 30 45 (.agg #[(.int .i64 0),(.int .i64 0),(.int .i64 0),(.slice none 0 0)]) 48 rfl Try.underlying30 info45 rfl (by decide) (by omega) u307002 x307002_2 (⟨t316,t317,t318,t319⟩ : S45) [.int .i64 t316,.int .i64 t317,.int .i64 t318,.slice Ao43 t319.length co43] (fun _ => True) (fun k_ => some k_ = (.slice Ao43 t319.length co43 : Value).ownBlock) rfl rfl ?aP (fun k_ hk_ => ((Kd.R_mono (ok' := fun k_ => ((fun _ => True)) k_ ∧ some k_ ≠ (u307002 : Value).ownBlock) (Kd.R_apart' (HO321.out) (Kd.S_typed HO_307002.out) (by decide)) (fun k_ hk => ⟨trivial,hk.2⟩))).1 k_ hk_.symm) ?aF ?aO ?aB ?aS ?aL ?_
          (case aP => exact k45_mkM _ _ _ (⟨t316,t317,t318,t319⟩ : S45) (Kd.R_mono (Kd.R_tight rfl (Kd.R_mono (ok' := fun k_ => ((fun _ => True)) k_ ∧ some k_ ≠ (u307002 : Value).ownBlock) (Kd.R_apart' (HO321.out) (Kd.S_typed HO_307002.out) (by decide)) (fun k_ hk => ⟨trivial,hk.2⟩))) (fun _ h_ => h_)))
          (case aB => exact b_)
          (case aF => exact (fun _ _ => trivial))
          (case aO => exact (by (with_reducible repeat (first|apply Kd.S_alloc|apply Kd.S_drewN|apply Kd.S_drew));exact Kd.S_mono HO_307002.out (fun k_ hk => ⟨trivial,fun e_ => hk.2 e_⟩)))
          (case aS => exact (below_size b_))
          (case aL => have := LMc36.out;omega)
          intro v323 w42 ho hb hg hat
          rw [← Ny322.out] at ho
          replace HO_307001 := Aside0.mk (Kd.S_over' (by (with_reducible repeat (first|apply Kd.S_alloc|apply Kd.S_drewN|apply Kd.S_drew));exact HO_307001.out) (Kd.S_typed (by (with_reducible repeat (first|apply Kd.S_alloc|apply Kd.S_drewN|apply Kd.S_drew));exact HO_307002.out)) (by decide) hg)
          replace HO_307003 := Aside0.mk (Kd.R_over' (by (with_reducible repeat (first|apply Kd.R_alloc|apply Kd.R_drewN|apply Kd.R_drew));exact HO_307003.out) (Kd.S_typed (by (with_reducible repeat (first|apply Kd.S_alloc|apply Kd.S_drewN|apply Kd.S_drew));exact HO_307002.out)) (by decide) hg)
          replace BK298 := Aside0.mk (blk_grown (kb_ BK298) hg (Kd.S_ne HO_307002.out BK298.out (by decide)))
          replace BK299 := Aside0.mk (blk_grown (kb_ BK299) hg (Kd.S_ne HO_307002.out BK299.out (by decide)))
          replace BK306 := Aside0.mk (blk_grown (kb_ BK306) hg (Kd.S_ne HO_307002.out BK306.out (by decide)))
          replace HB := Aside0.mk (hb)
          have HO324 := Aside0.mk (ho)
          clear HO_307002 HO321
          clear ho hb hg hat
          obtain ⟨Ao44,co44,eo44⟩ := Kd.S_slice HO324.out
          (first|subst eo44|(injection eo44 with f1_ f2_ f3_;have f4_ := f1_.symm;have f5_ := f3_.symm;clear f1_ f2_ f3_;subst f4_;subst f5_))
          refine hK.out _ _ hh_ (fun hHeld => ?_)
          clear hK K
          refine nr_ (some 55) _ ?_
          refine pv_ 10 56 ?_
          refine last_ (i := 11) (N := none) #[true,true,true,true,true,true,true,true,true,true,true,true] rfl rfl (one_of HT_.out (by kernel_rfl)) (by decide) (fun K hK => ?_)
          have hs45 : w42.cell? ⟨gb306,2,none⟩ = some (u307002) := (blk_cell BK306.out 2).trans rfl
          have hfs45 := blk_frozen BK306.out 2
          have hns45_0 := NB298_306.out
          have hns45_1 := NB299_306.out
          have hms45_0 := NB306_298.out
          have hms45_1 := NB306_299.out
          refine skip_ (w1 := ?_) (by rfl) rfl ?_ ?_
          rotate_left
          ·go_simp
           rfl
          refine hK.out _ _ ?_
          clear hK K
          refine done_ (done_of HT_.out (by kernel_rfl)) ?_
          try go_wp2
          go_roundg k2
          case measure => have := HK1.out;have := HK2.out;omega
          case rel => exact ⟨(wrap64 (x5_2 + 1)),(y322),(.slice Ao44 y322.length co44),rs_,H',⟨by have := HK1.out;have := HK2.out;omega⟩,⟨by (with_reducible repeat (first|apply Kd.S_alloc|apply Kd.S_drewN|apply Kd.S_drew));exact Kd.S_mono (Kd.S_far (p := ⟨gb306,2,none⟩) (Kd.S_types HO_307001.out BK306.out (by decide)) (fun _ hk => hk.2) (.slice Ao44 y322.length co44)) (fun _ hk => trivial)⟩,⟨by (with_reducible repeat (first|apply Kd.S_alloc|apply Kd.S_drewN|apply Kd.S_drew));exact Kd.S_mono (Kd.S_far (p := ⟨gb306,2,none⟩) (Kd.S_types HO324.out BK306.out (by decide)) (fun _ hk => hk.2) (.slice Ao44 y322.length co44)) (fun _ hk => trivial)⟩,⟨by (with_reducible repeat (first|apply Kd.R_alloc|apply Kd.R_drewN|apply Kd.R_drew));exact Kd.R_mono (Kd.R_far (p := ⟨gb306,2,none⟩) (Kd.R_types HO_307003.out BK306.out (by decide)) (fun _ hk => hk.2) (.slice Ao44 y322.length co44)) (fun _ hk => trivial)⟩,⟨kf_ BK298⟩,⟨kf_ BK299⟩,⟨by (with_reducible repeat (first|refine blk_drewN ?_ _|refine blk_drew ?_|refine blk_alloc ?_ _));refine blk_put (cs := #[.bool a0_0,u307001,u307002,.slice Ao12 y303.length co12]) ?_ 2 _ rfl;(with_reducible repeat (first|refine blk_drewN ?_ _|refine blk_drew ?_|refine blk_alloc ?_ _));exact BK306.out⟩,⟨b_⟩⟩
         ·rw [if_neg c36] at H
          exact absurd H (by simp)
        ·rw [if_neg c34] at H
         exact absurd H (by simp)
       ·rw [if_neg c33] at H
        have c33b0 : decide (x5_2 < (l0_2.length : Int)) = false := decide_eq_false c33
        clear c33
        simp only [Option.some.injEq,Prod.mk.injEq] at H
        obtain ⟨rfl,rfl,rfl,rfl⟩ := H
        have hnb46 := NB298_299.out
        have hnc46 := NB299_298.out
        have hnb47 := NB298_306.out
        have hnc47 := NB306_298.out
        obtain ⟨⟨hcz48_0,hcz48_1,hcz48_2,hcz48_3⟩,hfz48_0,hfz48_1,hfz48_2,hfz48_3⟩ := cl4_ BK298.out
        have hnb49 := NB306_299.out
        have hnc49 := NB299_306.out
        obtain ⟨⟨hcz50_0,hcz50_1,hcz50_2,hcz50_3⟩,hfz50_0,hfz50_1,hfz50_2,hfz50_3⟩ := cl4_ BK306.out
        obtain ⟨⟨hcz51_0,hcz51_1,hcz51_2,hcz51_3⟩,hfz51_0,hfz51_1,hfz51_2,hfz51_3⟩ := cl4_ BK299.out
        obtain ⟨Ao52,co52,eo52⟩ := Kd.S_slice HO_307001.out
        subst eo52
        obtain ⟨Ao53,co53,eo53⟩ := Kd.S_slice HO_307002.out
        subst eo53
        go_wp2
        refine bodyPost_ret (results_cell_row rfl _ _ gb299 32 #[.bool a0_0,.slice Ao52 x307001_1.length co52,.slice Ao53 x307002_2.length co53,.slice Ao12 y303.length co12] (0,0) _ rfl (by (with_reducible repeat (first|refine blk_drewN ?_ _|refine blk_drew ?_|refine blk_alloc ?_ _));refine blk_put (cs := #[.bool a0_0,.slice Ao52 x307001_1.length co52,.slice Ao53 x307002_2.length co53,.slice none 0 0]) ?_ 3 _ rfl;(with_reducible repeat (first|refine blk_drewN ?_ _|refine blk_drew ?_|refine blk_alloc ?_ _));refine blk_put (cs := #[.bool a0_0,.slice Ao52 x307001_1.length co52,.slice none 0 0,.slice none 0 0]) ?_ 2 _ rfl;(with_reducible repeat (first|refine blk_drewN ?_ _|refine blk_drew ?_|refine blk_alloc ?_ _));refine blk_put (cs := #[.bool a0_0,.slice none 0 0,.slice none 0 0,.slice none 0 0]) ?_ 1 _ rfl;(with_reducible repeat (first|refine blk_drewN ?_ _|refine blk_drew ?_|refine blk_alloc ?_ _));refine blk_put (cs := #[.bool false,.slice none 0 0,.slice none 0 0,.slice none 0 0]) ?_ 0 _ rfl;(with_reducible repeat (first|refine blk_drewN ?_ _|refine blk_drew ?_|refine blk_alloc ?_ _));exact BK299.out) Try.underlying32 rfl (by kernel_rfl)) rfl ?_
        exact ⟨_,_,_,rf_,by (with_reducible repeat (first|apply Kd.S_alloc|apply Kd.S_drewN|apply Kd.S_drew));exact Kd.S_mono (Kd.S_far (p := ⟨gb299,3,none⟩) (Kd.S_far (p := ⟨gb299,2,none⟩) (Kd.S_far (p := ⟨gb299,1,none⟩) (Kd.S_far (p := ⟨gb299,0,none⟩) (Kd.S_types HO_307001.out BK299.out (by decide)) (fun _ hk => hk.2) (.bool a0_0)) (fun _ hk => hk.2) (.slice Ao52 x307001_1.length co52)) (fun _ hk => hk.2) (.slice Ao53 x307002_2.length co53)) (fun _ hk => hk.2) (.slice Ao12 y303.length co12)) (fun _ hk => trivial),by (with_reducible repeat (first|apply Kd.S_alloc|apply Kd.S_drewN|apply Kd.S_drew));exact Kd.S_mono (Kd.S_far (p := ⟨gb299,3,none⟩) (Kd.S_far (p := ⟨gb299,2,none⟩) (Kd.S_far (p := ⟨gb299,1,none⟩) (Kd.S_far (p := ⟨gb299,0,none⟩) (Kd.S_types HO_307002.out BK299.out (by decide)) (fun _ hk => hk.2) (.bool a0_0)) (fun _ hk => hk.2) (.slice Ao52 x307001_1.length co52)) (fun _ hk => hk.2) (.slice Ao53 x307002_2.length co53)) (fun _ hk => hk.2) (.slice Ao12 y303.length co12)) (fun _ hk => trivial),by (with_reducible repeat (first|apply Kd.R_alloc|apply Kd.R_drewN|apply Kd.R_drew));exact Kd.R_mono (Kd.R_far (p := ⟨gb299,3,none⟩) (Kd.R_far (p := ⟨gb299,2,none⟩) (Kd.R_far (p := ⟨gb299,1,none⟩) (Kd.R_far (p := ⟨gb299,0,none⟩) (Kd.R_types HO_307003.out BK299.out (by decide)) (fun _ hk => hk.2) (.bool a0_0)) (fun _ hk => hk.2) (.slice Ao52 x307001_1.length co52)) (fun _ hk => hk.2) (.slice Ao53 x307002_2.length co53)) (fun _ hk => hk.2) (.slice Ao12 y303.length co12)) (fun _ hk => trivial),b_⟩
 ·rw [if_neg c2] at H
  exact absurd H (by simp)

end Go.Proofs.Ythplaakckfhaaaa.XRp
