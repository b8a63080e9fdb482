/- Proved: of each Go function here that a call comes to what the Lean function of its name tells. Written by a program of this session over the translation. No conditions beyond each theorem's own. -/
import Derived.Test.YthplaakckfhaaaaGreatXCr0
import Derived.Test.YthplaakckfhaaaaGreatXCr6
namespace Go.Proofs.YthplaakckfhaaaaGreat.XCr
open Go.RowKit Go.Proofs.YthplaakckfhaaaaGreat.Aid Go.Proofs.YthplaakckfhaaaaGreatW.PrintWords Go.Proofs.YthplaakckfhaaaaGreatW.PrintLast Go.Proofs.YthplaakckfhaaaaGreatW.PrintMore
set_option linter.unusedVariables false
set_option linter.unusedSimpArgs false

/-! ### spec_l6Copy: function 31 -/
mutual
def spec_l6Copy.l0 : Nat → Int → Bool → List (S83) → List (S50) → List Int → Bool → List (S83) → List Int → Option (Bool × (List (S83)) × (List (S50)) × List Int)
  | 0, _, _, _, _, _, _, _, _ => none
  | k + 1, x4, x171000, x171001, x171002, x171003, x179000, x179001, x179003 => if x4 < (x171001.length : Int) then (if 0 ≤ x4 then ((spec_l3Copy.f ((rd_T83 x171001 x4).f1)).bind fun t181 => (if x179001.length < 4398046511104 then (spec_l6Copy.l0 k (wrap64 (x4 + 1)) x171000 x171001 x171002 x171003 x179000 (x179001 ++ [(⟨(rd_T83 x171001 x4).f0, t181⟩ : S83)]) x179003) else (none))) else (none)) else (spec_l6Copy.l1 k 0 x171000 x171001 x171002 x171003 x179000 x179001 ([] : List (S50)) x179003)
def spec_l6Copy.l1 : Nat → Int → Bool → List (S83) → List (S50) → List Int → Bool → List (S83) → List (S50) → List Int → Option (Bool × (List (S83)) × (List (S50)) × List Int)
  | 0, _, _, _, _, _, _, _, _, _ => none
  | k + 1, x5, x171000, x171001, x171002, x171003, x179000, x179001, x179002, x179003 => if x5 < (x171002.length : Int) then (if 0 ≤ x5 then ((spec_l6Record.f ((rd_T50 x171002 x5).f0) ((rd_T50 x171002 x5).f1) ((rd_T50 x171002 x5).f2) ((rd_T50 x171002 x5).f3)).bind fun bt188 => (if x179002.length < 2932031007402 then (spec_l6Copy.l1 k (wrap64 (x5 + 1)) x171000 x171001 x171002 x171003 x179000 x179001 (x179002 ++ [(⟨bt188.1, bt188.2.1, bt188.2.2.1, bt188.2.2.2⟩ : S50)]) x179003) else (none))) else (none)) else (some (x179000, x179001, x179002, x179003))
end
def spec_l6Copy.f (k : Nat) (a0_0 : Bool) (l0_1 : List (S83)) (l0_2 : List (S50)) (l0_3 : List Int) : Option (Bool × (List (S83)) × (List (S50)) × List Int) := (some (([] : List Int) : List Int)).bind fun y172 => (if y172.length + l0_3.length < 17592186044416 then (spec_l6Copy.l0 k 0 a0_0 l0_1 l0_2 l0_3 a0_0 ([] : List (S83)) (y172 ++ l0_3)) else (none))

def spec_l6Copy.T1 : Bool × List (List Nat × List Nat) := (true, [([], []), ([0], [0]), ([], []), ([], []), ([3], [3]), ([2, 4], [2, 4]), ([1, 5], [1, 5]), ([], []), ([7, 6, 5, 0, 1, 2, 3, 4, 5, 6, 7], [6, 7])])
def spec_l6Copy.B1 : List Nat := [0, 1, 0, 0, 8, 28, 63, 0, 255]
theorem spec_l6Copy.tab1 : rtab .any (opsOf Tryz.f31 1) = spec_l6Copy.T1 := by kernel_rfl
theorem spec_l6Copy.bits1 : waitsOk spec_l6Copy.T1.2 spec_l6Copy.B1 = true := by kernel_rfl
def spec_l6Copy.T5 : Bool × List (List Nat × List Nat) := (true, [([], []), ([0], [0]), ([], []), ([2], [2]), ([], []), ([3, 4], [3, 4]), ([5], [5]), ([6], [6]), ([], []), ([8], [8]), ([], []), ([9, 10], [9, 10]), ([11], [11]), ([12], [12]), ([13], [13]), ([7, 14], [7, 14]), ([15], [15]), ([1, 16, 14], [1, 16]), ([0, 1, 2, 3, 4, 5, 6, 7, 8, 9, 10, 11, 12, 13, 14, 15, 16, 17], []), ([18, 17, 17, 0, 1, 2, 3, 4, 5, 6, 7, 8, 9, 10, 11, 12, 13, 14, 15, 16, 17], [17, 18])])
def spec_l6Copy.B5 : List Nat := [0, 1, 0, 4, 0, 28, 60, 124, 0, 256, 0, 1792, 3840, 7936, 16128, 32764, 65532, 131071, 262143, 524287]
theorem spec_l6Copy.tab5 : rtab .any (opsOf Tryz.f31 5) = spec_l6Copy.T5 := by kernel_rfl
theorem spec_l6Copy.bits5 : waitsOk spec_l6Copy.T5.2 spec_l6Copy.B5 = true := by kernel_rfl
def spec_l6Copy.T9 : Bool × List (List Nat × List Nat) := (true, [([], []), ([0], [0]), ([], []), ([2], [2]), ([], []), ([3, 4], [3, 4]), ([5], [5]), ([6], [6]), ([7], [7]), ([1, 8, 7], [1, 8]), ([0, 1, 2, 3, 4, 5, 6, 7, 8, 9], []), ([10, 9, 9, 0, 1, 2, 3, 4, 5, 6, 7, 8, 9], [9, 10])])
def spec_l6Copy.B9 : List Nat := [0, 1, 0, 4, 0, 28, 60, 124, 252, 511, 1023, 2047]
theorem spec_l6Copy.tab9 : rtab .any (opsOf Tryz.f31 9) = spec_l6Copy.T9 := by kernel_rfl
theorem spec_l6Copy.bits9 : waitsOk spec_l6Copy.T9.2 spec_l6Copy.B9 = true := by kernel_rfl
set_option maxHeartbeats 8000000 in
set_option maxRecDepth 100000 in
theorem spec_l6Copy.calls (k : Nat) (a0_0 : Bool) (A0_1 : Option Addr) (c0_1 : Nat) (l0_1 : List (S83)) (A0_2 : Option Addr) (c0_2 : Nat) (l0_2 : List (S50)) (A0_3 : Option Addr) (c0_3 : Nat) (l0_3 : List Int) (r1 : Bool) (r2 : List (S83)) (r3 : List (S50)) (r4 : List Int) (w : World) (hr0_1 : Kd.C k83 w A0_1 l0_1.length l0_1) (hc0_1 : l0_1.length ≤ c0_1) (hr0_2 : Kd.C k50 w A0_2 l0_2.length l0_2) (hc0_2 : l0_2.length ≤ c0_2) (hr0_3 : Kd.C (Kd.int .i64) w A0_3 l0_3.length l0_3) (hc0_3 : l0_3.length ≤ c0_3) (h : spec_l6Copy.f k a0_0 l0_1 l0_2 l0_3 = some (r1, r2, r3, r4)) :
    Calls Tryz.prog 31 #[.agg #[.bool a0_0, .slice A0_1 l0_1.length c0_1, .slice A0_2 l0_2.length c0_2, .slice A0_3 l0_3.length c0_3]] w fun e w' => ∃ v1_ v2_ v3_ : Value, e = .returned (.agg #[.bool r1, v1_, v2_, v3_]) ∧ Kd.S k83 83 w' w.heap.size (fun _ => True) v1_ r2 ∧ Kd.S k50 50 w' w.heap.size (fun _ => True) v2_ r3 ∧ Kd.R (Kd.int .i64) 2 w' w.heap.size (fun _ => True) v3_ r4 ∧ Below w.heap.size w w' := by
 have hu31 := Tryz.underlying31
 have hu83 := Tryz.underlying83
 have hu50 := Tryz.underlying50
 have HR0_1 := Aside0.mk hr0_1
 have HC0_1 := Aside0.mk hc0_1
 clear hr0_1 hc0_1
 have HR0_2 := Aside0.mk hr0_2
 have HC0_2 := Aside0.mk hc0_2
 clear hr0_2 hc0_2
 have HR0_3 := Aside0.mk hr0_3
 have HC0_3 := Aside0.mk hc0_3
 clear hr0_3 hc0_3
 have HB := Aside0.mk (Below.refl w.heap.size w)
 have H : ((some (([] : List Int) : List Int)).bind fun y172 => (if y172.length + l0_3.length < 17592186044416 then (spec_l6Copy.l0 k 0 a0_0 l0_1 l0_2 l0_3 a0_0 ([] : List (S83)) (y172 ++ l0_3)) else (none))) = some (r1,r2,r3,r4) := h
 clear h
 obtain ⟨y172,hy172⟩ : ∃ y_ : List Int,y_ = (([] : List Int)) := ⟨_,rfl⟩
 replace H : (if y172.length + l0_3.length < 17592186044416 then (spec_l6Copy.l0 k 0 a0_0 l0_1 l0_2 l0_3 a0_0 ([] : List (S83)) (y172 ++ l0_3)) else (none)) = some (r1,r2,r3,r4) := by first|(rw [hy172];with_reducible exact H)|(have H2_ := (Option.bind_some _ _).symm.trans H;rw [hy172];with_reducible exact H2_)|(have H2_ := (Option.bind_some _ _).symm.trans H;with_reducible exact H2_)|with_reducible exact H|(rw [hy172];exact H)|exact H
 have Ny172 := Aside0.mk hy172
 clear hy172
 by_cases c2 : y172.length + l0_3.length < 17592186044416
 ·rw [if_pos c2] at H
  have LMc2 := Aside0.mk c2
  clear c2
  obtain ⟨y175,hy175⟩ : ∃ y_ : List Int,y_ = (y172 ++ l0_3) := ⟨_,rfl⟩
  replace H : (spec_l6Copy.l0 k 0 a0_0 l0_1 l0_2 l0_3 a0_0 ([] : List (S83)) y175) = some (r1,r2,r3,r4) := by first|(rw [hy175];with_reducible exact H)|(have H2_ := (Option.bind_some _ _).symm.trans H;rw [hy175];with_reducible exact H2_)|(have H2_ := (Option.bind_some _ _).symm.trans H;with_reducible exact H2_)|with_reducible exact H|(rw [hy175];exact H)|exact H
  have Ny175 := Aside0.mk hy175
  clear hy175
  have H' := Aside0.mk H
  clear H
  go_enter Tryz.func31,Tryz.ntmps31
  try go_wp2_with (first|((with_reducible refine gate_dst (N := 1) rfl ?_);refine bx_ 1 #[.bool a0_0,.slice A0_1 l0_1.length c0_1,.slice A0_2 l0_2.length c0_2,.slice A0_3 l0_3.length c0_3] 31 ?_;intro gb170 hg w3 hbox hb;replace HB := nb_ hg hbox hb;obtain ⟨BK170,GW170,GE170,HB⟩ := HB;clear hb hbox hg)|((with_reducible refine gate_dst (N := 2) rfl ?_);refine bx_ 2 #[.bool false,.slice none 0 0,.slice none 0 0,.slice none 0 0] 31 ?_;intro gb171 hg w4 hbox hb;replace HB := nb_ hg hbox hb;obtain ⟨BK171,GW171,GE171,HB⟩ := HB;have NB170_171 := Aside0.mk ((nl_ BK170 hg));have NB171_170 := Aside0.mk ((ng_ BK170 hg));replace BK170 := Aside0.mk (blk_below (kb_ BK170) hb);clear hb hbox hg))
  replace BK170 := Aside0.mk (blk_drew BK170.out)
  replace BK171 := Aside0.mk (blk_drew BK171.out)
  replace HB := Aside0.mk (below_drew1 HB.out)
  refine st_ 9 (S := fun w' => hd4 w' gb170 (.bool a0_0) (.slice A0_1 l0_1.length c0_1) (.slice A0_2 l0_2.length c0_2) (.slice A0_3 l0_3.length c0_3)) hh_ (fun hHeld => ?_);refine with_tabW spec_l6Copy.tab1 spec_l6Copy.bits1 (fun HT_ HW_ => ?_)
  generalize w4.drew = w5 at BK170 BK171 HB hHeld ⊢
  refine pv_ 0 6 ?_
  refine pv_ 3 9 ?_
  refine tx_ 1 7 hHeld ?_
  refine tx_ 4 10 hHeld ?_
  refine join_ (σ := Value × Value × Nat) 1 #[true,true,true,true,true,true,true,true,false] (fun s_ => [(8,s_.1),(11,s_.2.1),(3,.pointer (some ⟨s_.2.2,0,none⟩)),(12,.agg #[.bool a0_0,.slice none 0 0,.slice none 0 0,s_.2.1])]) (fun s_ w' => (w'.cell? ⟨gb170,0,none⟩ = some (.bool a0_0) ∧ w'.cell? ⟨gb170,1,none⟩ = some (.slice A0_1 l0_1.length c0_1) ∧ w'.cell? ⟨gb170,2,none⟩ = some (.slice A0_2 l0_2.length c0_2) ∧ w'.cell? ⟨gb170,3,none⟩ = some (.slice A0_3 l0_3.length c0_3)) ∧ (Kd.R (Kd.int .i64) 2 w' w.heap.size (fun _ => True) s_.2.1 y175) ∧ (w'.heap[gb170]? = some (.cells #[.bool a0_0,.slice A0_1 l0_1.length c0_1,.slice A0_2 l0_2.length c0_2,.slice A0_3 l0_3.length c0_3] 31 (0,0))) ∧ (w'.heap[gb171]? = some (.cells #[.bool false,.slice none 0 0,.slice none 0 0,.slice none 0 0] 31 (0,0))) ∧ (w'.heap[s_.2.2]? = some (.cells #[.bool false,.slice none 0 0,.slice none 0 0,.slice none 0 0] 31 (0,0))) ∧ (w.heap.size ≤ s_.2.2) ∧ (w.heap.size ≤ s_.2.2) ∧ (gb170 ≠ s_.2.2) ∧ (s_.2.2 ≠ gb170) ∧ (gb171 ≠ s_.2.2) ∧ (s_.2.2 ≠ gb171) ∧ (Below w.heap.size w w')) ?_ ?_
  rotate_left
  ·intro hCont
   refine two_ (i := 2) (j := 7) (Ni := some 8) (Nj := some 3) #[true,true,true,true,true,false,false,false,false] #[true,true,false,true,true,false,false,true,false] rfl rfl rfl rfl (two_of HT_.out (by kernel_rfl)) (by decide) (by decide) (fun K hK => ?_) (fun K hK => ?_)
   ·skip
    refine Kd.R_lit_step (Kd.int .i64) _ 2 ?hg (N := 8) ?hd (xs := ([] : List Int)) (inner := []) (ok := fun _ => True) (okp := fun _ => True) ?hr ?hp (fun _ hk => hk) trivial (Below.refl _ _) (Nat.le_refl _) (by simp) ?_;(case hd => rfl);(case hg => rfl);(case hr => first|(go_simp;done)|(go_simp;rfl));(case hp => exact (Reps.none _ _))
    intro v173 w6 ho7 hb hg_ hnew_
    clear hg_ hnew_
    (first|rw [← Ny172.out] at ho7|(simp only [Int.reduceToNat] at ho7;rw [← Ny172.out] at ho7))
    replace BK170 := Aside0.mk (blk_below (kb_ BK170) hb)
    replace BK171 := Aside0.mk (blk_below (kb_ BK171) hb)
    have HO174 := Aside0.mk (Kd.R_lower ho7 (below_size b_))
    replace HB := Aside0.mk (below_step b_ hb)
    clear hb ho7
    refine hK.out _ _ hh_ (fun hHeld => ?_)
    clear hK K
    refine nr_ (some 8) _ ?_
    refine two_ (i := 5) (j := 7) (Ni := some 11) (Nj := some 3) #[true,true,true,true,true,true,false,false,false] #[true,true,true,true,true,false,false,true,false] rfl rfl rfl rfl (two_of HT_.out (by kernel_rfl)) (by decide) (by decide) (fun K hK => ?_) (fun K hK => ?_)
    ·skip
     refine Kd.R_append_rows_step (Kd.int .i64) (w0 := w) w.heap.size (by rfl) (.tmp 8) (.tmp 10) 24 2 (.int .i64 0) 8 rfl Tryz.underlying24 info2 rfl (by decide) (by omega) v173 y172 l0_3 _ _ _ (fun _ => True) (fun _ => False) rfl rfl ?aO ?aR (fun _ _ h => h) (fun _ h => h.elim) ?aF ?aB ?aS ?aL ?_
     (case aR => repeat (first|exact (Kd.C_below HR0_3.out HB.out)|(with_reducible refine Kd.C_alloc ?_ _)|(with_reducible refine Kd.C_drewN ?_ _)|(with_reducible refine Kd.C_drew ?_)))
     (case aB => exact b_)
     (case aF => exact (fun _ _ => trivial))
     (case aO => exact (by (with_reducible repeat (first|apply Kd.R_alloc|apply Kd.R_drewN|apply Kd.R_drew));exact HO174.out))
     (case aS => exact (below_size b_))
     (case aL => have := LMc2.out;omega)
     intro v176 w8 ho hb hg hat
     rw [← Ny175.out] at ho
     replace BK170 := Aside0.mk (blk_grown (kb_ BK170) hg (Kd.R_ne HO174.out BK170.out (by decide)))
     replace BK171 := Aside0.mk (blk_grown (kb_ BK171) hg (Kd.R_ne HO174.out BK171.out (by decide)))
     replace HB := Aside0.mk (hb)
     have HO177 := Aside0.mk (ho)
     clear HO174
     clear ho hb hg hat
     obtain ⟨Ao9,co9,eo9⟩ := Kd.R_slice HO177.out
     (first|subst eo9|(injection eo9 with f1_ f2_ f3_;have f4_ := f1_.symm;have f5_ := f3_.symm;clear f1_ f2_ f3_;subst f4_;subst f5_))
     refine hK.out _ _ hh_ (fun hHeld => ?_)
     clear hK K
     refine nr_ (some 11) _ ?_
     refine pv_ 6 12 ?_
     refine oy_ 7 3 (fun K hK => ?_)
     refine box_step ?hg (N := 3) ?hd (cs := #[.bool false,.slice none 0 0,.slice none 0 0,.slice none 0 0]) (t := 31) ?hr ?_;(case hd => rfl);(case hg => rfl);(case hr => first|(go_simp;done)|(go_simp;rfl))
     intro gb178 hg w10 hbox hb
     replace HO177 := Aside0.mk (Kd.R_below (by (with_reducible repeat (first|apply Kd.R_alloc|apply Kd.R_drewN|apply Kd.R_drew));exact HO177.out) hb)
     have BK178 := Aside0.mk (hbox)
     have GW178 := Aside0.mk ((gw_ (w := w) hg))
     have GE178 := Aside0.mk ((gw_ (w := w) hg))
     replace HB := Aside0.mk (below_step b_ hb)
     have NB170_178 := Aside0.mk ((nl_ BK170 hg))
     have NB178_170 := Aside0.mk ((ng_ BK170 hg))
     replace BK170 := Aside0.mk (blk_below (kb_ BK170) hb)
     have NB171_178 := Aside0.mk ((nl_ BK171 hg))
     have NB178_171 := Aside0.mk ((ng_ BK171 hg))
     replace BK171 := Aside0.mk (blk_below (kb_ BK171) hb)
     clear hb hbox hg
     refine hK.out _ _ hh_ (fun hHeld => ?_)
     clear hK K
     refine nr_ (some 3) _ ?_
     exact norm_ (by simp only [putAll,Act.put,List.setIfInBounds_toArray,List.set_cons_zero,List.set_cons_succ]) (hCont (v173,.slice Ao9 y175.length co9,gb178) _ ⟨hHeld,(by (with_reducible repeat (first|apply Kd.R_alloc|apply Kd.R_drewN|apply Kd.R_drew));exact HO177.out),kk_,kk_,kk_,GW178.out,GE178.out,NB170_178.out,NB178_170.out,NB171_178.out,NB178_171.out,b_⟩)
    ·skip
     refine box_step ?hg (N := 3) ?hd (cs := #[.bool false,.slice none 0 0,.slice none 0 0,.slice none 0 0]) (t := 31) ?hr ?_;(case hd => rfl);(case hg => rfl);(case hr => first|(go_simp;done)|(go_simp;rfl))
     intro gb178 hg w8 hbox hb
     replace HO174 := Aside0.mk (Kd.R_below (by (with_reducible repeat (first|apply Kd.R_alloc|apply Kd.R_drewN|apply Kd.R_drew));exact HO174.out) hb)
     have BK178 := Aside0.mk (hbox)
     have GW178 := Aside0.mk ((gw_ (w := w) hg))
     have GE178 := Aside0.mk ((gw_ (w := w) hg))
     replace HB := Aside0.mk (below_step b_ hb)
     have NB170_178 := Aside0.mk ((nl_ BK170 hg))
     have NB178_170 := Aside0.mk ((ng_ BK170 hg))
     replace BK170 := Aside0.mk (blk_below (kb_ BK170) hb)
     have NB171_178 := Aside0.mk ((nl_ BK171 hg))
     have NB178_171 := Aside0.mk ((ng_ BK171 hg))
     replace BK171 := Aside0.mk (blk_below (kb_ BK171) hb)
     clear hb hbox hg
     refine hK.out _ _ hh_ (fun hHeld => ?_)
     clear hK K
     refine nr_ (some 3) _ ?_
     refine oy_ 5 11 (fun K hK => ?_)
     refine Kd.R_append_rows_step (Kd.int .i64) (w0 := w) w.heap.size (by rfl) (.tmp 8) (.tmp 10) 24 2 (.int .i64 0) 8 rfl Tryz.underlying24 info2 rfl (by decide) (by omega) v173 y172 l0_3 _ _ _ (fun _ => True) (fun _ => False) rfl rfl ?aO ?aR (fun _ _ h => h) (fun _ h => h.elim) ?aF ?aB ?aS ?aL ?_
     (case aR => repeat (first|exact (Kd.C_below HR0_3.out HB.out)|(with_reducible refine Kd.C_alloc ?_ _)|(with_reducible refine Kd.C_drewN ?_ _)|(with_reducible refine Kd.C_drew ?_)))
     (case aB => exact b_)
     (case aF => exact (fun _ _ => trivial))
     (case aO => exact (by (with_reducible repeat (first|apply Kd.R_alloc|apply Kd.R_drewN|apply Kd.R_drew));exact HO174.out))
     (case aS => exact (below_size b_))
     (case aL => have := LMc2.out;omega)
     intro v176 w9 ho hb hg hat
     rw [← Ny175.out] at ho
     replace BK170 := Aside0.mk (blk_grown (kb_ BK170) hg (Kd.R_ne HO174.out BK170.out (by decide)))
     replace BK171 := Aside0.mk (blk_grown (kb_ BK171) hg (Kd.R_ne HO174.out BK171.out (by decide)))
     replace BK178 := Aside0.mk (blk_grown (kb_ BK178) hg (Kd.R_ne HO174.out BK178.out (by decide)))
     replace HB := Aside0.mk (hb)
     have HO177 := Aside0.mk (ho)
     clear HO174
     clear ho hb hg hat
     obtain ⟨Ao10,co10,eo10⟩ := Kd.R_slice HO177.out
     (first|subst eo10|(injection eo10 with f1_ f2_ f3_;have f4_ := f1_.symm;have f5_ := f3_.symm;clear f1_ f2_ f3_;subst f4_;subst f5_))
     refine hK.out _ _ hh_ (fun hHeld => ?_)
     clear hK K
     refine nr_ (some 11) _ ?_
     refine pv_ 6 12 ?_
     exact norm_ (by simp only [putAll,Act.put,List.setIfInBounds_toArray,List.set_cons_zero,List.set_cons_succ]) (hCont (v173,.slice Ao10 y175.length co10,gb178) _ ⟨hHeld,(by (with_reducible repeat (first|apply Kd.R_alloc|apply Kd.R_drewN|apply Kd.R_drew));exact HO177.out),kk_,kk_,kk_,GW178.out,GE178.out,NB170_178.out,NB178_170.out,NB171_178.out,NB178_171.out,b_⟩)
   ·skip
    refine box_step ?hg (N := 3) ?hd (cs := #[.bool false,.slice none 0 0,.slice none 0 0,.slice none 0 0]) (t := 31) ?hr ?_;(case hd => rfl);(case hg => rfl);(case hr => first|(go_simp;done)|(go_simp;rfl))
    intro gb178 hg w6 hbox hb
    have BK178 := Aside0.mk (hbox)
    have GW178 := Aside0.mk ((gw_ (w := w) hg))
    have GE178 := Aside0.mk ((gw_ (w := w) hg))
    replace HB := Aside0.mk (below_step b_ hb)
    have NB170_178 := Aside0.mk ((nl_ BK170 hg))
    have NB178_170 := Aside0.mk ((ng_ BK170 hg))
    replace BK170 := Aside0.mk (blk_below (kb_ BK170) hb)
    have NB171_178 := Aside0.mk ((nl_ BK171 hg))
    have NB178_171 := Aside0.mk ((ng_ BK171 hg))
    replace BK171 := Aside0.mk (blk_below (kb_ BK171) hb)
    clear hb hbox hg
    refine hK.out _ _ hh_ (fun hHeld => ?_)
    clear hK K
    refine nr_ (some 3) _ ?_
    refine oy_ 2 8 (fun K hK => ?_)
    refine Kd.R_lit_step (Kd.int .i64) _ 2 ?hg (N := 8) ?hd (xs := ([] : List Int)) (inner := []) (ok := fun _ => True) (okp := fun _ => True) ?hr ?hp (fun _ hk => hk) trivial (Below.refl _ _) (Nat.le_refl _) (by simp) ?_;(case hd => rfl);(case hg => rfl);(case hr => first|(go_simp;done)|(go_simp;rfl));(case hp => exact (Reps.none _ _))
    intro v173 w7 ho8 hb hg_ hnew_
    clear hg_ hnew_
    (first|rw [← Ny172.out] at ho8|(simp only [Int.reduceToNat] at ho8;rw [← Ny172.out] at ho8))
    replace BK170 := Aside0.mk (blk_below (kb_ BK170) hb)
    replace BK171 := Aside0.mk (blk_below (kb_ BK171) hb)
    replace BK178 := Aside0.mk (blk_below (kb_ BK178) hb)
    have HO174 := Aside0.mk (Kd.R_lower ho8 (below_size b_))
    replace HB := Aside0.mk (below_step b_ hb)
    clear hb ho8
    refine hK.out _ _ hh_ (fun hHeld => ?_)
    clear hK K
    refine nr_ (some 8) _ ?_
    refine oy_ 5 11 (fun K hK => ?_)
    refine Kd.R_append_rows_step (Kd.int .i64) (w0 := w) w.heap.size (by rfl) (.tmp 8) (.tmp 10) 24 2 (.int .i64 0) 8 rfl Tryz.underlying24 info2 rfl (by decide) (by omega) v173 y172 l0_3 _ _ _ (fun _ => True) (fun _ => False) rfl rfl ?aO ?aR (fun _ _ h => h) (fun _ h => h.elim) ?aF ?aB ?aS ?aL ?_
    (case aR => repeat (first|exact (Kd.C_below HR0_3.out HB.out)|(with_reducible refine Kd.C_alloc ?_ _)|(with_reducible refine Kd.C_drewN ?_ _)|(with_reducible refine Kd.C_drew ?_)))
    (case aB => exact b_)
    (case aF => exact (fun _ _ => trivial))
    (case aO => exact (by (with_reducible repeat (first|apply Kd.R_alloc|apply Kd.R_drewN|apply Kd.R_drew));exact HO174.out))
    (case aS => exact (below_size b_))
    (case aL => have := LMc2.out;omega)
    intro v176 w9 ho hb hg hat
    rw [← Ny175.out] at ho
    replace BK170 := Aside0.mk (blk_grown (kb_ BK170) hg (Kd.R_ne HO174.out BK170.out (by decide)))
    replace BK171 := Aside0.mk (blk_grown (kb_ BK171) hg (Kd.R_ne HO174.out BK171.out (by decide)))
    replace BK178 := Aside0.mk (blk_grown (kb_ BK178) hg (Kd.R_ne HO174.out BK178.out (by decide)))
    replace HB := Aside0.mk (hb)
    have HO177 := Aside0.mk (ho)
    clear HO174
    clear ho hb hg hat
    obtain ⟨Ao10,co10,eo10⟩ := Kd.R_slice HO177.out
    (first|subst eo10|(injection eo10 with f1_ f2_ f3_;have f4_ := f1_.symm;have f5_ := f3_.symm;clear f1_ f2_ f3_;subst f4_;subst f5_))
    refine hK.out _ _ hh_ (fun hHeld => ?_)
    clear hK K
    refine nr_ (some 11) _ ?_
    refine pv_ 6 12 ?_
    exact norm_ (by simp only [putAll,Act.put,List.setIfInBounds_toArray,List.set_cons_zero,List.set_cons_succ]) (hCont (v173,.slice Ao10 y175.length co10,gb178) _ ⟨hHeld,(by (with_reducible repeat (first|apply Kd.R_alloc|apply Kd.R_drewN|apply Kd.R_drew));exact HO177.out),kk_,kk_,kk_,GW178.out,GE178.out,NB170_178.out,NB178_170.out,NB171_178.out,NB178_171.out,b_⟩)
  rintro ⟨v173,v176,gb178⟩ w11 ⟨hS_,h0_,h1_,h2_,h3_,h4_,h5_,h6_,h7_,h8_,h9_,h10_⟩
  have n0_ : Aside0 (Kd.R (Kd.int .i64) 2 w11 w.heap.size (fun _ => True) v176 y175) := ⟨h0_⟩
  have n1_ : Aside0 (w11.heap[gb170]? = some (.cells #[.bool a0_0,.slice A0_1 l0_1.length c0_1,.slice A0_2 l0_2.length c0_2,.slice A0_3 l0_3.length c0_3] 31 (0,0))) := ⟨h1_⟩
  have n2_ : Aside0 (w11.heap[gb171]? = some (.cells #[.bool false,.slice none 0 0,.slice none 0 0,.slice none 0 0] 31 (0,0))) := ⟨h2_⟩
  have n3_ : Aside0 (w11.heap[gb178]? = some (.cells #[.bool false,.slice none 0 0,.slice none 0 0,.slice none 0 0] 31 (0,0))) := ⟨h3_⟩
  have n4_ : Aside0 (w.heap.size ≤ gb178) := ⟨h4_⟩
  have n5_ : Aside0 (w.heap.size ≤ gb178) := ⟨h5_⟩
  have n6_ : Aside0 (gb170 ≠ gb178) := ⟨h6_⟩
  have n7_ : Aside0 (gb178 ≠ gb170) := ⟨h7_⟩
  have n8_ : Aside0 (gb171 ≠ gb178) := ⟨h8_⟩
  have n9_ : Aside0 (gb178 ≠ gb171) := ⟨h9_⟩
  have n10_ : Aside0 (Below w.heap.size w w11) := ⟨h10_⟩
  clear BK170
  clear BK171
  clear HB
  clear h0_ h1_ h2_ h3_ h4_ h5_ h6_ h7_ h8_ h9_ h10_
  have HO177 := n0_
  have BK170 := n1_
  have BK171 := n2_
  have BK178 := n3_
  have GW178 := n4_
  have GE178 := n5_
  have NB170_178 := n6_
  have NB178_170 := n7_
  have NB171_178 := n8_
  have NB178_171 := n9_
  have HB := n10_
  clear n0_ n1_ n2_ n3_ n4_ n5_ n6_ n7_ n8_ n9_ n10_
  have hHeld : w11.cell? ⟨gb170,0,none⟩ = some (.bool a0_0) ∧ w11.cell? ⟨gb170,1,none⟩ = some (.slice A0_1 l0_1.length c0_1) ∧ w11.cell? ⟨gb170,2,none⟩ = some (.slice A0_2 l0_2.length c0_2) ∧ w11.cell? ⟨gb170,3,none⟩ = some (.slice A0_3 l0_3.length c0_3) := hS_
  obtain ⟨Ao12,co12,eo12⟩ := Kd.R_slice HO177.out
  (first|subst eo12|(injection eo12 with f1_ f2_ f3_;have f4_ := f1_.symm;have f5_ := f3_.symm;clear f1_ f2_ f3_;subst f4_;subst f5_))
  refine norm_ (a' := ?_) ?_ ?_
  rotate_left
  ·simp only [putAll,Act.put,List.setIfInBounds_toArray,List.set_cons_zero,List.set_cons_succ]
   rfl
  refine oz_ (i := 8) (N := none) HT_.out rfl rfl (by kernel_rfl) (by decide) (fun K hK => ?_)
  have hs13 : w11.cell? ⟨gb178,0,none⟩ = some (.bool false) := (blk_cell BK178.out 0).trans rfl
  have hfs13 := blk_frozen BK178.out 0
  have hns13_0 := NB170_178.out
  have hns13_1 := NB171_178.out
  have hms13_0 := NB178_170.out
  have hms13_1 := NB178_171.out
  have hs14 : w11.cell? ⟨gb178,1,none⟩ = some (.slice none 0 0) := (blk_cell BK178.out 1).trans rfl
  have hfs14 := blk_frozen BK178.out 1
  have hns14_0 := NB170_178.out
  have hns14_1 := NB171_178.out
  have hms14_0 := NB178_170.out
  have hms14_1 := NB178_171.out
  have hs15 : w11.cell? ⟨gb178,2,none⟩ = some (.slice none 0 0) := (blk_cell BK178.out 2).trans rfl
  have hfs15 := blk_frozen BK178.out 2
  have hns15_0 := NB170_178.out
  have hns15_1 := NB171_178.out
  have hms15_0 := NB178_170.out
  have hms15_1 := NB178_171.out
  have hs16 : w11.cell? ⟨gb178,3,none⟩ = some (.slice none 0 0) := (blk_cell BK178.out 3).trans rfl
  have hfs16 := blk_frozen BK178.out 3
  have hns16_0 := NB170_178.out
  have hns16_1 := NB171_178.out
  have hms16_0 := NB178_170.out
  have hms16_1 := NB178_171.out
  refine skip_ (w1 := ?_) (by rfl) rfl ?_ ?_
  rotate_left
  ·go_simp
   rfl
  refine hK.out _ _ ⟨((cell_far (p := ⟨gb178,_,none⟩) NB170_178.out _).trans (((cell_far (p := ⟨gb178,_,none⟩) NB170_178.out _).trans (((cell_far (p := ⟨gb178,_,none⟩) NB170_178.out _).trans (((cell_far (p := ⟨gb178,_,none⟩) NB170_178.out _).trans (hHeld.1)))))))),((cell_far (p := ⟨gb178,_,none⟩) NB170_178.out _).trans (((cell_far (p := ⟨gb178,_,none⟩) NB170_178.out _).trans (((cell_far (p := ⟨gb178,_,none⟩) NB170_178.out _).trans (((cell_far (p := ⟨gb178,_,none⟩) NB170_178.out _).trans (hHeld.2.1)))))))),((cell_far (p := ⟨gb178,_,none⟩) NB170_178.out _).trans (((cell_far (p := ⟨gb178,_,none⟩) NB170_178.out _).trans (((cell_far (p := ⟨gb178,_,none⟩) NB170_178.out _).trans (((cell_far (p := ⟨gb178,_,none⟩) NB170_178.out _).trans (hHeld.2.2.1)))))))),((cell_far (p := ⟨gb178,_,none⟩) NB170_178.out _).trans (((cell_far (p := ⟨gb178,_,none⟩) NB170_178.out _).trans (((cell_far (p := ⟨gb178,_,none⟩) NB170_178.out _).trans (((cell_far (p := ⟨gb178,_,none⟩) NB170_178.out _).trans (hHeld.2.2.2))))))))⟩ (fun hHeld => ?_)
  clear hK K
  refine done_ (done_of HT_.out (by kernel_rfl)) ?_
  try go_wp2
  go_loopg [4] k (fun kq v4 w' => ∃ (x4_1 : Int) (x179001_1 : List (S83)) (u179001 : Value),v4 = .int .i64 x4_1 ∧ Aside0 (spec_l6Copy.l0 kq x4_1 a0_0 l0_1 l0_2 l0_3 a0_0 x179001_1 y175 = some (r1,r2,r3,r4)) ∧ Aside0 (kq ≤ k) ∧ Aside0 (Kd.S k83 83 w' w.heap.size (fun _ => True) u179001 x179001_1) ∧ Aside0 (Kd.R (Kd.int .i64) 2 w' w.heap.size (fun _ => True) (.slice Ao12 y175.length co12) y175) ∧ Aside0 (w'.heap[gb170]? = some (.cells #[.bool a0_0,(.slice A0_1 l0_1.length c0_1),(.slice A0_2 l0_2.length c0_2),(.slice A0_3 l0_3.length c0_3)] 31 (0,0))) ∧ Aside0 (w'.heap[gb171]? = some (.cells #[.bool false,(.slice none 0 0),(.slice none 0 0),(.slice none 0 0)] 31 (0,0))) ∧ Aside0 (w'.heap[gb178]? = some (.cells #[.bool a0_0,u179001,(.slice none 0 0),(.slice Ao12 y175.length co12)] 31 (0,0))) ∧ Aside0 (Below w.heap.size w w'))
  case atStart => exact ⟨(0),(([] : List (S83))),(.slice none 0 0),rs_,H',⟨Nat.le_refl _⟩,⟨by first|exact Kd.S_nil _ _ _ _ _|exact Kd.N_nil _ _ _ _ _|exact Kd.V_nil _ _ _ _ _|exact Kd.Q_nil _ _ _ _ _|exact Kd.R_nil _ _ _ _ _⟩,⟨by (with_reducible repeat (first|apply Kd.R_alloc|apply Kd.R_drewN|apply Kd.R_drew));exact Kd.R_mono (Kd.R_far (p := ⟨gb178,3,none⟩) (Kd.R_far (p := ⟨gb178,2,none⟩) (Kd.R_far (p := ⟨gb178,1,none⟩) (Kd.R_far (p := ⟨gb178,0,none⟩) (Kd.R_types HO177.out BK178.out (by decide)) (fun _ hk => hk.2) (.bool a0_0)) (fun _ hk => hk.2) (.slice none 0 0)) (fun _ hk => hk.2) (.slice none 0 0)) (fun _ hk => hk.2) (.slice Ao12 y175.length co12)) (fun _ hk => trivial)⟩,⟨kf_ BK170⟩,⟨kf_ BK171⟩,⟨by (with_reducible repeat (first|refine blk_drewN ?_ _|refine blk_drew ?_|refine blk_alloc ?_ _));refine blk_put (cs := #[.bool a0_0,.slice none 0 0,.slice none 0 0,.slice none 0 0]) ?_ 3 _ rfl;(with_reducible repeat (first|refine blk_drewN ?_ _|refine blk_drew ?_|refine blk_alloc ?_ _));refine blk_put (cs := #[.bool a0_0,.slice none 0 0,.slice none 0 0,.slice none 0 0]) ?_ 2 _ rfl;(with_reducible repeat (first|refine blk_drewN ?_ _|refine blk_drew ?_|refine blk_alloc ?_ _));refine blk_put (cs := #[.bool a0_0,.slice none 0 0,.slice none 0 0,.slice none 0 0]) ?_ 1 _ rfl;(with_reducible repeat (first|refine blk_drewN ?_ _|refine blk_drew ?_|refine blk_alloc ?_ _));refine blk_put (cs := #[.bool false,.slice none 0 0,.slice none 0 0,.slice none 0 0]) ?_ 0 _ rfl;(with_reducible repeat (first|refine blk_drewN ?_ _|refine blk_drew ?_|refine blk_alloc ?_ _));exact BK178.out⟩,⟨b_⟩⟩
  case round =>
   clear H'
   try clear c2
   try clear p2
   try clear c3
   obtain ⟨x4_1,x179001_1,u179001,rfl,HA,HK1,HO_179001,HO_179003,BK170,BK171,BK178,HB⟩ := hrel
   cases gk with
   | zero => exact absurd HA.out (by simp [spec_l6Copy.l0])
   | succ k1 =>
    have H := HA.out
    clear HA
    simp only [spec_l6Copy.l0] at H
    by_cases c17 : x4_1 < (l0_1.length : Int)
    ·rw [if_pos c17] at H
     have c17b0 : decide (x4_1 < (l0_1.length : Int)) = true := decide_eq_true c17
     clear c17
     by_cases c18 : 0 ≤ x4_1
     ·rw [if_pos c18] at H
      have c18b0 : decide (0 ≤ x4_1) = true := decide_eq_true c18
      clear c18
      replace H := bs_ H
      obtain ⟨t181,A19,H⟩ := H
      by_cases c20 : x179001_1.length < 4398046511104
      ·rw [if_pos c20] at H
       have LMc20 := Aside0.mk c20
       clear c20
       obtain ⟨y184,hy184⟩ : ∃ y_ : List (S83),y_ = (x179001_1 ++ [(⟨(rd_T83 l0_1 x4_1).f0,t181⟩ : S83)]) := ⟨_,rfl⟩
       replace H : (spec_l6Copy.l0 k1 (wrap64 (x4_1 + 1)) a0_0 l0_1 l0_2 l0_3 a0_0 y184 y175) = some (r1,r2,r3,r4) := by first|(rw [hy184];with_reducible exact H)|(have H2_ := (Option.bind_some _ _).symm.trans H;rw [hy184];with_reducible exact H2_)|(have H2_ := (Option.bind_some _ _).symm.trans H;with_reducible exact H2_)|with_reducible exact H|(rw [hy184];exact H)|exact H
       have Ny184 := Aside0.mk hy184
       clear hy184
       have H' := Aside0.mk H
       clear H
       have hnb21 := NB170_171.out
       have hnc21 := NB171_170.out
       have hnb22 := NB170_178.out
       have hnc22 := NB178_170.out
       obtain ⟨⟨hcz23_0,hcz23_1,hcz23_2,hcz23_3⟩,hfz23_0,hfz23_1,hfz23_2,hfz23_3⟩ := cl4_ BK170.out
       try go_wp2
       replace HO_179001 := Aside0.mk (Kd.S_drew HO_179001.out)
       replace HO_179003 := Aside0.mk (Kd.R_drew HO_179003.out)
       replace BK170 := Aside0.mk (blk_drew BK170.out)
       replace BK171 := Aside0.mk (blk_drew BK171.out)
       replace BK178 := Aside0.mk (blk_drew BK178.out)
       replace HB := Aside0.mk (below_drew1 HB.out)
       have p179 : 0 ≤ (x4_1 : Int) := od_
       have q179 : x4_1 < (l0_1.length : Int) := od_
       obtain ⟨ad179,A179_1,c179_1,e179,hx179_0,hx179_1,hl179_1,hi179_1⟩ := at_T83 HR0_1.out x4_1 p179 q179
       have hw179_1 := hx179_1
       have hw179_0 := hx179_0
       cases e179
       replace hx179_0 := hx_ HB hx179_0
       replace hx179_1 := hx_ HB hx179_1
       have HR179_1 := Aside0.mk hi179_1
       have HC179_1 := Aside0.mk hl179_1
       clear hi179_1 hl179_1
       replace p179 := eq_true p179
       replace q179 := eq_true q179
       have p180 : 0 ≤ (x4_1 : Int) := od_
       have q180 : x4_1 < (l0_1.length : Int) := od_
       obtain ⟨ad180,A180_1,c180_1,e180,hx180_0,hx180_1,hl180_1,hi180_1⟩ := at_T83 HR0_1.out x4_1 p180 q180
       have hw180_1 := hx180_1
       have hw180_0 := hx180_0
       obtain rfl : ad179 = ad180 := (by injection e180)
       replace hx180_0 := hx_ HB hx180_0
       replace hx180_1 := hx_ HB hx180_1
       have HR180_1 := Aside0.mk hi180_1
       have HC180_1 := Aside0.mk hl180_1
       clear hi180_1 hl180_1
       replace p180 := eq_true p180
       replace q180 := eq_true q180
       have ea_ := Option.some.inj (hx179_1.symm.trans hx180_1)
       injection ea_ with ea_ en_ ec_
       subst ea_
       subst ec_
       clear en_
       refine std_ 20 (S := fun w' => hc4 w' gb178 (.bool a0_0) (u179001) (.slice none 0 0) (.slice Ao12 y175.length co12) (hc4 w' gb170 (.bool a0_0) (.slice (some ad179) l0_1.length c0_1) (.slice A0_2 l0_2.length c0_2) (.slice A0_3 l0_3.length c0_3) (he2 w' (ad179.add ((x4_1).toNat * 2)) (.int .i64 ((rd_T83 l0_1 x4_1).f0)) (.slice A179_1 ((rd_T83 l0_1 x4_1).f1).length c179_1) (hf2 w' (ad179.add ((x4_1).toNat * 2)) (.int .i64 ((rd_T83 l0_1 x4_1).f0)) (.slice A179_1 ((rd_T83 l0_1 x4_1).f1).length c179_1))))) (ds := [19]) hh_ (fun hHeld => ?_);refine with_tabW spec_l6Copy.tab5 spec_l6Copy.bits5 (fun HT_ HW_ => ?_)
       generalize wr.drew = w24 at HO_179001 HO_179003 BK170 BK171 BK178 HB HR179_1 HR180_1 hx179_0 hx179_1 hx180_0 hx180_1 hHeld ⊢
       refine pv_ 0 20 ?_
       refine pv_ 2 22 ?_
       refine pv_ 4 24 ?_
       refine pv_ 8 28 ?_
       refine pv_ 10 30 ?_
       refine tx_ 1 21 hHeld ?_
       refine tx_ 3 23 hHeld ?_
       refine pv_ 5 25 ?_
       refine pv_ 6 26 ?_
       refine tx_ 7 27 hHeld ?_
       refine tx_ 9 29 hHeld ?_
       refine pv_ 11 31 ?_
       refine pv_ 12 32 ?_
       refine tx_ 13 33 hHeld ?_
       refine oy_ 14 34 (fun K hK => ?_)
       refine gs_ Tryz.func60 #[.slice A179_1 ((rd_T83 l0_1 x4_1).f1).length c179_1] ?_
       with_reducible refine (spec_l3Copy.calls _ _ ((rd_T83 l0_1 x4_1).f1) t181 _ ?side1 ?side2 A19.out).mono ?_
       (case side1 => exact cb_ HR180_1)
       (case side2 => exact HC180_1.out)
       rintro e w25 ⟨v182,rfl,ho0,hb⟩
       refine ⟨_,rfl,?_⟩
       replace HO_179001 := Aside0.mk (Kd.S_elder' (by (with_reducible repeat (first|apply Kd.S_alloc|apply Kd.S_drewN|apply Kd.S_drew));exact HO_179001.out) (Kd.R_base ho0) hb)
       replace HO_179003 := Aside0.mk (Kd.R_below (by (with_reducible repeat (first|apply Kd.R_alloc|apply Kd.R_drewN|apply Kd.R_drew));exact HO_179003.out) hb)
       replace BK170 := Aside0.mk (blk_below (kb_ BK170) hb)
       replace BK171 := Aside0.mk (blk_below (kb_ BK171) hb)
       replace BK178 := Aside0.mk (blk_below (kb_ BK178) hb)
       have HO183 := Aside0.mk (Kd.R_lower ho0 (below_size b_))
       replace HB := Aside0.mk (below_step b_ hb)
       (try clear hb)
       (try clear hb2)
       (try clear hk)
       (try clear hi)
       (try clear ho0)
       obtain ⟨Ao26,co26,eo26⟩ := Kd.R_slice HO183.out
       (first|subst eo26|(injection eo26 with f1_ f2_ f3_;have f4_ := f1_.symm;have f5_ := f3_.symm;clear f1_ f2_ f3_;subst f4_;subst f5_))
       refine hK.out _ _ hh_ (fun hHeld => ?_)
       clear hK K
       refine nr_ (some 34) _ ?_
       refine pv_ 15 35 ?_
       refine oy_ 16 36 (fun K hK => ?_)
       refine value_ (w1 := ?_) (v := ?_) (by rfl) rfl ?_ ?_
       rotate_left 2
       ·go_simp
        constructor
        ·rfl
        ·rfl
       refine hK.out _ _ ⟨(blk_cell (blk_alloc BK178.out _) 0).trans rfl,(blk_cell (blk_alloc BK178.out _) 1).trans rfl,(blk_cell (blk_alloc BK178.out _) 2).trans rfl,(blk_cell (blk_alloc BK178.out _) 3).trans rfl,(blk_cell (blk_alloc BK170.out _) 0).trans rfl,(blk_cell (blk_alloc BK170.out _) 1).trans rfl,(blk_cell (blk_alloc BK170.out _) 2).trans rfl,(blk_cell (blk_alloc BK170.out _) 3).trans rfl,(World.cell?_alloc_lt _ _ _ (World.block_lt_of_cell? _ _ ((hx_ HB hw179_0)))).trans ((hx_ HB hw179_0)),(World.cell?_alloc_lt _ _ _ (World.block_lt_of_cell? _ _ ((hx_ HB hw179_1)))).trans ((hx_ HB hw179_1)),(World.cell?_alloc_lt _ _ _ (World.block_lt_of_cell? _ _ ((hx_ HB hw180_0)))).trans ((hx_ HB hw180_0)),(World.cell?_alloc_lt _ _ _ (World.block_lt_of_cell? _ _ ((hx_ HB hw180_1)))).trans ((hx_ HB hw180_1))⟩ (fun hHeld => ?_)
       clear hK K
       refine nr_ (some 36) _ ?_
       refine oy_ 17 37 (fun K hK => ?_)
       refine Kd.S_append_step k83 (w0 := w) w.heap.size (by rfl) (.tmp 21) (.tmp 36) 28 83 (.agg #[(.int .i64 0),(.slice none 0 0)]) 32 rfl Tryz.underlying28 info83 rfl (by decide) (by omega) u179001 x179001_1 (⟨(rd_T83 l0_1 x4_1).f0,t181⟩ : S83) [.int .i64 ((rd_T83 l0_1 x4_1).f0),.slice Ao26 t181.length co26] (fun _ => True) (fun k_ => some k_ = (.slice Ao26 t181.length co26 : Value).ownBlock) rfl rfl ?aP (fun k_ hk_ => ((Kd.R_mono (ok' := fun k_ => ((fun _ => True)) k_ ∧ some k_ ≠ (u179001 : Value).ownBlock) (Kd.R_apart' (HO183.out) (Kd.S_typed HO_179001.out) (by decide)) (fun k_ hk => ⟨trivial,hk.2⟩))).1 k_ hk_.symm) ?aF ?aO ?aB ?aS ?aL ?_
       (case aP => exact k83_mkM _ _ _ (⟨(rd_T83 l0_1 x4_1).f0,t181⟩ : S83) (Kd.R_mono (Kd.R_tight rfl (Kd.R_mono (ok' := fun k_ => ((fun _ => True)) k_ ∧ some k_ ≠ (u179001 : Value).ownBlock) (Kd.R_apart' (HO183.out) (Kd.S_typed HO_179001.out) (by decide)) (fun k_ hk => ⟨trivial,hk.2⟩))) (fun _ h_ => h_)))
       (case aB => exact b_)
       (case aF => exact (fun _ _ => trivial))
       (case aO => exact (by (with_reducible repeat (first|apply Kd.S_alloc|apply Kd.S_drewN|apply Kd.S_drew));exact Kd.S_mono HO_179001.out (fun k_ hk => ⟨trivial,fun e_ => hk.2 e_⟩)))
       (case aS => exact (below_size b_))
       (case aL => have := LMc20.out;omega)
       intro v185 w27 ho hb hg hat
       rw [← Ny184.out] at ho
       replace HO_179003 := Aside0.mk (Kd.R_over' (by (with_reducible repeat (first|apply Kd.R_alloc|apply Kd.R_drewN|apply Kd.R_drew));exact HO_179003.out) (Kd.S_typed (by (with_reducible repeat (first|apply Kd.S_alloc|apply Kd.S_drewN|apply Kd.S_drew));exact HO_179001.out)) (by decide) hg)
       replace BK170 := Aside0.mk (blk_grown (kb_ BK170) hg (Kd.S_ne HO_179001.out BK170.out (by decide)))
       replace BK171 := Aside0.mk (blk_grown (kb_ BK171) hg (Kd.S_ne HO_179001.out BK171.out (by decide)))
       replace BK178 := Aside0.mk (blk_grown (kb_ BK178) hg (Kd.S_ne HO_179001.out BK178.out (by decide)))
       replace HB := Aside0.mk (hb)
       have HO186 := Aside0.mk (ho)
       clear HO_179001 HO183
       clear ho hb hg hat
       obtain ⟨Ao28,co28,eo28⟩ := Kd.S_slice HO186.out
       (first|subst eo28|(injection eo28 with f1_ f2_ f3_;have f4_ := f1_.symm;have f5_ := f3_.symm;clear f1_ f2_ f3_;subst f4_;subst f5_))
       refine hK.out _ _ hh_ (fun hHeld => ?_)
       clear hK K
       refine nr_ (some 37) _ ?_
       refine pv_ 18 38 ?_
       refine last_ (i := 19) (N := none) #[true,true,true,true,true,true,true,true,true,true,true,true,true,true,true,true,true,true,true,true] rfl rfl (one_of HT_.out (by kernel_rfl)) (by decide) (fun K hK => ?_)
       have hs29 : w27.cell? ⟨gb178,1,none⟩ = some (u179001) := (blk_cell BK178.out 1).trans rfl
       have hfs29 := blk_frozen BK178.out 1
       have hns29_0 := NB170_178.out
       have hns29_1 := NB171_178.out
       have hms29_0 := NB178_170.out
       have hms29_1 := NB178_171.out
       refine skip_ (w1 := ?_) (by rfl) rfl ?_ ?_
       rotate_left
       ·go_simp
        rfl
       refine hK.out _ _ ?_
       clear hK K
       refine done_ (done_of HT_.out (by kernel_rfl)) ?_
       try go_wp2
       go_roundg k1
       case measure => have := HK1.out;omega
       case rel => exact ⟨(wrap64 (x4_1 + 1)),(y184),(.slice Ao28 y184.length co28),rs_,H',⟨by have := HK1.out;omega⟩,⟨by (with_reducible repeat (first|apply Kd.S_alloc|apply Kd.S_drewN|apply Kd.S_drew));exact Kd.S_mono (Kd.S_far (p := ⟨gb178,1,none⟩) (Kd.S_types HO186.out BK178.out (by decide)) (fun _ hk => hk.2) (.slice Ao28 y184.length co28)) (fun _ hk => trivial)⟩,⟨by (with_reducible repeat (first|apply Kd.R_alloc|apply Kd.R_drewN|apply Kd.R_drew));exact Kd.R_mono (Kd.R_far (p := ⟨gb178,1,none⟩) (Kd.R_types HO_179003.out BK178.out (by decide)) (fun _ hk => hk.2) (.slice Ao28 y184.length co28)) (fun _ hk => trivial)⟩,⟨kf_ BK170⟩,⟨kf_ BK171⟩,⟨by (with_reducible repeat (first|refine blk_drewN ?_ _|refine blk_drew ?_|refine blk_alloc ?_ _));refine blk_put (cs := #[.bool a0_0,u179001,.slice none 0 0,.slice Ao12 y175.length co12]) ?_ 1 _ rfl;(with_reducible repeat (first|refine blk_drewN ?_ _|refine blk_drew ?_|refine blk_alloc ?_ _));exact BK178.out⟩,⟨b_⟩⟩
      ·rw [if_neg c20] at H
       exact absurd H (by simp)
     ·rw [if_neg c18] at H
      exact absurd H (by simp)
    ·rw [if_neg c17] at H
     have c17b0 : decide (x4_1 < (l0_1.length : Int)) = false := decide_eq_false c17
     clear c17
     have H' := Aside0.mk H
     clear H
     have hnb30 := NB170_171.out
     have hnc30 := NB171_170.out
     have hnb31 := NB170_178.out
     have hnc31 := NB178_170.out
     obtain ⟨⟨hcz32_0,hcz32_1,hcz32_2,hcz32_3⟩,hfz32_0,hfz32_1,hfz32_2,hfz32_3⟩ := cl4_ BK170.out
     go_wp2
     go_loopg [5] k1 (fun kq v5 w' => ∃ (x5_2 : Int) (x179002_2 : List (S50)) (u179002 : Value),v5 = .int .i64 x5_2 ∧ Aside0 (spec_l6Copy.l1 kq x5_2 a0_0 l0_1 l0_2 l0_3 a0_0 x179001_1 x179002_2 y175 = some (r1,r2,r3,r4)) ∧ Aside0 (kq ≤ k1) ∧ Aside0 (Kd.S k83 83 w' w.heap.size (fun _ => True) u179001 x179001_1) ∧ Aside0 (Kd.S k50 50 w' w.heap.size (fun _ => True) u179002 x179002_2) ∧ Aside0 (Kd.R (Kd.int .i64) 2 w' w.heap.size (fun _ => True) (.slice Ao12 y175.length co12) y175) ∧ Aside0 (w'.heap[gb170]? = some (.cells #[.bool a0_0,(.slice A0_1 l0_1.length c0_1),(.slice A0_2 l0_2.length c0_2),(.slice A0_3 l0_3.length c0_3)] 31 (0,0))) ∧ Aside0 (w'.heap[gb171]? = some (.cells #[.bool false,(.slice none 0 0),(.slice none 0 0),(.slice none 0 0)] 31 (0,0))) ∧ Aside0 (w'.heap[gb178]? = some (.cells #[.bool a0_0,u179001,u179002,(.slice Ao12 y175.length co12)] 31 (0,0))) ∧ Aside0 (Below w.heap.size w w'))
     case atStart => exact ⟨(0),(([] : List (S50))),(.slice none 0 0),rs_,H',⟨Nat.le_refl _⟩,⟨by (with_reducible repeat (first|apply Kd.S_alloc|apply Kd.S_drewN|apply Kd.S_drew));exact HO_179001.out⟩,⟨by first|exact Kd.S_nil _ _ _ _ _|exact Kd.N_nil _ _ _ _ _|exact Kd.V_nil _ _ _ _ _|exact Kd.Q_nil _ _ _ _ _|exact Kd.R_nil _ _ _ _ _⟩,⟨by (with_reducible repeat (first|apply Kd.R_alloc|apply Kd.R_drewN|apply Kd.R_drew));exact HO_179003.out⟩,⟨kb_ BK170⟩,⟨kb_ BK171⟩,⟨kb_ BK178⟩,⟨b_⟩⟩
     case round =>
      clear H'
      try clear c1
      try clear p1
      try clear q1
      try clear hx1
      try clear c2
      try clear p2
      try clear c3
      try clear c6
      try clear p6
      try clear c17
      try clear c17b0
      try clear p17
      try clear q17
      try clear hx17
      try clear c18
      try clear c18b0
      try clear p18
      try clear q18
      try clear hx18
      try clear c20
      try clear c21
      try clear c22
      try clear c30
      try clear c31
      try clear hcz23_0
      try clear hcz23_1
      try clear hcz23_2
      try clear hcz23_3
      try clear hcz32_0
      try clear hcz32_1
      try clear hcz32_2
      try clear hcz32_3
      try clear hfz23_0
      try clear hfz23_1
      try clear hfz23_2
      try clear hfz23_3
      try clear hfz32_0
      try clear hfz32_1
      try clear hfz32_2
      try clear hfz32_3
      try clear hx179_0
      try clear hx179_1
      try clear hx180_0
      try clear hx180_1
      try clear p179
      try clear p180
      try clear p2
      try clear q179
      try clear q180
      obtain ⟨x5_2,x179002_2,u179002,rfl,HA,HK2,HO_179001,HO_179002,HO_179003,BK170,BK171,BK178,HB⟩ := hrel
      cases gk with
      | zero => exact absurd HA.out (by simp [spec_l6Copy.l1])
      | succ k2 =>
       have H := HA.out
       clear HA
       simp only [spec_l6Copy.l1] at H
       by_cases c33 : x5_2 < (l0_2.length : Int)
       ·rw [if_pos c33] at H
        have c33b0 : decide (x5_2 < (l0_2.length : Int)) = true := decide_eq_true c33
        clear c33
        by_cases c34 : 0 ≤ x5_2
        ·rw [if_pos c34] at H
         have c34b0 : decide (0 ≤ x5_2) = true := decide_eq_true c34
         clear c34
         replace H := Option.bind_eq_some_iff.mp H
         obtain ⟨⟨t188,t189,t190,t191⟩,A350,H⟩ := H
         replace H : (if x179002_2.length < 2932031007402 then (spec_l6Copy.l1 k2 (wrap64 (x5_2 + 1)) a0_0 l0_1 l0_2 l0_3 a0_0 x179001_1 (x179002_2 ++ [(⟨t188,t189,t190,t191⟩ : S50)]) y175) else (none)) = some (r1,r2,r3,r4) := H
         have A35 := Aside0.mk A350
         clear A350
         by_cases c36 : x179002_2.length < 2932031007402
         ·rw [if_pos c36] at H
          have LMc36 := Aside0.mk c36
          clear c36
          obtain ⟨y194,hy194⟩ : ∃ y_ : List (S50),y_ = (x179002_2 ++ [(⟨t188,t189,t190,t191⟩ : S50)]) := ⟨_,rfl⟩
          replace H : (spec_l6Copy.l1 k2 (wrap64 (x5_2 + 1)) a0_0 l0_1 l0_2 l0_3 a0_0 x179001_1 y194 y175) = some (r1,r2,r3,r4) := by first|(rw [hy194];with_reducible exact H)|(have H2_ := (Option.bind_some _ _).symm.trans H;rw [hy194];with_reducible exact H2_)|(have H2_ := (Option.bind_some _ _).symm.trans H;with_reducible exact H2_)|with_reducible exact H|(rw [hy194];exact H)|exact H
          have Ny194 := Aside0.mk hy194
          clear hy194
          have H' := Aside0.mk H
          clear H
          have hnb37 := NB170_171.out
          have hnc37 := NB171_170.out
          have hnb38 := NB170_178.out
          have hnc38 := NB178_170.out
          obtain ⟨⟨hcz39_0,hcz39_1,hcz39_2,hcz39_3⟩,hfz39_0,hfz39_1,hfz39_2,hfz39_3⟩ := cl4_ BK170.out
          try go_wp2
          replace HO_179001 := Aside0.mk (Kd.S_drew HO_179001.out)
          replace HO_179002 := Aside0.mk (Kd.S_drew HO_179002.out)
          replace HO_179003 := Aside0.mk (Kd.R_drew HO_179003.out)
          replace BK170 := Aside0.mk (blk_drew BK170.out)
          replace BK171 := Aside0.mk (blk_drew BK171.out)
          replace BK178 := Aside0.mk (blk_drew BK178.out)
          replace HB := Aside0.mk (below_drew1 HB.out)
          have p187 : 0 ≤ (x5_2 : Int) := od_
          have q187 : x5_2 < (l0_2.length : Int) := od_
          obtain ⟨ad187,A187_3,c187_3,e187,hx187_0,hx187_1,hx187_2,hx187_3,hl187_3,hi187_3⟩ := at_T50 HR0_2.out x5_2 p187 q187
          have hw187_3 := hx187_3
          have hw187_2 := hx187_2
          have hw187_1 := hx187_1
          have hw187_0 := hx187_0
          cases e187
          replace hx187_0 := hx_ HB hx187_0
          replace hx187_1 := hx_ HB hx187_1
          replace hx187_2 := hx_ HB hx187_2
          replace hx187_3 := hx_ HB hx187_3
          have HR187_3 := Aside0.mk hi187_3
          have HC187_3 := Aside0.mk hl187_3
          clear hi187_3 hl187_3
          replace p187 := eq_true p187
          replace q187 := eq_true q187
          refine std_ 12 (S := fun w' => hc4 w' gb178 (.bool a0_0) (u179001) (u179002) (.slice Ao12 y175.length co12) (hc4 w' gb170 (.bool a0_0) (.slice A0_1 l0_1.length c0_1) (.slice (some ad187) l0_2.length c0_2) (.slice A0_3 l0_3.length c0_3) (hf4 w' (ad187.add ((x5_2).toNat * 4)) (.int .i64 ((rd_T50 l0_2 x5_2).f0)) (.int .i64 ((rd_T50 l0_2 x5_2).f1)) (.int .i64 ((rd_T50 l0_2 x5_2).f2)) (.slice A187_3 ((rd_T50 l0_2 x5_2).f3).length c187_3)))) (ds := [11]) hh_ (fun hHeld => ?_);refine with_tabW spec_l6Copy.tab9 spec_l6Copy.bits9 (fun HT_ HW_ => ?_)
          generalize wr.drew = w40 at HO_179001 HO_179002 HO_179003 BK170 BK171 BK178 HB HR187_3 hx187_0 hx187_1 hx187_2 hx187_3 hHeld ⊢
          refine pv_ 0 46 ?_
          refine pv_ 2 48 ?_
          refine pv_ 4 50 ?_
          refine tx_ 1 47 hHeld ?_
          refine tx_ 3 49 hHeld ?_
          refine pv_ 5 51 ?_
          refine tx_ 6 52 hHeld ?_
          refine oy_ 7 53 (fun K hK => ?_)
          refine gs_ Tryz.func68 #[.agg #[.int .i64 ((rd_T50 l0_2 x5_2).f0),.int .i64 ((rd_T50 l0_2 x5_2).f1),.int .i64 ((rd_T50 l0_2 x5_2).f2),.slice A187_3 ((rd_T50 l0_2 x5_2).f3).length c187_3]] ?_
          with_reducible refine (spec_l6Record.calls ((rd_T50 l0_2 x5_2).f0) ((rd_T50 l0_2 x5_2).f1) ((rd_T50 l0_2 x5_2).f2) _ _ ((rd_T50 l0_2 x5_2).f3) t188 t189 t190 t191 _ ?side1 ?side2 A35.out).mono ?_
          (case side1 => exact cb_ HR187_3)
          (case side2 => exact HC187_3.out)
          rintro e w41 ⟨v192,rfl,ho0,hb⟩
          refine ⟨_,rfl,?_⟩
          replace HO_179001 := Aside0.mk (Kd.S_below (by (with_reducible repeat (first|apply Kd.S_alloc|apply Kd.S_drewN|apply Kd.S_drew));exact HO_179001.out) hb)
          replace HO_179002 := Aside0.mk (Kd.S_elder' (by (with_reducible repeat (first|apply Kd.S_alloc|apply Kd.S_drewN|apply Kd.S_drew));exact HO_179002.out) (Kd.R_base ho0) hb)
          replace HO_179003 := Aside0.mk (Kd.R_below (by (with_reducible repeat (first|apply Kd.R_alloc|apply Kd.R_drewN|apply Kd.R_drew));exact HO_179003.out) hb)
          replace BK170 := Aside0.mk (blk_below (kb_ BK170) hb)
          replace BK171 := Aside0.mk (blk_below (kb_ BK171) hb)
          replace BK178 := Aside0.mk (blk_below (kb_ BK178) hb)
          have HO193 := Aside0.mk (Kd.R_lower ho0 (below_size b_))
          replace HB := Aside0.mk (below_step b_ hb)
          (try clear hb)
          (try clear hb2)
          (try clear hk)
          (try clear hi)
          (try clear ho0)
          obtain ⟨Ao43,co43,eo43⟩ := Kd.R_slice HO193.out
          (first|subst eo43|(injection eo43 with f1_ f2_ f3_;have f4_ := f1_.symm;have f5_ := f3_.symm;clear f1_ f2_ f3_;subst f4_;subst f5_))
          refine hK.out _ _ hh_ (fun hHeld => ?_)
          clear hK K
          refine nr_ (some 53) _ ?_
          refine oy_ 8 54 (fun K hK => ?_)
          refine value_ (w1 := ?_) (v := ?_) (by rfl) rfl ?_ ?_
          rotate_left 2
          ·go_simp
           constructor
           ·rfl
           ·rfl
          refine hK.out _ _ ⟨(blk_cell (blk_alloc BK178.out _) 0).trans rfl,(blk_cell (blk_alloc BK178.out _) 1).trans rfl,(blk_cell (blk_alloc BK178.out _) 2).trans rfl,(blk_cell (blk_alloc BK178.out _) 3).trans rfl,(blk_cell (blk_alloc BK170.out _) 0).trans rfl,(blk_cell (blk_alloc BK170.out _) 1).trans rfl,(blk_cell (blk_alloc BK170.out _) 2).trans rfl,(blk_cell (blk_alloc BK170.out _) 3).trans rfl,(World.cell?_alloc_lt _ _ _ (World.block_lt_of_cell? _ _ ((hx_ HB hw187_0)))).trans ((hx_ HB hw187_0)),(World.cell?_alloc_lt _ _ _ (World.block_lt_of_cell? _ _ ((hx_ HB hw187_1)))).trans ((hx_ HB hw187_1)),(World.cell?_alloc_lt _ _ _ (World.block_lt_of_cell? _ _ ((hx_ HB hw187_2)))).trans ((hx_ HB hw187_2)),(World.cell?_alloc_lt _ _ _ (World.block_lt_of_cell? _ _ ((hx_ HB hw187_3)))).trans ((hx_ HB hw187_3))⟩ (fun hHeld => ?_)
          clear hK K
          refine nr_ (some 54) _ ?_
          refine oy_ 9 55 (fun K hK => ?_)
          refine Kd.S_append_step k50 (w0 := w) w.heap.size (by rfl) (.tmp 47) (.tmp 54) 29 50 (.agg #[(.int .i64 0),(.int .i64 0),(.int .i64 0),(.slice none 0 0)]) 48 rfl Tryz.underlying29 info50 rfl (by decide) (by omega) u179002 x179002_2 (⟨t188,t189,t190,t191⟩ : S50) [.int .i64 t188,.int .i64 t189,.int .i64 t190,.slice Ao43 t191.length co43] (fun _ => True) (fun k_ => some k_ = (.slice Ao43 t191.length co43 : Value).ownBlock) rfl rfl ?aP (fun k_ hk_ => ((Kd.R_mono (ok' := fun k_ => ((fun _ => True)) k_ ∧ some k_ ≠ (u179002 : Value).ownBlock) (Kd.R_apart' (HO193.out) (Kd.S_typed HO_179002.out) (by decide)) (fun k_ hk => ⟨trivial,hk.2⟩))).1 k_ hk_.symm) ?aF ?aO ?aB ?aS ?aL ?_
          (case aP => exact k50_mkM _ _ _ (⟨t188,t189,t190,t191⟩ : S50) (Kd.R_mono (Kd.R_tight rfl (Kd.R_mono (ok' := fun k_ => ((fun _ => True)) k_ ∧ some k_ ≠ (u179002 : Value).ownBlock) (Kd.R_apart' (HO193.out) (Kd.S_typed HO_179002.out) (by decide)) (fun k_ hk => ⟨trivial,hk.2⟩))) (fun _ h_ => h_)))
          (case aB => exact b_)
          (case aF => exact (fun _ _ => trivial))
          (case aO => exact (by (with_reducible repeat (first|apply Kd.S_alloc|apply Kd.S_drewN|apply Kd.S_drew));exact Kd.S_mono HO_179002.out (fun k_ hk => ⟨trivial,fun e_ => hk.2 e_⟩)))
          (case aS => exact (below_size b_))
          (case aL => have := LMc36.out;omega)
          intro v195 w42 ho hb hg hat
          rw [← Ny194.out] at ho
          replace HO_179001 := Aside0.mk (Kd.S_over' (by (with_reducible repeat (first|apply Kd.S_alloc|apply Kd.S_drewN|apply Kd.S_drew));exact HO_179001.out) (Kd.S_typed (by (with_reducible repeat (first|apply Kd.S_alloc|apply Kd.S_drewN|apply Kd.S_drew));exact HO_179002.out)) (by decide) hg)
          replace HO_179003 := Aside0.mk (Kd.R_over' (by (with_reducible repeat (first|apply Kd.R_alloc|apply Kd.R_drewN|apply Kd.R_drew));exact HO_179003.out) (Kd.S_typed (by (with_reducible repeat (first|apply Kd.S_alloc|apply Kd.S_drewN|apply Kd.S_drew));exact HO_179002.out)) (by decide) hg)
          replace BK170 := Aside0.mk (blk_grown (kb_ BK170) hg (Kd.S_ne HO_179002.out BK170.out (by decide)))
          replace BK171 := Aside0.mk (blk_grown (kb_ BK171) hg (Kd.S_ne HO_179002.out BK171.out (by decide)))
          replace BK178 := Aside0.mk (blk_grown (kb_ BK178) hg (Kd.S_ne HO_179002.out BK178.out (by decide)))
          replace HB := Aside0.mk (hb)
          have HO196 := Aside0.mk (ho)
          clear HO_179002 HO193
          clear ho hb hg hat
          obtain ⟨Ao44,co44,eo44⟩ := Kd.S_slice HO196.out
          (first|subst eo44|(injection eo44 with f1_ f2_ f3_;have f4_ := f1_.symm;have f5_ := f3_.symm;clear f1_ f2_ f3_;subst f4_;subst f5_))
          refine hK.out _ _ hh_ (fun hHeld => ?_)
          clear hK K
          refine nr_ (some 55) _ ?_
          refine pv_ 10 56 ?_
          refine last_ (i := 11) (N := none) #[true,true,true,true,true,true,true,true,true,true,true,true] rfl rfl (one_of HT_.out (by kernel_rfl)) (by decide) (fun K hK => ?_)
          have hs45 : w42.cell? ⟨gb178,2,none⟩ = some (u179002) := (blk_cell BK178.out 2).trans rfl
          have hfs45 := blk_frozen BK178.out 2
          have hns45_0 := NB170_178.out
          have hns45_1 := NB171_178.out
          have hms45_0 := NB178_170.out
          have hms45_1 := NB178_171.out
          refine skip_ (w1 := ?_) (by rfl) rfl ?_ ?_
          rotate_left
          ·go_simp
           rfl
          refine hK.out _ _ ?_
          clear hK K
          refine done_ (done_of HT_.out (by kernel_rfl)) ?_
          try go_wp2
          go_roundg k2
          case measure => have := HK1.out;have := HK2.out;omega
          case rel => exact ⟨(wrap64 (x5_2 + 1)),(y194),(.slice Ao44 y194.length co44),rs_,H',⟨by have := HK1.out;have := HK2.out;omega⟩,⟨by (with_reducible repeat (first|apply Kd.S_alloc|apply Kd.S_drewN|apply Kd.S_drew));exact Kd.S_mono (Kd.S_far (p := ⟨gb178,2,none⟩) (Kd.S_types HO_179001.out BK178.out (by decide)) (fun _ hk => hk.2) (.slice Ao44 y194.length co44)) (fun _ hk => trivial)⟩,⟨by (with_reducible repeat (first|apply Kd.S_alloc|apply Kd.S_drewN|apply Kd.S_drew));exact Kd.S_mono (Kd.S_far (p := ⟨gb178,2,none⟩) (Kd.S_types HO196.out BK178.out (by decide)) (fun _ hk => hk.2) (.slice Ao44 y194.length co44)) (fun _ hk => trivial)⟩,⟨by (with_reducible repeat (first|apply Kd.R_alloc|apply Kd.R_drewN|apply Kd.R_drew));exact Kd.R_mono (Kd.R_far (p := ⟨gb178,2,none⟩) (Kd.R_types HO_179003.out BK178.out (by decide)) (fun _ hk => hk.2) (.slice Ao44 y194.length co44)) (fun _ hk => trivial)⟩,⟨kf_ BK170⟩,⟨kf_ BK171⟩,⟨by (with_reducible repeat (first|refine blk_drewN ?_ _|refine blk_drew ?_|refine blk_alloc ?_ _));refine blk_put (cs := #[.bool a0_0,u179001,u179002,.slice Ao12 y175.length co12]) ?_ 2 _ rfl;(with_reducible repeat (first|refine blk_drewN ?_ _|refine blk_drew ?_|refine blk_alloc ?_ _));exact BK178.out⟩,⟨b_⟩⟩
         ·rw [if_neg c36] at H
          exact absurd H (by simp)
        ·rw [if_neg c34] at H
         exact absurd H (by simp)
       ·rw [if_neg c33] at H
        have c33b0 : decide (x5_2 < (l0_2.length : Int)) = false := decide_eq_false c33
        clear c33
        simp only [Option.some.injEq,Prod.mk.injEq] at H
        obtain ⟨rfl,rfl,rfl,rfl⟩ := H
        have hnb46 := NB170_171.out
        have hnc46 := NB171_170.out
        have hnb47 := NB170_178.out
        have hnc47 := NB178_170.out
        obtain ⟨⟨hcz48_0,hcz48_1,hcz48_2,hcz48_3⟩,hfz48_0,hfz48_1,hfz48_2,hfz48_3⟩ := cl4_ BK170.out
        have hnb49 := NB178_171.out
        have hnc49 := NB171_178.out
        obtain ⟨⟨hcz50_0,hcz50_1,hcz50_2,hcz50_3⟩,hfz50_0,hfz50_1,hfz50_2,hfz50_3⟩ := cl4_ BK178.out
        obtain ⟨⟨hcz51_0,hcz51_1,hcz51_2,hcz51_3⟩,hfz51_0,hfz51_1,hfz51_2,hfz51_3⟩ := cl4_ BK171.out
        obtain ⟨Ao52,co52,eo52⟩ := Kd.S_slice HO_179001.out
        subst eo52
        obtain ⟨Ao53,co53,eo53⟩ := Kd.S_slice HO_179002.out
        subst eo53
        go_wp2
        refine bodyPost_ret (results_cell_row rfl _ _ gb171 31 #[.bool a0_0,.slice Ao52 x179001_1.length co52,.slice Ao53 x179002_2.length co53,.slice Ao12 y175.length co12] (0,0) _ rfl (by (with_reducible repeat (first|refine blk_drewN ?_ _|refine blk_drew ?_|refine blk_alloc ?_ _));refine blk_put (cs := #[.bool a0_0,.slice Ao52 x179001_1.length co52,.slice Ao53 x179002_2.length co53,.slice none 0 0]) ?_ 3 _ rfl;(with_reducible repeat (first|refine blk_drewN ?_ _|refine blk_drew ?_|refine blk_alloc ?_ _));refine blk_put (cs := #[.bool a0_0,.slice Ao52 x179001_1.length co52,.slice none 0 0,.slice none 0 0]) ?_ 2 _ rfl;(with_reducible repeat (first|refine blk_drewN ?_ _|refine blk_drew ?_|refine blk_alloc ?_ _));refine blk_put (cs := #[.bool a0_0,.slice none 0 0,.slice none 0 0,.slice none 0 0]) ?_ 1 _ rfl;(with_reducible repeat (first|refine blk_drewN ?_ _|refine blk_drew ?_|refine blk_alloc ?_ _));refine blk_put (cs := #[.bool false,.slice none 0 0,.slice none 0 0,.slice none 0 0]) ?_ 0 _ rfl;(with_reducible repeat (first|refine blk_drewN ?_ _|refine blk_drew ?_|refine blk_alloc ?_ _));exact BK171.out) Tryz.underlying31 rfl (by kernel_rfl)) rfl ?_
        exact ⟨_,_,_,rf_,by (with_reducible repeat (first|apply Kd.S_alloc|apply Kd.S_drewN|apply Kd.S_drew));exact Kd.S_mono (Kd.S_far (p := ⟨gb171,3,none⟩) (Kd.S_far (p := ⟨gb171,2,none⟩) (Kd.S_far (p := ⟨gb171,1,none⟩) (Kd.S_far (p := ⟨gb171,0,none⟩) (Kd.S_types HO_179001.out BK171.out (by decide)) (fun _ hk => hk.2) (.bool a0_0)) (fun _ hk => hk.2) (.slice Ao52 x179001_1.length co52)) (fun _ hk => hk.2) (.slice Ao53 x179002_2.length co53)) (fun _ hk => hk.2) (.slice Ao12 y175.length co12)) (fun _ hk => trivial),by (with_reducible repeat (first|apply Kd.S_alloc|apply Kd.S_drewN|apply Kd.S_drew));exact Kd.S_mono (Kd.S_far (p := ⟨gb171,3,none⟩) (Kd.S_far (p := ⟨gb171,2,none⟩) (Kd.S_far (p := ⟨gb171,1,none⟩) (Kd.S_far (p := ⟨gb171,0,none⟩) (Kd.S_types HO_179002.out BK171.out (by decide)) (fun _ hk => hk.2) (.bool a0_0)) (fun _ hk => hk.2) (.slice Ao52 x179001_1.length co52)) (fun _ hk => hk.2) (.slice Ao53 x179002_2.length co53)) (fun _ hk => hk.2) (.slice Ao12 y175.length co12)) (fun _ hk => trivial),by (with_reducible repeat (first|apply Kd.R_alloc|apply Kd.R_drewN|apply Kd.R_drew));exact Kd.R_mono (Kd.R_far (p := ⟨gb171,3,none⟩) (Kd.R_far (p := ⟨gb171,2,none⟩) (Kd.R_far (p := ⟨gb171,1,none⟩) (Kd.R_far (p := ⟨gb171,0,none⟩) (Kd.R_types HO_179003.out BK171.out (by decide)) (fun _ hk => hk.2) (.bool a0_0)) (fun _ hk => hk.2) (.slice Ao52 x179001_1.length co52)) (fun _ hk => hk.2) (.slice Ao53 x179002_2.length co53)) (fun _ hk => hk.2) (.slice Ao12 y175.length co12)) (fun _ hk => trivial),b_⟩
 ·rw [if_neg c2] at H
  exact absurd H (by simp)

end Go.Proofs.YthplaakckfhaaaaGreat.XCr
