/- Proved: of each Go function here that a call comes to what the Lean function of its name tells. Written by a program of this session over the translation. No conditions beyond each theorem's own. -/
import Derived.Test.YthplaakckfhaaaaXCd0
import Derived.Test.YthplaakckfhaaaaXCd13
namespace Go.Proofs.Ythplaakckfhaaaa.XCd
open Go.RowKit Go.Proofs.Ythplaakckfhaaaa.Aid Go.Proofs.YthplaakckfhaaaaW.PrintWords Go.Proofs.YthplaakckfhaaaaW.PrintLast Go.Proofs.YthplaakckfhaaaaW.PrintMore
set_option linter.unusedVariables false
set_option linter.unusedSimpArgs false

/-! ### spec_l6Copy: function 73 -/
mutual
def spec_l6Copy.l0 : Nat → Int → Bool → List (S79) → List (S45) → List Int → Bool → List (S79) → List Int → Option (Bool × (List (S79)) × (List (S45)) × List Int)
  | 0, _, _, _, _, _, _, _, _ => none
  | k + 1, x4, x210000, x210001, x210002, x210003, x218000, x218001, x218003 => if x4 < (x210001.length : Int) then (if 0 ≤ x4 then ((spec_l3Copy.f ((rd_T79 x210001 x4).f1)).bind fun t220 => (if x218001.length < 4398046511104 then (spec_l6Copy.l0 k (wrap64 (x4 + 1)) x210000 x210001 x210002 x210003 x218000 (x218001 ++ [(⟨(rd_T79 x210001 x4).f0, t220⟩ : S79)]) x218003) else (none))) else (none)) else (spec_l6Copy.l1 k 0 x210000 x210001 x210002 x210003 x218000 x218001 ([] : List (S45)) x218003)
def spec_l6Copy.l1 : Nat → Int → Bool → List (S79) → List (S45) → List Int → Bool → List (S79) → List (S45) → List Int → Option (Bool × (List (S79)) × (List (S45)) × List Int)
  | 0, _, _, _, _, _, _, _, _, _ => none
  | k + 1, x5, x210000, x210001, x210002, x210003, x218000, x218001, x218002, x218003 => if x5 < (x210002.length : Int) then (if 0 ≤ x5 then ((spec_l6Record.f ((rd_T45 x210002 x5).f0) ((rd_T45 x210002 x5).f1) ((rd_T45 x210002 x5).f2) ((rd_T45 x210002 x5).f3)).bind fun bt227 => (if x218002.length < 2932031007402 then (spec_l6Copy.l1 k (wrap64 (x5 + 1)) x210000 x210001 x210002 x210003 x218000 x218001 (x218002 ++ [(⟨bt227.1, bt227.2.1, bt227.2.2.1, bt227.2.2.2⟩ : S45)]) x218003) else (none))) else (none)) else (some (x218000, x218001, x218002, x218003))
end
def spec_l6Copy.f (k : Nat) (a0_0 : Bool) (l0_1 : List (S79)) (l0_2 : List (S45)) (l0_3 : List Int) : Option (Bool × (List (S79)) × (List (S45)) × List Int) := (some (([] : List Int) : List Int)).bind fun y211 => (if y211.length + l0_3.length < 17592186044416 then (spec_l6Copy.l0 k 0 a0_0 l0_1 l0_2 l0_3 a0_0 ([] : List (S79)) (y211 ++ l0_3)) else (none))

def spec_l6Copy.T1 : Bool × List (List Nat × List Nat) := (true, [([], []), ([0], [0]), ([], []), ([], []), ([3], [3]), ([2, 4], [2, 4]), ([1, 5], [1, 5]), ([], []), ([7, 6, 5, 0, 1, 2, 3, 4, 5, 6, 7], [6, 7])])
def spec_l6Copy.B1 : List Nat := [0, 1, 0, 0, 8, 28, 63, 0, 255]
theorem spec_l6Copy.tab1 : rtab .any (opsOf Try.f73 1) = spec_l6Copy.T1 := by kernel_rfl
theorem spec_l6Copy.bits1 : waitsOk spec_l6Copy.T1.2 spec_l6Copy.B1 = true := by kernel_rfl
def spec_l6Copy.T5 : Bool × List (List Nat × List Nat) := (true, [([], []), ([0], [0]), ([], []), ([2], [2]), ([], []), ([3, 4], [3, 4]), ([5], [5]), ([6], [6]), ([], []), ([8], [8]), ([], []), ([9, 10], [9, 10]), ([11], [11]), ([12], [12]), ([13], [13]), ([7, 14], [7, 14]), ([15], [15]), ([1, 16, 14], [1, 16]), ([0, 1, 2, 3, 4, 5, 6, 7, 8, 9, 10, 11, 12, 13, 14, 15, 16, 17], []), ([18, 17, 17, 0, 1, 2, 3, 4, 5, 6, 7, 8, 9, 10, 11, 12, 13, 14, 15, 16, 17], [17, 18])])
def spec_l6Copy.B5 : List Nat := [0, 1, 0, 4, 0, 28, 60, 124, 0, 256, 0, 1792, 3840, 7936, 16128, 32764, 65532, 131071, 262143, 524287]
theorem spec_l6Copy.tab5 : rtab .any (opsOf Try.f73 5) = spec_l6Copy.T5 := by kernel_rfl
theorem spec_l6Copy.bits5 : waitsOk spec_l6Copy.T5.2 spec_l6Copy.B5 = true := by kernel_rfl
def spec_l6Copy.T9 : Bool × List (List Nat × List Nat) := (true, [([], []), ([0], [0]), ([], []), ([2], [2]), ([], []), ([3, 4], [3, 4]), ([5], [5]), ([6], [6]), ([7], [7]), ([1, 8, 7], [1, 8]), ([0, 1, 2, 3, 4, 5, 6, 7, 8, 9], []), ([10, 9, 9, 0, 1, 2, 3, 4, 5, 6, 7, 8, 9], [9, 10])])
def spec_l6Copy.B9 : List Nat := [0, 1, 0, 4, 0, 28, 60, 124, 252, 511, 1023, 2047]
theorem spec_l6Copy.tab9 : rtab .any (opsOf Try.f73 9) = spec_l6Copy.T9 := by kernel_rfl
theorem spec_l6Copy.bits9 : waitsOk spec_l6Copy.T9.2 spec_l6Copy.B9 = true := by kernel_rfl
set_option maxHeartbeats 8000000 in
set_option maxRecDepth 100000 in
theorem spec_l6Copy.calls (k : Nat) (a0_0 : Bool) (A0_1 : Option Addr) (c0_1 : Nat) (l0_1 : List (S79)) (A0_2 : Option Addr) (c0_2 : Nat) (l0_2 : List (S45)) (A0_3 : Option Addr) (c0_3 : Nat) (l0_3 : List Int) (r1 : Bool) (r2 : List (S79)) (r3 : List (S45)) (r4 : List Int) (w : World) (hr0_1 : Kd.C k79 w A0_1 l0_1.length l0_1) (hc0_1 : l0_1.length ≤ c0_1) (hr0_2 : Kd.C k45 w A0_2 l0_2.length l0_2) (hc0_2 : l0_2.length ≤ c0_2) (hr0_3 : Kd.C (Kd.int .i64) w A0_3 l0_3.length l0_3) (hc0_3 : l0_3.length ≤ c0_3) (h : spec_l6Copy.f k a0_0 l0_1 l0_2 l0_3 = some (r1, r2, r3, r4)) :
    Calls Try.prog 73 #[.agg #[.bool a0_0, .slice A0_1 l0_1.length c0_1, .slice A0_2 l0_2.length c0_2, .slice A0_3 l0_3.length c0_3]] w fun e w' => ∃ v1_ v2_ v3_ : Value, e = .returned (.agg #[.bool r1, v1_, v2_, v3_]) ∧ Kd.S k79 79 w' w.heap.size (fun _ => True) v1_ r2 ∧ Kd.S k45 45 w' w.heap.size (fun _ => True) v2_ r3 ∧ Kd.R (Kd.int .i64) 2 w' w.heap.size (fun _ => True) v3_ r4 ∧ Below w.heap.size w w' := by
 have hu32 := Try.underlying32
 have hu79 := Try.underlying79
 have hu45 := Try.underlying45
 have HR0_1 := ak hr0_1
 have HC0_1 := ak hc0_1
 clear hr0_1 hc0_1
 have HR0_2 := ak hr0_2
 have HC0_2 := ak hc0_2
 clear hr0_2 hc0_2
 have HR0_3 := ak hr0_3
 have HC0_3 := ak hc0_3
 clear hr0_3 hc0_3
 have HB := ak (Below.refl w.heap.size w)
 have H : ((some (([] : List Int) : List Int)).bind fun y211 => (if y211.length + l0_3.length < 17592186044416 then (spec_l6Copy.l0 k 0 a0_0 l0_1 l0_2 l0_3 a0_0 ([] : List (S79)) (y211 ++ l0_3)) else (none))) = some (r1,r2,r3,r4) := h
 clear h
 obtain ⟨y211,hy211⟩ : ∃ y_ : List Int,y_ = (([] : List Int)) := ⟨_,rfl⟩
 replace H : (if y211.length + l0_3.length < 17592186044416 then (spec_l6Copy.l0 k 0 a0_0 l0_1 l0_2 l0_3 a0_0 ([] : List (S79)) (y211 ++ l0_3)) else (none)) = some (r1,r2,r3,r4) := by first|(rw [hy211];with_reducible exact H)|(have H2_ := (Option.bind_some _ _).symm.trans H;rw [hy211];with_reducible exact H2_)|(have H2_ := (Option.bind_some _ _).symm.trans H;with_reducible exact H2_)|with_reducible exact H|(rw [hy211];exact H)|exact H
 have Ny211 := ak hy211
 clear hy211
 by_cases c2 : y211.length + l0_3.length < 17592186044416
 ·rw [if_pos c2] at H
  have LMc2 := ak c2
  clear c2
  obtain ⟨y214,hy214⟩ : ∃ y_ : List Int,y_ = (y211 ++ l0_3) := ⟨_,rfl⟩
  replace H : (spec_l6Copy.l0 k 0 a0_0 l0_1 l0_2 l0_3 a0_0 ([] : List (S79)) y214) = some (r1,r2,r3,r4) := by first|(rw [hy214];with_reducible exact H)|(have H2_ := (Option.bind_some _ _).symm.trans H;rw [hy214];with_reducible exact H2_)|(have H2_ := (Option.bind_some _ _).symm.trans H;with_reducible exact H2_)|with_reducible exact H|(rw [hy214];exact H)|exact H
  have Ny214 := ak hy214
  clear hy214
  have H' := ak H
  clear H
  go_enter Try.func73,Try.ntmps73
  try go_wp2_with (first|((with_reducible refine gate_dst (N := 1) rfl ?_);refine bx_ 1 #[.bool a0_0,.slice A0_1 l0_1.length c0_1,.slice A0_2 l0_2.length c0_2,.slice A0_3 l0_3.length c0_3] 32 ?_;intro gb209 hg w3 hbox hb;replace HB := nb_ hg hbox hb;obtain ⟨BK209,GW209,GE209,HB⟩ := HB;clear hb hbox hg)|((with_reducible refine gate_dst (N := 2) rfl ?_);refine bx_ 2 #[.bool false,.slice none 0 0,.slice none 0 0,.slice none 0 0] 32 ?_;intro gb210 hg w4 hbox hb;replace HB := nb_ hg hbox hb;obtain ⟨BK210,GW210,GE210,HB⟩ := HB;have NB209_210 := ak ((nl_ BK209 hg));have NB210_209 := ak ((ng_ BK209 hg));replace BK209 := ak (blk_below (kb_ BK209) hb);clear hb hbox hg))
  replace BK209 := ak (blk_drew BK209.out)
  replace BK210 := ak (blk_drew BK210.out)
  replace HB := ak (below_drew1 HB.out)
  refine st_ 9 (S := fun w' => hd4 w' gb209 (.bool a0_0) (.slice A0_1 l0_1.length c0_1) (.slice A0_2 l0_2.length c0_2) (.slice A0_3 l0_3.length c0_3)) hh_ (fun hHeld => ?_);refine with_tabW spec_l6Copy.tab1 spec_l6Copy.bits1 (fun HT_ HW_ => ?_)
  generalize w4.drew = w5 at BK209 BK210 HB hHeld ⊢
  refine pv_ 0 6 ?_
  refine pv_ 3 9 ?_
  refine tx_ 1 7 hHeld ?_
  refine tx_ 4 10 hHeld ?_
  refine join_ (σ := Value × Value × Nat) 1 #[true,true,true,true,true,true,true,true,false] (fun s_ => [(8,s_.1),(11,s_.2.1),(3,.pointer (some ⟨s_.2.2,0,none⟩)),(12,.agg #[.bool a0_0,.slice none 0 0,.slice none 0 0,s_.2.1])]) (fun s_ w' => (w'.cell? ⟨gb209,0,none⟩ = some (.bool a0_0) ∧ w'.cell? ⟨gb209,1,none⟩ = some (.slice A0_1 l0_1.length c0_1) ∧ w'.cell? ⟨gb209,2,none⟩ = some (.slice A0_2 l0_2.length c0_2) ∧ w'.cell? ⟨gb209,3,none⟩ = some (.slice A0_3 l0_3.length c0_3)) ∧ (Kd.R (Kd.int .i64) 2 w' w.heap.size (fun _ => True) s_.2.1 y214) ∧ (w'.heap[gb209]? = some (.cells #[.bool a0_0,.slice A0_1 l0_1.length c0_1,.slice A0_2 l0_2.length c0_2,.slice A0_3 l0_3.length c0_3] 32 (0,0))) ∧ (w'.heap[gb210]? = some (.cells #[.bool false,.slice none 0 0,.slice none 0 0,.slice none 0 0] 32 (0,0))) ∧ (w'.heap[s_.2.2]? = some (.cells #[.bool false,.slice none 0 0,.slice none 0 0,.slice none 0 0] 32 (0,0))) ∧ (w.heap.size ≤ s_.2.2) ∧ (w.heap.size ≤ s_.2.2) ∧ (gb209 ≠ s_.2.2) ∧ (s_.2.2 ≠ gb209) ∧ (gb210 ≠ s_.2.2) ∧ (s_.2.2 ≠ gb210) ∧ (Below w.heap.size w w')) ?_ ?_
  rotate_left
  ·intro hCont
   refine two_ (i := 2) (j := 7) (Ni := some 8) (Nj := some 3) #[true,true,true,true,true,false,false,false,false] #[true,true,false,true,true,false,false,true,false] rfl rfl rfl rfl (two_of HT_.out (by kernel_rfl)) (by decide) (by decide) (fun K hK => ?_) (fun K hK => ?_)
   ·skip
    refine Kd.R_lit_step (Kd.int .i64) _ 2 ?hg (N := 8) ?hd (xs := ([] : List Int)) (inner := []) (ok := fun _ => True) (okp := fun _ => True) ?hr ?hp (fun _ hk => hk) trivial (Below.refl _ _) (Nat.le_refl _) (by simp) ?_;(case hd => rfl);(case hg => rfl);(case hr => first|(go_simp;done)|(go_simp;rfl));(case hp => exact (Reps.none _ _))
    intro v212 w6 ho7 hb hg_ hnew_
    clear hg_ hnew_
    (first|rw [← Ny211.out] at ho7|(simp only [Int.reduceToNat] at ho7;rw [← Ny211.out] at ho7))
    replace BK209 := ak (blk_below (kb_ BK209) hb)
    replace BK210 := ak (blk_below (kb_ BK210) hb)
    have HO213 := ak (Kd.R_lower ho7 (below_size b_))
    replace HB := ak (below_step b_ hb)
    clear hb ho7
    refine hK.out _ _ hh_ (fun hHeld => ?_)
    clear hK K
    refine nr_ (some 8) _ ?_
    refine two_ (i := 5) (j := 7) (Ni := some 11) (Nj := some 3) #[true,true,true,true,true,true,false,false,false] #[true,true,true,true,true,false,false,true,false] rfl rfl rfl rfl (two_of HT_.out (by kernel_rfl)) (by decide) (by decide) (fun K hK => ?_) (fun K hK => ?_)
    ·skip
     refine Kd.R_append_rows_step (Kd.int .i64) (w0 := w) w.heap.size (by rfl) (.tmp 8) (.tmp 10) 24 2 (.int .i64 0) 8 rfl Try.underlying24 info2 rfl (by decide) (by omega) v212 y211 l0_3 _ _ _ (fun _ => True) (fun _ => False) rfl rfl ?aO ?aR (fun _ _ h => h) (fun _ h => h.elim) ?aF ?aB ?aS ?aL ?_
     (case aR => repeat (first|exact (Kd.C_below HR0_3.out HB.out)|(with_reducible refine Kd.C_alloc ?_ _)|(with_reducible refine Kd.C_drewN ?_ _)|(with_reducible refine Kd.C_drew ?_)))
     (case aB => exact b_)
     (case aF => exact (fun _ _ => trivial))
     (case aO => exact (by (with_reducible repeat (first|apply Kd.R_alloc|apply Kd.R_drewN|apply Kd.R_drew));exact HO213.out))
     (case aS => exact (below_size b_))
     (case aL => have := LMc2.out;omega)
     intro v215 w8 ho hb hg hat
     rw [← Ny214.out] at ho
     replace BK209 := ak (blk_grown (kb_ BK209) hg (Kd.R_ne HO213.out BK209.out (by decide)))
     replace BK210 := ak (blk_grown (kb_ BK210) hg (Kd.R_ne HO213.out BK210.out (by decide)))
     replace HB := ak (hb)
     have HO216 := ak (ho)
     clear HO213
     clear ho hb hg hat
     obtain ⟨Ao9,co9,eo9⟩ := Kd.R_slice HO216.out
     (first|subst eo9|(injection eo9 with f1_ f2_ f3_;have f4_ := f1_.symm;have f5_ := f3_.symm;clear f1_ f2_ f3_;subst f4_;subst f5_))
     refine hK.out _ _ hh_ (fun hHeld => ?_)
     clear hK K
     refine nr_ (some 11) _ ?_
     refine pv_ 6 12 ?_
     refine oy_ 7 3 (fun K hK => ?_)
     refine box_step ?hg (N := 3) ?hd (cs := #[.bool false,.slice none 0 0,.slice none 0 0,.slice none 0 0]) (t := 32) ?hr ?_;(case hd => rfl);(case hg => rfl);(case hr => first|(go_simp;done)|(go_simp;rfl))
     intro gb217 hg w10 hbox hb
     replace HO216 := ak (Kd.R_below (by (with_reducible repeat (first|apply Kd.R_alloc|apply Kd.R_drewN|apply Kd.R_drew));exact HO216.out) hb)
     have BK217 := ak (hbox)
     have GW217 := ak ((gw_ (w := w) hg))
     have GE217 := ak ((gw_ (w := w) hg))
     replace HB := ak (below_step b_ hb)
     have NB209_217 := ak ((nl_ BK209 hg))
     have NB217_209 := ak ((ng_ BK209 hg))
     replace BK209 := ak (blk_below (kb_ BK209) hb)
     have NB210_217 := ak ((nl_ BK210 hg))
     have NB217_210 := ak ((ng_ BK210 hg))
     replace BK210 := ak (blk_below (kb_ BK210) hb)
     clear hb hbox hg
     refine hK.out _ _ hh_ (fun hHeld => ?_)
     clear hK K
     refine nr_ (some 3) _ ?_
     exact norm_ (by simp only [putAll,Act.put,List.setIfInBounds_toArray,List.set_cons_zero,List.set_cons_succ]) (hCont (v212,.slice Ao9 y214.length co9,gb217) _ ⟨hHeld,(by (with_reducible repeat (first|apply Kd.R_alloc|apply Kd.R_drewN|apply Kd.R_drew));exact HO216.out),kk_,kk_,kk_,GW217.out,GE217.out,NB209_217.out,NB217_209.out,NB210_217.out,NB217_210.out,b_⟩)
    ·skip
     refine box_step ?hg (N := 3) ?hd (cs := #[.bool false,.slice none 0 0,.slice none 0 0,.slice none 0 0]) (t := 32) ?hr ?_;(case hd => rfl);(case hg => rfl);(case hr => first|(go_simp;done)|(go_simp;rfl))
     intro gb217 hg w8 hbox hb
     replace HO213 := ak (Kd.R_below (by (with_reducible repeat (first|apply Kd.R_alloc|apply Kd.R_drewN|apply Kd.R_drew));exact HO213.out) hb)
     have BK217 := ak (hbox)
     have GW217 := ak ((gw_ (w := w) hg))
     have GE217 := ak ((gw_ (w := w) hg))
     replace HB := ak (below_step b_ hb)
     have NB209_217 := ak ((nl_ BK209 hg))
     have NB217_209 := ak ((ng_ BK209 hg))
     replace BK209 := ak (blk_below (kb_ BK209) hb)
     have NB210_217 := ak ((nl_ BK210 hg))
     have NB217_210 := ak ((ng_ BK210 hg))
     replace BK210 := ak (blk_below (kb_ BK210) hb)
     clear hb hbox hg
     refine hK.out _ _ hh_ (fun hHeld => ?_)
     clear hK K
     refine nr_ (some 3) _ ?_
     refine oy_ 5 11 (fun K hK => ?_)
     refine Kd.R_append_rows_step (Kd.int .i64) (w0 := w) w.heap.size (by rfl) (.tmp 8) (.tmp 10) 24 2 (.int .i64 0) 8 rfl Try.underlying24 info2 rfl (by decide) (by omega) v212 y211 l0_3 _ _ _ (fun _ => True) (fun _ => False) rfl rfl ?aO ?aR (fun _ _ h => h) (fun _ h => h.elim) ?aF ?aB ?aS ?aL ?_
     (case aR => repeat (first|exact (Kd.C_below HR0_3.out HB.out)|(with_reducible refine Kd.C_alloc ?_ _)|(with_reducible refine Kd.C_drewN ?_ _)|(with_reducible refine Kd.C_drew ?_)))
     (case aB => exact b_)
     (case aF => exact (fun _ _ => trivial))
     (case aO => exact (by (with_reducible repeat (first|apply Kd.R_alloc|apply Kd.R_drewN|apply Kd.R_drew));exact HO213.out))
     (case aS => exact (below_size b_))
     (case aL => have := LMc2.out;omega)
     intro v215 w9 ho hb hg hat
     rw [← Ny214.out] at ho
     replace BK209 := ak (blk_grown (kb_ BK209) hg (Kd.R_ne HO213.out BK209.out (by decide)))
     replace BK210 := ak (blk_grown (kb_ BK210) hg (Kd.R_ne HO213.out BK210.out (by decide)))
     replace BK217 := ak (blk_grown (kb_ BK217) hg (Kd.R_ne HO213.out BK217.out (by decide)))
     replace HB := ak (hb)
     have HO216 := ak (ho)
     clear HO213
     clear ho hb hg hat
     obtain ⟨Ao10,co10,eo10⟩ := Kd.R_slice HO216.out
     (first|subst eo10|(injection eo10 with f1_ f2_ f3_;have f4_ := f1_.symm;have f5_ := f3_.symm;clear f1_ f2_ f3_;subst f4_;subst f5_))
     refine hK.out _ _ hh_ (fun hHeld => ?_)
     clear hK K
     refine nr_ (some 11) _ ?_
     refine pv_ 6 12 ?_
     exact norm_ (by simp only [putAll,Act.put,List.setIfInBounds_toArray,List.set_cons_zero,List.set_cons_succ]) (hCont (v212,.slice Ao10 y214.length co10,gb217) _ ⟨hHeld,(by (with_reducible repeat (first|apply Kd.R_alloc|apply Kd.R_drewN|apply Kd.R_drew));exact HO216.out),kk_,kk_,kk_,GW217.out,GE217.out,NB209_217.out,NB217_209.out,NB210_217.out,NB217_210.out,b_⟩)
   ·skip
    refine box_step ?hg (N := 3) ?hd (cs := #[.bool false,.slice none 0 0,.slice none 0 0,.slice none 0 0]) (t := 32) ?hr ?_;(case hd => rfl);(case hg => rfl);(case hr => first|(go_simp;done)|(go_simp;rfl))
    intro gb217 hg w6 hbox hb
    have BK217 := ak (hbox)
    have GW217 := ak ((gw_ (w := w) hg))
    have GE217 := ak ((gw_ (w := w) hg))
    replace HB := ak (below_step b_ hb)
    have NB209_217 := ak ((nl_ BK209 hg))
    have NB217_209 := ak ((ng_ BK209 hg))
    replace BK209 := ak (blk_below (kb_ BK209) hb)
    have NB210_217 := ak ((nl_ BK210 hg))
    have NB217_210 := ak ((ng_ BK210 hg))
    replace BK210 := ak (blk_below (kb_ BK210) hb)
    clear hb hbox hg
    refine hK.out _ _ hh_ (fun hHeld => ?_)
    clear hK K
    refine nr_ (some 3) _ ?_
    refine oy_ 2 8 (fun K hK => ?_)
    refine Kd.R_lit_step (Kd.int .i64) _ 2 ?hg (N := 8) ?hd (xs := ([] : List Int)) (inner := []) (ok := fun _ => True) (okp := fun _ => True) ?hr ?hp (fun _ hk => hk) trivial (Below.refl _ _) (Nat.le_refl _) (by simp) ?_;(case hd => rfl);(case hg => rfl);(case hr => first|(go_simp;done)|(go_simp;rfl));(case hp => exact (Reps.none _ _))
    intro v212 w7 ho8 hb hg_ hnew_
    clear hg_ hnew_
    (first|rw [← Ny211.out] at ho8|(simp only [Int.reduceToNat] at ho8;rw [← Ny211.out] at ho8))
    replace BK209 := ak (blk_below (kb_ BK209) hb)
    replace BK210 := ak (blk_below (kb_ BK210) hb)
    replace BK217 := ak (blk_below (kb_ BK217) hb)
    have HO213 := ak (Kd.R_lower ho8 (below_size b_))
    replace HB := ak (below_step b_ hb)
    clear hb ho8
    refine hK.out _ _ hh_ (fun hHeld => ?_)
    clear hK K
    refine nr_ (some 8) _ ?_
    refine oy_ 5 11 (fun K hK => ?_)
    refine Kd.R_append_rows_step (Kd.int .i64) (w0 := w) w.heap.size (by rfl) (.tmp 8) (.tmp 10) 24 2 (.int .i64 0) 8 rfl Try.underlying24 info2 rfl (by decide) (by omega) v212 y211 l0_3 _ _ _ (fun _ => True) (fun _ => False) rfl rfl ?aO ?aR (fun _ _ h => h) (fun _ h => h.elim) ?aF ?aB ?aS ?aL ?_
    (case aR => repeat (first|exact (Kd.C_below HR0_3.out HB.out)|(with_reducible refine Kd.C_alloc ?_ _)|(with_reducible refine Kd.C_drewN ?_ _)|(with_reducible refine Kd.C_drew ?_)))
    (case aB => exact b_)
    (case aF => exact (fun _ _ => trivial))
    (case aO => exact (by (with_reducible repeat (first|apply Kd.R_alloc|apply Kd.R_drewN|apply Kd.R_drew));exact HO213.out))
    (case aS => exact (below_size b_))
    (case aL => have := LMc2.out;omega)
    intro v215 w9 ho hb hg hat
    rw [← Ny214.out] at ho
    replace BK209 := ak (blk_grown (kb_ BK209) hg (Kd.R_ne HO213.out BK209.out (by decide)))
    replace BK210 := ak (blk_grown (kb_ BK210) hg (Kd.R_ne HO213.out BK210.out (by decide)))
    replace BK217 := ak (blk_grown (kb_ BK217) hg (Kd.R_ne HO213.out BK217.out (by decide)))
    replace HB := ak (hb)
    have HO216 := ak (ho)
    clear HO213
    clear ho hb hg hat
    obtain ⟨Ao10,co10,eo10⟩ := Kd.R_slice HO216.out
    (first|subst eo10|(injection eo10 with f1_ f2_ f3_;have f4_ := f1_.symm;have f5_ := f3_.symm;clear f1_ f2_ f3_;subst f4_;subst f5_))
    refine hK.out _ _ hh_ (fun hHeld => ?_)
    clear hK K
    refine nr_ (some 11) _ ?_
    refine pv_ 6 12 ?_
    exact norm_ (by simp only [putAll,Act.put,List.setIfInBounds_toArray,List.set_cons_zero,List.set_cons_succ]) (hCont (v212,.slice Ao10 y214.length co10,gb217) _ ⟨hHeld,(by (with_reducible repeat (first|apply Kd.R_alloc|apply Kd.R_drewN|apply Kd.R_drew));exact HO216.out),kk_,kk_,kk_,GW217.out,GE217.out,NB209_217.out,NB217_209.out,NB210_217.out,NB217_210.out,b_⟩)
  rintro ⟨v212,v215,gb217⟩ w11 ⟨hS_,h0_,h1_,h2_,h3_,h4_,h5_,h6_,h7_,h8_,h9_,h10_⟩
  have n0_ : Aside0 (Kd.R (Kd.int .i64) 2 w11 w.heap.size (fun _ => True) v215 y214) := ⟨h0_⟩
  have n1_ : Aside0 (w11.heap[gb209]? = some (.cells #[.bool a0_0,.slice A0_1 l0_1.length c0_1,.slice A0_2 l0_2.length c0_2,.slice A0_3 l0_3.length c0_3] 32 (0,0))) := ⟨h1_⟩
  have n2_ : Aside0 (w11.heap[gb210]? = some (.cells #[.bool false,.slice none 0 0,.slice none 0 0,.slice none 0 0] 32 (0,0))) := ⟨h2_⟩
  have n3_ : Aside0 (w11.heap[gb217]? = some (.cells #[.bool false,.slice none 0 0,.slice none 0 0,.slice none 0 0] 32 (0,0))) := ⟨h3_⟩
  have n4_ : Aside0 (w.heap.size ≤ gb217) := ⟨h4_⟩
  have n5_ : Aside0 (w.heap.size ≤ gb217) := ⟨h5_⟩
  have n6_ : Aside0 (gb209 ≠ gb217) := ⟨h6_⟩
  have n7_ : Aside0 (gb217 ≠ gb209) := ⟨h7_⟩
  have n8_ : Aside0 (gb210 ≠ gb217) := ⟨h8_⟩
  have n9_ : Aside0 (gb217 ≠ gb210) := ⟨h9_⟩
  have n10_ : Aside0 (Below w.heap.size w w11) := ⟨h10_⟩
  clear BK209
  clear BK210
  clear HB
  clear h0_ h1_ h2_ h3_ h4_ h5_ h6_ h7_ h8_ h9_ h10_
  have HO216 := n0_
  have BK209 := n1_
  have BK210 := n2_
  have BK217 := n3_
  have GW217 := n4_
  have GE217 := n5_
  have NB209_217 := n6_
  have NB217_209 := n7_
  have NB210_217 := n8_
  have NB217_210 := n9_
  have HB := n10_
  clear n0_ n1_ n2_ n3_ n4_ n5_ n6_ n7_ n8_ n9_ n10_
  have hHeld : w11.cell? ⟨gb209,0,none⟩ = some (.bool a0_0) ∧ w11.cell? ⟨gb209,1,none⟩ = some (.slice A0_1 l0_1.length c0_1) ∧ w11.cell? ⟨gb209,2,none⟩ = some (.slice A0_2 l0_2.length c0_2) ∧ w11.cell? ⟨gb209,3,none⟩ = some (.slice A0_3 l0_3.length c0_3) := hS_
  obtain ⟨Ao12,co12,eo12⟩ := Kd.R_slice HO216.out
  (first|subst eo12|(injection eo12 with f1_ f2_ f3_;have f4_ := f1_.symm;have f5_ := f3_.symm;clear f1_ f2_ f3_;subst f4_;subst f5_))
  refine norm_ (a' := ?_) ?_ ?_
  rotate_left
  ·simp only [putAll,Act.put,List.setIfInBounds_toArray,List.set_cons_zero,List.set_cons_succ]
   rfl
  refine oz_ (i := 8) (N := none) HT_.out rfl rfl (by kernel_rfl) (by decide) (fun K hK => ?_)
  have hs13 : w11.cell? ⟨gb217,0,none⟩ = some (.bool false) := (blk_cell BK217.out 0).trans rfl
  have hfs13 := blk_frozen BK217.out 0
  have hns13_0 := NB209_217.out
  have hns13_1 := NB210_217.out
  have hms13_0 := NB217_209.out
  have hms13_1 := NB217_210.out
  have hs14 : w11.cell? ⟨gb217,1,none⟩ = some (.slice none 0 0) := (blk_cell BK217.out 1).trans rfl
  have hfs14 := blk_frozen BK217.out 1
  have hns14_0 := NB209_217.out
  have hns14_1 := NB210_217.out
  have hms14_0 := NB217_209.out
  have hms14_1 := NB217_210.out
  have hs15 : w11.cell? ⟨gb217,2,none⟩ = some (.slice none 0 0) := (blk_cell BK217.out 2).trans rfl
  have hfs15 := blk_frozen BK217.out 2
  have hns15_0 := NB209_217.out
  have hns15_1 := NB210_217.out
  have hms15_0 := NB217_209.out
  have hms15_1 := NB217_210.out
  have hs16 : w11.cell? ⟨gb217,3,none⟩ = some (.slice none 0 0) := (blk_cell BK217.out 3).trans rfl
  have hfs16 := blk_frozen BK217.out 3
  have hns16_0 := NB209_217.out
  have hns16_1 := NB210_217.out
  have hms16_0 := NB217_209.out
  have hms16_1 := NB217_210.out
  refine skip_ (w1 := ?_) (by rfl) rfl ?_ ?_
  rotate_left
  ·go_simp
   rfl
  refine hK.out _ _ ⟨((cell_far (p := ⟨gb217,_,none⟩) NB209_217.out _).trans (((cell_far (p := ⟨gb217,_,none⟩) NB209_217.out _).trans (((cell_far (p := ⟨gb217,_,none⟩) NB209_217.out _).trans (((cell_far (p := ⟨gb217,_,none⟩) NB209_217.out _).trans (hHeld.1)))))))),((cell_far (p := ⟨gb217,_,none⟩) NB209_217.out _).trans (((cell_far (p := ⟨gb217,_,none⟩) NB209_217.out _).trans (((cell_far (p := ⟨gb217,_,none⟩) NB209_217.out _).trans (((cell_far (p := ⟨gb217,_,none⟩) NB209_217.out _).trans (hHeld.2.1)))))))),((cell_far (p := ⟨gb217,_,none⟩) NB209_217.out _).trans (((cell_far (p := ⟨gb217,_,none⟩) NB209_217.out _).trans (((cell_far (p := ⟨gb217,_,none⟩) NB209_217.out _).trans (((cell_far (p := ⟨gb217,_,none⟩) NB209_217.out _).trans (hHeld.2.2.1)))))))),((cell_far (p := ⟨gb217,_,none⟩) NB209_217.out _).trans (((cell_far (p := ⟨gb217,_,none⟩) NB209_217.out _).trans (((cell_far (p := ⟨gb217,_,none⟩) NB209_217.out _).trans (((cell_far (p := ⟨gb217,_,none⟩) NB209_217.out _).trans (hHeld.2.2.2))))))))⟩ (fun hHeld => ?_)
  clear hK K
  refine done_ (done_of HT_.out (by kernel_rfl)) ?_
  try go_wp2
  go_loopg [4] k (fun kq v4 w' => ∃ (x4_1 : Int) (x218001_1 : List (S79)) (u218001 : Value),v4 = .int .i64 x4_1 ∧ Aside0 (spec_l6Copy.l0 kq x4_1 a0_0 l0_1 l0_2 l0_3 a0_0 x218001_1 y214 = some (r1,r2,r3,r4)) ∧ Aside0 (kq ≤ k) ∧ Aside0 (Kd.S k79 79 w' w.heap.size (fun _ => True) u218001 x218001_1) ∧ Aside0 (Kd.R (Kd.int .i64) 2 w' w.heap.size (fun _ => True) (.slice Ao12 y214.length co12) y214) ∧ Aside0 (w'.heap[gb209]? = some (.cells #[.bool a0_0,(.slice A0_1 l0_1.length c0_1),(.slice A0_2 l0_2.length c0_2),(.slice A0_3 l0_3.length c0_3)] 32 (0,0))) ∧ Aside0 (w'.heap[gb210]? = some (.cells #[.bool false,(.slice none 0 0),(.slice none 0 0),(.slice none 0 0)] 32 (0,0))) ∧ Aside0 (w'.heap[gb217]? = some (.cells #[.bool a0_0,u218001,(.slice none 0 0),(.slice Ao12 y214.length co12)] 32 (0,0))) ∧ Aside0 (Below w.heap.size w w'))
  case atStart => exact ⟨(0),(([] : List (S79))),(.slice none 0 0),rs_,H',⟨Nat.le_refl _⟩,⟨by first|exact Kd.S_nil _ _ _ _ _|exact Kd.N_nil _ _ _ _ _|exact Kd.V_nil _ _ _ _ _|exact Kd.Q_nil _ _ _ _ _|exact Kd.R_nil _ _ _ _ _⟩,⟨by (with_reducible repeat (first|apply Kd.R_alloc|apply Kd.R_drewN|apply Kd.R_drew));exact Kd.R_mono (Kd.R_far (p := ⟨gb217,3,none⟩) (Kd.R_far (p := ⟨gb217,2,none⟩) (Kd.R_far (p := ⟨gb217,1,none⟩) (Kd.R_far (p := ⟨gb217,0,none⟩) (Kd.R_types HO216.out BK217.out (by decide)) (fun _ hk => hk.2) (.bool a0_0)) (fun _ hk => hk.2) (.slice none 0 0)) (fun _ hk => hk.2) (.slice none 0 0)) (fun _ hk => hk.2) (.slice Ao12 y214.length co12)) (fun _ hk => trivial)⟩,⟨kf_ BK209⟩,⟨kf_ BK210⟩,⟨by (with_reducible repeat (first|refine blk_drewN ?_ _|refine blk_drew ?_|refine blk_alloc ?_ _));refine blk_put (cs := #[.bool a0_0,.slice none 0 0,.slice none 0 0,.slice none 0 0]) ?_ 3 _ rfl;(with_reducible repeat (first|refine blk_drewN ?_ _|refine blk_drew ?_|refine blk_alloc ?_ _));refine blk_put (cs := #[.bool a0_0,.slice none 0 0,.slice none 0 0,.slice none 0 0]) ?_ 2 _ rfl;(with_reducible repeat (first|refine blk_drewN ?_ _|refine blk_drew ?_|refine blk_alloc ?_ _));refine blk_put (cs := #[.bool a0_0,.slice none 0 0,.slice none 0 0,.slice none 0 0]) ?_ 1 _ rfl;(with_reducible repeat (first|refine blk_drewN ?_ _|refine blk_drew ?_|refine blk_alloc ?_ _));refine blk_put (cs := #[.bool false,.slice none 0 0,.slice none 0 0,.slice none 0 0]) ?_ 0 _ rfl;(with_reducible repeat (first|refine blk_drewN ?_ _|refine blk_drew ?_|refine blk_alloc ?_ _));exact BK217.out⟩,⟨b_⟩⟩
  case round =>
   clear H'
   try clear c2
   try clear p2
   try clear c7
   obtain ⟨x4_1,x218001_1,u218001,rfl,HA,HK1,HO_218001,HO_218003,BK209,BK210,BK217,HB⟩ := hrel
   cases gk with
   | zero => exact absurd HA.out (by simp [spec_l6Copy.l0])
   | succ k1 =>
    have H := HA.out
    clear HA
    simp only [spec_l6Copy.l0] at H
    by_cases c17 : x4_1 < (l0_1.length : Int)
    ·rw [if_pos c17] at H
     have c17b0 : decide (x4_1 < (l0_1.length : Int)) = true := decide_eq_true c17
     clear c17
     by_cases c18 : 0 ≤ x4_1
     ·rw [if_pos c18] at H
      have c18b0 : decide (0 ≤ x4_1) = true := decide_eq_true c18
      clear c18
      replace H := bs_ H
      obtain ⟨t220,A19,H⟩ := H
      by_cases c20 : x218001_1.length < 4398046511104
      ·rw [if_pos c20] at H
       have LMc20 := ak c20
       clear c20
       obtain ⟨y223,hy223⟩ : ∃ y_ : List (S79),y_ = (x218001_1 ++ [(⟨(rd_T79 l0_1 x4_1).f0,t220⟩ : S79)]) := ⟨_,rfl⟩
       replace H : (spec_l6Copy.l0 k1 (wrap64 (x4_1 + 1)) a0_0 l0_1 l0_2 l0_3 a0_0 y223 y214) = some (r1,r2,r3,r4) := by first|(rw [hy223];with_reducible exact H)|(have H2_ := (Option.bind_some _ _).symm.trans H;rw [hy223];with_reducible exact H2_)|(have H2_ := (Option.bind_some _ _).symm.trans H;with_reducible exact H2_)|with_reducible exact H|(rw [hy223];exact H)|exact H
       have Ny223 := ak hy223
       clear hy223
       have H' := ak H
       clear H
       have hnb21 := NB209_210.out
       have hnc21 := NB210_209.out
       have hnb22 := NB209_217.out
       have hnc22 := NB217_209.out
       obtain ⟨⟨hcz23_0,hcz23_1,hcz23_2,hcz23_3⟩,hfz23_0,hfz23_1,hfz23_2,hfz23_3⟩ := cl4_ BK209.out
       try go_wp2
       replace HO_218001 := ak (Kd.S_drew HO_218001.out)
       replace HO_218003 := ak (Kd.R_drew HO_218003.out)
       replace BK209 := ak (blk_drew BK209.out)
       replace BK210 := ak (blk_drew BK210.out)
       replace BK217 := ak (blk_drew BK217.out)
       replace HB := ak (below_drew1 HB.out)
       have p218 : 0 ≤ (x4_1 : Int) := od_
       have q218 : x4_1 < (l0_1.length : Int) := od_
       obtain ⟨ad218,A218_1,c218_1,e218,hx218_0,hx218_1,hl218_1,hi218_1⟩ := at_T79 HR0_1.out x4_1 p218 q218
       have hw218_1 := hx218_1
       have hw218_0 := hx218_0
       cases e218
       replace hx218_0 := hx_ HB hx218_0
       replace hx218_1 := hx_ HB hx218_1
       have HR218_1 := ak hi218_1
       have HC218_1 := ak hl218_1
       clear hi218_1 hl218_1
       replace p218 := eq_true p218
       replace q218 := eq_true q218
       have p219 : 0 ≤ (x4_1 : Int) := od_
       have q219 : x4_1 < (l0_1.length : Int) := od_
       obtain ⟨ad219,A219_1,c219_1,e219,hx219_0,hx219_1,hl219_1,hi219_1⟩ := at_T79 HR0_1.out x4_1 p219 q219
       have hw219_1 := hx219_1
       have hw219_0 := hx219_0
       obtain rfl : ad218 = ad219 := (by injection e219)
       replace hx219_0 := hx_ HB hx219_0
       replace hx219_1 := hx_ HB hx219_1
       have HR219_1 := ak hi219_1
       have HC219_1 := ak hl219_1
       clear hi219_1 hl219_1
       replace p219 := eq_true p219
       replace q219 := eq_true q219
       have ea_ := Option.some.inj (hx218_1.symm.trans hx219_1)
       injection ea_ with ea_ en_ ec_
       subst ea_
       subst ec_
       clear en_
       refine std_ 20 (S := fun w' => hc4 w' gb217 (.bool a0_0) (u218001) (.slice none 0 0) (.slice Ao12 y214.length co12) (hc4 w' gb209 (.bool a0_0) (.slice (some ad218) l0_1.length c0_1) (.slice A0_2 l0_2.length c0_2) (.slice A0_3 l0_3.length c0_3) (he2 w' (ad218.add ((x4_1).toNat * 2)) (.int .i64 ((rd_T79 l0_1 x4_1).f0)) (.slice A218_1 ((rd_T79 l0_1 x4_1).f1).length c218_1) (hf2 w' (ad218.add ((x4_1).toNat * 2)) (.int .i64 ((rd_T79 l0_1 x4_1).f0)) (.slice A218_1 ((rd_T79 l0_1 x4_1).f1).length c218_1))))) (ds := [19]) hh_ (fun hHeld => ?_);refine with_tabW spec_l6Copy.tab5 spec_l6Copy.bits5 (fun HT_ HW_ => ?_)
       generalize wr.drew = w24 at HO_218001 HO_218003 BK209 BK210 BK217 HB HR218_1 HR219_1 hx218_0 hx218_1 hx219_0 hx219_1 hHeld ⊢
       refine pv_ 0 20 ?_
       refine pv_ 2 22 ?_
       refine pv_ 4 24 ?_
       refine pv_ 8 28 ?_
       refine pv_ 10 30 ?_
       refine tx_ 1 21 hHeld ?_
       refine tx_ 3 23 hHeld ?_
       refine pv_ 5 25 ?_
       refine pv_ 6 26 ?_
       refine tx_ 7 27 hHeld ?_
       refine tx_ 9 29 hHeld ?_
       refine pv_ 11 31 ?_
       refine pv_ 12 32 ?_
       refine tx_ 13 33 hHeld ?_
       refine oy_ 14 34 (fun K hK => ?_)
       refine gs_ Try.func58 #[.slice A218_1 ((rd_T79 l0_1 x4_1).f1).length c218_1] ?_
       with_reducible refine (spec_l3Copy.calls _ _ ((rd_T79 l0_1 x4_1).f1) t220 _ ?side1 ?side2 A19.out).mono ?_
       (case side1 => exact cb_ HR219_1)
       (case side2 => exact HC219_1.out)
       rintro e w25 ⟨v221,rfl,ho0,hb⟩
       refine ⟨_,rfl,?_⟩
       replace HO_218001 := ak (Kd.S_elder' (by (with_reducible repeat (first|apply Kd.S_alloc|apply Kd.S_drewN|apply Kd.S_drew));exact HO_218001.out) (Kd.R_base ho0) hb)
       replace HO_218003 := ak (Kd.R_below (by (with_reducible repeat (first|apply Kd.R_alloc|apply Kd.R_drewN|apply Kd.R_drew));exact HO_218003.out) hb)
       replace BK209 := ak (blk_below (kb_ BK209) hb)
       replace BK210 := ak (blk_below (kb_ BK210) hb)
       replace BK217 := ak (blk_below (kb_ BK217) hb)
       have HO222 := ak (Kd.R_lower ho0 (below_size b_))
       replace HB := ak (below_step b_ hb)
       (try clear hb)
       (try clear hb2)
       (try clear hk)
       (try clear hi)
       (try clear ho0)
       obtain ⟨Ao26,co26,eo26⟩ := Kd.R_slice HO222.out
       (first|subst eo26|(injection eo26 with f1_ f2_ f3_;have f4_ := f1_.symm;have f5_ := f3_.symm;clear f1_ f2_ f3_;subst f4_;subst f5_))
       refine hK.out _ _ hh_ (fun hHeld => ?_)
       clear hK K
       refine nr_ (some 34) _ ?_
       refine pv_ 15 35 ?_
       refine oy_ 16 36 (fun K hK => ?_)
       refine value_ (w1 := ?_) (v := ?_) (by rfl) rfl ?_ ?_
       rotate_left 2
       ·go_simp
        constructor
        ·rfl
        ·rfl
       refine hK.out _ _ ⟨(blk_cell (blk_alloc BK217.out _) 0).trans rfl,(blk_cell (blk_alloc BK217.out _) 1).trans rfl,(blk_cell (blk_alloc BK217.out _) 2).trans rfl,(blk_cell (blk_alloc BK217.out _) 3).trans rfl,(blk_cell (blk_alloc BK209.out _) 0).trans rfl,(blk_cell (blk_alloc BK209.out _) 1).trans rfl,(blk_cell (blk_alloc BK209.out _) 2).trans rfl,(blk_cell (blk_alloc BK209.out _) 3).trans rfl,(World.cell?_alloc_lt _ _ _ (World.block_lt_of_cell? _ _ ((hx_ HB hw218_0)))).trans ((hx_ HB hw218_0)),(World.cell?_alloc_lt _ _ _ (World.block_lt_of_cell? _ _ ((hx_ HB hw218_1)))).trans ((hx_ HB hw218_1)),(World.cell?_alloc_lt _ _ _ (World.block_lt_of_cell? _ _ ((hx_ HB hw219_0)))).trans ((hx_ HB hw219_0)),(World.cell?_alloc_lt _ _ _ (World.block_lt_of_cell? _ _ ((hx_ HB hw219_1)))).trans ((hx_ HB hw219_1))⟩ (fun hHeld => ?_)
       clear hK K
       refine nr_ (some 36) _ ?_
       refine oy_ 17 37 (fun K hK => ?_)
       refine Kd.S_append_step k79 (w0 := w) w.heap.size (by rfl) (.tmp 21) (.tmp 36) 29 79 (.agg #[(.int .i64 0),(.slice none 0 0)]) 32 rfl Try.underlying29 info79 rfl (by decide) (by omega) u218001 x218001_1 (⟨(rd_T79 l0_1 x4_1).f0,t220⟩ : S79) [.int .i64 ((rd_T79 l0_1 x4_1).f0),.slice Ao26 t220.length co26] (fun _ => True) (fun k_ => some k_ = (.slice Ao26 t220.length co26 : Value).ownBlock) rfl rfl ?aP (fun k_ hk_ => ((Kd.R_mono (ok' := fun k_ => ((fun _ => True)) k_ ∧ some k_ ≠ (u218001 : Value).ownBlock) (Kd.R_apart' (HO222.out) (Kd.S_typed HO_218001.out) (by decide)) (fun k_ hk => ⟨trivial,hk.2⟩))).1 k_ hk_.symm) ?aF ?aO ?aB ?aS ?aL ?_
       (case aP => exact k79_mkM _ _ _ (⟨(rd_T79 l0_1 x4_1).f0,t220⟩ : S79) (Kd.R_mono (Kd.R_tight rfl (Kd.R_mono (ok' := fun k_ => ((fun _ => True)) k_ ∧ some k_ ≠ (u218001 : Value).ownBlock) (Kd.R_apart' (HO222.out) (Kd.S_typed HO_218001.out) (by decide)) (fun k_ hk => ⟨trivial,hk.2⟩))) (fun _ h_ => h_)))
       (case aB => exact b_)
       (case aF => exact (fun _ _ => trivial))
       (case aO => exact (by (with_reducible repeat (first|apply Kd.S_alloc|apply Kd.S_drewN|apply Kd.S_drew));exact Kd.S_mono HO_218001.out (fun k_ hk => ⟨trivial,fun e_ => hk.2 e_⟩)))
       (case aS => exact (below_size b_))
       (case aL => have := LMc20.out;omega)
       intro v224 w27 ho hb hg hat
       rw [← Ny223.out] at ho
       replace HO_218003 := ak (Kd.R_over' (by (with_reducible repeat (first|apply Kd.R_alloc|apply Kd.R_drewN|apply Kd.R_drew));exact HO_218003.out) (Kd.S_typed (by (with_reducible repeat (first|apply Kd.S_alloc|apply Kd.S_drewN|apply Kd.S_drew));exact HO_218001.out)) (by decide) hg)
       replace BK209 := ak (blk_grown (kb_ BK209) hg (Kd.S_ne HO_218001.out BK209.out (by decide)))
       replace BK210 := ak (blk_grown (kb_ BK210) hg (Kd.S_ne HO_218001.out BK210.out (by decide)))
       replace BK217 := ak (blk_grown (kb_ BK217) hg (Kd.S_ne HO_218001.out BK217.out (by decide)))
       replace HB := ak (hb)
       have HO225 := ak (ho)
       clear HO_218001 HO222
       clear ho hb hg hat
       obtain ⟨Ao28,co28,eo28⟩ := Kd.S_slice HO225.out
       (first|subst eo28|(injection eo28 with f1_ f2_ f3_;have f4_ := f1_.symm;have f5_ := f3_.symm;clear f1_ f2_ f3_;subst f4_;subst f5_))
       refine hK.out _ _ hh_ (fun hHeld => ?_)
       clear hK K
       refine nr_ (some 37) _ ?_
       refine pv_ 18 38 ?_
       refine last_ (i := 19) (N := none) #[true,true,true,true,true,true,true,true,true,true,true,true,true,true,true,true,true,true,true,true] rfl rfl (one_of HT_.out (by kernel_rfl)) (by decide) (fun K hK => ?_)
       have hs29 : w27.cell? ⟨gb217,1,none⟩ = some (u218001) := (blk_cell BK217.out 1).trans rfl
       have hfs29 := blk_frozen BK217.out 1
       have hns29_0 := NB209_217.out
       have hns29_1 := NB210_217.out
       have hms29_0 := NB217_209.out
       have hms29_1 := NB217_210.out
       refine skip_ (w1 := ?_) (by rfl) rfl ?_ ?_
       rotate_left
       ·go_simp
        rfl
       refine hK.out _ _ ?_
       clear hK K
       refine done_ (done_of HT_.out (by kernel_rfl)) ?_
       try go_wp2
       go_roundg k1
       case measure => have := HK1.out;omega
       case rel => exact ⟨(wrap64 (x4_1 + 1)),(y223),(.slice Ao28 y223.length co28),rs_,H',⟨by have := HK1.out;omega⟩,⟨by (with_reducible repeat (first|apply Kd.S_alloc|apply Kd.S_drewN|apply Kd.S_drew));exact Kd.S_mono (Kd.S_far (p := ⟨gb217,1,none⟩) (Kd.S_types HO225.out BK217.out (by decide)) (fun _ hk => hk.2) (.slice Ao28 y223.length co28)) (fun _ hk => trivial)⟩,⟨by (with_reducible repeat (first|apply Kd.R_alloc|apply Kd.R_drewN|apply Kd.R_drew));exact Kd.R_mono (Kd.R_far (p := ⟨gb217,1,none⟩) (Kd.R_types HO_218003.out BK217.out (by decide)) (fun _ hk => hk.2) (.slice Ao28 y223.length co28)) (fun _ hk => trivial)⟩,⟨kf_ BK209⟩,⟨kf_ BK210⟩,⟨by (with_reducible repeat (first|refine blk_drewN ?_ _|refine blk_drew ?_|refine blk_alloc ?_ _));refine blk_put (cs := #[.bool a0_0,u218001,.slice none 0 0,.slice Ao12 y214.length co12]) ?_ 1 _ rfl;(with_reducible repeat (first|refine blk_drewN ?_ _|refine blk_drew ?_|refine blk_alloc ?_ _));exact BK217.out⟩,⟨b_⟩⟩
      ·rw [if_neg c20] at H
       exact absurd H (by simp)
     ·rw [if_neg c18] at H
      exact absurd H (by simp)
    ·rw [if_neg c17] at H
     have c17b0 : decide (x4_1 < (l0_1.length : Int)) = false := decide_eq_false c17
     clear c17
     have H' := ak H
     clear H
     have hnb30 := NB209_210.out
     have hnc30 := NB210_209.out
     have hnb31 := NB209_217.out
     have hnc31 := NB217_209.out
     obtain ⟨⟨hcz32_0,hcz32_1,hcz32_2,hcz32_3⟩,hfz32_0,hfz32_1,hfz32_2,hfz32_3⟩ := cl4_ BK209.out
     go_wp2
     go_loopg [5] k1 (fun kq v5 w' => ∃ (x5_2 : Int) (x218002_2 : List (S45)) (u218002 : Value),v5 = .int .i64 x5_2 ∧ Aside0 (spec_l6Copy.l1 kq x5_2 a0_0 l0_1 l0_2 l0_3 a0_0 x218001_1 x218002_2 y214 = some (r1,r2,r3,r4)) ∧ Aside0 (kq ≤ k1) ∧ Aside0 (Kd.S k79 79 w' w.heap.size (fun _ => True) u218001 x218001_1) ∧ Aside0 (Kd.S k45 45 w' w.heap.size (fun _ => True) u218002 x218002_2) ∧ Aside0 (Kd.R (Kd.int .i64) 2 w' w.heap.size (fun _ => True) (.slice Ao12 y214.length co12) y214) ∧ Aside0 (w'.heap[gb209]? = some (.cells #[.bool a0_0,(.slice A0_1 l0_1.length c0_1),(.slice A0_2 l0_2.length c0_2),(.slice A0_3 l0_3.length c0_3)] 32 (0,0))) ∧ Aside0 (w'.heap[gb210]? = some (.cells #[.bool false,(.slice none 0 0),(.slice none 0 0),(.slice none 0 0)] 32 (0,0))) ∧ Aside0 (w'.heap[gb217]? = some (.cells #[.bool a0_0,u218001,u218002,(.slice Ao12 y214.length co12)] 32 (0,0))) ∧ Aside0 (Below w.heap.size w w'))
     case atStart => exact ⟨(0),(([] : List (S45))),(.slice none 0 0),rs_,H',⟨Nat.le_refl _⟩,⟨by (with_reducible repeat (first|apply Kd.S_alloc|apply Kd.S_drewN|apply Kd.S_drew));exact HO_218001.out⟩,⟨by first|exact Kd.S_nil _ _ _ _ _|exact Kd.N_nil _ _ _ _ _|exact Kd.V_nil _ _ _ _ _|exact Kd.Q_nil _ _ _ _ _|exact Kd.R_nil _ _ _ _ _⟩,⟨by (with_reducible repeat (first|apply Kd.R_alloc|apply Kd.R_drewN|apply Kd.R_drew));exact HO_218003.out⟩,⟨kb_ BK209⟩,⟨kb_ BK210⟩,⟨kb_ BK217⟩,⟨b_⟩⟩
     case round =>
      clear H'
      try clear c1
      try clear c2
      try clear p2
      try clear q2
      try clear hx2
      try clear c3
      try clear c5
      try clear p6
      try clear c7
      try clear c17
      try clear c17b0
      try clear c18
      try clear c18b0
      try clear c20
      try clear c21
      try clear p21
      try clear q21
      try clear hx21
      try clear c22
      try clear c30
      try clear c31
      try clear hcz23_0
      try clear hcz23_1
      try clear hcz23_2
      try clear hcz23_3
      try clear hcz32_0
      try clear hcz32_1
      try clear hcz32_2
      try clear hcz32_3
      try clear hfz23_0
      try clear hfz23_1
      try clear hfz23_2
      try clear hfz23_3
      try clear hfz32_0
      try clear hfz32_1
      try clear hfz32_2
      try clear hfz32_3
      try clear hx218_0
      try clear hx218_1
      try clear hx219_0
      try clear hx219_1
      try clear p2
      try clear p218
      try clear p219
      try clear q218
      try clear q219
      obtain ⟨x5_2,x218002_2,u218002,rfl,HA,HK2,HO_218001,HO_218002,HO_218003,BK209,BK210,BK217,HB⟩ := hrel
      cases gk with
      | zero => exact absurd HA.out (by simp [spec_l6Copy.l1])
      | succ k2 =>
       have H := HA.out
       clear HA
       simp only [spec_l6Copy.l1] at H
       by_cases c33 : x5_2 < (l0_2.length : Int)
       ·rw [if_pos c33] at H
        have c33b0 : decide (x5_2 < (l0_2.length : Int)) = true := decide_eq_true c33
        clear c33
        by_cases c34 : 0 ≤ x5_2
        ·rw [if_pos c34] at H
         have c34b0 : decide (0 ≤ x5_2) = true := decide_eq_true c34
         clear c34
         replace H := Option.bind_eq_some_iff.mp H
         obtain ⟨⟨t227,t228,t229,t230⟩,A350,H⟩ := H
         replace H : (if x218002_2.length < 2932031007402 then (spec_l6Copy.l1 k2 (wrap64 (x5_2 + 1)) a0_0 l0_1 l0_2 l0_3 a0_0 x218001_1 (x218002_2 ++ [(⟨t227,t228,t229,t230⟩ : S45)]) y214) else (none)) = some (r1,r2,r3,r4) := H
         have A35 := ak A350
         clear A350
         by_cases c36 : x218002_2.length < 2932031007402
         ·rw [if_pos c36] at H
          have LMc36 := ak c36
          clear c36
          obtain ⟨y233,hy233⟩ : ∃ y_ : List (S45),y_ = (x218002_2 ++ [(⟨t227,t228,t229,t230⟩ : S45)]) := ⟨_,rfl⟩
          replace H : (spec_l6Copy.l1 k2 (wrap64 (x5_2 + 1)) a0_0 l0_1 l0_2 l0_3 a0_0 x218001_1 y233 y214) = some (r1,r2,r3,r4) := by first|(rw [hy233];with_reducible exact H)|(have H2_ := (Option.bind_some _ _).symm.trans H;rw [hy233];with_reducible exact H2_)|(have H2_ := (Option.bind_some _ _).symm.trans H;with_reducible exact H2_)|with_reducible exact H|(rw [hy233];exact H)|exact H
          have Ny233 := ak hy233
          clear hy233
          have H' := ak H
          clear H
          have hnb37 := NB209_210.out
          have hnc37 := NB210_209.out
          have hnb38 := NB209_217.out
          have hnc38 := NB217_209.out
          obtain ⟨⟨hcz39_0,hcz39_1,hcz39_2,hcz39_3⟩,hfz39_0,hfz39_1,hfz39_2,hfz39_3⟩ := cl4_ BK209.out
          try go_wp2
          replace HO_218001 := ak (Kd.S_drew HO_218001.out)
          replace HO_218002 := ak (Kd.S_drew HO_218002.out)
          replace HO_218003 := ak (Kd.R_drew HO_218003.out)
          replace BK209 := ak (blk_drew BK209.out)
          replace BK210 := ak (blk_drew BK210.out)
          replace BK217 := ak (blk_drew BK217.out)
          replace HB := ak (below_drew1 HB.out)
          have p226 : 0 ≤ (x5_2 : Int) := od_
          have q226 : x5_2 < (l0_2.length : Int) := od_
          obtain ⟨ad226,A226_3,c226_3,e226,hx226_0,hx226_1,hx226_2,hx226_3,hl226_3,hi226_3⟩ := at_T45 HR0_2.out x5_2 p226 q226
          have hw226_3 := hx226_3
          have hw226_2 := hx226_2
          have hw226_1 := hx226_1
          have hw226_0 := hx226_0
          cases e226
          replace hx226_0 := hx_ HB hx226_0
          replace hx226_1 := hx_ HB hx226_1
          replace hx226_2 := hx_ HB hx226_2
          replace hx226_3 := hx_ HB hx226_3
          have HR226_3 := ak hi226_3
          have HC226_3 := ak hl226_3
          clear hi226_3 hl226_3
          replace p226 := eq_true p226
          replace q226 := eq_true q226
          refine std_ 12 (S := fun w' => hc4 w' gb217 (.bool a0_0) (u218001) (u218002) (.slice Ao12 y214.length co12) (hc4 w' gb209 (.bool a0_0) (.slice A0_1 l0_1.length c0_1) (.slice (some ad226) l0_2.length c0_2) (.slice A0_3 l0_3.length c0_3) (hf4 w' (ad226.add ((x5_2).toNat * 4)) (.int .i64 ((rd_T45 l0_2 x5_2).f0)) (.int .i64 ((rd_T45 l0_2 x5_2).f1)) (.int .i64 ((rd_T45 l0_2 x5_2).f2)) (.slice A226_3 ((rd_T45 l0_2 x5_2).f3).length c226_3)))) (ds := [11]) hh_ (fun hHeld => ?_);refine with_tabW spec_l6Copy.tab9 spec_l6Copy.bits9 (fun HT_ HW_ => ?_)
          generalize wr.drew = w40 at HO_218001 HO_218002 HO_218003 BK209 BK210 BK217 HB HR226_3 hx226_0 hx226_1 hx226_2 hx226_3 hHeld ⊢
          refine pv_ 0 46 ?_
          refine pv_ 2 48 ?_
          refine pv_ 4 50 ?_
          refine tx_ 1 47 hHeld ?_
          refine tx_ 3 49 hHeld ?_
          refine pv_ 5 51 ?_
          refine tx_ 6 52 hHeld ?_
          refine oy_ 7 53 (fun K hK => ?_)
          refine gs_ Try.func66 #[.agg #[.int .i64 ((rd_T45 l0_2 x5_2).f0),.int .i64 ((rd_T45 l0_2 x5_2).f1),.int .i64 ((rd_T45 l0_2 x5_2).f2),.slice A226_3 ((rd_T45 l0_2 x5_2).f3).length c226_3]] ?_
          with_reducible refine (spec_l6Record.calls ((rd_T45 l0_2 x5_2).f0) ((rd_T45 l0_2 x5_2).f1) ((rd_T45 l0_2 x5_2).f2) _ _ ((rd_T45 l0_2 x5_2).f3) t227 t228 t229 t230 _ ?side1 ?side2 A35.out).mono ?_
          (case side1 => exact cb_ HR226_3)
          (case side2 => exact HC226_3.out)
          rintro e w41 ⟨v231,rfl,ho0,hb⟩
          refine ⟨_,rfl,?_⟩
          replace HO_218001 := ak (Kd.S_below (by (with_reducible repeat (first|apply Kd.S_alloc|apply Kd.S_drewN|apply Kd.S_drew));exact HO_218001.out) hb)
          replace HO_218002 := ak (Kd.S_elder' (by (with_reducible repeat (first|apply Kd.S_alloc|apply Kd.S_drewN|apply Kd.S_drew));exact HO_218002.out) (Kd.R_base ho0) hb)
          replace HO_218003 := ak (Kd.R_below (by (with_reducible repeat (first|apply Kd.R_alloc|apply Kd.R_drewN|apply Kd.R_drew));exact HO_218003.out) hb)
          replace BK209 := ak (blk_below (kb_ BK209) hb)
          replace BK210 := ak (blk_below (kb_ BK210) hb)
          replace BK217 := ak (blk_below (kb_ BK217) hb)
          have HO232 := ak (Kd.R_lower ho0 (below_size b_))
          replace HB := ak (below_step b_ hb)
          (try clear hb)
          (try clear hb2)
          (try clear hk)
          (try clear hi)
          (try clear ho0)
          obtain ⟨Ao43,co43,eo43⟩ := Kd.R_slice HO232.out
          (first|subst eo43|(injection eo43 with f1_ f2_ f3_;have f4_ := f1_.symm;have f5_ := f3_.symm;clear f1_ f2_ f3_;subst f4_;subst f5_))
          refine hK.out _ _ hh_ (fun hHeld => ?_)
          clear hK K
          refine nr_ (some 53) _ ?_
          refine oy_ 8 54 (fun K hK => ?_)
          refine value_ (w1 := ?_) (v := ?_) (by rfl) rfl ?_ ?_
          rotate_left 2
          ·go_simp
           constructor
           ·rfl
           ·rfl
          refine hK.out _ _ ⟨(blk_cell (blk_alloc BK217.out _) 0).trans rfl,(blk_cell (blk_alloc BK217.out _) 1).trans rfl,(blk_cell (blk_alloc BK217.out _) 2).trans rfl,(blk_cell (blk_alloc BK217.out _) 3).trans rfl,(blk_cell (blk_alloc BK209.out _) 0).trans rfl,(blk_cell (blk_alloc BK209.out _) 1).trans rfl,(blk_cell (blk_alloc BK209.out _) 2).trans rfl,(blk_cell (blk_alloc BK209.out _) 3).trans rfl,(World.cell?_alloc_lt _ _ _ (World.block_lt_of_cell? _ _ ((hx_ HB hw226_0)))).trans ((hx_ HB hw226_0)),(World.cell?_alloc_lt _ _ _ (World.block_lt_of_cell? _ _ ((hx_ HB hw226_1)))).trans ((hx_ HB hw226_1)),(World.cell?_alloc_lt _ _ _ (World.block_lt_of_cell? _ _ ((hx_ HB hw226_2)))).trans ((hx_ HB hw226_2)),(World.cell?_alloc_lt _ _ _ (World.block_lt_of_cell? _ _ ((hx_ HB hw226_3)))).trans ((hx_ HB hw226_3))⟩ (fun hHeld => ?_)
          clear hK K
          refine nr_ (some 54) _ ?_
          refine oy_ 9 55 (fun K hK => ?_)
          refine Kd.S_append_step k45 (w0 := w) w.heap.size (by rfl) (.tmp 47) (.tmp 54) 30 45 (.agg #[(.int .i64 0),(.int .i64 0),(.int .i64 0),(.slice none 0 0)]) 48 rfl Try.underlying30 info45 rfl (by decide) (by omega) u218002 x218002_2 (⟨t227,t228,t229,t230⟩ : S45) [.int .i64 t227,.int .i64 t228,.int .i64 t229,.slice Ao43 t230.length co43] (fun _ => True) (fun k_ => some k_ = (.slice Ao43 t230.length co43 : Value).ownBlock) rfl rfl ?aP (fun k_ hk_ => ((Kd.R_mono (ok' := fun k_ => ((fun _ => True)) k_ ∧ some k_ ≠ (u218002 : Value).ownBlock) (Kd.R_apart' (HO232.out) (Kd.S_typed HO_218002.out) (by decide)) (fun k_ hk => ⟨trivial,hk.2⟩))).1 k_ hk_.symm) ?aF ?aO ?aB ?aS ?aL ?_
          (case aP => exact k45_mkM _ _ _ (⟨t227,t228,t229,t230⟩ : S45) (Kd.R_mono (Kd.R_tight rfl (Kd.R_mono (ok' := fun k_ => ((fun _ => True)) k_ ∧ some k_ ≠ (u218002 : Value).ownBlock) (Kd.R_apart' (HO232.out) (Kd.S_typed HO_218002.out) (by decide)) (fun k_ hk => ⟨trivial,hk.2⟩))) (fun _ h_ => h_)))
          (case aB => exact b_)
          (case aF => exact (fun _ _ => trivial))
          (case aO => exact (by (with_reducible repeat (first|apply Kd.S_alloc|apply Kd.S_drewN|apply Kd.S_drew));exact Kd.S_mono HO_218002.out (fun k_ hk => ⟨trivial,fun e_ => hk.2 e_⟩)))
          (case aS => exact (below_size b_))
          (case aL => have := LMc36.out;omega)
          intro v234 w42 ho hb hg hat
          rw [← Ny233.out] at ho
          replace HO_218001 := ak (Kd.S_over' (by (with_reducible repeat (first|apply Kd.S_alloc|apply Kd.S_drewN|apply Kd.S_drew));exact HO_218001.out) (Kd.S_typed (by (with_reducible repeat (first|apply Kd.S_alloc|apply Kd.S_drewN|apply Kd.S_drew));exact HO_218002.out)) (by decide) hg)
          replace HO_218003 := ak (Kd.R_over' (by (with_reducible repeat (first|apply Kd.R_alloc|apply Kd.R_drewN|apply Kd.R_drew));exact HO_218003.out) (Kd.S_typed (by (with_reducible repeat (first|apply Kd.S_alloc|apply Kd.S_drewN|apply Kd.S_drew));exact HO_218002.out)) (by decide) hg)
          replace BK209 := ak (blk_grown (kb_ BK209) hg (Kd.S_ne HO_218002.out BK209.out (by decide)))
          replace BK210 := ak (blk_grown (kb_ BK210) hg (Kd.S_ne HO_218002.out BK210.out (by decide)))
          replace BK217 := ak (blk_grown (kb_ BK217) hg (Kd.S_ne HO_218002.out BK217.out (by decide)))
          replace HB := ak (hb)
          have HO235 := ak (ho)
          clear HO_218002 HO232
          clear ho hb hg hat
          obtain ⟨Ao44,co44,eo44⟩ := Kd.S_slice HO235.out
          (first|subst eo44|(injection eo44 with f1_ f2_ f3_;have f4_ := f1_.symm;have f5_ := f3_.symm;clear f1_ f2_ f3_;subst f4_;subst f5_))
          refine hK.out _ _ hh_ (fun hHeld => ?_)
          clear hK K
          refine nr_ (some 55) _ ?_
          refine pv_ 10 56 ?_
          refine last_ (i := 11) (N := none) #[true,true,true,true,true,true,true,true,true,true,true,true] rfl rfl (one_of HT_.out (by kernel_rfl)) (by decide) (fun K hK => ?_)
          have hs45 : w42.cell? ⟨gb217,2,none⟩ = some (u218002) := (blk_cell BK217.out 2).trans rfl
          have hfs45 := blk_frozen BK217.out 2
          have hns45_0 := NB209_217.out
          have hns45_1 := NB210_217.out
          have hms45_0 := NB217_209.out
          have hms45_1 := NB217_210.out
          refine skip_ (w1 := ?_) (by rfl) rfl ?_ ?_
          rotate_left
          ·go_simp
           rfl
          refine hK.out _ _ ?_
          clear hK K
          refine done_ (done_of HT_.out (by kernel_rfl)) ?_
          try go_wp2
          go_roundg k2
          case measure => have := HK1.out;have := HK2.out;omega
          case rel => exact ⟨(wrap64 (x5_2 + 1)),(y233),(.slice Ao44 y233.length co44),rs_,H',⟨by have := HK1.out;have := HK2.out;omega⟩,⟨by (with_reducible repeat (first|apply Kd.S_alloc|apply Kd.S_drewN|apply Kd.S_drew));exact Kd.S_mono (Kd.S_far (p := ⟨gb217,2,none⟩) (Kd.S_types HO_218001.out BK217.out (by decide)) (fun _ hk => hk.2) (.slice Ao44 y233.length co44)) (fun _ hk => trivial)⟩,⟨by (with_reducible repeat (first|apply Kd.S_alloc|apply Kd.S_drewN|apply Kd.S_drew));exact Kd.S_mono (Kd.S_far (p := ⟨gb217,2,none⟩) (Kd.S_types HO235.out BK217.out (by decide)) (fun _ hk => hk.2) (.slice Ao44 y233.length co44)) (fun _ hk => trivial)⟩,⟨by (with_reducible repeat (first|apply Kd.R_alloc|apply Kd.R_drewN|apply Kd.R_drew));exact Kd.R_mono (Kd.R_far (p := ⟨gb217,2,none⟩) (Kd.R_types HO_218003.out BK217.out (by decide)) (fun _ hk => hk.2) (.slice Ao44 y233.length co44)) (fun _ hk => trivial)⟩,⟨kf_ BK209⟩,⟨kf_ BK210⟩,⟨by (with_reducible repeat (first|refine blk_drewN ?_ _|refine blk_drew ?_|refine blk_alloc ?_ _));refine blk_put (cs := #[.bool a0_0,u218001,u218002,.slice Ao12 y214.length co12]) ?_ 2 _ rfl;(with_reducible repeat (first|refine blk_drewN ?_ _|refine blk_drew ?_|refine blk_alloc ?_ _));exact BK217.out⟩,⟨b_⟩⟩
         ·rw [if_neg c36] at H
          exact absurd H (by simp)
        ·rw [if_neg c34] at H
         exact absurd H (by simp)
       ·rw [if_neg c33] at H
        have c33b0 : decide (x5_2 < (l0_2.length : Int)) = false := decide_eq_false c33
        clear c33
        simp only [Option.some.injEq,Prod.mk.injEq] at H
        obtain ⟨rfl,rfl,rfl,rfl⟩ := H
        have hnb46 := NB209_210.out
        have hnc46 := NB210_209.out
        have hnb47 := NB209_217.out
        have hnc47 := NB217_209.out
        obtain ⟨⟨hcz48_0,hcz48_1,hcz48_2,hcz48_3⟩,hfz48_0,hfz48_1,hfz48_2,hfz48_3⟩ := cl4_ BK209.out
        have hnb49 := NB217_210.out
        have hnc49 := NB210_217.out
        obtain ⟨⟨hcz50_0,hcz50_1,hcz50_2,hcz50_3⟩,hfz50_0,hfz50_1,hfz50_2,hfz50_3⟩ := cl4_ BK217.out
        obtain ⟨⟨hcz51_0,hcz51_1,hcz51_2,hcz51_3⟩,hfz51_0,hfz51_1,hfz51_2,hfz51_3⟩ := cl4_ BK210.out
        obtain ⟨Ao52,co52,eo52⟩ := Kd.S_slice HO_218001.out
        subst eo52
        obtain ⟨Ao53,co53,eo53⟩ := Kd.S_slice HO_218002.out
        subst eo53
        go_wp2
        refine bodyPost_ret (results_cell_row rfl _ _ gb210 32 #[.bool a0_0,.slice Ao52 x218001_1.length co52,.slice Ao53 x218002_2.length co53,.slice Ao12 y214.length co12] (0,0) _ rfl (by (with_reducible repeat (first|refine blk_drewN ?_ _|refine blk_drew ?_|refine blk_alloc ?_ _));refine blk_put (cs := #[.bool a0_0,.slice Ao52 x218001_1.length co52,.slice Ao53 x218002_2.length co53,.slice none 0 0]) ?_ 3 _ rfl;(with_reducible repeat (first|refine blk_drewN ?_ _|refine blk_drew ?_|refine blk_alloc ?_ _));refine blk_put (cs := #[.bool a0_0,.slice Ao52 x218001_1.length co52,.slice none 0 0,.slice none 0 0]) ?_ 2 _ rfl;(with_reducible repeat (first|refine blk_drewN ?_ _|refine blk_drew ?_|refine blk_alloc ?_ _));refine blk_put (cs := #[.bool a0_0,.slice none 0 0,.slice none 0 0,.slice none 0 0]) ?_ 1 _ rfl;(with_reducible repeat (first|refine blk_drewN ?_ _|refine blk_drew ?_|refine blk_alloc ?_ _));refine blk_put (cs := #[.bool false,.slice none 0 0,.slice none 0 0,.slice none 0 0]) ?_ 0 _ rfl;(with_reducible repeat (first|refine blk_drewN ?_ _|refine blk_drew ?_|refine blk_alloc ?_ _));exact BK210.out) Try.underlying32 rfl (by kernel_rfl)) rfl ?_
        exact ⟨_,_,_,rf_,by (with_reducible repeat (first|apply Kd.S_alloc|apply Kd.S_drewN|apply Kd.S_drew));exact Kd.S_mono (Kd.S_far (p := ⟨gb210,3,none⟩) (Kd.S_far (p := ⟨gb210,2,none⟩) (Kd.S_far (p := ⟨gb210,1,none⟩) (Kd.S_far (p := ⟨gb210,0,none⟩) (Kd.S_types HO_218001.out BK210.out (by decide)) (fun _ hk => hk.2) (.bool a0_0)) (fun _ hk => hk.2) (.slice Ao52 x218001_1.length co52)) (fun _ hk => hk.2) (.slice Ao53 x218002_2.length co53)) (fun _ hk => hk.2) (.slice Ao12 y214.length co12)) (fun _ hk => trivial),by (with_reducible repeat (first|apply Kd.S_alloc|apply Kd.S_drewN|apply Kd.S_drew));exact Kd.S_mono (Kd.S_far (p := ⟨gb210,3,none⟩) (Kd.S_far (p := ⟨gb210,2,none⟩) (Kd.S_far (p := ⟨gb210,1,none⟩) (Kd.S_far (p := ⟨gb210,0,none⟩) (Kd.S_types HO_218002.out BK210.out (by decide)) (fun _ hk => hk.2) (.bool a0_0)) (fun _ hk => hk.2) (.slice Ao52 x218001_1.length co52)) (fun _ hk => hk.2) (.slice Ao53 x218002_2.length co53)) (fun _ hk => hk.2) (.slice Ao12 y214.length co12)) (fun _ hk => trivial),by (with_reducible repeat (first|apply Kd.R_alloc|apply Kd.R_drewN|apply Kd.R_drew));exact Kd.R_mono (Kd.R_far (p := ⟨gb210,3,none⟩) (Kd.R_far (p := ⟨gb210,2,none⟩) (Kd.R_far (p := ⟨gb210,1,none⟩) (Kd.R_far (p := ⟨gb210,0,none⟩) (Kd.R_types HO_218003.out BK210.out (by decide)) (fun _ hk => hk.2) (.bool a0_0)) (fun _ hk => hk.2) (.slice Ao52 x218001_1.length co52)) (fun _ hk => hk.2) (.slice Ao53 x218002_2.length co53)) (fun _ hk => hk.2) (.slice Ao12 y214.length co12)) (fun _ hk => trivial),b_⟩
 ·rw [if_neg c2] at H
  exact absurd H (by simp)

end Go.Proofs.Ythplaakckfhaaaa.XCd
