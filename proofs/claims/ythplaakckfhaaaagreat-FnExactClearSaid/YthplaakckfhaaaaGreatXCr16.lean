/- Proved: of each Go function here that a call comes to what the Lean function of its name tells. Written by a program of this session over the translation. No conditions beyond each theorem's own. -/
import Derived.Test.YthplaakckfhaaaaGreatXCr0
import Derived.Test.YthplaakckfhaaaaGreatXCr15
namespace Go.Proofs.YthplaakckfhaaaaGreat.XCr
open Go.RowKit Go.Proofs.YthplaakckfhaaaaGreat.Aid Go.Proofs.YthplaakckfhaaaaGreatW.PrintWords Go.Proofs.YthplaakckfhaaaaGreatW.PrintLast Go.Proofs.YthplaakckfhaaaaGreatW.PrintMore
set_option linter.unusedVariables false
set_option linter.unusedSimpArgs false

/-! ### impl_cloneMachine: function 39 -/
mutual
def impl_cloneMachine.l0 : Nat → List (S83) → Int → Int → Bool → List (S83) → List (S50) → List Int → Bool → List (S83) → List Int → Option (Bool × (List (S83)) × (List (S50)) × List Int)
  | 0, _, _, _, _, _, _, _, _, _, _ => none
  | k + 1, x15, x16, x17, x363000, x363001, x363002, x363003, x368000, x368001, x368003 => if x17 < x16 then (if 0 ≤ x17 then (if x17 < (x15.length : Int) then ((impl_Cell_63.f ((rd_T83 x15 x17).f1)).bind fun t370 => (if x368001.length < 4398046511104 then (impl_cloneMachine.l0 k x15 x16 (wrap64 (x17 + 1)) x363000 x363001 x363002 x363003 x368000 (x368001 ++ [(⟨(rd_T83 x15 x17).f0, t370⟩ : S83)]) x368003) else (none))) else (none)) else (none)) else (impl_cloneMachine.l1 k x363002 (x363002.length : Int) 0 x368000 x368001 ([] : List (S50)) x368003)
def impl_cloneMachine.l1 : Nat → List (S50) → Int → Int → Bool → List (S83) → List (S50) → List Int → Option (Bool × (List (S83)) × (List (S50)) × List Int)
  | 0, _, _, _, _, _, _, _ => none
  | k + 1, x34, x35, x36, x368000, x368001, x368002, x368003 => if x36 < x35 then (if 0 ≤ x36 then (if x36 < (x34.length : Int) then ((impl_cloneRecord.f ((rd_T50 x34 x36).f0) ((rd_T50 x34 x36).f1) ((rd_T50 x34 x36).f2) ((rd_T50 x34 x36).f3)).bind fun bt378 => (if x368002.length < 2932031007402 then (impl_cloneMachine.l1 k x34 x35 (wrap64 (x36 + 1)) x368000 x368001 (x368002 ++ [(⟨bt378.1, bt378.2.1, bt378.2.2.1, bt378.2.2.2⟩ : S50)]) x368003) else (none))) else (none)) else (none)) else (some (x368000, x368001, x368002, x368003))
end
def impl_cloneMachine.f (k : Nat) (a0_0 : Bool) (l0_1 : List (S83)) (l0_2 : List (S50)) (l0_3 : List Int) : Option (Bool × (List (S83)) × (List (S50)) × List Int) := (slices_Clone_int64_int64.f l0_3).bind fun t364 => (impl_cloneMachine.l0 k l0_1 (l0_1.length : Int) 0 a0_0 l0_1 l0_2 l0_3 a0_0 ([] : List (S83)) t364)

def impl_cloneMachine.T1 : Bool × List (List Nat × List Nat) := (true, [([], []), ([0], [0]), ([], []), ([2], [2]), ([3], [3]), ([1, 4], [1, 4]), ([], []), ([6, 5, 4, 0, 1, 2, 3, 4, 5, 6], [5, 6])])
def impl_cloneMachine.B1 : List Nat := [0, 1, 0, 4, 12, 31, 0, 127]
theorem impl_cloneMachine.tab1 : rtab .any (opsOf Tryz.f39 1) = impl_cloneMachine.T1 := by kernel_rfl
theorem impl_cloneMachine.bits1 : waitsOk impl_cloneMachine.T1.2 impl_cloneMachine.B1 = true := by kernel_rfl
def impl_cloneMachine.T5 : Bool × List (List Nat × List Nat) := (true, [([], []), ([0], [0]), ([], []), ([2], [2]), ([], []), ([4], [4]), ([5], [5]), ([3, 6], [3, 6]), ([7], [7]), ([1, 8, 6], [1, 8]), ([0, 1, 2, 3, 4, 5, 6, 7, 8, 9], []), ([10, 9, 9, 0, 1, 2, 3, 4, 5, 6, 7, 8, 9], [9, 10])])
def impl_cloneMachine.B5 : List Nat := [0, 1, 0, 4, 0, 16, 48, 124, 252, 511, 1023, 2047]
theorem impl_cloneMachine.tab5 : rtab .any (opsOf Tryz.f39 5) = impl_cloneMachine.T5 := by kernel_rfl
theorem impl_cloneMachine.bits5 : waitsOk impl_cloneMachine.T5.2 impl_cloneMachine.B5 = true := by kernel_rfl
def impl_cloneMachine.T10 : Bool × List (List Nat × List Nat) := (true, [([], []), ([0], [0]), ([], []), ([2], [2]), ([3], [3]), ([1, 4, 3], [1, 4]), ([0, 1, 2, 3, 4, 5], []), ([6, 5, 5, 0, 1, 2, 3, 4, 5], [5, 6])])
def impl_cloneMachine.B10 : List Nat := [0, 1, 0, 4, 12, 31, 63, 127]
theorem impl_cloneMachine.tab10 : rtab .any (opsOf Tryz.f39 10) = impl_cloneMachine.T10 := by kernel_rfl
theorem impl_cloneMachine.bits10 : waitsOk impl_cloneMachine.T10.2 impl_cloneMachine.B10 = true := by kernel_rfl
set_option maxHeartbeats 8000000 in
set_option maxRecDepth 100000 in
theorem impl_cloneMachine.calls (k : Nat) (a0_0 : Bool) (A0_1 : Option Addr) (c0_1 : Nat) (l0_1 : List (S83)) (A0_2 : Option Addr) (c0_2 : Nat) (l0_2 : List (S50)) (A0_3 : Option Addr) (c0_3 : Nat) (l0_3 : List Int) (r1 : Bool) (r2 : List (S83)) (r3 : List (S50)) (r4 : List Int) (w : World) (hr0_1 : Kd.C k83 w A0_1 l0_1.length l0_1) (hc0_1 : l0_1.length ≤ c0_1) (hr0_2 : Kd.C k50 w A0_2 l0_2.length l0_2) (hc0_2 : l0_2.length ≤ c0_2) (hr0_3 : Kd.C (Kd.int .i64) w A0_3 l0_3.length l0_3) (hc0_3 : l0_3.length ≤ c0_3) (h : impl_cloneMachine.f k a0_0 l0_1 l0_2 l0_3 = some (r1, r2, r3, r4)) :
    Calls Tryz.prog 39 #[.agg #[.bool a0_0, .slice A0_1 l0_1.length c0_1, .slice A0_2 l0_2.length c0_2, .slice A0_3 l0_3.length c0_3]] w fun e w' => ∃ v1_ v2_ v3_ : Value, e = .returned (.agg #[.bool r1, v1_, v2_, v3_]) ∧ Kd.S k83 83 w' w.heap.size (fun _ => True) v1_ r2 ∧ Kd.S k50 50 w' w.heap.size (fun _ => True) v2_ r3 ∧ Kd.R (Kd.int .i64) 2 w' w.heap.size (fun _ => True) v3_ r4 ∧ Below w.heap.size w w' := by
 have hu31 := Tryz.underlying31
 have hu83 := Tryz.underlying83
 have hu50 := Tryz.underlying50
 have HR0_1 := Aside0.mk hr0_1
 have HC0_1 := Aside0.mk hc0_1
 clear hr0_1 hc0_1
 have HR0_2 := Aside0.mk hr0_2
 have HC0_2 := Aside0.mk hc0_2
 clear hr0_2 hc0_2
 have HR0_3 := Aside0.mk hr0_3
 have HC0_3 := Aside0.mk hc0_3
 clear hr0_3 hc0_3
 have HB := Aside0.mk (Below.refl w.heap.size w)
 have H : ((slices_Clone_int64_int64.f l0_3).bind fun t364 => (impl_cloneMachine.l0 k l0_1 (l0_1.length : Int) 0 a0_0 l0_1 l0_2 l0_3 a0_0 ([] : List (S83)) t364)) = some (r1,r2,r3,r4) := h
 clear h
 replace H := bs_ H
 obtain ⟨t364,A2,H⟩ := H
 have H' := Aside0.mk H
 clear H
 go_enter Tryz.func39,Tryz.ntmps39
 try go_wp2_with (first|((with_reducible refine gate_dst (N := 1) rfl ?_);refine bx_ 1 #[.bool a0_0,.slice A0_1 l0_1.length c0_1,.slice A0_2 l0_2.length c0_2,.slice A0_3 l0_3.length c0_3] 31 ?_;intro gb362 hg w3 hbox hb;replace HB := nb_ hg hbox hb;obtain ⟨BK362,GW362,GE362,HB⟩ := HB;clear hb hbox hg)|((with_reducible refine gate_dst (N := 2) rfl ?_);refine bx_ 2 #[.bool false,.slice none 0 0,.slice none 0 0,.slice none 0 0] 31 ?_;intro gb363 hg w4 hbox hb;replace HB := nb_ hg hbox hb;obtain ⟨BK363,GW363,GE363,HB⟩ := HB;have NB362_363 := Aside0.mk ((nl_ BK362 hg));have NB363_362 := Aside0.mk ((ng_ BK362 hg));replace BK362 := Aside0.mk (blk_below (kb_ BK362) hb);clear hb hbox hg))
 replace BK362 := Aside0.mk (blk_drew BK362.out)
 replace BK363 := Aside0.mk (blk_drew BK363.out)
 replace HB := Aside0.mk (below_drew1 HB.out)
 refine st_ 8 (S := fun w' => hd4 w' gb362 (.bool a0_0) (.slice A0_1 l0_1.length c0_1) (.slice A0_2 l0_2.length c0_2) (.slice A0_3 l0_3.length c0_3)) hh_ (fun hHeld => ?_);refine with_tabW impl_cloneMachine.tab1 impl_cloneMachine.bits1 (fun HT_ HW_ => ?_)
 generalize w4.drew = w5 at BK362 BK363 HB hHeld ⊢
 refine pv_ 0 8 ?_
 refine pv_ 2 10 ?_
 refine tx_ 1 9 hHeld ?_
 refine tx_ 3 11 hHeld ?_
 refine join_ (σ := Value × Nat) 1 #[true,true,true,true,true,true,true,false] (fun s_ => [(12,s_.1),(3,.pointer (some ⟨s_.2,0,none⟩)),(13,.agg #[.bool a0_0,.slice none 0 0,.slice none 0 0,s_.1])]) (fun s_ w' => (w'.cell? ⟨gb362,0,none⟩ = some (.bool a0_0) ∧ w'.cell? ⟨gb362,1,none⟩ = some (.slice A0_1 l0_1.length c0_1) ∧ w'.cell? ⟨gb362,2,none⟩ = some (.slice A0_2 l0_2.length c0_2) ∧ w'.cell? ⟨gb362,3,none⟩ = some (.slice A0_3 l0_3.length c0_3)) ∧ (Kd.R (Kd.int .i64) 2 w' w.heap.size (fun _ => True) s_.1 t364) ∧ (w'.heap[gb362]? = some (.cells #[.bool a0_0,.slice A0_1 l0_1.length c0_1,.slice A0_2 l0_2.length c0_2,.slice A0_3 l0_3.length c0_3] 31 (0,0))) ∧ (w'.heap[gb363]? = some (.cells #[.bool false,.slice none 0 0,.slice none 0 0,.slice none 0 0] 31 (0,0))) ∧ (w'.heap[s_.2]? = some (.cells #[.bool false,.slice none 0 0,.slice none 0 0,.slice none 0 0] 31 (0,0))) ∧ (w.heap.size ≤ s_.2) ∧ (w.heap.size ≤ s_.2) ∧ (gb362 ≠ s_.2) ∧ (s_.2 ≠ gb362) ∧ (gb363 ≠ s_.2) ∧ (s_.2 ≠ gb363) ∧ (Below w.heap.size w w')) ?_ ?_
 rotate_left
 ·intro hCont
  refine two_ (i := 4) (j := 6) (Ni := some 12) (Nj := some 3) #[true,true,true,true,true,false,false,false] #[true,true,true,true,false,false,true,false] rfl rfl rfl rfl (two_of HT_.out (by kernel_rfl)) (by decide) (by decide) (fun K hK => ?_) (fun K hK => ?_)
  ·skip
   refine gs_ Tryz.func82 #[.slice A0_3 l0_3.length c0_3] ?_
   with_reducible refine (slices_Clone_int64_int64.calls _ _ l0_3 t364 _ ?side1 ?side2 A2.out).mono ?_
   (case side1 => exact cb_ HR0_3)
   (case side2 => exact HC0_3.out)
   rintro e w6 ⟨v365,rfl,ho0,hb⟩
   refine ⟨_,rfl,?_⟩
   replace BK362 := Aside0.mk (blk_below (kb_ BK362) hb)
   replace BK363 := Aside0.mk (blk_below (kb_ BK363) hb)
   have HO366 := Aside0.mk (Kd.R_lower ho0 (below_size b_))
   replace HB := Aside0.mk (below_step b_ hb)
   (try clear hb)
   (try clear hb2)
   (try clear hk)
   (try clear hi)
   (try clear ho0)
   obtain ⟨Ao7,co7,eo7⟩ := Kd.R_slice HO366.out
   (first|subst eo7|(injection eo7 with f1_ f2_ f3_;have f4_ := f1_.symm;have f5_ := f3_.symm;clear f1_ f2_ f3_;subst f4_;subst f5_))
   refine hK.out _ _ hh_ (fun hHeld => ?_)
   clear hK K
   refine nr_ (some 12) _ ?_
   refine pv_ 5 13 ?_
   refine oy_ 6 3 (fun K hK => ?_)
   refine box_step ?hg (N := 3) ?hd (cs := #[.bool false,.slice none 0 0,.slice none 0 0,.slice none 0 0]) (t := 31) ?hr ?_;(case hd => rfl);(case hg => rfl);(case hr => first|(go_simp;done)|(go_simp;rfl))
   intro gb367 hg w8 hbox hb
   replace HO366 := Aside0.mk (Kd.R_below (by (with_reducible repeat (first|apply Kd.R_alloc|apply Kd.R_drewN|apply Kd.R_drew));exact HO366.out) hb)
   have BK367 := Aside0.mk (hbox)
   have GW367 := Aside0.mk ((gw_ (w := w) hg))
   have GE367 := Aside0.mk ((gw_ (w := w) hg))
   replace HB := Aside0.mk (below_step b_ hb)
   have NB362_367 := Aside0.mk ((nl_ BK362 hg))
   have NB367_362 := Aside0.mk ((ng_ BK362 hg))
   replace BK362 := Aside0.mk (blk_below (kb_ BK362) hb)
   have NB363_367 := Aside0.mk ((nl_ BK363 hg))
   have NB367_363 := Aside0.mk ((ng_ BK363 hg))
   replace BK363 := Aside0.mk (blk_below (kb_ BK363) hb)
   clear hb hbox hg
   refine hK.out _ _ hh_ (fun hHeld => ?_)
   clear hK K
   refine nr_ (some 3) _ ?_
   exact norm_ (by simp only [putAll,Act.put,List.setIfInBounds_toArray,List.set_cons_zero,List.set_cons_succ]) (hCont (.slice Ao7 t364.length co7,gb367) _ ⟨hHeld,(by (with_reducible repeat (first|apply Kd.R_alloc|apply Kd.R_drewN|apply Kd.R_drew));exact HO366.out),kk_,kk_,kk_,GW367.out,GE367.out,NB362_367.out,NB367_362.out,NB363_367.out,NB367_363.out,b_⟩)
  ·skip
   refine box_step ?hg (N := 3) ?hd (cs := #[.bool false,.slice none 0 0,.slice none 0 0,.slice none 0 0]) (t := 31) ?hr ?_;(case hd => rfl);(case hg => rfl);(case hr => first|(go_simp;done)|(go_simp;rfl))
   intro gb367 hg w6 hbox hb
   have BK367 := Aside0.mk (hbox)
   have GW367 := Aside0.mk ((gw_ (w := w) hg))
   have GE367 := Aside0.mk ((gw_ (w := w) hg))
   replace HB := Aside0.mk (below_step b_ hb)
   have NB362_367 := Aside0.mk ((nl_ BK362 hg))
   have NB367_362 := Aside0.mk ((ng_ BK362 hg))
   replace BK362 := Aside0.mk (blk_below (kb_ BK362) hb)
   have NB363_367 := Aside0.mk ((nl_ BK363 hg))
   have NB367_363 := Aside0.mk ((ng_ BK363 hg))
   replace BK363 := Aside0.mk (blk_below (kb_ BK363) hb)
   clear hb hbox hg
   refine hK.out _ _ hh_ (fun hHeld => ?_)
   clear hK K
   refine nr_ (some 3) _ ?_
   refine oy_ 4 12 (fun K hK => ?_)
   refine gs_ Tryz.func82 #[.slice A0_3 l0_3.length c0_3] ?_
   with_reducible refine (slices_Clone_int64_int64.calls _ _ l0_3 t364 _ ?side1 ?side2 A2.out).mono ?_
   (case side1 => exact cb_ HR0_3)
   (case side2 => exact HC0_3.out)
   rintro e w7 ⟨v365,rfl,ho0,hb⟩
   refine ⟨_,rfl,?_⟩
   replace BK362 := Aside0.mk (blk_below (kb_ BK362) hb)
   replace BK363 := Aside0.mk (blk_below (kb_ BK363) hb)
   replace BK367 := Aside0.mk (blk_below (kb_ BK367) hb)
   have HO366 := Aside0.mk (Kd.R_lower ho0 (below_size b_))
   replace HB := Aside0.mk (below_step b_ hb)
   (try clear hb)
   (try clear hb2)
   (try clear hk)
   (try clear hi)
   (try clear ho0)
   obtain ⟨Ao8,co8,eo8⟩ := Kd.R_slice HO366.out
   (first|subst eo8|(injection eo8 with f1_ f2_ f3_;have f4_ := f1_.symm;have f5_ := f3_.symm;clear f1_ f2_ f3_;subst f4_;subst f5_))
   refine hK.out _ _ hh_ (fun hHeld => ?_)
   clear hK K
   refine nr_ (some 12) _ ?_
   refine pv_ 5 13 ?_
   exact norm_ (by simp only [putAll,Act.put,List.setIfInBounds_toArray,List.set_cons_zero,List.set_cons_succ]) (hCont (.slice Ao8 t364.length co8,gb367) _ ⟨hHeld,(by (with_reducible repeat (first|apply Kd.R_alloc|apply Kd.R_drewN|apply Kd.R_drew));exact HO366.out),kk_,kk_,kk_,GW367.out,GE367.out,NB362_367.out,NB367_362.out,NB363_367.out,NB367_363.out,b_⟩)
 rintro ⟨v365,gb367⟩ w9 ⟨hS_,h0_,h1_,h2_,h3_,h4_,h5_,h6_,h7_,h8_,h9_,h10_⟩
 have n0_ : Aside0 (Kd.R (Kd.int .i64) 2 w9 w.heap.size (fun _ => True) v365 t364) := ⟨h0_⟩
 have n1_ : Aside0 (w9.heap[gb362]? = some (.cells #[.bool a0_0,.slice A0_1 l0_1.length c0_1,.slice A0_2 l0_2.length c0_2,.slice A0_3 l0_3.length c0_3] 31 (0,0))) := ⟨h1_⟩
 have n2_ : Aside0 (w9.heap[gb363]? = some (.cells #[.bool false,.slice none 0 0,.slice none 0 0,.slice none 0 0] 31 (0,0))) := ⟨h2_⟩
 have n3_ : Aside0 (w9.heap[gb367]? = some (.cells #[.bool false,.slice none 0 0,.slice none 0 0,.slice none 0 0] 31 (0,0))) := ⟨h3_⟩
 have n4_ : Aside0 (w.heap.size ≤ gb367) := ⟨h4_⟩
 have n5_ : Aside0 (w.heap.size ≤ gb367) := ⟨h5_⟩
 have n6_ : Aside0 (gb362 ≠ gb367) := ⟨h6_⟩
 have n7_ : Aside0 (gb367 ≠ gb362) := ⟨h7_⟩
 have n8_ : Aside0 (gb363 ≠ gb367) := ⟨h8_⟩
 have n9_ : Aside0 (gb367 ≠ gb363) := ⟨h9_⟩
 have n10_ : Aside0 (Below w.heap.size w w9) := ⟨h10_⟩
 clear BK362
 clear BK363
 clear HB
 clear h0_ h1_ h2_ h3_ h4_ h5_ h6_ h7_ h8_ h9_ h10_
 have HO366 := n0_
 have BK362 := n1_
 have BK363 := n2_
 have BK367 := n3_
 have GW367 := n4_
 have GE367 := n5_
 have NB362_367 := n6_
 have NB367_362 := n7_
 have NB363_367 := n8_
 have NB367_363 := n9_
 have HB := n10_
 clear n0_ n1_ n2_ n3_ n4_ n5_ n6_ n7_ n8_ n9_ n10_
 have hHeld : w9.cell? ⟨gb362,0,none⟩ = some (.bool a0_0) ∧ w9.cell? ⟨gb362,1,none⟩ = some (.slice A0_1 l0_1.length c0_1) ∧ w9.cell? ⟨gb362,2,none⟩ = some (.slice A0_2 l0_2.length c0_2) ∧ w9.cell? ⟨gb362,3,none⟩ = some (.slice A0_3 l0_3.length c0_3) := hS_
 obtain ⟨Ao10,co10,eo10⟩ := Kd.R_slice HO366.out
 (first|subst eo10|(injection eo10 with f1_ f2_ f3_;have f4_ := f1_.symm;have f5_ := f3_.symm;clear f1_ f2_ f3_;subst f4_;subst f5_))
 refine norm_ (a' := ?_) ?_ ?_
 rotate_left
 ·simp only [putAll,Act.put,List.setIfInBounds_toArray,List.set_cons_zero,List.set_cons_succ]
  rfl
 refine oz_ (i := 7) (N := none) HT_.out rfl rfl (by kernel_rfl) (by decide) (fun K hK => ?_)
 have hs11 : w9.cell? ⟨gb367,0,none⟩ = some (.bool false) := (blk_cell BK367.out 0).trans rfl
 have hfs11 := blk_frozen BK367.out 0
 have hns11_0 := NB362_367.out
 have hns11_1 := NB363_367.out
 have hms11_0 := NB367_362.out
 have hms11_1 := NB367_363.out
 have hs12 : w9.cell? ⟨gb367,1,none⟩ = some (.slice none 0 0) := (blk_cell BK367.out 1).trans rfl
 have hfs12 := blk_frozen BK367.out 1
 have hns12_0 := NB362_367.out
 have hns12_1 := NB363_367.out
 have hms12_0 := NB367_362.out
 have hms12_1 := NB367_363.out
 have hs13 : w9.cell? ⟨gb367,2,none⟩ = some (.slice none 0 0) := (blk_cell BK367.out 2).trans rfl
 have hfs13 := blk_frozen BK367.out 2
 have hns13_0 := NB362_367.out
 have hns13_1 := NB363_367.out
 have hms13_0 := NB367_362.out
 have hms13_1 := NB367_363.out
 have hs14 : w9.cell? ⟨gb367,3,none⟩ = some (.slice none 0 0) := (blk_cell BK367.out 3).trans rfl
 have hfs14 := blk_frozen BK367.out 3
 have hns14_0 := NB362_367.out
 have hns14_1 := NB363_367.out
 have hms14_0 := NB367_362.out
 have hms14_1 := NB367_363.out
 refine skip_ (w1 := ?_) (by rfl) rfl ?_ ?_
 rotate_left
 ·go_simp
  rfl
 refine hK.out _ _ ⟨((cell_far (p := ⟨gb367,_,none⟩) NB362_367.out _).trans (((cell_far (p := ⟨gb367,_,none⟩) NB362_367.out _).trans (((cell_far (p := ⟨gb367,_,none⟩) NB362_367.out _).trans (((cell_far (p := ⟨gb367,_,none⟩) NB362_367.out _).trans (hHeld.1)))))))),((cell_far (p := ⟨gb367,_,none⟩) NB362_367.out _).trans (((cell_far (p := ⟨gb367,_,none⟩) NB362_367.out _).trans (((cell_far (p := ⟨gb367,_,none⟩) NB362_367.out _).trans (((cell_far (p := ⟨gb367,_,none⟩) NB362_367.out _).trans (hHeld.2.1)))))))),((cell_far (p := ⟨gb367,_,none⟩) NB362_367.out _).trans (((cell_far (p := ⟨gb367,_,none⟩) NB362_367.out _).trans (((cell_far (p := ⟨gb367,_,none⟩) NB362_367.out _).trans (((cell_far (p := ⟨gb367,_,none⟩) NB362_367.out _).trans (hHeld.2.2.1)))))))),((cell_far (p := ⟨gb367,_,none⟩) NB362_367.out _).trans (((cell_far (p := ⟨gb367,_,none⟩) NB362_367.out _).trans (((cell_far (p := ⟨gb367,_,none⟩) NB362_367.out _).trans (((cell_far (p := ⟨gb367,_,none⟩) NB362_367.out _).trans (hHeld.2.2.2))))))))⟩ (fun hHeld => ?_)
 clear hK K
 refine done_ (done_of HT_.out (by kernel_rfl)) ?_
 have hnb15 := NB362_363.out
 have hnc15 := NB363_362.out
 have hnb16 := NB362_367.out
 have hnc16 := NB367_362.out
 obtain ⟨⟨hcz17_0,hcz17_1,hcz17_2,hcz17_3⟩,hfz17_0,hfz17_1,hfz17_2,hfz17_3⟩ := cl4_ BK362.out
 try go_wp2
 go_loopg [17] k (fun kq v17 w' => ∃ (x17_1 : Int) (x368001_1 : List (S83)) (u368001 : Value),v17 = .int .i64 x17_1 ∧ Aside0 (impl_cloneMachine.l0 kq l0_1 (l0_1.length : Int) x17_1 a0_0 l0_1 l0_2 l0_3 a0_0 x368001_1 t364 = some (r1,r2,r3,r4)) ∧ Aside0 (kq ≤ k) ∧ Aside0 (Kd.S k83 83 w' w.heap.size (fun _ => True) u368001 x368001_1) ∧ Aside0 (Kd.R (Kd.int .i64) 2 w' w.heap.size (fun _ => True) (.slice Ao10 t364.length co10) t364) ∧ Aside0 (w'.heap[gb362]? = some (.cells #[.bool a0_0,(.slice A0_1 l0_1.length c0_1),(.slice A0_2 l0_2.length c0_2),(.slice A0_3 l0_3.length c0_3)] 31 (0,0))) ∧ Aside0 (w'.heap[gb363]? = some (.cells #[.bool false,(.slice none 0 0),(.slice none 0 0),(.slice none 0 0)] 31 (0,0))) ∧ Aside0 (w'.heap[gb367]? = some (.cells #[.bool a0_0,u368001,(.slice none 0 0),(.slice Ao10 t364.length co10)] 31 (0,0))) ∧ Aside0 (Below w.heap.size w w'))
 case atStart => exact ⟨(0),(([] : List (S83))),(.slice none 0 0),rs_,H',⟨Nat.le_refl _⟩,⟨by first|exact Kd.S_nil _ _ _ _ _|exact Kd.N_nil _ _ _ _ _|exact Kd.V_nil _ _ _ _ _|exact Kd.Q_nil _ _ _ _ _|exact Kd.R_nil _ _ _ _ _⟩,⟨by (with_reducible repeat (first|apply Kd.R_alloc|apply Kd.R_drewN|apply Kd.R_drew));exact Kd.R_mono (Kd.R_far (p := ⟨gb367,3,none⟩) (Kd.R_far (p := ⟨gb367,2,none⟩) (Kd.R_far (p := ⟨gb367,1,none⟩) (Kd.R_far (p := ⟨gb367,0,none⟩) (Kd.R_types HO366.out BK367.out (by decide)) (fun _ hk => hk.2) (.bool a0_0)) (fun _ hk => hk.2) (.slice none 0 0)) (fun _ hk => hk.2) (.slice none 0 0)) (fun _ hk => hk.2) (.slice Ao10 t364.length co10)) (fun _ hk => trivial)⟩,⟨kf_ BK362⟩,⟨kf_ BK363⟩,⟨by (with_reducible repeat (first|refine blk_drewN ?_ _|refine blk_drew ?_|refine blk_alloc ?_ _));refine blk_put (cs := #[.bool a0_0,.slice none 0 0,.slice none 0 0,.slice none 0 0]) ?_ 3 _ rfl;(with_reducible repeat (first|refine blk_drewN ?_ _|refine blk_drew ?_|refine blk_alloc ?_ _));refine blk_put (cs := #[.bool a0_0,.slice none 0 0,.slice none 0 0,.slice none 0 0]) ?_ 2 _ rfl;(with_reducible repeat (first|refine blk_drewN ?_ _|refine blk_drew ?_|refine blk_alloc ?_ _));refine blk_put (cs := #[.bool a0_0,.slice none 0 0,.slice none 0 0,.slice none 0 0]) ?_ 1 _ rfl;(with_reducible repeat (first|refine blk_drewN ?_ _|refine blk_drew ?_|refine blk_alloc ?_ _));refine blk_put (cs := #[.bool false,.slice none 0 0,.slice none 0 0,.slice none 0 0]) ?_ 0 _ rfl;(with_reducible repeat (first|refine blk_drewN ?_ _|refine blk_drew ?_|refine blk_alloc ?_ _));exact BK367.out⟩,⟨b_⟩⟩
 case round =>
  clear H'
  try clear c1
  try clear p2
  try clear c3
  try clear c8
  try clear c15
  try clear c16
  try clear hcz17_0
  try clear hcz17_1
  try clear hcz17_2
  try clear hcz17_3
  try clear hfz17_0
  try clear hfz17_1
  try clear hfz17_2
  try clear hfz17_3
  obtain ⟨x17_1,x368001_1,u368001,rfl,HA,HK1,HO_368001,HO_368003,BK362,BK363,BK367,HB⟩ := hrel
  cases gk with
    | zero => exact absurd HA.out (by simp [impl_cloneMachine.l0])
    | succ k1 =>
   have H := HA.out
   clear HA
   simp only [impl_cloneMachine.l0] at H
   by_cases c18 : x17_1 < (l0_1.length : Int)
   ·rw [if_pos c18] at H
    have c18b0 : decide (x17_1 < (l0_1.length : Int)) = true := decide_eq_true c18
    clear c18
    by_cases c19 : 0 ≤ x17_1
    ·rw [if_pos c19] at H
     have c19b0 : decide (0 ≤ x17_1) = true := decide_eq_true c19
     clear c19
     by_cases c20 : x17_1 < (l0_1.length : Int)
     ·rw [if_pos c20] at H
      have c20b0 : decide (x17_1 < (l0_1.length : Int)) = true := decide_eq_true c20
      clear c20
      replace H := bs_ H
      obtain ⟨t370,A21,H⟩ := H
      by_cases c22 : x368001_1.length < 4398046511104
      ·rw [if_pos c22] at H
       have LMc22 := Aside0.mk c22
       clear c22
       obtain ⟨y373,hy373⟩ : ∃ y_ : List (S83),y_ = (x368001_1 ++ [(⟨(rd_T83 l0_1 x17_1).f0,t370⟩ : S83)]) := ⟨_,rfl⟩
       replace H : (impl_cloneMachine.l0 k1 l0_1 (l0_1.length : Int) (wrap64 (x17_1 + 1)) a0_0 l0_1 l0_2 l0_3 a0_0 y373 t364) = some (r1,r2,r3,r4) := by first|(rw [hy373];with_reducible exact H)|(have H2_ := (Option.bind_some _ _).symm.trans H;rw [hy373];with_reducible exact H2_)|(have H2_ := (Option.bind_some _ _).symm.trans H;with_reducible exact H2_)|with_reducible exact H|(rw [hy373];exact H)|exact H
       have Ny373 := Aside0.mk hy373
       clear hy373
       have H' := Aside0.mk H
       clear H
       have p368 : 0 ≤ (x17_1 : Int) := od_
       have q368 : x17_1 < (l0_1.length : Int) := od_
       obtain ⟨ad368,A368_1,c368_1,e368,hx368_0,hx368_1,hl368_1,hi368_1⟩ := at_T83 HR0_1.out x17_1 p368 q368
       cases e368
       replace hx368_0 := hx_ HB hx368_0
       replace hx368_1 := hx_ HB hx368_1
       have HR368_1 := Aside0.mk hi368_1
       have HC368_1 := Aside0.mk hl368_1
       clear hi368_1 hl368_1
       replace p368 := eq_true p368
       replace q368 := eq_true q368
       try go_wp2_with (first|((with_reducible refine gate_dst (N := 5) rfl ?_);refine bx_ 5 #[.int .i64 0,.slice none 0 0] 83 ?_;intro gb369 hg w23 hbox hb;replace HO_368001 := Aside0.mk (Kd.S_below (Kd.S_elderB (by (with_reducible repeat (first|apply Kd.S_alloc|apply Kd.S_drewN|apply Kd.S_drew));exact HO_368001.out) gb369 (Nat.le_of_eq hg.symm)) hb);replace HO_368003 := Aside0.mk (Kd.R_below (by (with_reducible repeat (first|apply Kd.R_alloc|apply Kd.R_drewN|apply Kd.R_drew));exact HO_368003.out) hb);replace HB := nb_ hg hbox hb;obtain ⟨BK369,GW369,GE369,HB⟩ := HB;have NB362_369 := Aside0.mk ((nl_ BK362 hg));have NB369_362 := Aside0.mk ((ng_ BK362 hg));replace BK362 := Aside0.mk (blk_below (kb_ BK362) hb);have NB363_369 := Aside0.mk ((nl_ BK363 hg));have NB369_363 := Aside0.mk ((ng_ BK363 hg));replace BK363 := Aside0.mk (blk_below (kb_ BK363) hb);have NB367_369 := Aside0.mk ((nl_ BK367 hg));have NB369_367 := Aside0.mk ((ng_ BK367 hg));replace BK367 := Aside0.mk (blk_below (kb_ BK367) hb);clear hb hbox hg;have hnb24 := NB369_362.out;have hnc24 := NB362_369.out;have hnb25 := NB369_363.out;have hnc25 := NB363_369.out;have hnb26 := NB369_367.out;have hnc26 := NB367_369.out;obtain ⟨⟨hcz27_0,hcz27_1⟩,hfz27_0,hfz27_1⟩ := cl2_ BK369.out))
       have n0_ : Aside0 (Kd.S k83 83 ((w23.setCell ⟨gb369,0,none⟩ (.int .i64 ((rd_T83 l0_1 x17_1).f0))).setCell ⟨gb369,1,none⟩ (.slice A368_1 ((rd_T83 l0_1 x17_1).f1).length c368_1)) w.heap.size (fun k_ => k_ ≠ gb369) u368001 x368001_1) := ⟨by (with_reducible repeat (first|apply Kd.S_alloc|apply Kd.S_drewN|apply Kd.S_drew));exact Kd.S_mono (Kd.S_far (p := ⟨gb369,1,none⟩) (Kd.S_far (p := ⟨gb369,0,none⟩) (Kd.S_mono HO_368001.out (fun k_ hk => (⟨hk,hk.2⟩ : _ ∧ k_ ≠ gb369))) (fun _ hk => hk.2) (.int .i64 ((rd_T83 l0_1 x17_1).f0))) (fun _ hk => hk.2) (.slice A368_1 ((rd_T83 l0_1 x17_1).f1).length c368_1)) (fun _ hk => hk.1.2)⟩
       have n1_ : Aside0 (Kd.R (Kd.int .i64) 2 ((w23.setCell ⟨gb369,0,none⟩ (.int .i64 ((rd_T83 l0_1 x17_1).f0))).setCell ⟨gb369,1,none⟩ (.slice A368_1 ((rd_T83 l0_1 x17_1).f1).length c368_1)) w.heap.size (fun _ => True) (.slice Ao10 t364.length co10) t364) := ⟨by (with_reducible repeat (first|apply Kd.R_alloc|apply Kd.R_drewN|apply Kd.R_drew));exact Kd.R_mono (Kd.R_far (p := ⟨gb369,1,none⟩) (Kd.R_far (p := ⟨gb369,0,none⟩) (Kd.R_types HO_368003.out BK369.out (by decide)) (fun _ hk => hk.2) (.int .i64 ((rd_T83 l0_1 x17_1).f0))) (fun _ hk => hk.2) (.slice A368_1 ((rd_T83 l0_1 x17_1).f1).length c368_1)) (fun _ hk => trivial)⟩
       have n2_ : Aside0 (((w23.setCell ⟨gb369,0,none⟩ (.int .i64 ((rd_T83 l0_1 x17_1).f0))).setCell ⟨gb369,1,none⟩ (.slice A368_1 ((rd_T83 l0_1 x17_1).f1).length c368_1)).heap[gb362]? = some (.cells #[.bool a0_0,.slice (some ad368) l0_1.length c0_1,.slice A0_2 l0_2.length c0_2,.slice A0_3 l0_3.length c0_3] 31 (0,0))) := ⟨kf_ BK362⟩
       have n3_ : Aside0 (((w23.setCell ⟨gb369,0,none⟩ (.int .i64 ((rd_T83 l0_1 x17_1).f0))).setCell ⟨gb369,1,none⟩ (.slice A368_1 ((rd_T83 l0_1 x17_1).f1).length c368_1)).heap[gb363]? = some (.cells #[.bool false,.slice none 0 0,.slice none 0 0,.slice none 0 0] 31 (0,0))) := ⟨kf_ BK363⟩
       have n4_ : Aside0 (((w23.setCell ⟨gb369,0,none⟩ (.int .i64 ((rd_T83 l0_1 x17_1).f0))).setCell ⟨gb369,1,none⟩ (.slice A368_1 ((rd_T83 l0_1 x17_1).f1).length c368_1)).heap[gb367]? = some (.cells #[.bool a0_0,u368001,.slice none 0 0,.slice Ao10 t364.length co10] 31 (0,0))) := ⟨kf_ BK367⟩
       have n5_ : Aside0 (((w23.setCell ⟨gb369,0,none⟩ (.int .i64 ((rd_T83 l0_1 x17_1).f0))).setCell ⟨gb369,1,none⟩ (.slice A368_1 ((rd_T83 l0_1 x17_1).f1).length c368_1)).heap[gb369]? = some (.cells #[.int .i64 ((rd_T83 l0_1 x17_1).f0),.slice A368_1 ((rd_T83 l0_1 x17_1).f1).length c368_1] 83 (0,0))) := ⟨by (with_reducible repeat (first|refine blk_drewN ?_ _|refine blk_drew ?_|refine blk_alloc ?_ _));refine blk_put (cs := #[.int .i64 ((rd_T83 l0_1 x17_1).f0),.slice none 0 0]) ?_ 1 _ rfl;(with_reducible repeat (first|refine blk_drewN ?_ _|refine blk_drew ?_|refine blk_alloc ?_ _));refine blk_put (cs := #[.int .i64 0,.slice none 0 0]) ?_ 0 _ rfl;(with_reducible repeat (first|refine blk_drewN ?_ _|refine blk_drew ?_|refine blk_alloc ?_ _));exact BK369.out⟩
       have n6_ : Aside0 (Below w.heap.size w ((w23.setCell ⟨gb369,0,none⟩ (.int .i64 ((rd_T83 l0_1 x17_1).f0))).setCell ⟨gb369,1,none⟩ (.slice A368_1 ((rd_T83 l0_1 x17_1).f1).length c368_1))) := ⟨b_⟩
       (try clear HO_368001)
       (try clear HO_368003)
       (try clear BK362)
       (try clear BK363)
       (try clear BK367)
       (try clear BK369)
       (try clear HB)
       generalize ((w23.setCell ⟨gb369,0,none⟩ (.int .i64 ((rd_T83 l0_1 x17_1).f0))).setCell ⟨gb369,1,none⟩ (.slice A368_1 ((rd_T83 l0_1 x17_1).f1).length c368_1)) = w28 at n0_ n1_ n2_ n3_ n4_ n5_ n6_ ⊢
       have HO_368001 := n0_
       have HO_368003 := n1_
       have BK362 := n2_
       have BK363 := n3_
       have BK367 := n4_
       have BK369 := n5_
       have HB := n6_
       clear n0_ n1_ n2_ n3_ n4_ n5_ n6_
       replace HO_368001 := Aside0.mk (Kd.S_drew HO_368001.out)
       replace HO_368003 := Aside0.mk (Kd.R_drew HO_368003.out)
       replace BK362 := Aside0.mk (blk_drew BK362.out)
       replace BK363 := Aside0.mk (blk_drew BK363.out)
       replace BK367 := Aside0.mk (blk_drew BK367.out)
       replace BK369 := Aside0.mk (blk_drew BK369.out)
       replace HB := Aside0.mk (below_drew1 HB.out)
       refine std_ 12 (S := fun w' => hc4 w' gb367 (.bool a0_0) (u368001) (.slice none 0 0) (.slice Ao10 t364.length co10) (hd2 w' gb369 (.int .i64 ((rd_T83 l0_1 x17_1).f0)) (.slice A368_1 ((rd_T83 l0_1 x17_1).f1).length c368_1))) (ds := [11]) hh_ (fun hHeld => ?_);refine with_tabW impl_cloneMachine.tab5 impl_cloneMachine.bits5 (fun HT_ HW_ => ?_)
       generalize w28.drew = w29 at HO_368001 HO_368003 BK362 BK363 BK367 BK369 HB hHeld ⊢
       refine pv_ 0 21 ?_
       refine pv_ 2 23 ?_
       refine pv_ 4 25 ?_
       refine tx_ 1 22 hHeld ?_
       refine tx_ 3 24 hHeld ?_
       refine tx_ 5 26 hHeld ?_
       refine oy_ 6 27 (fun K hK => ?_)
       refine gs_ Tryz.func63 #[.slice A368_1 ((rd_T83 l0_1 x17_1).f1).length c368_1] ?_
       with_reducible refine (impl_Cell_63.calls _ _ ((rd_T83 l0_1 x17_1).f1) t370 _ ?side1 ?side2 A21.out).mono ?_
       (case side1 => exact cb_ HR368_1)
       (case side2 => exact HC368_1.out)
       rintro e w30 ⟨v371,rfl,ho0,hb⟩
       refine ⟨_,rfl,?_⟩
       replace HO_368001 := Aside0.mk (Kd.S_elder' (by (with_reducible repeat (first|apply Kd.S_alloc|apply Kd.S_drewN|apply Kd.S_drew));exact HO_368001.out) (Kd.R_base ho0) hb)
       replace HO_368003 := Aside0.mk (Kd.R_below (by (with_reducible repeat (first|apply Kd.R_alloc|apply Kd.R_drewN|apply Kd.R_drew));exact HO_368003.out) hb)
       replace BK362 := Aside0.mk (blk_below (kb_ BK362) hb)
       replace BK363 := Aside0.mk (blk_below (kb_ BK363) hb)
       replace BK367 := Aside0.mk (blk_below (kb_ BK367) hb)
       replace BK369 := Aside0.mk (blk_below (kb_ BK369) hb)
       have HO372 := Aside0.mk (Kd.R_lower ho0 (below_size b_))
       replace HB := Aside0.mk (below_step b_ hb)
       (try clear hb)
       (try clear hb2)
       (try clear hk)
       (try clear hi)
       (try clear ho0)
       obtain ⟨Ao31,co31,eo31⟩ := Kd.R_slice HO372.out
       (first|subst eo31|(injection eo31 with f1_ f2_ f3_;have f4_ := f1_.symm;have f5_ := f3_.symm;clear f1_ f2_ f3_;subst f4_;subst f5_))
       refine hK.out _ _ hh_ (fun hHeld => ?_)
       clear hK K
       refine nr_ (some 27) _ ?_
       refine pv_ 7 28 ?_
       refine oy_ 8 29 (fun K hK => ?_)
       refine value_ (w1 := ?_) (v := ?_) (by rfl) rfl ?_ ?_
       rotate_left 2
       ·go_simp
        constructor
        ·rfl
        ·rfl
       refine hK.out _ _ ⟨(blk_cell (blk_alloc BK367.out _) 0).trans rfl,(blk_cell (blk_alloc BK367.out _) 1).trans rfl,(blk_cell (blk_alloc BK367.out _) 2).trans rfl,(blk_cell (blk_alloc BK367.out _) 3).trans rfl,(blk_cell (blk_alloc BK369.out _) 0).trans rfl,(blk_cell (blk_alloc BK369.out _) 1).trans rfl⟩ (fun hHeld => ?_)
       clear hK K
       refine nr_ (some 29) _ ?_
       refine oy_ 9 30 (fun K hK => ?_)
       refine Kd.S_append_step k83 (w0 := w) w.heap.size (by rfl) (.tmp 22) (.tmp 29) 28 83 (.agg #[(.int .i64 0),(.slice none 0 0)]) 32 rfl Tryz.underlying28 info83 rfl (by decide) (by omega) u368001 x368001_1 (⟨(rd_T83 l0_1 x17_1).f0,t370⟩ : S83) [.int .i64 ((rd_T83 l0_1 x17_1).f0),.slice Ao31 t370.length co31] (fun k_ => k_ ≠ gb369) (fun k_ => some k_ = (.slice Ao31 t370.length co31 : Value).ownBlock) rfl rfl ?aP (fun k_ hk_ => ((Kd.R_mono (ok' := fun k_ => ((fun k_ => k_ ≠ gb369)) k_ ∧ some k_ ≠ (u368001 : Value).ownBlock) (Kd.R_types (Kd.R_apart' (HO372.out) (Kd.S_typed HO_368001.out) (by decide)) BK369.out (by decide)) (fun k_ hk => ⟨hk.2,hk.1.2⟩))).1 k_ hk_.symm) ?aF ?aO ?aB ?aS ?aL ?_
       (case aP => exact k83_mkM _ _ _ (⟨(rd_T83 l0_1 x17_1).f0,t370⟩ : S83) (Kd.R_mono (Kd.R_tight rfl (Kd.R_mono (ok' := fun k_ => ((fun k_ => k_ ≠ gb369)) k_ ∧ some k_ ≠ (u368001 : Value).ownBlock) (Kd.R_types (Kd.R_apart' (HO372.out) (Kd.S_typed HO_368001.out) (by decide)) BK369.out (by decide)) (fun k_ hk => ⟨hk.2,hk.1.2⟩))) (fun _ h_ => h_)))
       (case aB => exact b_)
       (case aF => exact (fun k_ hk => Kd.freshB (kb_ BK369) k_ hk))
       (case aO => exact (by (with_reducible repeat (first|apply Kd.S_alloc|apply Kd.S_drewN|apply Kd.S_drew));exact Kd.S_mono HO_368001.out (fun k_ hk => ⟨hk.1,fun e_ => hk.2 e_⟩)))
       (case aS => exact (below_size b_))
       (case aL => have := LMc22.out;omega)
       intro v374 w32 ho hb hg hat
       rw [← Ny373.out] at ho
       replace HO_368003 := Aside0.mk (Kd.R_over' (by (with_reducible repeat (first|apply Kd.R_alloc|apply Kd.R_drewN|apply Kd.R_drew));exact HO_368003.out) (Kd.S_typed (by (with_reducible repeat (first|apply Kd.S_alloc|apply Kd.S_drewN|apply Kd.S_drew));exact HO_368001.out)) (by decide) hg)
       replace BK362 := Aside0.mk (blk_grown (kb_ BK362) hg (Kd.S_ne HO_368001.out BK362.out (by decide)))
       replace BK363 := Aside0.mk (blk_grown (kb_ BK363) hg (Kd.S_ne HO_368001.out BK363.out (by decide)))
       replace BK367 := Aside0.mk (blk_grown (kb_ BK367) hg (Kd.S_ne HO_368001.out BK367.out (by decide)))
       replace BK369 := Aside0.mk (blk_grown (kb_ BK369) hg (Kd.S_away HO_368001.out (fun _ hk => hk.1)))
       replace HB := Aside0.mk (hb)
       have HO375 := Aside0.mk (ho)
       clear HO_368001 HO372
       clear ho hb hg hat
       obtain ⟨Ao33,co33,eo33⟩ := Kd.S_slice HO375.out
       (first|subst eo33|(injection eo33 with f1_ f2_ f3_;have f4_ := f1_.symm;have f5_ := f3_.symm;clear f1_ f2_ f3_;subst f4_;subst f5_))
       refine hK.out _ _ hh_ (fun hHeld => ?_)
       clear hK K
       refine nr_ (some 30) _ ?_
       refine pv_ 10 31 ?_
       refine last_ (i := 11) (N := none) #[true,true,true,true,true,true,true,true,true,true,true,true] rfl rfl (one_of HT_.out (by kernel_rfl)) (by decide) (fun K hK => ?_)
       have hs34 : w32.cell? ⟨gb367,1,none⟩ = some (u368001) := (blk_cell BK367.out 1).trans rfl
       have hfs34 := blk_frozen BK367.out 1
       have hns34_0 := NB362_367.out
       have hns34_1 := NB363_367.out
       have hns34_3 := NB369_367.out
       have hms34_0 := NB367_362.out
       have hms34_1 := NB367_363.out
       have hms34_3 := NB367_369.out
       refine skip_ (w1 := ?_) (by rfl) rfl ?_ ?_
       rotate_left
       ·go_simp
        rfl
       refine hK.out _ _ ?_
       clear hK K
       refine done_ (done_of HT_.out (by kernel_rfl)) ?_
       try go_wp2
       go_roundg k1
       case measure => have := HK1.out;omega
       case rel => exact ⟨(wrap64 (x17_1 + 1)),(y373),(.slice Ao33 y373.length co33),rs_,H',⟨by have := HK1.out;omega⟩,⟨by (with_reducible repeat (first|apply Kd.S_alloc|apply Kd.S_drewN|apply Kd.S_drew));exact Kd.S_mono (Kd.S_far (p := ⟨gb367,1,none⟩) (Kd.S_types HO375.out BK367.out (by decide)) (fun _ hk => hk.2) (.slice Ao33 y373.length co33)) (fun _ hk => trivial)⟩,⟨by (with_reducible repeat (first|apply Kd.R_alloc|apply Kd.R_drewN|apply Kd.R_drew));exact Kd.R_mono (Kd.R_far (p := ⟨gb367,1,none⟩) (Kd.R_types HO_368003.out BK367.out (by decide)) (fun _ hk => hk.2) (.slice Ao33 y373.length co33)) (fun _ hk => trivial)⟩,⟨kf_ BK362⟩,⟨kf_ BK363⟩,⟨by (with_reducible repeat (first|refine blk_drewN ?_ _|refine blk_drew ?_|refine blk_alloc ?_ _));refine blk_put (cs := #[.bool a0_0,u368001,.slice none 0 0,.slice Ao10 t364.length co10]) ?_ 1 _ rfl;(with_reducible repeat (first|refine blk_drewN ?_ _|refine blk_drew ?_|refine blk_alloc ?_ _));exact BK367.out⟩,⟨b_⟩⟩
      ·rw [if_neg c22] at H
       exact absurd H (by simp)
     ·rw [if_neg c20] at H
      exact absurd H (by simp)
    ·rw [if_neg c19] at H
     exact absurd H (by simp)
   ·rw [if_neg c18] at H
    have c18b0 : decide (x17_1 < (l0_1.length : Int)) = false := decide_eq_false c18
    clear c18
    have H' := Aside0.mk H
    clear H
    have hnb35 := NB362_363.out
    have hnc35 := NB363_362.out
    have hnb36 := NB362_367.out
    have hnc36 := NB367_362.out
    obtain ⟨⟨hcz37_0,hcz37_1,hcz37_2,hcz37_3⟩,hfz37_0,hfz37_1,hfz37_2,hfz37_3⟩ := cl4_ BK362.out
    go_wp2
    go_loopg [36] k1 (fun kq v36 w' => ∃ (x36_2 : Int) (x368002_2 : List (S50)) (u368002 : Value),v36 = .int .i64 x36_2 ∧ Aside0 (impl_cloneMachine.l1 kq l0_2 (l0_2.length : Int) x36_2 a0_0 x368001_1 x368002_2 t364 = some (r1,r2,r3,r4)) ∧ Aside0 (kq ≤ k1) ∧ Aside0 (Kd.S k83 83 w' w.heap.size (fun _ => True) u368001 x368001_1) ∧ Aside0 (Kd.S k50 50 w' w.heap.size (fun _ => True) u368002 x368002_2) ∧ Aside0 (Kd.R (Kd.int .i64) 2 w' w.heap.size (fun _ => True) (.slice Ao10 t364.length co10) t364) ∧ Aside0 (w'.heap[gb362]? = some (.cells #[.bool a0_0,(.slice A0_1 l0_1.length c0_1),(.slice A0_2 l0_2.length c0_2),(.slice A0_3 l0_3.length c0_3)] 31 (0,0))) ∧ Aside0 (w'.heap[gb363]? = some (.cells #[.bool false,(.slice none 0 0),(.slice none 0 0),(.slice none 0 0)] 31 (0,0))) ∧ Aside0 (w'.heap[gb367]? = some (.cells #[.bool a0_0,u368001,u368002,(.slice Ao10 t364.length co10)] 31 (0,0))) ∧ Aside0 (Below w.heap.size w w'))
    case atStart => exact ⟨(0),(([] : List (S50))),(.slice none 0 0),rs_,H',⟨Nat.le_refl _⟩,⟨by (with_reducible repeat (first|apply Kd.S_alloc|apply Kd.S_drewN|apply Kd.S_drew));exact HO_368001.out⟩,⟨by first|exact Kd.S_nil _ _ _ _ _|exact Kd.N_nil _ _ _ _ _|exact Kd.V_nil _ _ _ _ _|exact Kd.Q_nil _ _ _ _ _|exact Kd.R_nil _ _ _ _ _⟩,⟨by (with_reducible repeat (first|apply Kd.R_alloc|apply Kd.R_drewN|apply Kd.R_drew));exact HO_368003.out⟩,⟨kb_ BK362⟩,⟨kb_ BK363⟩,⟨kb_ BK367⟩,⟨b_⟩⟩
    case round =>
     clear H'
     try clear c1
     try clear c2
     try clear p2
     try clear c3
     try clear p3
     try clear q3
     try clear hx3
     try clear c6
     try clear p6
     try clear c8
     try clear c15
     try clear c16
     try clear c18
     try clear c18b0
     try clear c19
     try clear c19b0
     try clear c20
     try clear c20b0
     try clear c22
     try clear c24
     try clear c25
     try clear c26
     try clear c35
     try clear c36
     try clear p36
     try clear q36
     try clear hx36
     try clear hcz17_0
     try clear hcz17_1
     try clear hcz17_2
     try clear hcz17_3
     try clear hcz27_0
     try clear hcz27_1
     try clear hcz37_0
     try clear hcz37_1
     try clear hcz37_2
     try clear hcz37_3
     try clear hfz17_0
     try clear hfz17_1
     try clear hfz17_2
     try clear hfz17_3
     try clear hfz27_0
     try clear hfz27_1
     try clear hfz37_0
     try clear hfz37_1
     try clear hfz37_2
     try clear hfz37_3
     try clear hx368_0
     try clear hx368_1
     try clear p2
     try clear p368
     try clear q368
     obtain ⟨x36_2,x368002_2,u368002,rfl,HA,HK2,HO_368001,HO_368002,HO_368003,BK362,BK363,BK367,HB⟩ := hrel
     cases gk with
     | zero => exact absurd HA.out (by simp [impl_cloneMachine.l1])
     | succ k2 =>
      have H := HA.out
      clear HA
      simp only [impl_cloneMachine.l1] at H
      by_cases c38 : x36_2 < (l0_2.length : Int)
      ·rw [if_pos c38] at H
       have c38b0 : decide (x36_2 < (l0_2.length : Int)) = true := decide_eq_true c38
       clear c38
       by_cases c39 : 0 ≤ x36_2
       ·rw [if_pos c39] at H
        have c39b0 : decide (0 ≤ x36_2) = true := decide_eq_true c39
        clear c39
        by_cases c40 : x36_2 < (l0_2.length : Int)
        ·rw [if_pos c40] at H
         have c40b0 : decide (x36_2 < (l0_2.length : Int)) = true := decide_eq_true c40
         clear c40
         replace H := Option.bind_eq_some_iff.mp H
         obtain ⟨⟨t378,t379,t380,t381⟩,A410,H⟩ := H
         replace H : (if x368002_2.length < 2932031007402 then (impl_cloneMachine.l1 k2 l0_2 (l0_2.length : Int) (wrap64 (x36_2 + 1)) a0_0 x368001_1 (x368002_2 ++ [(⟨t378,t379,t380,t381⟩ : S50)]) t364) else (none)) = some (r1,r2,r3,r4) := H
         have A41 := Aside0.mk A410
         clear A410
         by_cases c42 : x368002_2.length < 2932031007402
         ·rw [if_pos c42] at H
          have LMc42 := Aside0.mk c42
          clear c42
          obtain ⟨y384,hy384⟩ : ∃ y_ : List (S50),y_ = (x368002_2 ++ [(⟨t378,t379,t380,t381⟩ : S50)]) := ⟨_,rfl⟩
          replace H : (impl_cloneMachine.l1 k2 l0_2 (l0_2.length : Int) (wrap64 (x36_2 + 1)) a0_0 x368001_1 y384 t364) = some (r1,r2,r3,r4) := by first|(rw [hy384];with_reducible exact H)|(have H2_ := (Option.bind_some _ _).symm.trans H;rw [hy384];with_reducible exact H2_)|(have H2_ := (Option.bind_some _ _).symm.trans H;with_reducible exact H2_)|with_reducible exact H|(rw [hy384];exact H)|exact H
          have Ny384 := Aside0.mk hy384
          clear hy384
          have H' := Aside0.mk H
          clear H
          have p376 : 0 ≤ (x36_2 : Int) := od_
          have q376 : x36_2 < (l0_2.length : Int) := od_
          obtain ⟨ad376,A376_3,c376_3,e376,hx376_0,hx376_1,hx376_2,hx376_3,hl376_3,hi376_3⟩ := at_T50 HR0_2.out x36_2 p376 q376
          cases e376
          replace hx376_0 := hx_ HB hx376_0
          replace hx376_1 := hx_ HB hx376_1
          replace hx376_2 := hx_ HB hx376_2
          replace hx376_3 := hx_ HB hx376_3
          have HR376_3 := Aside0.mk hi376_3
          have HC376_3 := Aside0.mk hl376_3
          clear hi376_3 hl376_3
          replace p376 := eq_true p376
          replace q376 := eq_true q376
          try go_wp2_with (first|((with_reducible refine gate_dst (N := 7) rfl ?_);refine bx_ 7 #[.int .i64 0,.int .i64 0,.int .i64 0,.slice none 0 0] 50 ?_;intro gb377 hg w43 hbox hb;replace HO_368001 := Aside0.mk (Kd.S_below (by (with_reducible repeat (first|apply Kd.S_alloc|apply Kd.S_drewN|apply Kd.S_drew));exact HO_368001.out) hb);replace HO_368002 := Aside0.mk (Kd.S_below (Kd.S_elderB (by (with_reducible repeat (first|apply Kd.S_alloc|apply Kd.S_drewN|apply Kd.S_drew));exact HO_368002.out) gb377 (Nat.le_of_eq hg.symm)) hb);replace HO_368003 := Aside0.mk (Kd.R_below (by (with_reducible repeat (first|apply Kd.R_alloc|apply Kd.R_drewN|apply Kd.R_drew));exact HO_368003.out) hb);replace HB := nb_ hg hbox hb;obtain ⟨BK377,GW377,GE377,HB⟩ := HB;have NB362_377 := Aside0.mk ((nl_ BK362 hg));have NB377_362 := Aside0.mk ((ng_ BK362 hg));replace BK362 := Aside0.mk (blk_below (kb_ BK362) hb);have NB363_377 := Aside0.mk ((nl_ BK363 hg));have NB377_363 := Aside0.mk ((ng_ BK363 hg));replace BK363 := Aside0.mk (blk_below (kb_ BK363) hb);have NB367_377 := Aside0.mk ((nl_ BK367 hg));have NB377_367 := Aside0.mk ((ng_ BK367 hg));replace BK367 := Aside0.mk (blk_below (kb_ BK367) hb);clear hb hbox hg;have hnb44 := NB377_362.out;have hnc44 := NB362_377.out;have hnb45 := NB377_363.out;have hnc45 := NB363_377.out;have hnb46 := NB377_367.out;have hnc46 := NB367_377.out;obtain ⟨⟨hcz47_0,hcz47_1,hcz47_2,hcz47_3⟩,hfz47_0,hfz47_1,hfz47_2,hfz47_3⟩ := cl4_ BK377.out))
          have n0_ : Aside0 (Kd.S k83 83 ((((w43.setCell ⟨gb377,0,none⟩ (.int .i64 ((rd_T50 l0_2 x36_2).f0))).setCell ⟨gb377,1,none⟩ (.int .i64 ((rd_T50 l0_2 x36_2).f1))).setCell ⟨gb377,2,none⟩ (.int .i64 ((rd_T50 l0_2 x36_2).f2))).setCell ⟨gb377,3,none⟩ (.slice A376_3 ((rd_T50 l0_2 x36_2).f3).length c376_3)) w.heap.size (fun _ => True) u368001 x368001_1) := ⟨by (with_reducible repeat (first|apply Kd.S_alloc|apply Kd.S_drewN|apply Kd.S_drew));exact Kd.S_mono (Kd.S_far (p := ⟨gb377,3,none⟩) (Kd.S_far (p := ⟨gb377,2,none⟩) (Kd.S_far (p := ⟨gb377,1,none⟩) (Kd.S_far (p := ⟨gb377,0,none⟩) (Kd.S_types HO_368001.out BK377.out (by decide)) (fun _ hk => hk.2) (.int .i64 ((rd_T50 l0_2 x36_2).f0))) (fun _ hk => hk.2) (.int .i64 ((rd_T50 l0_2 x36_2).f1))) (fun _ hk => hk.2) (.int .i64 ((rd_T50 l0_2 x36_2).f2))) (fun _ hk => hk.2) (.slice A376_3 ((rd_T50 l0_2 x36_2).f3).length c376_3)) (fun _ hk => trivial)⟩
          have n1_ : Aside0 (Kd.S k50 50 ((((w43.setCell ⟨gb377,0,none⟩ (.int .i64 ((rd_T50 l0_2 x36_2).f0))).setCell ⟨gb377,1,none⟩ (.int .i64 ((rd_T50 l0_2 x36_2).f1))).setCell ⟨gb377,2,none⟩ (.int .i64 ((rd_T50 l0_2 x36_2).f2))).setCell ⟨gb377,3,none⟩ (.slice A376_3 ((rd_T50 l0_2 x36_2).f3).length c376_3)) w.heap.size (fun k_ => k_ ≠ gb377) u368002 x368002_2) := ⟨by (with_reducible repeat (first|apply Kd.S_alloc|apply Kd.S_drewN|apply Kd.S_drew));exact Kd.S_mono (Kd.S_far (p := ⟨gb377,3,none⟩) (Kd.S_far (p := ⟨gb377,2,none⟩) (Kd.S_far (p := ⟨gb377,1,none⟩) (Kd.S_far (p := ⟨gb377,0,none⟩) (Kd.S_mono HO_368002.out (fun k_ hk => (⟨hk,hk.2⟩ : _ ∧ k_ ≠ gb377))) (fun _ hk => hk.2) (.int .i64 ((rd_T50 l0_2 x36_2).f0))) (fun _ hk => hk.2) (.int .i64 ((rd_T50 l0_2 x36_2).f1))) (fun _ hk => hk.2) (.int .i64 ((rd_T50 l0_2 x36_2).f2))) (fun _ hk => hk.2) (.slice A376_3 ((rd_T50 l0_2 x36_2).f3).length c376_3)) (fun _ hk => hk.1.2)⟩
          have n2_ : Aside0 (Kd.R (Kd.int .i64) 2 ((((w43.setCell ⟨gb377,0,none⟩ (.int .i64 ((rd_T50 l0_2 x36_2).f0))).setCell ⟨gb377,1,none⟩ (.int .i64 ((rd_T50 l0_2 x36_2).f1))).setCell ⟨gb377,2,none⟩ (.int .i64 ((rd_T50 l0_2 x36_2).f2))).setCell ⟨gb377,3,none⟩ (.slice A376_3 ((rd_T50 l0_2 x36_2).f3).length c376_3)) w.heap.size (fun _ => True) (.slice Ao10 t364.length co10) t364) := ⟨by (with_reducible repeat (first|apply Kd.R_alloc|apply Kd.R_drewN|apply Kd.R_drew));exact Kd.R_mono (Kd.R_far (p := ⟨gb377,3,none⟩) (Kd.R_far (p := ⟨gb377,2,none⟩) (Kd.R_far (p := ⟨gb377,1,none⟩) (Kd.R_far (p := ⟨gb377,0,none⟩) (Kd.R_types HO_368003.out BK377.out (by decide)) (fun _ hk => hk.2) (.int .i64 ((rd_T50 l0_2 x36_2).f0))) (fun _ hk => hk.2) (.int .i64 ((rd_T50 l0_2 x36_2).f1))) (fun _ hk => hk.2) (.int .i64 ((rd_T50 l0_2 x36_2).f2))) (fun _ hk => hk.2) (.slice A376_3 ((rd_T50 l0_2 x36_2).f3).length c376_3)) (fun _ hk => trivial)⟩
          have n3_ : Aside0 (((((w43.setCell ⟨gb377,0,none⟩ (.int .i64 ((rd_T50 l0_2 x36_2).f0))).setCell ⟨gb377,1,none⟩ (.int .i64 ((rd_T50 l0_2 x36_2).f1))).setCell ⟨gb377,2,none⟩ (.int .i64 ((rd_T50 l0_2 x36_2).f2))).setCell ⟨gb377,3,none⟩ (.slice A376_3 ((rd_T50 l0_2 x36_2).f3).length c376_3)).heap[gb362]? = some (.cells #[.bool a0_0,.slice A0_1 l0_1.length c0_1,.slice (some ad376) l0_2.length c0_2,.slice A0_3 l0_3.length c0_3] 31 (0,0))) := ⟨kf_ BK362⟩
          have n4_ : Aside0 (((((w43.setCell ⟨gb377,0,none⟩ (.int .i64 ((rd_T50 l0_2 x36_2).f0))).setCell ⟨gb377,1,none⟩ (.int .i64 ((rd_T50 l0_2 x36_2).f1))).setCell ⟨gb377,2,none⟩ (.int .i64 ((rd_T50 l0_2 x36_2).f2))).setCell ⟨gb377,3,none⟩ (.slice A376_3 ((rd_T50 l0_2 x36_2).f3).length c376_3)).heap[gb363]? = some (.cells #[.bool false,.slice none 0 0,.slice none 0 0,.slice none 0 0] 31 (0,0))) := ⟨kf_ BK363⟩
          have n5_ : Aside0 (((((w43.setCell ⟨gb377,0,none⟩ (.int .i64 ((rd_T50 l0_2 x36_2).f0))).setCell ⟨gb377,1,none⟩ (.int .i64 ((rd_T50 l0_2 x36_2).f1))).setCell ⟨gb377,2,none⟩ (.int .i64 ((rd_T50 l0_2 x36_2).f2))).setCell ⟨gb377,3,none⟩ (.slice A376_3 ((rd_T50 l0_2 x36_2).f3).length c376_3)).heap[gb367]? = some (.cells #[.bool a0_0,u368001,u368002,.slice Ao10 t364.length co10] 31 (0,0))) := ⟨kf_ BK367⟩
          have n6_ : Aside0 (((((w43.setCell ⟨gb377,0,none⟩ (.int .i64 ((rd_T50 l0_2 x36_2).f0))).setCell ⟨gb377,1,none⟩ (.int .i64 ((rd_T50 l0_2 x36_2).f1))).setCell ⟨gb377,2,none⟩ (.int .i64 ((rd_T50 l0_2 x36_2).f2))).setCell ⟨gb377,3,none⟩ (.slice A376_3 ((rd_T50 l0_2 x36_2).f3).length c376_3)).heap[gb377]? = some (.cells #[.int .i64 ((rd_T50 l0_2 x36_2).f0),.int .i64 ((rd_T50 l0_2 x36_2).f1),.int .i64 ((rd_T50 l0_2 x36_2).f2),.slice A376_3 ((rd_T50 l0_2 x36_2).f3).length c376_3] 50 (0,0))) := ⟨by (with_reducible repeat (first|refine blk_drewN ?_ _|refine blk_drew ?_|refine blk_alloc ?_ _));refine blk_put (cs := #[.int .i64 ((rd_T50 l0_2 x36_2).f0),.int .i64 ((rd_T50 l0_2 x36_2).f1),.int .i64 ((rd_T50 l0_2 x36_2).f2),.slice none 0 0]) ?_ 3 _ rfl;(with_reducible repeat (first|refine blk_drewN ?_ _|refine blk_drew ?_|refine blk_alloc ?_ _));refine blk_put (cs := #[.int .i64 ((rd_T50 l0_2 x36_2).f0),.int .i64 ((rd_T50 l0_2 x36_2).f1),.int .i64 0,.slice none 0 0]) ?_ 2 _ rfl;(with_reducible repeat (first|refine blk_drewN ?_ _|refine blk_drew ?_|refine blk_alloc ?_ _));refine blk_put (cs := #[.int .i64 ((rd_T50 l0_2 x36_2).f0),.int .i64 0,.int .i64 0,.slice none 0 0]) ?_ 1 _ rfl;(with_reducible repeat (first|refine blk_drewN ?_ _|refine blk_drew ?_|refine blk_alloc ?_ _));refine blk_put (cs := #[.int .i64 0,.int .i64 0,.int .i64 0,.slice none 0 0]) ?_ 0 _ rfl;(with_reducible repeat (first|refine blk_drewN ?_ _|refine blk_drew ?_|refine blk_alloc ?_ _));exact BK377.out⟩
          have n7_ : Aside0 (Below w.heap.size w ((((w43.setCell ⟨gb377,0,none⟩ (.int .i64 ((rd_T50 l0_2 x36_2).f0))).setCell ⟨gb377,1,none⟩ (.int .i64 ((rd_T50 l0_2 x36_2).f1))).setCell ⟨gb377,2,none⟩ (.int .i64 ((rd_T50 l0_2 x36_2).f2))).setCell ⟨gb377,3,none⟩ (.slice A376_3 ((rd_T50 l0_2 x36_2).f3).length c376_3))) := ⟨b_⟩
          (try clear HO_368001)
          (try clear HO_368002)
          (try clear HO_368003)
          (try clear BK362)
          (try clear BK363)
          (try clear BK367)
          (try clear BK377)
          (try clear HB)
          generalize ((((w43.setCell ⟨gb377,0,none⟩ (.int .i64 ((rd_T50 l0_2 x36_2).f0))).setCell ⟨gb377,1,none⟩ (.int .i64 ((rd_T50 l0_2 x36_2).f1))).setCell ⟨gb377,2,none⟩ (.int .i64 ((rd_T50 l0_2 x36_2).f2))).setCell ⟨gb377,3,none⟩ (.slice A376_3 ((rd_T50 l0_2 x36_2).f3).length c376_3)) = w48 at n0_ n1_ n2_ n3_ n4_ n5_ n6_ n7_ ⊢
          have HO_368001 := n0_
          have HO_368002 := n1_
          have HO_368003 := n2_
          have BK362 := n3_
          have BK363 := n4_
          have BK367 := n5_
          have BK377 := n6_
          have HB := n7_
          clear n0_ n1_ n2_ n3_ n4_ n5_ n6_ n7_
          replace HO_368001 := Aside0.mk (Kd.S_drew HO_368001.out)
          replace HO_368002 := Aside0.mk (Kd.S_drew HO_368002.out)
          replace HO_368003 := Aside0.mk (Kd.R_drew HO_368003.out)
          replace BK362 := Aside0.mk (blk_drew BK362.out)
          replace BK363 := Aside0.mk (blk_drew BK363.out)
          replace BK367 := Aside0.mk (blk_drew BK367.out)
          replace BK377 := Aside0.mk (blk_drew BK377.out)
          replace HB := Aside0.mk (below_drew1 HB.out)
          refine std_ 8 (S := fun w' => hc4 w' gb367 (.bool a0_0) (u368001) (u368002) (.slice Ao10 t364.length co10) (hd4 w' gb377 (.int .i64 ((rd_T50 l0_2 x36_2).f0)) (.int .i64 ((rd_T50 l0_2 x36_2).f1)) (.int .i64 ((rd_T50 l0_2 x36_2).f2)) (.slice A376_3 ((rd_T50 l0_2 x36_2).f3).length c376_3))) (ds := [7]) hh_ (fun hHeld => ?_);refine with_tabW impl_cloneMachine.tab10 impl_cloneMachine.bits10 (fun HT_ HW_ => ?_)
          generalize w48.drew = w49 at HO_368001 HO_368002 HO_368003 BK362 BK363 BK367 BK377 HB hHeld ⊢
          refine pv_ 0 40 ?_
          refine tx_ 1 41 hHeld ?_
          refine tx_ 2 42 hHeld ?_
          refine oy_ 3 43 (fun K hK => ?_)
          refine gs_ Tryz.func70 #[.agg #[.int .i64 ((rd_T50 l0_2 x36_2).f0),.int .i64 ((rd_T50 l0_2 x36_2).f1),.int .i64 ((rd_T50 l0_2 x36_2).f2),.slice A376_3 ((rd_T50 l0_2 x36_2).f3).length c376_3]] ?_
          with_reducible refine (impl_cloneRecord.calls ((rd_T50 l0_2 x36_2).f0) ((rd_T50 l0_2 x36_2).f1) ((rd_T50 l0_2 x36_2).f2) _ _ ((rd_T50 l0_2 x36_2).f3) t378 t379 t380 t381 _ ?side1 ?side2 A41.out).mono ?_
          (case side1 => exact cb_ HR376_3)
          (case side2 => exact HC376_3.out)
          rintro e w50 ⟨v382,rfl,ho0,hb⟩
          refine ⟨_,rfl,?_⟩
          replace HO_368001 := Aside0.mk (Kd.S_below (by (with_reducible repeat (first|apply Kd.S_alloc|apply Kd.S_drewN|apply Kd.S_drew));exact HO_368001.out) hb)
          replace HO_368002 := Aside0.mk (Kd.S_elder' (by (with_reducible repeat (first|apply Kd.S_alloc|apply Kd.S_drewN|apply Kd.S_drew));exact HO_368002.out) (Kd.R_base ho0) hb)
          replace HO_368003 := Aside0.mk (Kd.R_below (by (with_reducible repeat (first|apply Kd.R_alloc|apply Kd.R_drewN|apply Kd.R_drew));exact HO_368003.out) hb)
          replace BK362 := Aside0.mk (blk_below (kb_ BK362) hb)
          replace BK363 := Aside0.mk (blk_below (kb_ BK363) hb)
          replace BK367 := Aside0.mk (blk_below (kb_ BK367) hb)
          replace BK377 := Aside0.mk (blk_below (kb_ BK377) hb)
          have HO383 := Aside0.mk (Kd.R_lower ho0 (below_size b_))
          replace HB := Aside0.mk (below_step b_ hb)
          (try clear hb)
          (try clear hb2)
          (try clear hk)
          (try clear hi)
          (try clear ho0)
          obtain ⟨Ao52,co52,eo52⟩ := Kd.R_slice HO383.out
          (first|subst eo52|(injection eo52 with f1_ f2_ f3_;have f4_ := f1_.symm;have f5_ := f3_.symm;clear f1_ f2_ f3_;subst f4_;subst f5_))
          refine hK.out _ _ hh_ (fun hHeld => ?_)
          clear hK K
          refine nr_ (some 43) _ ?_
          refine oy_ 4 44 (fun K hK => ?_)
          refine value_ (w1 := ?_) (v := ?_) (by rfl) rfl ?_ ?_
          rotate_left 2
          ·go_simp
           constructor
           ·rfl
           ·rfl
          refine hK.out _ _ ⟨(blk_cell (blk_alloc BK367.out _) 0).trans rfl,(blk_cell (blk_alloc BK367.out _) 1).trans rfl,(blk_cell (blk_alloc BK367.out _) 2).trans rfl,(blk_cell (blk_alloc BK367.out _) 3).trans rfl,(blk_cell (blk_alloc BK377.out _) 0).trans rfl,(blk_cell (blk_alloc BK377.out _) 1).trans rfl,(blk_cell (blk_alloc BK377.out _) 2).trans rfl,(blk_cell (blk_alloc BK377.out _) 3).trans rfl⟩ (fun hHeld => ?_)
          clear hK K
          refine nr_ (some 44) _ ?_
          refine oy_ 5 45 (fun K hK => ?_)
          refine Kd.S_append_step k50 (w0 := w) w.heap.size (by rfl) (.tmp 41) (.tmp 44) 29 50 (.agg #[(.int .i64 0),(.int .i64 0),(.int .i64 0),(.slice none 0 0)]) 48 rfl Tryz.underlying29 info50 rfl (by decide) (by omega) u368002 x368002_2 (⟨t378,t379,t380,t381⟩ : S50) [.int .i64 t378,.int .i64 t379,.int .i64 t380,.slice Ao52 t381.length co52] (fun k_ => k_ ≠ gb377) (fun k_ => some k_ = (.slice Ao52 t381.length co52 : Value).ownBlock) rfl rfl ?aP (fun k_ hk_ => ((Kd.R_mono (ok' := fun k_ => ((fun k_ => k_ ≠ gb377)) k_ ∧ some k_ ≠ (u368002 : Value).ownBlock) (Kd.R_types (Kd.R_apart' (HO383.out) (Kd.S_typed HO_368002.out) (by decide)) BK377.out (by decide)) (fun k_ hk => ⟨hk.2,hk.1.2⟩))).1 k_ hk_.symm) ?aF ?aO ?aB ?aS ?aL ?_
          (case aP => exact k50_mkM _ _ _ (⟨t378,t379,t380,t381⟩ : S50) (Kd.R_mono (Kd.R_tight rfl (Kd.R_mono (ok' := fun k_ => ((fun k_ => k_ ≠ gb377)) k_ ∧ some k_ ≠ (u368002 : Value).ownBlock) (Kd.R_types (Kd.R_apart' (HO383.out) (Kd.S_typed HO_368002.out) (by decide)) BK377.out (by decide)) (fun k_ hk => ⟨hk.2,hk.1.2⟩))) (fun _ h_ => h_)))
          (case aB => exact b_)
          (case aF => exact (fun k_ hk => Kd.freshB (kb_ BK377) k_ hk))
          (case aO => exact (by (with_reducible repeat (first|apply Kd.S_alloc|apply Kd.S_drewN|apply Kd.S_drew));exact Kd.S_mono HO_368002.out (fun k_ hk => ⟨hk.1,fun e_ => hk.2 e_⟩)))
          (case aS => exact (below_size b_))
          (case aL => have := LMc42.out;omega)
          intro v385 w51 ho hb hg hat
          rw [← Ny384.out] at ho
          replace HO_368001 := Aside0.mk (Kd.S_over' (by (with_reducible repeat (first|apply Kd.S_alloc|apply Kd.S_drewN|apply Kd.S_drew));exact HO_368001.out) (Kd.S_typed (by (with_reducible repeat (first|apply Kd.S_alloc|apply Kd.S_drewN|apply Kd.S_drew));exact HO_368002.out)) (by decide) hg)
          replace HO_368003 := Aside0.mk (Kd.R_over' (by (with_reducible repeat (first|apply Kd.R_alloc|apply Kd.R_drewN|apply Kd.R_drew));exact HO_368003.out) (Kd.S_typed (by (with_reducible repeat (first|apply Kd.S_alloc|apply Kd.S_drewN|apply Kd.S_drew));exact HO_368002.out)) (by decide) hg)
          replace BK362 := Aside0.mk (blk_grown (kb_ BK362) hg (Kd.S_ne HO_368002.out BK362.out (by decide)))
          replace BK363 := Aside0.mk (blk_grown (kb_ BK363) hg (Kd.S_ne HO_368002.out BK363.out (by decide)))
          replace BK367 := Aside0.mk (blk_grown (kb_ BK367) hg (Kd.S_ne HO_368002.out BK367.out (by decide)))
          replace BK377 := Aside0.mk (blk_grown (kb_ BK377) hg (Kd.S_away HO_368002.out (fun _ hk => hk.1)))
          replace HB := Aside0.mk (hb)
          have HO386 := Aside0.mk (ho)
          clear HO_368002 HO383
          clear ho hb hg hat
          obtain ⟨Ao53,co53,eo53⟩ := Kd.S_slice HO386.out
          (first|subst eo53|(injection eo53 with f1_ f2_ f3_;have f4_ := f1_.symm;have f5_ := f3_.symm;clear f1_ f2_ f3_;subst f4_;subst f5_))
          refine hK.out _ _ hh_ (fun hHeld => ?_)
          clear hK K
          refine nr_ (some 45) _ ?_
          refine pv_ 6 46 ?_
          refine last_ (i := 7) (N := none) #[true,true,true,true,true,true,true,true] rfl rfl (one_of HT_.out (by kernel_rfl)) (by decide) (fun K hK => ?_)
          have hs54 : w51.cell? ⟨gb367,2,none⟩ = some (u368002) := (blk_cell BK367.out 2).trans rfl
          have hfs54 := blk_frozen BK367.out 2
          have hns54_0 := NB362_367.out
          have hns54_1 := NB363_367.out
          have hns54_3 := NB377_367.out
          have hms54_0 := NB367_362.out
          have hms54_1 := NB367_363.out
          have hms54_3 := NB367_377.out
          refine skip_ (w1 := ?_) (by rfl) rfl ?_ ?_
          rotate_left
          ·go_simp
           rfl
          refine hK.out _ _ ?_
          clear hK K
          refine done_ (done_of HT_.out (by kernel_rfl)) ?_
          try go_wp2
          go_roundg k2
          case measure => have := HK1.out;have := HK2.out;omega
          case rel => exact ⟨(wrap64 (x36_2 + 1)),(y384),(.slice Ao53 y384.length co53),rs_,H',⟨by have := HK1.out;have := HK2.out;omega⟩,⟨by (with_reducible repeat (first|apply Kd.S_alloc|apply Kd.S_drewN|apply Kd.S_drew));exact Kd.S_mono (Kd.S_far (p := ⟨gb367,2,none⟩) (Kd.S_types HO_368001.out BK367.out (by decide)) (fun _ hk => hk.2) (.slice Ao53 y384.length co53)) (fun _ hk => trivial)⟩,⟨by (with_reducible repeat (first|apply Kd.S_alloc|apply Kd.S_drewN|apply Kd.S_drew));exact Kd.S_mono (Kd.S_far (p := ⟨gb367,2,none⟩) (Kd.S_types HO386.out BK367.out (by decide)) (fun _ hk => hk.2) (.slice Ao53 y384.length co53)) (fun _ hk => trivial)⟩,⟨by (with_reducible repeat (first|apply Kd.R_alloc|apply Kd.R_drewN|apply Kd.R_drew));exact Kd.R_mono (Kd.R_far (p := ⟨gb367,2,none⟩) (Kd.R_types HO_368003.out BK367.out (by decide)) (fun _ hk => hk.2) (.slice Ao53 y384.length co53)) (fun _ hk => trivial)⟩,⟨kf_ BK362⟩,⟨kf_ BK363⟩,⟨by (with_reducible repeat (first|refine blk_drewN ?_ _|refine blk_drew ?_|refine blk_alloc ?_ _));refine blk_put (cs := #[.bool a0_0,u368001,u368002,.slice Ao10 t364.length co10]) ?_ 2 _ rfl;(with_reducible repeat (first|refine blk_drewN ?_ _|refine blk_drew ?_|refine blk_alloc ?_ _));exact BK367.out⟩,⟨b_⟩⟩
         ·rw [if_neg c42] at H
          exact absurd H (by simp)
        ·rw [if_neg c40] at H
         exact absurd H (by simp)
       ·rw [if_neg c39] at H
        exact absurd H (by simp)
      ·rw [if_neg c38] at H
       have c38b0 : decide (x36_2 < (l0_2.length : Int)) = false := decide_eq_false c38
       clear c38
       simp only [Option.some.injEq,Prod.mk.injEq] at H
       obtain ⟨rfl,rfl,rfl,rfl⟩ := H
       have hnb55 := NB367_362.out
       have hnc55 := NB362_367.out
       have hnb56 := NB367_363.out
       have hnc56 := NB363_367.out
       obtain ⟨⟨hcz57_0,hcz57_1,hcz57_2,hcz57_3⟩,hfz57_0,hfz57_1,hfz57_2,hfz57_3⟩ := cl4_ BK367.out
       have hnb58 := NB363_362.out
       have hnc58 := NB362_363.out
       obtain ⟨⟨hcz59_0,hcz59_1,hcz59_2,hcz59_3⟩,hfz59_0,hfz59_1,hfz59_2,hfz59_3⟩ := cl4_ BK363.out
       obtain ⟨Ao60,co60,eo60⟩ := Kd.S_slice HO_368001.out
       subst eo60
       obtain ⟨Ao61,co61,eo61⟩ := Kd.S_slice HO_368002.out
       subst eo61
       go_wp2
       refine bodyPost_ret (results_cell_row rfl _ _ gb363 31 #[.bool a0_0,.slice Ao60 x368001_1.length co60,.slice Ao61 x368002_2.length co61,.slice Ao10 t364.length co10] (0,0) _ rfl (by (with_reducible repeat (first|refine blk_drewN ?_ _|refine blk_drew ?_|refine blk_alloc ?_ _));refine blk_put (cs := #[.bool a0_0,.slice Ao60 x368001_1.length co60,.slice Ao61 x368002_2.length co61,.slice none 0 0]) ?_ 3 _ rfl;(with_reducible repeat (first|refine blk_drewN ?_ _|refine blk_drew ?_|refine blk_alloc ?_ _));refine blk_put (cs := #[.bool a0_0,.slice Ao60 x368001_1.length co60,.slice none 0 0,.slice none 0 0]) ?_ 2 _ rfl;(with_reducible repeat (first|refine blk_drewN ?_ _|refine blk_drew ?_|refine blk_alloc ?_ _));refine blk_put (cs := #[.bool a0_0,.slice none 0 0,.slice none 0 0,.slice none 0 0]) ?_ 1 _ rfl;(with_reducible repeat (first|refine blk_drewN ?_ _|refine blk_drew ?_|refine blk_alloc ?_ _));refine blk_put (cs := #[.bool false,.slice none 0 0,.slice none 0 0,.slice none 0 0]) ?_ 0 _ rfl;(with_reducible repeat (first|refine blk_drewN ?_ _|refine blk_drew ?_|refine blk_alloc ?_ _));exact BK363.out) Tryz.underlying31 rfl (by kernel_rfl)) rfl ?_
       exact ⟨_,_,_,rf_,by (with_reducible repeat (first|apply Kd.S_alloc|apply Kd.S_drewN|apply Kd.S_drew));exact Kd.S_mono (Kd.S_far (p := ⟨gb363,3,none⟩) (Kd.S_far (p := ⟨gb363,2,none⟩) (Kd.S_far (p := ⟨gb363,1,none⟩) (Kd.S_far (p := ⟨gb363,0,none⟩) (Kd.S_types HO_368001.out BK363.out (by decide)) (fun _ hk => hk.2) (.bool a0_0)) (fun _ hk => hk.2) (.slice Ao60 x368001_1.length co60)) (fun _ hk => hk.2) (.slice Ao61 x368002_2.length co61)) (fun _ hk => hk.2) (.slice Ao10 t364.length co10)) (fun _ hk => trivial),by (with_reducible repeat (first|apply Kd.S_alloc|apply Kd.S_drewN|apply Kd.S_drew));exact Kd.S_mono (Kd.S_far (p := ⟨gb363,3,none⟩) (Kd.S_far (p := ⟨gb363,2,none⟩) (Kd.S_far (p := ⟨gb363,1,none⟩) (Kd.S_far (p := ⟨gb363,0,none⟩) (Kd.S_types HO_368002.out BK363.out (by decide)) (fun _ hk => hk.2) (.bool a0_0)) (fun _ hk => hk.2) (.slice Ao60 x368001_1.length co60)) (fun _ hk => hk.2) (.slice Ao61 x368002_2.length co61)) (fun _ hk => hk.2) (.slice Ao10 t364.length co10)) (fun _ hk => trivial),by (with_reducible repeat (first|apply Kd.R_alloc|apply Kd.R_drewN|apply Kd.R_drew));exact Kd.R_mono (Kd.R_far (p := ⟨gb363,3,none⟩) (Kd.R_far (p := ⟨gb363,2,none⟩) (Kd.R_far (p := ⟨gb363,1,none⟩) (Kd.R_far (p := ⟨gb363,0,none⟩) (Kd.R_types HO_368003.out BK363.out (by decide)) (fun _ hk => hk.2) (.bool a0_0)) (fun _ hk => hk.2) (.slice Ao60 x368001_1.length co60)) (fun _ hk => hk.2) (.slice Ao61 x368002_2.length co61)) (fun _ hk => hk.2) (.slice Ao10 t364.length co10)) (fun _ hk => trivial),b_⟩

end Go.Proofs.YthplaakckfhaaaaGreat.XCr
