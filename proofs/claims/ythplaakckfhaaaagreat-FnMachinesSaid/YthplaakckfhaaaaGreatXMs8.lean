/- Proved: a call of each Go function here comes to what its Lean function tells. -/
import Derived.Test.YthplaakckfhaaaaGreatXMs0
import Derived.Test.YthplaakckfhaaaaGreatXMs7
namespace Go.Proofs.YthplaakckfhaaaaGreat.XMs
open Go.RowKit Go.Proofs.YthplaakckfhaaaaGreat.Aid Go.Proofs.YthplaakckfhaaaaGreatW.PrintWords Go.Proofs.YthplaakckfhaaaaGreatW.PrintLast Go.Proofs.YthplaakckfhaaaaGreatW.PrintMore
set_option linter.unusedVariables false
set_option linter.unusedSimpArgs false

/-! ### impl_cloneMachine: function 39 -/
mutual
def impl_cloneMachine.l0 : Nat → List (S83) → Int → Int → Bool → List (S83) → List (S50) → List Int → Bool → List (S83) → List Int → Option (Bool × (List (S83)) × (List (S50)) × List Int)
  | 0, _, _, _, _, _, _, _, _, _, _ => none
  | k + 1, x15, x16, x17, x166000, x166001, x166002, x166003, x171000, x171001, x171003 => if x17 < x16 then (if 0 ≤ x17 then (if x17 < (x15.length : Int) then ((impl_Cell_63.f ((rd_T83 x15 x17).f1)).bind fun t173 => (if x171001.length < 4398046511104 then (impl_cloneMachine.l0 k x15 x16 (wrap64 (x17 + 1)) x166000 x166001 x166002 x166003 x171000 (x171001 ++ [(⟨(rd_T83 x15 x17).f0, t173⟩ : S83)]) x171003) else (none))) else (none)) else (none)) else (impl_cloneMachine.l1 k x166002 (x166002.length : Int) 0 x171000 x171001 ([] : List (S50)) x171003)
def impl_cloneMachine.l1 : Nat → List (S50) → Int → Int → Bool → List (S83) → List (S50) → List Int → Option (Bool × (List (S83)) × (List (S50)) × List Int)
  | 0, _, _, _, _, _, _, _ => none
  | k + 1, x34, x35, x36, x171000, x171001, x171002, x171003 => if x36 < x35 then (if 0 ≤ x36 then (if x36 < (x34.length : Int) then ((impl_cloneRecord.f ((rd_T50 x34 x36).f0) ((rd_T50 x34 x36).f1) ((rd_T50 x34 x36).f2) ((rd_T50 x34 x36).f3)).bind fun bt181 => (if x171002.length < 2932031007402 then (impl_cloneMachine.l1 k x34 x35 (wrap64 (x36 + 1)) x171000 x171001 (x171002 ++ [(⟨bt181.1, bt181.2.1, bt181.2.2.1, bt181.2.2.2⟩ : S50)]) x171003) else (none))) else (none)) else (none)) else (some (x171000, x171001, x171002, x171003))
end
def impl_cloneMachine.f (k : Nat) (a0_0 : Bool) (l0_1 : List (S83)) (l0_2 : List (S50)) (l0_3 : List Int) : Option (Bool × (List (S83)) × (List (S50)) × List Int) := (slices_Clone_int64_int64.f l0_3).bind fun t167 => (impl_cloneMachine.l0 k l0_1 (l0_1.length : Int) 0 a0_0 l0_1 l0_2 l0_3 a0_0 ([] : List (S83)) t167)

def impl_cloneMachine.T1 : Bool × List (List Nat × List Nat) := (true, [([], []), ([0], [0]), ([], []), ([2], [2]), ([3], [3]), ([1, 4], [1, 4]), ([], []), ([6, 5, 4, 0, 1, 2, 3, 4, 5, 6], [5, 6])])
def impl_cloneMachine.B1 : List Nat := [0, 1, 0, 4, 12, 31, 0, 127]
theorem impl_cloneMachine.tab1 : rtab .any (opsOf Tryz.f39 1) = impl_cloneMachine.T1 := by kernel_rfl
theorem impl_cloneMachine.bits1 : waitsOk impl_cloneMachine.T1.2 impl_cloneMachine.B1 = true := by kernel_rfl
def impl_cloneMachine.T5 : Bool × List (List Nat × List Nat) := (true, [([], []), ([0], [0]), ([], []), ([2], [2]), ([], []), ([4], [4]), ([5], [5]), ([3, 6], [3, 6]), ([7], [7]), ([1, 8, 6], [1, 8]), ([0, 1, 2, 3, 4, 5, 6, 7, 8, 9], []), ([10, 9, 9, 0, 1, 2, 3, 4, 5, 6, 7, 8, 9], [9, 10])])
def impl_cloneMachine.B5 : List Nat := [0, 1, 0, 4, 0, 16, 48, 124, 252, 511, 1023, 2047]
theorem impl_cloneMachine.tab5 : rtab .any (opsOf Tryz.f39 5) = impl_cloneMachine.T5 := by kernel_rfl
theorem impl_cloneMachine.bits5 : waitsOk impl_cloneMachine.T5.2 impl_cloneMachine.B5 = true := by kernel_rfl
def impl_cloneMachine.T10 : Bool × List (List Nat × List Nat) := (true, [([], []), ([0], [0]), ([], []), ([2], [2]), ([3], [3]), ([1, 4, 3], [1, 4]), ([0, 1, 2, 3, 4, 5], []), ([6, 5, 5, 0, 1, 2, 3, 4, 5], [5, 6])])
def impl_cloneMachine.B10 : List Nat := [0, 1, 0, 4, 12, 31, 63, 127]
theorem impl_cloneMachine.tab10 : rtab .any (opsOf Tryz.f39 10) = impl_cloneMachine.T10 := by kernel_rfl
theorem impl_cloneMachine.bits10 : waitsOk impl_cloneMachine.T10.2 impl_cloneMachine.B10 = true := by kernel_rfl
set_option maxHeartbeats 8000000 in
set_option maxRecDepth 100000 in
theorem impl_cloneMachine.calls (k : Nat) (a0_0 : Bool) (A0_1 : Option Addr) (c0_1 : Nat) (l0_1 : List (S83)) (A0_2 : Option Addr) (c0_2 : Nat) (l0_2 : List (S50)) (A0_3 : Option Addr) (c0_3 : Nat) (l0_3 : List Int) (r1 : Bool) (r2 : List (S83)) (r3 : List (S50)) (r4 : List Int) (w : World) (hr0_1 : Kd.C k83 w A0_1 l0_1.length l0_1) (hc0_1 : l0_1.length ≤ c0_1) (hr0_2 : Kd.C k50 w A0_2 l0_2.length l0_2) (hc0_2 : l0_2.length ≤ c0_2) (hr0_3 : Kd.C (Kd.int .i64) w A0_3 l0_3.length l0_3) (hc0_3 : l0_3.length ≤ c0_3) (h : impl_cloneMachine.f k a0_0 l0_1 l0_2 l0_3 = some (r1, r2, r3, r4)) :
    Calls Tryz.prog 39 #[.agg #[.bool a0_0, .slice A0_1 l0_1.length c0_1, .slice A0_2 l0_2.length c0_2, .slice A0_3 l0_3.length c0_3]] w fun e w' => ∃ v1_ v2_ v3_ : Value, e = .returned (.agg #[.bool r1, v1_, v2_, v3_]) ∧ Kd.S k83 83 w' w.heap.size (fun _ => True) v1_ r2 ∧ Kd.S k50 50 w' w.heap.size (fun _ => True) v2_ r3 ∧ Kd.R (Kd.int .i64) 2 w' w.heap.size (fun _ => True) v3_ r4 ∧ Below w.heap.size w w' := by
 have hu31 := Tryz.underlying31
 have hu83 := Tryz.underlying83
 have hu50 := Tryz.underlying50
 have HR0_1 := ak hr0_1
 have HC0_1 := ak hc0_1
 clear hr0_1 hc0_1
 have HR0_2 := ak hr0_2
 have HC0_2 := ak hc0_2
 clear hr0_2 hc0_2
 have HR0_3 := ak hr0_3
 have HC0_3 := ak hc0_3
 clear hr0_3 hc0_3
 have HB := ak (Below.refl w.heap.size w)
 have H : ((slices_Clone_int64_int64.f l0_3).bind fun t167 => (impl_cloneMachine.l0 k l0_1 (l0_1.length : Int) 0 a0_0 l0_1 l0_2 l0_3 a0_0 ([] : List (S83)) t167)) = some (r1,r2,r3,r4) := h
 clear h
 replace H := bs_ H
 obtain ⟨t167,A2,H⟩ := H
 have H' := ak H
 clear H
 go_enter Tryz.func39,Tryz.ntmps39
 try go_wp2_with (first|((with_reducible refine gate_dst (N := 1) rfl ?_);refine bx_ 1 #[.bool a0_0,.slice A0_1 l0_1.length c0_1,.slice A0_2 l0_2.length c0_2,.slice A0_3 l0_3.length c0_3] 31 ?_;intro gb165 hg w3 hbox hb;replace HB := nb_ hg hbox hb;obtain ⟨BK165,GW165,GE165,HB⟩ := HB;clear hb hbox hg)|((with_reducible refine gate_dst (N := 2) rfl ?_);refine bx_ 2 #[.bool false,.slice none 0 0,.slice none 0 0,.slice none 0 0] 31 ?_;intro gb166 hg w4 hbox hb;replace HB := nb_ hg hbox hb;obtain ⟨BK166,GW166,GE166,HB⟩ := HB;have NB165_166 := ak ((nl_ BK165 hg));have NB166_165 := ak ((ng_ BK165 hg));replace BK165 := ak (blk_below (kb_ BK165) hb);clear hb hbox hg))
 replace BK165 := ak (blk_drew BK165.out)
 replace BK166 := ak (blk_drew BK166.out)
 replace HB := ak (below_drew1 HB.out)
 refine st_ 8 (S := fun w' => hd4 w' gb165 (.bool a0_0) (.slice A0_1 l0_1.length c0_1) (.slice A0_2 l0_2.length c0_2) (.slice A0_3 l0_3.length c0_3)) hh_ (fun hHeld => ?_);refine with_tabW impl_cloneMachine.tab1 impl_cloneMachine.bits1 (fun HT_ HW_ => ?_)
 generalize w4.drew = w5 at BK165 BK166 HB hHeld ⊢
 refine pv_ 0 8 ?_
 refine pv_ 2 10 ?_
 refine tx_ 1 9 hHeld ?_
 refine tx_ 3 11 hHeld ?_
 refine join_ (σ := Value × Nat) 1 #[true,true,true,true,true,true,true,false] (fun s_ => [(12,s_.1),(3,.pointer (some ⟨s_.2,0,none⟩)),(13,.agg #[.bool a0_0,.slice none 0 0,.slice none 0 0,s_.1])]) (fun s_ w' => (w'.cell? ⟨gb165,0,none⟩ = some (.bool a0_0) ∧ w'.cell? ⟨gb165,1,none⟩ = some (.slice A0_1 l0_1.length c0_1) ∧ w'.cell? ⟨gb165,2,none⟩ = some (.slice A0_2 l0_2.length c0_2) ∧ w'.cell? ⟨gb165,3,none⟩ = some (.slice A0_3 l0_3.length c0_3)) ∧ (Kd.R (Kd.int .i64) 2 w' w.heap.size (fun _ => True) s_.1 t167) ∧ (w'.heap[gb165]? = some (.cells #[.bool a0_0,.slice A0_1 l0_1.length c0_1,.slice A0_2 l0_2.length c0_2,.slice A0_3 l0_3.length c0_3] 31 (0,0))) ∧ (w'.heap[gb166]? = some (.cells #[.bool false,.slice none 0 0,.slice none 0 0,.slice none 0 0] 31 (0,0))) ∧ (w'.heap[s_.2]? = some (.cells #[.bool false,.slice none 0 0,.slice none 0 0,.slice none 0 0] 31 (0,0))) ∧ (w.heap.size ≤ s_.2) ∧ (w.heap.size ≤ s_.2) ∧ (gb165 ≠ s_.2) ∧ (s_.2 ≠ gb165) ∧ (gb166 ≠ s_.2) ∧ (s_.2 ≠ gb166) ∧ (Below w.heap.size w w')) ?_ ?_
 rotate_left
 ·intro hCont
  refine two_ (i := 4) (j := 6) (Ni := some 12) (Nj := some 3) #[true,true,true,true,true,false,false,false] #[true,true,true,true,false,false,true,false] rfl rfl rfl rfl (two_of HT_.out (by kernel_rfl)) (by decide) (by decide) (fun K hK => ?_) (fun K hK => ?_)
  ·skip
   refine gs_ Tryz.func82 #[.slice A0_3 l0_3.length c0_3] ?_
   with_reducible refine (slices_Clone_int64_int64.calls _ _ l0_3 t167 _ ?side1 ?side2 A2.out).mono ?_
   (case side1 => exact cb_ HR0_3)
   (case side2 => exact HC0_3.out)
   rintro e w6 ⟨v168,rfl,ho0,hb⟩
   refine ⟨_,rfl,?_⟩
   replace BK165 := ak (blk_below (kb_ BK165) hb)
   replace BK166 := ak (blk_below (kb_ BK166) hb)
   have HO169 := ak (Kd.R_lower ho0 (below_size b_))
   replace HB := ak (below_step b_ hb)
   (try clear hb)
   (try clear hb2)
   (try clear hk)
   (try clear hi)
   (try clear ho0)
   obtain ⟨Ao7,co7,eo7⟩ := Kd.R_slice HO169.out
   (first|subst eo7|(injection eo7 with f1_ f2_ f3_;have f4_ := f1_.symm;have f5_ := f3_.symm;clear f1_ f2_ f3_;subst f4_;subst f5_))
   refine hK.out _ _ hh_ (fun hHeld => ?_)
   clear hK K
   refine nr_ (some 12) _ ?_
   refine pv_ 5 13 ?_
   refine oy_ 6 3 (fun K hK => ?_)
   refine box_step ?hg (N := 3) ?hd (cs := #[.bool false,.slice none 0 0,.slice none 0 0,.slice none 0 0]) (t := 31) ?hr ?_;(case hd => rfl);(case hg => rfl);(case hr => first|(go_simp;done)|(go_simp;rfl))
   intro gb170 hg w8 hbox hb
   replace HO169 := ak (Kd.R_below (by (with_reducible repeat (first|apply Kd.R_alloc|apply Kd.R_drewN|apply Kd.R_drew));exact HO169.out) hb)
   have BK170 := ak (hbox)
   have GW170 := ak ((gw_ (w := w) hg))
   have GE170 := ak ((gw_ (w := w) hg))
   replace HB := ak (below_step b_ hb)
   have NB165_170 := ak ((nl_ BK165 hg))
   have NB170_165 := ak ((ng_ BK165 hg))
   replace BK165 := ak (blk_below (kb_ BK165) hb)
   have NB166_170 := ak ((nl_ BK166 hg))
   have NB170_166 := ak ((ng_ BK166 hg))
   replace BK166 := ak (blk_below (kb_ BK166) hb)
   clear hb hbox hg
   refine hK.out _ _ hh_ (fun hHeld => ?_)
   clear hK K
   refine nr_ (some 3) _ ?_
   exact norm_ (by simp only [putAll,Act.put,List.setIfInBounds_toArray,List.set_cons_zero,List.set_cons_succ]) (hCont (.slice Ao7 t167.length co7,gb170) _ ⟨hHeld,(by (with_reducible repeat (first|apply Kd.R_alloc|apply Kd.R_drewN|apply Kd.R_drew));exact HO169.out),kk_,kk_,kk_,GW170.out,GE170.out,NB165_170.out,NB170_165.out,NB166_170.out,NB170_166.out,b_⟩)
  ·skip
   refine box_step ?hg (N := 3) ?hd (cs := #[.bool false,.slice none 0 0,.slice none 0 0,.slice none 0 0]) (t := 31) ?hr ?_;(case hd => rfl);(case hg => rfl);(case hr => first|(go_simp;done)|(go_simp;rfl))
   intro gb170 hg w6 hbox hb
   have BK170 := ak (hbox)
   have GW170 := ak ((gw_ (w := w) hg))
   have GE170 := ak ((gw_ (w := w) hg))
   replace HB := ak (below_step b_ hb)
   have NB165_170 := ak ((nl_ BK165 hg))
   have NB170_165 := ak ((ng_ BK165 hg))
   replace BK165 := ak (blk_below (kb_ BK165) hb)
   have NB166_170 := ak ((nl_ BK166 hg))
   have NB170_166 := ak ((ng_ BK166 hg))
   replace BK166 := ak (blk_below (kb_ BK166) hb)
   clear hb hbox hg
   refine hK.out _ _ hh_ (fun hHeld => ?_)
   clear hK K
   refine nr_ (some 3) _ ?_
   refine oy_ 4 12 (fun K hK => ?_)
   refine gs_ Tryz.func82 #[.slice A0_3 l0_3.length c0_3] ?_
   with_reducible refine (slices_Clone_int64_int64.calls _ _ l0_3 t167 _ ?side1 ?side2 A2.out).mono ?_
   (case side1 => exact cb_ HR0_3)
   (case side2 => exact HC0_3.out)
   rintro e w7 ⟨v168,rfl,ho0,hb⟩
   refine ⟨_,rfl,?_⟩
   replace BK165 := ak (blk_below (kb_ BK165) hb)
   replace BK166 := ak (blk_below (kb_ BK166) hb)
   replace BK170 := ak (blk_below (kb_ BK170) hb)
   have HO169 := ak (Kd.R_lower ho0 (below_size b_))
   replace HB := ak (below_step b_ hb)
   (try clear hb)
   (try clear hb2)
   (try clear hk)
   (try clear hi)
   (try clear ho0)
   obtain ⟨Ao8,co8,eo8⟩ := Kd.R_slice HO169.out
   (first|subst eo8|(injection eo8 with f1_ f2_ f3_;have f4_ := f1_.symm;have f5_ := f3_.symm;clear f1_ f2_ f3_;subst f4_;subst f5_))
   refine hK.out _ _ hh_ (fun hHeld => ?_)
   clear hK K
   refine nr_ (some 12) _ ?_
   refine pv_ 5 13 ?_
   exact norm_ (by simp only [putAll,Act.put,List.setIfInBounds_toArray,List.set_cons_zero,List.set_cons_succ]) (hCont (.slice Ao8 t167.length co8,gb170) _ ⟨hHeld,(by (with_reducible repeat (first|apply Kd.R_alloc|apply Kd.R_drewN|apply Kd.R_drew));exact HO169.out),kk_,kk_,kk_,GW170.out,GE170.out,NB165_170.out,NB170_165.out,NB166_170.out,NB170_166.out,b_⟩)
 rintro ⟨v168,gb170⟩ w9 ⟨hS_,h0_,h1_,h2_,h3_,h4_,h5_,h6_,h7_,h8_,h9_,h10_⟩
 have n0_ : Aside0 (Kd.R (Kd.int .i64) 2 w9 w.heap.size (fun _ => True) v168 t167) := ⟨h0_⟩
 have n1_ : Aside0 (w9.heap[gb165]? = some (.cells #[.bool a0_0,.slice A0_1 l0_1.length c0_1,.slice A0_2 l0_2.length c0_2,.slice A0_3 l0_3.length c0_3] 31 (0,0))) := ⟨h1_⟩
 have n2_ : Aside0 (w9.heap[gb166]? = some (.cells #[.bool false,.slice none 0 0,.slice none 0 0,.slice none 0 0] 31 (0,0))) := ⟨h2_⟩
 have n3_ : Aside0 (w9.heap[gb170]? = some (.cells #[.bool false,.slice none 0 0,.slice none 0 0,.slice none 0 0] 31 (0,0))) := ⟨h3_⟩
 have n4_ : Aside0 (w.heap.size ≤ gb170) := ⟨h4_⟩
 have n5_ : Aside0 (w.heap.size ≤ gb170) := ⟨h5_⟩
 have n6_ : Aside0 (gb165 ≠ gb170) := ⟨h6_⟩
 have n7_ : Aside0 (gb170 ≠ gb165) := ⟨h7_⟩
 have n8_ : Aside0 (gb166 ≠ gb170) := ⟨h8_⟩
 have n9_ : Aside0 (gb170 ≠ gb166) := ⟨h9_⟩
 have n10_ : Aside0 (Below w.heap.size w w9) := ⟨h10_⟩
 clear BK165
 clear BK166
 clear HB
 clear h0_ h1_ h2_ h3_ h4_ h5_ h6_ h7_ h8_ h9_ h10_
 have HO169 := n0_
 have BK165 := n1_
 have BK166 := n2_
 have BK170 := n3_
 have GW170 := n4_
 have GE170 := n5_
 have NB165_170 := n6_
 have NB170_165 := n7_
 have NB166_170 := n8_
 have NB170_166 := n9_
 have HB := n10_
 clear n0_ n1_ n2_ n3_ n4_ n5_ n6_ n7_ n8_ n9_ n10_
 have hHeld : w9.cell? ⟨gb165,0,none⟩ = some (.bool a0_0) ∧ w9.cell? ⟨gb165,1,none⟩ = some (.slice A0_1 l0_1.length c0_1) ∧ w9.cell? ⟨gb165,2,none⟩ = some (.slice A0_2 l0_2.length c0_2) ∧ w9.cell? ⟨gb165,3,none⟩ = some (.slice A0_3 l0_3.length c0_3) := hS_
 obtain ⟨Ao10,co10,eo10⟩ := Kd.R_slice HO169.out
 (first|subst eo10|(injection eo10 with f1_ f2_ f3_;have f4_ := f1_.symm;have f5_ := f3_.symm;clear f1_ f2_ f3_;subst f4_;subst f5_))
 refine norm_ (a' := ?_) ?_ ?_
 rotate_left
 ·simp only [putAll,Act.put,List.setIfInBounds_toArray,List.set_cons_zero,List.set_cons_succ]
  rfl
 refine oz_ (i := 7) (N := none) HT_.out rfl rfl (by kernel_rfl) (by decide) (fun K hK => ?_)
 have hs11 : w9.cell? ⟨gb170,0,none⟩ = some (.bool false) := (blk_cell BK170.out 0).trans rfl
 have hfs11 := blk_frozen BK170.out 0
 have hns11_0 := NB165_170.out
 have hns11_1 := NB166_170.out
 have hms11_0 := NB170_165.out
 have hms11_1 := NB170_166.out
 have hs12 : w9.cell? ⟨gb170,1,none⟩ = some (.slice none 0 0) := (blk_cell BK170.out 1).trans rfl
 have hfs12 := blk_frozen BK170.out 1
 have hns12_0 := NB165_170.out
 have hns12_1 := NB166_170.out
 have hms12_0 := NB170_165.out
 have hms12_1 := NB170_166.out
 have hs13 : w9.cell? ⟨gb170,2,none⟩ = some (.slice none 0 0) := (blk_cell BK170.out 2).trans rfl
 have hfs13 := blk_frozen BK170.out 2
 have hns13_0 := NB165_170.out
 have hns13_1 := NB166_170.out
 have hms13_0 := NB170_165.out
 have hms13_1 := NB170_166.out
 have hs14 : w9.cell? ⟨gb170,3,none⟩ = some (.slice none 0 0) := (blk_cell BK170.out 3).trans rfl
 have hfs14 := blk_frozen BK170.out 3
 have hns14_0 := NB165_170.out
 have hns14_1 := NB166_170.out
 have hms14_0 := NB170_165.out
 have hms14_1 := NB170_166.out
 refine skip_ (w1 := ?_) (by rfl) rfl ?_ ?_
 rotate_left
 ·go_simp
  rfl
 refine hK.out _ _ ⟨((cell_far (p := ⟨gb170,_,none⟩) NB165_170.out _).trans (((cell_far (p := ⟨gb170,_,none⟩) NB165_170.out _).trans (((cell_far (p := ⟨gb170,_,none⟩) NB165_170.out _).trans (((cell_far (p := ⟨gb170,_,none⟩) NB165_170.out _).trans (hHeld.1)))))))),((cell_far (p := ⟨gb170,_,none⟩) NB165_170.out _).trans (((cell_far (p := ⟨gb170,_,none⟩) NB165_170.out _).trans (((cell_far (p := ⟨gb170,_,none⟩) NB165_170.out _).trans (((cell_far (p := ⟨gb170,_,none⟩) NB165_170.out _).trans (hHeld.2.1)))))))),((cell_far (p := ⟨gb170,_,none⟩) NB165_170.out _).trans (((cell_far (p := ⟨gb170,_,none⟩) NB165_170.out _).trans (((cell_far (p := ⟨gb170,_,none⟩) NB165_170.out _).trans (((cell_far (p := ⟨gb170,_,none⟩) NB165_170.out _).trans (hHeld.2.2.1)))))))),((cell_far (p := ⟨gb170,_,none⟩) NB165_170.out _).trans (((cell_far (p := ⟨gb170,_,none⟩) NB165_170.out _).trans (((cell_far (p := ⟨gb170,_,none⟩) NB165_170.out _).trans (((cell_far (p := ⟨gb170,_,none⟩) NB165_170.out _).trans (hHeld.2.2.2))))))))⟩ (fun hHeld => ?_)
 clear hK K
 refine done_ (done_of HT_.out (by kernel_rfl)) ?_
 have hnb15 := NB165_166.out
 have hnc15 := NB166_165.out
 have hnb16 := NB165_170.out
 have hnc16 := NB170_165.out
 obtain ⟨⟨hcz17_0,hcz17_1,hcz17_2,hcz17_3⟩,hfz17_0,hfz17_1,hfz17_2,hfz17_3⟩ := cl4_ BK165.out
 try go_wp2
 go_loopg [17] k (fun kq v17 w' => ∃ (x17_1 : Int) (x171001_1 : List (S83)) (u171001 : Value),v17 = .int .i64 x17_1 ∧ Aside0 (impl_cloneMachine.l0 kq l0_1 (l0_1.length : Int) x17_1 a0_0 l0_1 l0_2 l0_3 a0_0 x171001_1 t167 = some (r1,r2,r3,r4)) ∧ Aside0 (kq ≤ k) ∧ Aside0 (Kd.S k83 83 w' w.heap.size (fun _ => True) u171001 x171001_1) ∧ Aside0 (Kd.R (Kd.int .i64) 2 w' w.heap.size (fun _ => True) (.slice Ao10 t167.length co10) t167) ∧ Aside0 (w'.heap[gb165]? = some (.cells #[.bool a0_0,(.slice A0_1 l0_1.length c0_1),(.slice A0_2 l0_2.length c0_2),(.slice A0_3 l0_3.length c0_3)] 31 (0,0))) ∧ Aside0 (w'.heap[gb166]? = some (.cells #[.bool false,(.slice none 0 0),(.slice none 0 0),(.slice none 0 0)] 31 (0,0))) ∧ Aside0 (w'.heap[gb170]? = some (.cells #[.bool a0_0,u171001,(.slice none 0 0),(.slice Ao10 t167.length co10)] 31 (0,0))) ∧ Aside0 (Below w.heap.size w w'))
 case atStart => exact ⟨(0),(([] : List (S83))),(.slice none 0 0),rs_,H',⟨Nat.le_refl _⟩,⟨by first|exact Kd.S_nil _ _ _ _ _|exact Kd.N_nil _ _ _ _ _|exact Kd.V_nil _ _ _ _ _|exact Kd.Q_nil _ _ _ _ _|exact Kd.R_nil _ _ _ _ _⟩,⟨by (with_reducible repeat (first|apply Kd.R_alloc|apply Kd.R_drewN|apply Kd.R_drew));exact Kd.R_mono (Kd.R_far (p := ⟨gb170,3,none⟩) (Kd.R_far (p := ⟨gb170,2,none⟩) (Kd.R_far (p := ⟨gb170,1,none⟩) (Kd.R_far (p := ⟨gb170,0,none⟩) (Kd.R_types HO169.out BK170.out (by decide)) (fun _ hk => hk.2) (.bool a0_0)) (fun _ hk => hk.2) (.slice none 0 0)) (fun _ hk => hk.2) (.slice none 0 0)) (fun _ hk => hk.2) (.slice Ao10 t167.length co10)) (fun _ hk => trivial)⟩,⟨kf_ BK165⟩,⟨kf_ BK166⟩,⟨pt4_ (kb_ BK170) _ _ _ _⟩,⟨b_⟩⟩
 case round =>
  clear H'
  try clear c1
  try clear p2
  try clear c3
  try clear c8
  try clear c15
  try clear c16
  try clear hcz17_0 hcz17_1 hcz17_2 hcz17_3
  try clear hfz17_0 hfz17_1 hfz17_2 hfz17_3
  obtain ⟨x17_1,x171001_1,u171001,rfl,HA,HK1,HO_171001,HO_171003,BK165,BK166,BK170,HB⟩ := hrel
  cases gk with
    | zero => exact absurd HA.out (by simp [impl_cloneMachine.l0])
    | succ k1 =>
   have H := HA.out
   clear HA
   simp only [impl_cloneMachine.l0] at H
   by_cases c18 : x17_1 < (l0_1.length : Int)
   ·rw [if_pos c18] at H
    have c18b0 : decide (x17_1 < (l0_1.length : Int)) = true := decide_eq_true c18
    clear c18
    by_cases c19 : 0 ≤ x17_1
    ·rw [if_pos c19] at H
     have c19b0 : decide (0 ≤ x17_1) = true := decide_eq_true c19
     clear c19
     by_cases c20 : x17_1 < (l0_1.length : Int)
     ·rw [if_pos c20] at H
      have c20b0 : decide (x17_1 < (l0_1.length : Int)) = true := decide_eq_true c20
      clear c20
      replace H := bs_ H
      obtain ⟨t173,A21,H⟩ := H
      by_cases c22 : x171001_1.length < 4398046511104
      ·rw [if_pos c22] at H
       have LMc22 := ak c22
       clear c22
       obtain ⟨y176,hy176⟩ : ∃ y_ : List (S83),y_ = (x171001_1 ++ [(⟨(rd_T83 l0_1 x17_1).f0,t173⟩ : S83)]) := ⟨_,rfl⟩
       replace H : (impl_cloneMachine.l0 k1 l0_1 (l0_1.length : Int) (wrap64 (x17_1 + 1)) a0_0 l0_1 l0_2 l0_3 a0_0 y176 t167) = some (r1,r2,r3,r4) := by first|(rw [hy176];with_reducible exact H)|(have H2_ := (Option.bind_some _ _).symm.trans H;rw [hy176];with_reducible exact H2_)|(have H2_ := (Option.bind_some _ _).symm.trans H;with_reducible exact H2_)|with_reducible exact H|(rw [hy176];exact H)|exact H
       have Ny176 := ak hy176
       clear hy176
       have H' := ak H
       clear H
       have p171 : 0 ≤ (x17_1 : Int) := od_
       have q171 : x17_1 < (l0_1.length : Int) := od_
       obtain ⟨ad171,A171_1,c171_1,e171,hx171_0,hx171_1,hl171_1,hi171_1⟩ := at_T83 HR0_1.out x17_1 p171 q171
       cases e171
       replace hx171_0 := hx_ HB hx171_0
       replace hx171_1 := hx_ HB hx171_1
       have HR171_1 := ak hi171_1
       have HC171_1 := ak hl171_1
       clear hi171_1 hl171_1
       replace p171 := eq_true p171
       replace q171 := eq_true q171
       try go_wp2_with (first|((with_reducible refine gate_dst (N := 5) rfl ?_);refine bx_ 5 #[.int .i64 0,.slice none 0 0] 83 ?_;intro gb172 hg w23 hbox hb;replace HO_171001 := ak (Kd.S_below (Kd.S_elderB (by (with_reducible repeat (first|apply Kd.S_alloc|apply Kd.S_drewN|apply Kd.S_drew));exact HO_171001.out) gb172 (Nat.le_of_eq hg.symm)) hb);replace HO_171003 := ak (Kd.R_below (by (with_reducible repeat (first|apply Kd.R_alloc|apply Kd.R_drewN|apply Kd.R_drew));exact HO_171003.out) hb);replace HB := nb_ hg hbox hb;obtain ⟨BK172,GW172,GE172,HB⟩ := HB;have NB165_172 := ak ((nl_ BK165 hg));have NB172_165 := ak ((ng_ BK165 hg));replace BK165 := ak (blk_below (kb_ BK165) hb);have NB166_172 := ak ((nl_ BK166 hg));have NB172_166 := ak ((ng_ BK166 hg));replace BK166 := ak (blk_below (kb_ BK166) hb);have NB170_172 := ak ((nl_ BK170 hg));have NB172_170 := ak ((ng_ BK170 hg));replace BK170 := ak (blk_below (kb_ BK170) hb);clear hb hbox hg;have hnb24 := NB172_165.out;have hnc24 := NB165_172.out;have hnb25 := NB172_166.out;have hnc25 := NB166_172.out;have hnb26 := NB172_170.out;have hnc26 := NB170_172.out;obtain ⟨⟨hcz27_0,hcz27_1⟩,hfz27_0,hfz27_1⟩ := cl2_ BK172.out))
       have n0_ : Aside0 (Kd.S k83 83 ((w23.setCell ⟨gb172,0,none⟩ (.int .i64 ((rd_T83 l0_1 x17_1).f0))).setCell ⟨gb172,1,none⟩ (.slice A171_1 ((rd_T83 l0_1 x17_1).f1).length c171_1)) w.heap.size (fun k_ => k_ ≠ gb172) u171001 x171001_1) := ⟨by (with_reducible repeat (first|apply Kd.S_alloc|apply Kd.S_drewN|apply Kd.S_drew));exact Kd.S_mono (Kd.S_far (p := ⟨gb172,1,none⟩) (Kd.S_far (p := ⟨gb172,0,none⟩) (Kd.S_mono HO_171001.out (fun k_ hk => (⟨hk,hk.2⟩ : _ ∧ k_ ≠ gb172))) (fun _ hk => hk.2) (.int .i64 ((rd_T83 l0_1 x17_1).f0))) (fun _ hk => hk.2) (.slice A171_1 ((rd_T83 l0_1 x17_1).f1).length c171_1)) (fun _ hk => hk.1.2)⟩
       have n1_ : Aside0 (Kd.R (Kd.int .i64) 2 ((w23.setCell ⟨gb172,0,none⟩ (.int .i64 ((rd_T83 l0_1 x17_1).f0))).setCell ⟨gb172,1,none⟩ (.slice A171_1 ((rd_T83 l0_1 x17_1).f1).length c171_1)) w.heap.size (fun _ => True) (.slice Ao10 t167.length co10) t167) := ⟨by (with_reducible repeat (first|apply Kd.R_alloc|apply Kd.R_drewN|apply Kd.R_drew));exact Kd.R_mono (Kd.R_far (p := ⟨gb172,1,none⟩) (Kd.R_far (p := ⟨gb172,0,none⟩) (Kd.R_types HO_171003.out BK172.out (by decide)) (fun _ hk => hk.2) (.int .i64 ((rd_T83 l0_1 x17_1).f0))) (fun _ hk => hk.2) (.slice A171_1 ((rd_T83 l0_1 x17_1).f1).length c171_1)) (fun _ hk => trivial)⟩
       have n2_ : Aside0 (((w23.setCell ⟨gb172,0,none⟩ (.int .i64 ((rd_T83 l0_1 x17_1).f0))).setCell ⟨gb172,1,none⟩ (.slice A171_1 ((rd_T83 l0_1 x17_1).f1).length c171_1)).heap[gb165]? = some (.cells #[.bool a0_0,.slice (some ad171) l0_1.length c0_1,.slice A0_2 l0_2.length c0_2,.slice A0_3 l0_3.length c0_3] 31 (0,0))) := ⟨kf_ BK165⟩
       have n3_ : Aside0 (((w23.setCell ⟨gb172,0,none⟩ (.int .i64 ((rd_T83 l0_1 x17_1).f0))).setCell ⟨gb172,1,none⟩ (.slice A171_1 ((rd_T83 l0_1 x17_1).f1).length c171_1)).heap[gb166]? = some (.cells #[.bool false,.slice none 0 0,.slice none 0 0,.slice none 0 0] 31 (0,0))) := ⟨kf_ BK166⟩
       have n4_ : Aside0 (((w23.setCell ⟨gb172,0,none⟩ (.int .i64 ((rd_T83 l0_1 x17_1).f0))).setCell ⟨gb172,1,none⟩ (.slice A171_1 ((rd_T83 l0_1 x17_1).f1).length c171_1)).heap[gb170]? = some (.cells #[.bool a0_0,u171001,.slice none 0 0,.slice Ao10 t167.length co10] 31 (0,0))) := ⟨kf_ BK170⟩
       have n5_ : Aside0 (((w23.setCell ⟨gb172,0,none⟩ (.int .i64 ((rd_T83 l0_1 x17_1).f0))).setCell ⟨gb172,1,none⟩ (.slice A171_1 ((rd_T83 l0_1 x17_1).f1).length c171_1)).heap[gb172]? = some (.cells #[.int .i64 ((rd_T83 l0_1 x17_1).f0),.slice A171_1 ((rd_T83 l0_1 x17_1).f1).length c171_1] 83 (0,0))) := ⟨pt2_ (kb_ BK172) _ _⟩
       have n6_ : Aside0 (Below w.heap.size w ((w23.setCell ⟨gb172,0,none⟩ (.int .i64 ((rd_T83 l0_1 x17_1).f0))).setCell ⟨gb172,1,none⟩ (.slice A171_1 ((rd_T83 l0_1 x17_1).f1).length c171_1))) := ⟨b_⟩
       (try clear HO_171001)
       (try clear HO_171003)
       (try clear BK165)
       (try clear BK166)
       (try clear BK170)
       (try clear BK172)
       (try clear HB)
       generalize ((w23.setCell ⟨gb172,0,none⟩ (.int .i64 ((rd_T83 l0_1 x17_1).f0))).setCell ⟨gb172,1,none⟩ (.slice A171_1 ((rd_T83 l0_1 x17_1).f1).length c171_1)) = w28 at n0_ n1_ n2_ n3_ n4_ n5_ n6_ ⊢
       have HO_171001 := n0_
       have HO_171003 := n1_
       have BK165 := n2_
       have BK166 := n3_
       have BK170 := n4_
       have BK172 := n5_
       have HB := n6_
       clear n0_ n1_ n2_ n3_ n4_ n5_ n6_
       replace HO_171001 := ak (Kd.S_drew HO_171001.out)
       replace HO_171003 := ak (Kd.R_drew HO_171003.out)
       replace BK165 := ak (blk_drew BK165.out)
       replace BK166 := ak (blk_drew BK166.out)
       replace BK170 := ak (blk_drew BK170.out)
       replace BK172 := ak (blk_drew BK172.out)
       replace HB := ak (below_drew1 HB.out)
       refine std_ 12 (S := fun w' => hc4 w' gb170 (.bool a0_0) (u171001) (.slice none 0 0) (.slice Ao10 t167.length co10) (hd2 w' gb172 (.int .i64 ((rd_T83 l0_1 x17_1).f0)) (.slice A171_1 ((rd_T83 l0_1 x17_1).f1).length c171_1))) (ds := [11]) hh_ (fun hHeld => ?_);refine with_tabW impl_cloneMachine.tab5 impl_cloneMachine.bits5 (fun HT_ HW_ => ?_)
       generalize w28.drew = w29 at HO_171001 HO_171003 BK165 BK166 BK170 BK172 HB hHeld ⊢
       refine pv_ 0 21 ?_
       refine pv_ 2 23 ?_
       refine pv_ 4 25 ?_
       refine tx_ 1 22 hHeld ?_
       refine tx_ 3 24 hHeld ?_
       refine tx_ 5 26 hHeld ?_
       refine oy_ 6 27 (fun K hK => ?_)
       refine gs_ Tryz.func63 #[.slice A171_1 ((rd_T83 l0_1 x17_1).f1).length c171_1] ?_
       with_reducible refine (impl_Cell_63.calls _ _ ((rd_T83 l0_1 x17_1).f1) t173 _ ?side1 ?side2 A21.out).mono ?_
       (case side1 => exact cb_ HR171_1)
       (case side2 => exact HC171_1.out)
       rintro e w30 ⟨v174,rfl,ho0,hb⟩
       refine ⟨_,rfl,?_⟩
       replace HO_171001 := ak (Kd.S_elder' (by (with_reducible repeat (first|apply Kd.S_alloc|apply Kd.S_drewN|apply Kd.S_drew));exact HO_171001.out) (Kd.R_base ho0) hb)
       replace HO_171003 := ak (Kd.R_below (by (with_reducible repeat (first|apply Kd.R_alloc|apply Kd.R_drewN|apply Kd.R_drew));exact HO_171003.out) hb)
       replace BK165 := ak (blk_below (kb_ BK165) hb)
       replace BK166 := ak (blk_below (kb_ BK166) hb)
       replace BK170 := ak (blk_below (kb_ BK170) hb)
       replace BK172 := ak (blk_below (kb_ BK172) hb)
       have HO175 := ak (Kd.R_lower ho0 (below_size b_))
       replace HB := ak (below_step b_ hb)
       (try clear hb)
       (try clear hb2)
       (try clear hk)
       (try clear hi)
       (try clear ho0)
       obtain ⟨Ao31,co31,eo31⟩ := Kd.R_slice HO175.out
       (first|subst eo31|(injection eo31 with f1_ f2_ f3_;have f4_ := f1_.symm;have f5_ := f3_.symm;clear f1_ f2_ f3_;subst f4_;subst f5_))
       refine hK.out _ _ hh_ (fun hHeld => ?_)
       clear hK K
       refine nr_ (some 27) _ ?_
       refine pv_ 7 28 ?_
       refine oy_ 8 29 (fun K hK => ?_)
       refine value_ (w1 := ?_) (v := ?_) (by rfl) rfl ?_ ?_
       rotate_left 2
       ·go_simp
        constructor
        ·rfl
        ·rfl
       refine hK.out _ _ ⟨(blk_cell (blk_alloc BK170.out _) 0).trans rfl,(blk_cell (blk_alloc BK170.out _) 1).trans rfl,(blk_cell (blk_alloc BK170.out _) 2).trans rfl,(blk_cell (blk_alloc BK170.out _) 3).trans rfl,(blk_cell (blk_alloc BK172.out _) 0).trans rfl,(blk_cell (blk_alloc BK172.out _) 1).trans rfl⟩ (fun hHeld => ?_)
       clear hK K
       refine nr_ (some 29) _ ?_
       refine oy_ 9 30 (fun K hK => ?_)
       refine Kd.S_append_step k83 (w0 := w) w.heap.size (by rfl) (.tmp 22) (.tmp 29) 28 83 (.agg #[(.int .i64 0),(.slice none 0 0)]) 32 rfl Tryz.underlying28 info83 rfl (by decide) (by omega) u171001 x171001_1 (⟨(rd_T83 l0_1 x17_1).f0,t173⟩ : S83) [.int .i64 ((rd_T83 l0_1 x17_1).f0),.slice Ao31 t173.length co31] (fun k_ => k_ ≠ gb172) (fun k_ => some k_ = (.slice Ao31 t173.length co31 : Value).ownBlock) rfl rfl ?aP (fun k_ hk_ => ((Kd.R_mono (ok' := fun k_ => ((fun k_ => k_ ≠ gb172)) k_ ∧ some k_ ≠ (u171001 : Value).ownBlock) (Kd.R_types (Kd.R_apart' (HO175.out) (Kd.S_typed HO_171001.out) (by decide)) BK172.out (by decide)) (fun k_ hk => ⟨hk.2,hk.1.2⟩))).1 k_ hk_.symm) ?aF ?aO ?aB ?aS ?aL ?_
       (case aP => exact k83_mkM _ _ _ (⟨(rd_T83 l0_1 x17_1).f0,t173⟩ : S83) (Kd.R_mono (Kd.R_tight rfl (Kd.R_mono (ok' := fun k_ => ((fun k_ => k_ ≠ gb172)) k_ ∧ some k_ ≠ (u171001 : Value).ownBlock) (Kd.R_types (Kd.R_apart' (HO175.out) (Kd.S_typed HO_171001.out) (by decide)) BK172.out (by decide)) (fun k_ hk => ⟨hk.2,hk.1.2⟩))) (fun _ h_ => h_)))
       (case aB => exact b_)
       (case aF => exact (fun k_ hk => Kd.freshB (kb_ BK172) k_ hk))
       (case aO => exact (by (with_reducible repeat (first|apply Kd.S_alloc|apply Kd.S_drewN|apply Kd.S_drew));exact Kd.S_mono HO_171001.out (fun k_ hk => ⟨hk.1,fun e_ => hk.2 e_⟩)))
       (case aS => exact (below_size b_))
       (case aL => have := LMc22.out;omega)
       intro v177 w32 ho hb hg hat
       rw [← Ny176.out] at ho
       replace HO_171003 := ak (Kd.R_over' (by (with_reducible repeat (first|apply Kd.R_alloc|apply Kd.R_drewN|apply Kd.R_drew));exact HO_171003.out) (Kd.S_typed (by (with_reducible repeat (first|apply Kd.S_alloc|apply Kd.S_drewN|apply Kd.S_drew));exact HO_171001.out)) (by decide) hg)
       replace BK165 := ak (blk_grown (kb_ BK165) hg (Kd.S_ne HO_171001.out BK165.out (by decide)))
       replace BK166 := ak (blk_grown (kb_ BK166) hg (Kd.S_ne HO_171001.out BK166.out (by decide)))
       replace BK170 := ak (blk_grown (kb_ BK170) hg (Kd.S_ne HO_171001.out BK170.out (by decide)))
       replace BK172 := ak (blk_grown (kb_ BK172) hg (Kd.S_away HO_171001.out (fun _ hk => hk.1)))
       replace HB := ak (hb)
       have HO178 := ak (ho)
       clear HO_171001 HO175
       clear ho hb hg hat
       obtain ⟨Ao33,co33,eo33⟩ := Kd.S_slice HO178.out
       (first|subst eo33|(injection eo33 with f1_ f2_ f3_;have f4_ := f1_.symm;have f5_ := f3_.symm;clear f1_ f2_ f3_;subst f4_;subst f5_))
       refine hK.out _ _ hh_ (fun hHeld => ?_)
       clear hK K
       refine nr_ (some 30) _ ?_
       refine pv_ 10 31 ?_
       refine last_ (i := 11) (N := none) #[true,true,true,true,true,true,true,true,true,true,true,true] rfl rfl (one_of HT_.out (by kernel_rfl)) (by decide) (fun K hK => ?_)
       have hs34 : w32.cell? ⟨gb170,1,none⟩ = some (u171001) := (blk_cell BK170.out 1).trans rfl
       have hfs34 := blk_frozen BK170.out 1
       have hns34_0 := NB165_170.out
       have hns34_1 := NB166_170.out
       have hns34_3 := NB172_170.out
       have hms34_0 := NB170_165.out
       have hms34_1 := NB170_166.out
       have hms34_3 := NB170_172.out
       refine skip_ (w1 := ?_) (by rfl) rfl ?_ ?_
       rotate_left
       ·go_simp
        rfl
       refine hK.out _ _ ?_
       clear hK K
       refine done_ (done_of HT_.out (by kernel_rfl)) ?_
       try go_wp2
       go_roundg k1
       case measure => have := HK1.out;omega
       case rel => exact ⟨(wrap64 (x17_1 + 1)),(y176),(.slice Ao33 y176.length co33),rs_,H',⟨by have := HK1.out;omega⟩,⟨by (with_reducible repeat (first|apply Kd.S_alloc|apply Kd.S_drewN|apply Kd.S_drew));exact Kd.S_mono (Kd.S_far (p := ⟨gb170,1,none⟩) (Kd.S_types HO178.out BK170.out (by decide)) (fun _ hk => hk.2) (.slice Ao33 y176.length co33)) (fun _ hk => trivial)⟩,⟨by (with_reducible repeat (first|apply Kd.R_alloc|apply Kd.R_drewN|apply Kd.R_drew));exact Kd.R_mono (Kd.R_far (p := ⟨gb170,1,none⟩) (Kd.R_types HO_171003.out BK170.out (by decide)) (fun _ hk => hk.2) (.slice Ao33 y176.length co33)) (fun _ hk => trivial)⟩,⟨kf_ BK165⟩,⟨kf_ BK166⟩,⟨by (with_reducible repeat (first|refine blk_drewN ?_ _|refine blk_drew ?_|refine blk_alloc ?_ _));refine blk_put (cs := #[.bool a0_0,u171001,.slice none 0 0,.slice Ao10 t167.length co10]) ?_ 1 _ rfl;(with_reducible repeat (first|refine blk_drewN ?_ _|refine blk_drew ?_|refine blk_alloc ?_ _));exact BK170.out⟩,⟨b_⟩⟩
      ·rw [if_neg c22] at H
       exact absurd H (by simp)
     ·rw [if_neg c20] at H
      exact absurd H (by simp)
    ·rw [if_neg c19] at H
     exact absurd H (by simp)
   ·rw [if_neg c18] at H
    have c18b0 : decide (x17_1 < (l0_1.length : Int)) = false := decide_eq_false c18
    clear c18
    have H' := ak H
    clear H
    have hnb35 := NB165_166.out
    have hnc35 := NB166_165.out
    have hnb36 := NB165_170.out
    have hnc36 := NB170_165.out
    obtain ⟨⟨hcz37_0,hcz37_1,hcz37_2,hcz37_3⟩,hfz37_0,hfz37_1,hfz37_2,hfz37_3⟩ := cl4_ BK165.out
    go_wp2
    go_loopg [36] k1 (fun kq v36 w' => ∃ (x36_2 : Int) (x171002_2 : List (S50)) (u171002 : Value),v36 = .int .i64 x36_2 ∧ Aside0 (impl_cloneMachine.l1 kq l0_2 (l0_2.length : Int) x36_2 a0_0 x171001_1 x171002_2 t167 = some (r1,r2,r3,r4)) ∧ Aside0 (kq ≤ k1) ∧ Aside0 (Kd.S k83 83 w' w.heap.size (fun _ => True) u171001 x171001_1) ∧ Aside0 (Kd.S k50 50 w' w.heap.size (fun _ => True) u171002 x171002_2) ∧ Aside0 (Kd.R (Kd.int .i64) 2 w' w.heap.size (fun _ => True) (.slice Ao10 t167.length co10) t167) ∧ Aside0 (w'.heap[gb165]? = some (.cells #[.bool a0_0,(.slice A0_1 l0_1.length c0_1),(.slice A0_2 l0_2.length c0_2),(.slice A0_3 l0_3.length c0_3)] 31 (0,0))) ∧ Aside0 (w'.heap[gb166]? = some (.cells #[.bool false,(.slice none 0 0),(.slice none 0 0),(.slice none 0 0)] 31 (0,0))) ∧ Aside0 (w'.heap[gb170]? = some (.cells #[.bool a0_0,u171001,u171002,(.slice Ao10 t167.length co10)] 31 (0,0))) ∧ Aside0 (Below w.heap.size w w'))
    case atStart => exact ⟨(0),(([] : List (S50))),(.slice none 0 0),rs_,H',⟨Nat.le_refl _⟩,⟨by (with_reducible repeat (first|apply Kd.S_alloc|apply Kd.S_drewN|apply Kd.S_drew));exact HO_171001.out⟩,⟨by first|exact Kd.S_nil _ _ _ _ _|exact Kd.N_nil _ _ _ _ _|exact Kd.V_nil _ _ _ _ _|exact Kd.Q_nil _ _ _ _ _|exact Kd.R_nil _ _ _ _ _⟩,⟨by (with_reducible repeat (first|apply Kd.R_alloc|apply Kd.R_drewN|apply Kd.R_drew));exact HO_171003.out⟩,⟨kb_ BK165⟩,⟨kb_ BK166⟩,⟨kb_ BK170⟩,⟨b_⟩⟩
    case round =>
     clear H'
     try clear c1
     try clear p1
     try clear q1
     try clear hx1
     try clear c2
     try clear p2
     try clear c3
     try clear c6
     try clear p6
     try clear c8
     try clear c15
     try clear c16
     try clear c17
     try clear p17
     try clear q17
     try clear hx17
     try clear c18
     try clear c18b0
     try clear c19
     try clear c19b0
     try clear c20
     try clear c20b0
     try clear c22
     try clear c24
     try clear c25
     try clear c26
     try clear c35
     try clear c36
     try clear hcz17_0 hcz17_1 hcz17_2 hcz17_3
     try clear hcz27_0 hcz27_1
     try clear hcz37_0 hcz37_1 hcz37_2 hcz37_3
     try clear hfz17_0 hfz17_1 hfz17_2 hfz17_3
     try clear hfz27_0 hfz27_1
     try clear hfz37_0 hfz37_1 hfz37_2 hfz37_3
     try clear hx171_0
     try clear hx171_1
     try clear p171
     try clear p2
     try clear q171
     obtain ⟨x36_2,x171002_2,u171002,rfl,HA,HK2,HO_171001,HO_171002,HO_171003,BK165,BK166,BK170,HB⟩ := hrel
     cases gk with
     | zero => exact absurd HA.out (by simp [impl_cloneMachine.l1])
     | succ k2 =>
      have H := HA.out
      clear HA
      simp only [impl_cloneMachine.l1] at H
      by_cases c38 : x36_2 < (l0_2.length : Int)
      ·rw [if_pos c38] at H
       have c38b0 : decide (x36_2 < (l0_2.length : Int)) = true := decide_eq_true c38
       clear c38
       by_cases c39 : 0 ≤ x36_2
       ·rw [if_pos c39] at H
        have c39b0 : decide (0 ≤ x36_2) = true := decide_eq_true c39
        clear c39
        by_cases c40 : x36_2 < (l0_2.length : Int)
        ·rw [if_pos c40] at H
         have c40b0 : decide (x36_2 < (l0_2.length : Int)) = true := decide_eq_true c40
         clear c40
         replace H := Option.bind_eq_some_iff.mp H
         obtain ⟨⟨t181,t182,t183,t184⟩,A410,H⟩ := H
         replace H : (if x171002_2.length < 2932031007402 then (impl_cloneMachine.l1 k2 l0_2 (l0_2.length : Int) (wrap64 (x36_2 + 1)) a0_0 x171001_1 (x171002_2 ++ [(⟨t181,t182,t183,t184⟩ : S50)]) t167) else (none)) = some (r1,r2,r3,r4) := H
         have A41 := ak A410
         clear A410
         by_cases c42 : x171002_2.length < 2932031007402
         ·rw [if_pos c42] at H
          have LMc42 := ak c42
          clear c42
          obtain ⟨y187,hy187⟩ : ∃ y_ : List (S50),y_ = (x171002_2 ++ [(⟨t181,t182,t183,t184⟩ : S50)]) := ⟨_,rfl⟩
          replace H : (impl_cloneMachine.l1 k2 l0_2 (l0_2.length : Int) (wrap64 (x36_2 + 1)) a0_0 x171001_1 y187 t167) = some (r1,r2,r3,r4) := by first|(rw [hy187];with_reducible exact H)|(have H2_ := (Option.bind_some _ _).symm.trans H;rw [hy187];with_reducible exact H2_)|(have H2_ := (Option.bind_some _ _).symm.trans H;with_reducible exact H2_)|with_reducible exact H|(rw [hy187];exact H)|exact H
          have Ny187 := ak hy187
          clear hy187
          have H' := ak H
          clear H
          have p179 : 0 ≤ (x36_2 : Int) := od_
          have q179 : x36_2 < (l0_2.length : Int) := od_
          obtain ⟨ad179,A179_3,c179_3,e179,hx179_0,hx179_1,hx179_2,hx179_3,hl179_3,hi179_3⟩ := at_T50 HR0_2.out x36_2 p179 q179
          cases e179
          replace hx179_0 := hx_ HB hx179_0
          replace hx179_1 := hx_ HB hx179_1
          replace hx179_2 := hx_ HB hx179_2
          replace hx179_3 := hx_ HB hx179_3
          have HR179_3 := ak hi179_3
          have HC179_3 := ak hl179_3
          clear hi179_3 hl179_3
          replace p179 := eq_true p179
          replace q179 := eq_true q179
          try go_wp2_with (first|((with_reducible refine gate_dst (N := 7) rfl ?_);refine bx_ 7 #[.int .i64 0,.int .i64 0,.int .i64 0,.slice none 0 0] 50 ?_;intro gb180 hg w43 hbox hb;replace HO_171001 := ak (Kd.S_below (by (with_reducible repeat (first|apply Kd.S_alloc|apply Kd.S_drewN|apply Kd.S_drew));exact HO_171001.out) hb);replace HO_171002 := ak (Kd.S_below (Kd.S_elderB (by (with_reducible repeat (first|apply Kd.S_alloc|apply Kd.S_drewN|apply Kd.S_drew));exact HO_171002.out) gb180 (Nat.le_of_eq hg.symm)) hb);replace HO_171003 := ak (Kd.R_below (by (with_reducible repeat (first|apply Kd.R_alloc|apply Kd.R_drewN|apply Kd.R_drew));exact HO_171003.out) hb);replace HB := nb_ hg hbox hb;obtain ⟨BK180,GW180,GE180,HB⟩ := HB;have NB165_180 := ak ((nl_ BK165 hg));have NB180_165 := ak ((ng_ BK165 hg));replace BK165 := ak (blk_below (kb_ BK165) hb);have NB166_180 := ak ((nl_ BK166 hg));have NB180_166 := ak ((ng_ BK166 hg));replace BK166 := ak (blk_below (kb_ BK166) hb);have NB170_180 := ak ((nl_ BK170 hg));have NB180_170 := ak ((ng_ BK170 hg));replace BK170 := ak (blk_below (kb_ BK170) hb);clear hb hbox hg;have hnb44 := NB180_165.out;have hnc44 := NB165_180.out;have hnb45 := NB180_166.out;have hnc45 := NB166_180.out;have hnb46 := NB180_170.out;have hnc46 := NB170_180.out;obtain ⟨⟨hcz47_0,hcz47_1,hcz47_2,hcz47_3⟩,hfz47_0,hfz47_1,hfz47_2,hfz47_3⟩ := cl4_ BK180.out))
          have n0_ : Aside0 (Kd.S k83 83 ((((w43.setCell ⟨gb180,0,none⟩ (.int .i64 ((rd_T50 l0_2 x36_2).f0))).setCell ⟨gb180,1,none⟩ (.int .i64 ((rd_T50 l0_2 x36_2).f1))).setCell ⟨gb180,2,none⟩ (.int .i64 ((rd_T50 l0_2 x36_2).f2))).setCell ⟨gb180,3,none⟩ (.slice A179_3 ((rd_T50 l0_2 x36_2).f3).length c179_3)) w.heap.size (fun _ => True) u171001 x171001_1) := ⟨by (with_reducible repeat (first|apply Kd.S_alloc|apply Kd.S_drewN|apply Kd.S_drew));exact Kd.S_mono (Kd.S_far (p := ⟨gb180,3,none⟩) (Kd.S_far (p := ⟨gb180,2,none⟩) (Kd.S_far (p := ⟨gb180,1,none⟩) (Kd.S_far (p := ⟨gb180,0,none⟩) (Kd.S_types HO_171001.out BK180.out (by decide)) (fun _ hk => hk.2) (.int .i64 ((rd_T50 l0_2 x36_2).f0))) (fun _ hk => hk.2) (.int .i64 ((rd_T50 l0_2 x36_2).f1))) (fun _ hk => hk.2) (.int .i64 ((rd_T50 l0_2 x36_2).f2))) (fun _ hk => hk.2) (.slice A179_3 ((rd_T50 l0_2 x36_2).f3).length c179_3)) (fun _ hk => trivial)⟩
          have n1_ : Aside0 (Kd.S k50 50 ((((w43.setCell ⟨gb180,0,none⟩ (.int .i64 ((rd_T50 l0_2 x36_2).f0))).setCell ⟨gb180,1,none⟩ (.int .i64 ((rd_T50 l0_2 x36_2).f1))).setCell ⟨gb180,2,none⟩ (.int .i64 ((rd_T50 l0_2 x36_2).f2))).setCell ⟨gb180,3,none⟩ (.slice A179_3 ((rd_T50 l0_2 x36_2).f3).length c179_3)) w.heap.size (fun k_ => k_ ≠ gb180) u171002 x171002_2) := ⟨by (with_reducible repeat (first|apply Kd.S_alloc|apply Kd.S_drewN|apply Kd.S_drew));exact Kd.S_mono (Kd.S_far (p := ⟨gb180,3,none⟩) (Kd.S_far (p := ⟨gb180,2,none⟩) (Kd.S_far (p := ⟨gb180,1,none⟩) (Kd.S_far (p := ⟨gb180,0,none⟩) (Kd.S_mono HO_171002.out (fun k_ hk => (⟨hk,hk.2⟩ : _ ∧ k_ ≠ gb180))) (fun _ hk => hk.2) (.int .i64 ((rd_T50 l0_2 x36_2).f0))) (fun _ hk => hk.2) (.int .i64 ((rd_T50 l0_2 x36_2).f1))) (fun _ hk => hk.2) (.int .i64 ((rd_T50 l0_2 x36_2).f2))) (fun _ hk => hk.2) (.slice A179_3 ((rd_T50 l0_2 x36_2).f3).length c179_3)) (fun _ hk => hk.1.2)⟩
          have n2_ : Aside0 (Kd.R (Kd.int .i64) 2 ((((w43.setCell ⟨gb180,0,none⟩ (.int .i64 ((rd_T50 l0_2 x36_2).f0))).setCell ⟨gb180,1,none⟩ (.int .i64 ((rd_T50 l0_2 x36_2).f1))).setCell ⟨gb180,2,none⟩ (.int .i64 ((rd_T50 l0_2 x36_2).f2))).setCell ⟨gb180,3,none⟩ (.slice A179_3 ((rd_T50 l0_2 x36_2).f3).length c179_3)) w.heap.size (fun _ => True) (.slice Ao10 t167.length co10) t167) := ⟨by (with_reducible repeat (first|apply Kd.R_alloc|apply Kd.R_drewN|apply Kd.R_drew));exact Kd.R_mono (Kd.R_far (p := ⟨gb180,3,none⟩) (Kd.R_far (p := ⟨gb180,2,none⟩) (Kd.R_far (p := ⟨gb180,1,none⟩) (Kd.R_far (p := ⟨gb180,0,none⟩) (Kd.R_types HO_171003.out BK180.out (by decide)) (fun _ hk => hk.2) (.int .i64 ((rd_T50 l0_2 x36_2).f0))) (fun _ hk => hk.2) (.int .i64 ((rd_T50 l0_2 x36_2).f1))) (fun _ hk => hk.2) (.int .i64 ((rd_T50 l0_2 x36_2).f2))) (fun _ hk => hk.2) (.slice A179_3 ((rd_T50 l0_2 x36_2).f3).length c179_3)) (fun _ hk => trivial)⟩
          have n3_ : Aside0 (((((w43.setCell ⟨gb180,0,none⟩ (.int .i64 ((rd_T50 l0_2 x36_2).f0))).setCell ⟨gb180,1,none⟩ (.int .i64 ((rd_T50 l0_2 x36_2).f1))).setCell ⟨gb180,2,none⟩ (.int .i64 ((rd_T50 l0_2 x36_2).f2))).setCell ⟨gb180,3,none⟩ (.slice A179_3 ((rd_T50 l0_2 x36_2).f3).length c179_3)).heap[gb165]? = some (.cells #[.bool a0_0,.slice A0_1 l0_1.length c0_1,.slice (some ad179) l0_2.length c0_2,.slice A0_3 l0_3.length c0_3] 31 (0,0))) := ⟨kf_ BK165⟩
          have n4_ : Aside0 (((((w43.setCell ⟨gb180,0,none⟩ (.int .i64 ((rd_T50 l0_2 x36_2).f0))).setCell ⟨gb180,1,none⟩ (.int .i64 ((rd_T50 l0_2 x36_2).f1))).setCell ⟨gb180,2,none⟩ (.int .i64 ((rd_T50 l0_2 x36_2).f2))).setCell ⟨gb180,3,none⟩ (.slice A179_3 ((rd_T50 l0_2 x36_2).f3).length c179_3)).heap[gb166]? = some (.cells #[.bool false,.slice none 0 0,.slice none 0 0,.slice none 0 0] 31 (0,0))) := ⟨kf_ BK166⟩
          have n5_ : Aside0 (((((w43.setCell ⟨gb180,0,none⟩ (.int .i64 ((rd_T50 l0_2 x36_2).f0))).setCell ⟨gb180,1,none⟩ (.int .i64 ((rd_T50 l0_2 x36_2).f1))).setCell ⟨gb180,2,none⟩ (.int .i64 ((rd_T50 l0_2 x36_2).f2))).setCell ⟨gb180,3,none⟩ (.slice A179_3 ((rd_T50 l0_2 x36_2).f3).length c179_3)).heap[gb170]? = some (.cells #[.bool a0_0,u171001,u171002,.slice Ao10 t167.length co10] 31 (0,0))) := ⟨kf_ BK170⟩
          have n6_ : Aside0 (((((w43.setCell ⟨gb180,0,none⟩ (.int .i64 ((rd_T50 l0_2 x36_2).f0))).setCell ⟨gb180,1,none⟩ (.int .i64 ((rd_T50 l0_2 x36_2).f1))).setCell ⟨gb180,2,none⟩ (.int .i64 ((rd_T50 l0_2 x36_2).f2))).setCell ⟨gb180,3,none⟩ (.slice A179_3 ((rd_T50 l0_2 x36_2).f3).length c179_3)).heap[gb180]? = some (.cells #[.int .i64 ((rd_T50 l0_2 x36_2).f0),.int .i64 ((rd_T50 l0_2 x36_2).f1),.int .i64 ((rd_T50 l0_2 x36_2).f2),.slice A179_3 ((rd_T50 l0_2 x36_2).f3).length c179_3] 50 (0,0))) := ⟨pt4_ (kb_ BK180) _ _ _ _⟩
          have n7_ : Aside0 (Below w.heap.size w ((((w43.setCell ⟨gb180,0,none⟩ (.int .i64 ((rd_T50 l0_2 x36_2).f0))).setCell ⟨gb180,1,none⟩ (.int .i64 ((rd_T50 l0_2 x36_2).f1))).setCell ⟨gb180,2,none⟩ (.int .i64 ((rd_T50 l0_2 x36_2).f2))).setCell ⟨gb180,3,none⟩ (.slice A179_3 ((rd_T50 l0_2 x36_2).f3).length c179_3))) := ⟨b_⟩
          (try clear HO_171001)
          (try clear HO_171002)
          (try clear HO_171003)
          (try clear BK165)
          (try clear BK166)
          (try clear BK170)
          (try clear BK180)
          (try clear HB)
          generalize ((((w43.setCell ⟨gb180,0,none⟩ (.int .i64 ((rd_T50 l0_2 x36_2).f0))).setCell ⟨gb180,1,none⟩ (.int .i64 ((rd_T50 l0_2 x36_2).f1))).setCell ⟨gb180,2,none⟩ (.int .i64 ((rd_T50 l0_2 x36_2).f2))).setCell ⟨gb180,3,none⟩ (.slice A179_3 ((rd_T50 l0_2 x36_2).f3).length c179_3)) = w48 at n0_ n1_ n2_ n3_ n4_ n5_ n6_ n7_ ⊢
          have HO_171001 := n0_
          have HO_171002 := n1_
          have HO_171003 := n2_
          have BK165 := n3_
          have BK166 := n4_
          have BK170 := n5_
          have BK180 := n6_
          have HB := n7_
          clear n0_ n1_ n2_ n3_ n4_ n5_ n6_ n7_
          replace HO_171001 := ak (Kd.S_drew HO_171001.out)
          replace HO_171002 := ak (Kd.S_drew HO_171002.out)
          replace HO_171003 := ak (Kd.R_drew HO_171003.out)
          replace BK165 := ak (blk_drew BK165.out)
          replace BK166 := ak (blk_drew BK166.out)
          replace BK170 := ak (blk_drew BK170.out)
          replace BK180 := ak (blk_drew BK180.out)
          replace HB := ak (below_drew1 HB.out)
          refine std_ 8 (S := fun w' => hc4 w' gb170 (.bool a0_0) (u171001) (u171002) (.slice Ao10 t167.length co10) (hd4 w' gb180 (.int .i64 ((rd_T50 l0_2 x36_2).f0)) (.int .i64 ((rd_T50 l0_2 x36_2).f1)) (.int .i64 ((rd_T50 l0_2 x36_2).f2)) (.slice A179_3 ((rd_T50 l0_2 x36_2).f3).length c179_3))) (ds := [7]) hh_ (fun hHeld => ?_);refine with_tabW impl_cloneMachine.tab10 impl_cloneMachine.bits10 (fun HT_ HW_ => ?_)
          generalize w48.drew = w49 at HO_171001 HO_171002 HO_171003 BK165 BK166 BK170 BK180 HB hHeld ⊢
          refine pv_ 0 40 ?_
          refine tx_ 1 41 hHeld ?_
          refine tx_ 2 42 hHeld ?_
          refine oy_ 3 43 (fun K hK => ?_)
          refine gs_ Tryz.func70 #[.agg #[.int .i64 ((rd_T50 l0_2 x36_2).f0),.int .i64 ((rd_T50 l0_2 x36_2).f1),.int .i64 ((rd_T50 l0_2 x36_2).f2),.slice A179_3 ((rd_T50 l0_2 x36_2).f3).length c179_3]] ?_
          with_reducible refine (impl_cloneRecord.calls ((rd_T50 l0_2 x36_2).f0) ((rd_T50 l0_2 x36_2).f1) ((rd_T50 l0_2 x36_2).f2) _ _ ((rd_T50 l0_2 x36_2).f3) t181 t182 t183 t184 _ ?side1 ?side2 A41.out).mono ?_
          (case side1 => exact cb_ HR179_3)
          (case side2 => exact HC179_3.out)
          rintro e w50 ⟨v185,rfl,ho0,hb⟩
          refine ⟨_,rfl,?_⟩
          replace HO_171001 := ak (Kd.S_below (by (with_reducible repeat (first|apply Kd.S_alloc|apply Kd.S_drewN|apply Kd.S_drew));exact HO_171001.out) hb)
          replace HO_171002 := ak (Kd.S_elder' (by (with_reducible repeat (first|apply Kd.S_alloc|apply Kd.S_drewN|apply Kd.S_drew));exact HO_171002.out) (Kd.R_base ho0) hb)
          replace HO_171003 := ak (Kd.R_below (by (with_reducible repeat (first|apply Kd.R_alloc|apply Kd.R_drewN|apply Kd.R_drew));exact HO_171003.out) hb)
          replace BK165 := ak (blk_below (kb_ BK165) hb)
          replace BK166 := ak (blk_below (kb_ BK166) hb)
          replace BK170 := ak (blk_below (kb_ BK170) hb)
          replace BK180 := ak (blk_below (kb_ BK180) hb)
          have HO186 := ak (Kd.R_lower ho0 (below_size b_))
          replace HB := ak (below_step b_ hb)
          (try clear hb)
          (try clear hb2)
          (try clear hk)
          (try clear hi)
          (try clear ho0)
          obtain ⟨Ao52,co52,eo52⟩ := Kd.R_slice HO186.out
          (first|subst eo52|(injection eo52 with f1_ f2_ f3_;have f4_ := f1_.symm;have f5_ := f3_.symm;clear f1_ f2_ f3_;subst f4_;subst f5_))
          refine hK.out _ _ hh_ (fun hHeld => ?_)
          clear hK K
          refine nr_ (some 43) _ ?_
          refine oy_ 4 44 (fun K hK => ?_)
          refine value_ (w1 := ?_) (v := ?_) (by rfl) rfl ?_ ?_
          rotate_left 2
          ·go_simp
           constructor
           ·rfl
           ·rfl
          refine hK.out _ _ ⟨(blk_cell (blk_alloc BK170.out _) 0).trans rfl,(blk_cell (blk_alloc BK170.out _) 1).trans rfl,(blk_cell (blk_alloc BK170.out _) 2).trans rfl,(blk_cell (blk_alloc BK170.out _) 3).trans rfl,(blk_cell (blk_alloc BK180.out _) 0).trans rfl,(blk_cell (blk_alloc BK180.out _) 1).trans rfl,(blk_cell (blk_alloc BK180.out _) 2).trans rfl,(blk_cell (blk_alloc BK180.out _) 3).trans rfl⟩ (fun hHeld => ?_)
          clear hK K
          refine nr_ (some 44) _ ?_
          refine oy_ 5 45 (fun K hK => ?_)
          refine Kd.S_append_step k50 (w0 := w) w.heap.size (by rfl) (.tmp 41) (.tmp 44) 29 50 (.agg #[(.int .i64 0),(.int .i64 0),(.int .i64 0),(.slice none 0 0)]) 48 rfl Tryz.underlying29 info50 rfl (by decide) (by omega) u171002 x171002_2 (⟨t181,t182,t183,t184⟩ : S50) [.int .i64 t181,.int .i64 t182,.int .i64 t183,.slice Ao52 t184.length co52] (fun k_ => k_ ≠ gb180) (fun k_ => some k_ = (.slice Ao52 t184.length co52 : Value).ownBlock) rfl rfl ?aP (fun k_ hk_ => ((Kd.R_mono (ok' := fun k_ => ((fun k_ => k_ ≠ gb180)) k_ ∧ some k_ ≠ (u171002 : Value).ownBlock) (Kd.R_types (Kd.R_apart' (HO186.out) (Kd.S_typed HO_171002.out) (by decide)) BK180.out (by decide)) (fun k_ hk => ⟨hk.2,hk.1.2⟩))).1 k_ hk_.symm) ?aF ?aO ?aB ?aS ?aL ?_
          (case aP => exact k50_mkM _ _ _ (⟨t181,t182,t183,t184⟩ : S50) (Kd.R_mono (Kd.R_tight rfl (Kd.R_mono (ok' := fun k_ => ((fun k_ => k_ ≠ gb180)) k_ ∧ some k_ ≠ (u171002 : Value).ownBlock) (Kd.R_types (Kd.R_apart' (HO186.out) (Kd.S_typed HO_171002.out) (by decide)) BK180.out (by decide)) (fun k_ hk => ⟨hk.2,hk.1.2⟩))) (fun _ h_ => h_)))
          (case aB => exact b_)
          (case aF => exact (fun k_ hk => Kd.freshB (kb_ BK180) k_ hk))
          (case aO => exact (by (with_reducible repeat (first|apply Kd.S_alloc|apply Kd.S_drewN|apply Kd.S_drew));exact Kd.S_mono HO_171002.out (fun k_ hk => ⟨hk.1,fun e_ => hk.2 e_⟩)))
          (case aS => exact (below_size b_))
          (case aL => have := LMc42.out;omega)
          intro v188 w51 ho hb hg hat
          rw [← Ny187.out] at ho
          replace HO_171001 := ak (Kd.S_over' (by (with_reducible repeat (first|apply Kd.S_alloc|apply Kd.S_drewN|apply Kd.S_drew));exact HO_171001.out) (Kd.S_typed (by (with_reducible repeat (first|apply Kd.S_alloc|apply Kd.S_drewN|apply Kd.S_drew));exact HO_171002.out)) (by decide) hg)
          replace HO_171003 := ak (Kd.R_over' (by (with_reducible repeat (first|apply Kd.R_alloc|apply Kd.R_drewN|apply Kd.R_drew));exact HO_171003.out) (Kd.S_typed (by (with_reducible repeat (first|apply Kd.S_alloc|apply Kd.S_drewN|apply Kd.S_drew));exact HO_171002.out)) (by decide) hg)
          replace BK165 := ak (blk_grown (kb_ BK165) hg (Kd.S_ne HO_171002.out BK165.out (by decide)))
          replace BK166 := ak (blk_grown (kb_ BK166) hg (Kd.S_ne HO_171002.out BK166.out (by decide)))
          replace BK170 := ak (blk_grown (kb_ BK170) hg (Kd.S_ne HO_171002.out BK170.out (by decide)))
          replace BK180 := ak (blk_grown (kb_ BK180) hg (Kd.S_away HO_171002.out (fun _ hk => hk.1)))
          replace HB := ak (hb)
          have HO189 := ak (ho)
          clear HO_171002 HO186
          clear ho hb hg hat
          obtain ⟨Ao53,co53,eo53⟩ := Kd.S_slice HO189.out
          (first|subst eo53|(injection eo53 with f1_ f2_ f3_;have f4_ := f1_.symm;have f5_ := f3_.symm;clear f1_ f2_ f3_;subst f4_;subst f5_))
          refine hK.out _ _ hh_ (fun hHeld => ?_)
          clear hK K
          refine nr_ (some 45) _ ?_
          refine pv_ 6 46 ?_
          refine last_ (i := 7) (N := none) #[true,true,true,true,true,true,true,true] rfl rfl (one_of HT_.out (by kernel_rfl)) (by decide) (fun K hK => ?_)
          have hs54 : w51.cell? ⟨gb170,2,none⟩ = some (u171002) := (blk_cell BK170.out 2).trans rfl
          have hfs54 := blk_frozen BK170.out 2
          have hns54_0 := NB165_170.out
          have hns54_1 := NB166_170.out
          have hns54_3 := NB180_170.out
          have hms54_0 := NB170_165.out
          have hms54_1 := NB170_166.out
          have hms54_3 := NB170_180.out
          refine skip_ (w1 := ?_) (by rfl) rfl ?_ ?_
          rotate_left
          ·go_simp
           rfl
          refine hK.out _ _ ?_
          clear hK K
          refine done_ (done_of HT_.out (by kernel_rfl)) ?_
          try go_wp2
          go_roundg k2
          case measure => have := HK1.out;have := HK2.out;omega
          case rel => exact ⟨(wrap64 (x36_2 + 1)),(y187),(.slice Ao53 y187.length co53),rs_,H',⟨by have := HK1.out;have := HK2.out;omega⟩,⟨by (with_reducible repeat (first|apply Kd.S_alloc|apply Kd.S_drewN|apply Kd.S_drew));exact Kd.S_mono (Kd.S_far (p := ⟨gb170,2,none⟩) (Kd.S_types HO_171001.out BK170.out (by decide)) (fun _ hk => hk.2) (.slice Ao53 y187.length co53)) (fun _ hk => trivial)⟩,⟨by (with_reducible repeat (first|apply Kd.S_alloc|apply Kd.S_drewN|apply Kd.S_drew));exact Kd.S_mono (Kd.S_far (p := ⟨gb170,2,none⟩) (Kd.S_types HO189.out BK170.out (by decide)) (fun _ hk => hk.2) (.slice Ao53 y187.length co53)) (fun _ hk => trivial)⟩,⟨by (with_reducible repeat (first|apply Kd.R_alloc|apply Kd.R_drewN|apply Kd.R_drew));exact Kd.R_mono (Kd.R_far (p := ⟨gb170,2,none⟩) (Kd.R_types HO_171003.out BK170.out (by decide)) (fun _ hk => hk.2) (.slice Ao53 y187.length co53)) (fun _ hk => trivial)⟩,⟨kf_ BK165⟩,⟨kf_ BK166⟩,⟨by (with_reducible repeat (first|refine blk_drewN ?_ _|refine blk_drew ?_|refine blk_alloc ?_ _));refine blk_put (cs := #[.bool a0_0,u171001,u171002,.slice Ao10 t167.length co10]) ?_ 2 _ rfl;(with_reducible repeat (first|refine blk_drewN ?_ _|refine blk_drew ?_|refine blk_alloc ?_ _));exact BK170.out⟩,⟨b_⟩⟩
         ·rw [if_neg c42] at H
          exact absurd H (by simp)
        ·rw [if_neg c40] at H
         exact absurd H (by simp)
       ·rw [if_neg c39] at H
        exact absurd H (by simp)
      ·rw [if_neg c38] at H
       have c38b0 : decide (x36_2 < (l0_2.length : Int)) = false := decide_eq_false c38
       clear c38
       simp only [Option.some.injEq,Prod.mk.injEq] at H
       obtain ⟨rfl,rfl,rfl,rfl⟩ := H
       have hnb55 := NB170_165.out
       have hnc55 := NB165_170.out
       have hnb56 := NB170_166.out
       have hnc56 := NB166_170.out
       obtain ⟨⟨hcz57_0,hcz57_1,hcz57_2,hcz57_3⟩,hfz57_0,hfz57_1,hfz57_2,hfz57_3⟩ := cl4_ BK170.out
       have hnb58 := NB166_165.out
       have hnc58 := NB165_166.out
       obtain ⟨⟨hcz59_0,hcz59_1,hcz59_2,hcz59_3⟩,hfz59_0,hfz59_1,hfz59_2,hfz59_3⟩ := cl4_ BK166.out
       obtain ⟨Ao60,co60,eo60⟩ := Kd.S_slice HO_171001.out
       subst eo60
       obtain ⟨Ao61,co61,eo61⟩ := Kd.S_slice HO_171002.out
       subst eo61
       go_wp2
       refine bodyPost_ret (results_cell_row rfl _ _ gb166 31 #[.bool a0_0,.slice Ao60 x171001_1.length co60,.slice Ao61 x171002_2.length co61,.slice Ao10 t167.length co10] (0,0) _ rfl (pt4_ (kb_ BK166) _ _ _ _) Tryz.underlying31 rfl (by kernel_rfl)) rfl ?_
       exact ⟨_,_,_,rf_,by (with_reducible repeat (first|apply Kd.S_alloc|apply Kd.S_drewN|apply Kd.S_drew));exact Kd.S_mono (Kd.S_far (p := ⟨gb166,3,none⟩) (Kd.S_far (p := ⟨gb166,2,none⟩) (Kd.S_far (p := ⟨gb166,1,none⟩) (Kd.S_far (p := ⟨gb166,0,none⟩) (Kd.S_types HO_171001.out BK166.out (by decide)) (fun _ hk => hk.2) (.bool a0_0)) (fun _ hk => hk.2) (.slice Ao60 x171001_1.length co60)) (fun _ hk => hk.2) (.slice Ao61 x171002_2.length co61)) (fun _ hk => hk.2) (.slice Ao10 t167.length co10)) (fun _ hk => trivial),by (with_reducible repeat (first|apply Kd.S_alloc|apply Kd.S_drewN|apply Kd.S_drew));exact Kd.S_mono (Kd.S_far (p := ⟨gb166,3,none⟩) (Kd.S_far (p := ⟨gb166,2,none⟩) (Kd.S_far (p := ⟨gb166,1,none⟩) (Kd.S_far (p := ⟨gb166,0,none⟩) (Kd.S_types HO_171002.out BK166.out (by decide)) (fun _ hk => hk.2) (.bool a0_0)) (fun _ hk => hk.2) (.slice Ao60 x171001_1.length co60)) (fun _ hk => hk.2) (.slice Ao61 x171002_2.length co61)) (fun _ hk => hk.2) (.slice Ao10 t167.length co10)) (fun _ hk => trivial),by (with_reducible repeat (first|apply Kd.R_alloc|apply Kd.R_drewN|apply Kd.R_drew));exact Kd.R_mono (Kd.R_far (p := ⟨gb166,3,none⟩) (Kd.R_far (p := ⟨gb166,2,none⟩) (Kd.R_far (p := ⟨gb166,1,none⟩) (Kd.R_far (p := ⟨gb166,0,none⟩) (Kd.R_types HO_171003.out BK166.out (by decide)) (fun _ hk => hk.2) (.bool a0_0)) (fun _ hk => hk.2) (.slice Ao60 x171001_1.length co60)) (fun _ hk => hk.2) (.slice Ao61 x171002_2.length co61)) (fun _ hk => hk.2) (.slice Ao10 t167.length co10)) (fun _ hk => trivial),b_⟩

end Go.Proofs.YthplaakckfhaaaaGreat.XMs
