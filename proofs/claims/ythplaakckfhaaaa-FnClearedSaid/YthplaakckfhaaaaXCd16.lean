/- Proved: of each Go function here that a call comes to what the Lean function of its name tells. Written by a program of this session over the translation. No conditions beyond each theorem's own. -/
import Derived.Test.YthplaakckfhaaaaXCd0
import Derived.Test.YthplaakckfhaaaaXCd7
import Derived.Test.YthplaakckfhaaaaXCd15
namespace Go.Proofs.Ythplaakckfhaaaa.XCd
open Go.RowKit Go.Proofs.Ythplaakckfhaaaa.Aid Go.Proofs.YthplaakckfhaaaaW.PrintWords Go.Proofs.YthplaakckfhaaaaW.PrintLast Go.Proofs.YthplaakckfhaaaaW.PrintMore
set_option linter.unusedVariables false
set_option linter.unusedSimpArgs false

/-! ### impl_cloneMachine: function 76 -/
mutual
def impl_cloneMachine.l0 : Nat → List (S79) → Int → Int → Bool → List (S79) → List (S45) → List Int → Bool → List (S79) → List Int → Option (Bool × (List (S79)) × (List (S45)) × List Int)
  | 0, _, _, _, _, _, _, _, _, _, _ => none
  | k + 1, x15, x16, x17, x249000, x249001, x249002, x249003, x254000, x254001, x254003 => if x17 < x16 then (if 0 ≤ x17 then (if x17 < (x15.length : Int) then ((impl_Cell_60.f ((rd_T79 x15 x17).f1)).bind fun t256 => (if x254001.length < 4398046511104 then (impl_cloneMachine.l0 k x15 x16 (wrap64 (x17 + 1)) x249000 x249001 x249002 x249003 x254000 (x254001 ++ [(⟨(rd_T79 x15 x17).f0, t256⟩ : S79)]) x254003) else (none))) else (none)) else (none)) else (impl_cloneMachine.l1 k x249002 (x249002.length : Int) 0 x254000 x254001 ([] : List (S45)) x254003)
def impl_cloneMachine.l1 : Nat → List (S45) → Int → Int → Bool → List (S79) → List (S45) → List Int → Option (Bool × (List (S79)) × (List (S45)) × List Int)
  | 0, _, _, _, _, _, _, _ => none
  | k + 1, x34, x35, x36, x254000, x254001, x254002, x254003 => if x36 < x35 then (if 0 ≤ x36 then (if x36 < (x34.length : Int) then ((impl_cloneRecord.f ((rd_T45 x34 x36).f0) ((rd_T45 x34 x36).f1) ((rd_T45 x34 x36).f2) ((rd_T45 x34 x36).f3)).bind fun bt264 => (if x254002.length < 2932031007402 then (impl_cloneMachine.l1 k x34 x35 (wrap64 (x36 + 1)) x254000 x254001 (x254002 ++ [(⟨bt264.1, bt264.2.1, bt264.2.2.1, bt264.2.2.2⟩ : S45)]) x254003) else (none))) else (none)) else (none)) else (some (x254000, x254001, x254002, x254003))
end
def impl_cloneMachine.f (k : Nat) (a0_0 : Bool) (l0_1 : List (S79)) (l0_2 : List (S45)) (l0_3 : List Int) : Option (Bool × (List (S79)) × (List (S45)) × List Int) := (slices_Clone_int64_int64.f l0_3).bind fun t250 => (impl_cloneMachine.l0 k l0_1 (l0_1.length : Int) 0 a0_0 l0_1 l0_2 l0_3 a0_0 ([] : List (S79)) t250)

def impl_cloneMachine.T1 : Bool × List (List Nat × List Nat) := (true, [([], []), ([0], [0]), ([], []), ([2], [2]), ([3], [3]), ([1, 4], [1, 4]), ([], []), ([6, 5, 4, 0, 1, 2, 3, 4, 5, 6], [5, 6])])
def impl_cloneMachine.B1 : List Nat := [0, 1, 0, 4, 12, 31, 0, 127]
theorem impl_cloneMachine.tab1 : rtab .any (opsOf Try.f76 1) = impl_cloneMachine.T1 := by kernel_rfl
theorem impl_cloneMachine.bits1 : waitsOk impl_cloneMachine.T1.2 impl_cloneMachine.B1 = true := by kernel_rfl
def impl_cloneMachine.T5 : Bool × List (List Nat × List Nat) := (true, [([], []), ([0], [0]), ([], []), ([2], [2]), ([], []), ([4], [4]), ([5], [5]), ([3, 6], [3, 6]), ([7], [7]), ([1, 8, 6], [1, 8]), ([0, 1, 2, 3, 4, 5, 6, 7, 8, 9], []), ([10, 9, 9, 0, 1, 2, 3, 4, 5, 6, 7, 8, 9], [9, 10])])
def impl_cloneMachine.B5 : List Nat := [0, 1, 0, 4, 0, 16, 48, 124, 252, 511, 1023, 2047]
theorem impl_cloneMachine.tab5 : rtab .any (opsOf Try.f76 5) = impl_cloneMachine.T5 := by kernel_rfl
theorem impl_cloneMachine.bits5 : waitsOk impl_cloneMachine.T5.2 impl_cloneMachine.B5 = true := by kernel_rfl
def impl_cloneMachine.T10 : Bool × List (List Nat × List Nat) := (true, [([], []), ([0], [0]), ([], []), ([2], [2]), ([3], [3]), ([1, 4, 3], [1, 4]), ([0, 1, 2, 3, 4, 5], []), ([6, 5, 5, 0, 1, 2, 3, 4, 5], [5, 6])])
def impl_cloneMachine.B10 : List Nat := [0, 1, 0, 4, 12, 31, 63, 127]
theorem impl_cloneMachine.tab10 : rtab .any (opsOf Try.f76 10) = impl_cloneMachine.T10 := by kernel_rfl
theorem impl_cloneMachine.bits10 : waitsOk impl_cloneMachine.T10.2 impl_cloneMachine.B10 = true := by kernel_rfl
set_option maxHeartbeats 8000000 in
set_option maxRecDepth 100000 in
theorem impl_cloneMachine.calls (k : Nat) (a0_0 : Bool) (A0_1 : Option Addr) (c0_1 : Nat) (l0_1 : List (S79)) (A0_2 : Option Addr) (c0_2 : Nat) (l0_2 : List (S45)) (A0_3 : Option Addr) (c0_3 : Nat) (l0_3 : List Int) (r1 : Bool) (r2 : List (S79)) (r3 : List (S45)) (r4 : List Int) (w : World) (hr0_1 : Kd.C k79 w A0_1 l0_1.length l0_1) (hc0_1 : l0_1.length ≤ c0_1) (hr0_2 : Kd.C k45 w A0_2 l0_2.length l0_2) (hc0_2 : l0_2.length ≤ c0_2) (hr0_3 : Kd.C (Kd.int .i64) w A0_3 l0_3.length l0_3) (hc0_3 : l0_3.length ≤ c0_3) (h : impl_cloneMachine.f k a0_0 l0_1 l0_2 l0_3 = some (r1, r2, r3, r4)) :
    Calls Try.prog 76 #[.agg #[.bool a0_0, .slice A0_1 l0_1.length c0_1, .slice A0_2 l0_2.length c0_2, .slice A0_3 l0_3.length c0_3]] w fun e w' => ∃ v1_ v2_ v3_ : Value, e = .returned (.agg #[.bool r1, v1_, v2_, v3_]) ∧ Kd.S k79 79 w' w.heap.size (fun _ => True) v1_ r2 ∧ Kd.S k45 45 w' w.heap.size (fun _ => True) v2_ r3 ∧ Kd.R (Kd.int .i64) 2 w' w.heap.size (fun _ => True) v3_ r4 ∧ Below w.heap.size w w' := by
 have hu32 := Try.underlying32
 have hu79 := Try.underlying79
 have hu45 := Try.underlying45
 have HR0_1 := ak hr0_1
 have HC0_1 := ak hc0_1
 clear hr0_1 hc0_1
 have HR0_2 := ak hr0_2
 have HC0_2 := ak hc0_2
 clear hr0_2 hc0_2
 have HR0_3 := ak hr0_3
 have HC0_3 := ak hc0_3
 clear hr0_3 hc0_3
 have HB := ak (Below.refl w.heap.size w)
 have H : ((slices_Clone_int64_int64.f l0_3).bind fun t250 => (impl_cloneMachine.l0 k l0_1 (l0_1.length : Int) 0 a0_0 l0_1 l0_2 l0_3 a0_0 ([] : List (S79)) t250)) = some (r1,r2,r3,r4) := h
 clear h
 replace H := bs_ H
 obtain ⟨t250,A2,H⟩ := H
 have H' := ak H
 clear H
 go_enter Try.func76,Try.ntmps76
 try go_wp2_with (first|((with_reducible refine gate_dst (N := 1) rfl ?_);refine bx_ 1 #[.bool a0_0,.slice A0_1 l0_1.length c0_1,.slice A0_2 l0_2.length c0_2,.slice A0_3 l0_3.length c0_3] 32 ?_;intro gb248 hg w3 hbox hb;replace HB := nb_ hg hbox hb;obtain ⟨BK248,GW248,GE248,HB⟩ := HB;clear hb hbox hg)|((with_reducible refine gate_dst (N := 2) rfl ?_);refine bx_ 2 #[.bool false,.slice none 0 0,.slice none 0 0,.slice none 0 0] 32 ?_;intro gb249 hg w4 hbox hb;replace HB := nb_ hg hbox hb;obtain ⟨BK249,GW249,GE249,HB⟩ := HB;have NB248_249 := ak ((nl_ BK248 hg));have NB249_248 := ak ((ng_ BK248 hg));replace BK248 := ak (blk_below (kb_ BK248) hb);clear hb hbox hg))
 replace BK248 := ak (blk_drew BK248.out)
 replace BK249 := ak (blk_drew BK249.out)
 replace HB := ak (below_drew1 HB.out)
 refine st_ 8 (S := fun w' => hd4 w' gb248 (.bool a0_0) (.slice A0_1 l0_1.length c0_1) (.slice A0_2 l0_2.length c0_2) (.slice A0_3 l0_3.length c0_3)) hh_ (fun hHeld => ?_);refine with_tabW impl_cloneMachine.tab1 impl_cloneMachine.bits1 (fun HT_ HW_ => ?_)
 generalize w4.drew = w5 at BK248 BK249 HB hHeld ⊢
 refine pv_ 0 8 ?_
 refine pv_ 2 10 ?_
 refine tx_ 1 9 hHeld ?_
 refine tx_ 3 11 hHeld ?_
 refine join_ (σ := Value × Nat) 1 #[true,true,true,true,true,true,true,false] (fun s_ => [(12,s_.1),(3,.pointer (some ⟨s_.2,0,none⟩)),(13,.agg #[.bool a0_0,.slice none 0 0,.slice none 0 0,s_.1])]) (fun s_ w' => (w'.cell? ⟨gb248,0,none⟩ = some (.bool a0_0) ∧ w'.cell? ⟨gb248,1,none⟩ = some (.slice A0_1 l0_1.length c0_1) ∧ w'.cell? ⟨gb248,2,none⟩ = some (.slice A0_2 l0_2.length c0_2) ∧ w'.cell? ⟨gb248,3,none⟩ = some (.slice A0_3 l0_3.length c0_3)) ∧ (Kd.R (Kd.int .i64) 2 w' w.heap.size (fun _ => True) s_.1 t250) ∧ (w'.heap[gb248]? = some (.cells #[.bool a0_0,.slice A0_1 l0_1.length c0_1,.slice A0_2 l0_2.length c0_2,.slice A0_3 l0_3.length c0_3] 32 (0,0))) ∧ (w'.heap[gb249]? = some (.cells #[.bool false,.slice none 0 0,.slice none 0 0,.slice none 0 0] 32 (0,0))) ∧ (w'.heap[s_.2]? = some (.cells #[.bool false,.slice none 0 0,.slice none 0 0,.slice none 0 0] 32 (0,0))) ∧ (w.heap.size ≤ s_.2) ∧ (w.heap.size ≤ s_.2) ∧ (gb248 ≠ s_.2) ∧ (s_.2 ≠ gb248) ∧ (gb249 ≠ s_.2) ∧ (s_.2 ≠ gb249) ∧ (Below w.heap.size w w')) ?_ ?_
 rotate_left
 ·intro hCont
  refine two_ (i := 4) (j := 6) (Ni := some 12) (Nj := some 3) #[true,true,true,true,true,false,false,false] #[true,true,true,true,false,false,true,false] rfl rfl rfl rfl (two_of HT_.out (by kernel_rfl)) (by decide) (by decide) (fun K hK => ?_) (fun K hK => ?_)
  ·skip
   refine gs_ Try.func121 #[.slice A0_3 l0_3.length c0_3] ?_
   with_reducible refine (slices_Clone_int64_int64.calls _ _ l0_3 t250 _ ?side1 ?side2 A2.out).mono ?_
   (case side1 => exact cb_ HR0_3)
   (case side2 => exact HC0_3.out)
   rintro e w6 ⟨v251,rfl,ho0,hb⟩
   refine ⟨_,rfl,?_⟩
   replace BK248 := ak (blk_below (kb_ BK248) hb)
   replace BK249 := ak (blk_below (kb_ BK249) hb)
   have HO252 := ak (Kd.R_lower ho0 (below_size b_))
   replace HB := ak (below_step b_ hb)
   (try clear hb)
   (try clear hb2)
   (try clear hk)
   (try clear hi)
   (try clear ho0)
   obtain ⟨Ao7,co7,eo7⟩ := Kd.R_slice HO252.out
   (first|subst eo7|(injection eo7 with f1_ f2_ f3_;have f4_ := f1_.symm;have f5_ := f3_.symm;clear f1_ f2_ f3_;subst f4_;subst f5_))
   refine hK.out _ _ hh_ (fun hHeld => ?_)
   clear hK K
   refine nr_ (some 12) _ ?_
   refine pv_ 5 13 ?_
   refine oy_ 6 3 (fun K hK => ?_)
   refine box_step ?hg (N := 3) ?hd (cs := #[.bool false,.slice none 0 0,.slice none 0 0,.slice none 0 0]) (t := 32) ?hr ?_;(case hd => rfl);(case hg => rfl);(case hr => first|(go_simp;done)|(go_simp;rfl))
   intro gb253 hg w8 hbox hb
   replace HO252 := ak (Kd.R_below (by (with_reducible repeat (first|apply Kd.R_alloc|apply Kd.R_drewN|apply Kd.R_drew));exact HO252.out) hb)
   have BK253 := ak (hbox)
   have GW253 := ak ((gw_ (w := w) hg))
   have GE253 := ak ((gw_ (w := w) hg))
   replace HB := ak (below_step b_ hb)
   have NB248_253 := ak ((nl_ BK248 hg))
   have NB253_248 := ak ((ng_ BK248 hg))
   replace BK248 := ak (blk_below (kb_ BK248) hb)
   have NB249_253 := ak ((nl_ BK249 hg))
   have NB253_249 := ak ((ng_ BK249 hg))
   replace BK249 := ak (blk_below (kb_ BK249) hb)
   clear hb hbox hg
   refine hK.out _ _ hh_ (fun hHeld => ?_)
   clear hK K
   refine nr_ (some 3) _ ?_
   exact norm_ (by simp only [putAll,Act.put,List.setIfInBounds_toArray,List.set_cons_zero,List.set_cons_succ]) (hCont (.slice Ao7 t250.length co7,gb253) _ ⟨hHeld,(by (with_reducible repeat (first|apply Kd.R_alloc|apply Kd.R_drewN|apply Kd.R_drew));exact HO252.out),kk_,kk_,kk_,GW253.out,GE253.out,NB248_253.out,NB253_248.out,NB249_253.out,NB253_249.out,b_⟩)
  ·skip
   refine box_step ?hg (N := 3) ?hd (cs := #[.bool false,.slice none 0 0,.slice none 0 0,.slice none 0 0]) (t := 32) ?hr ?_;(case hd => rfl);(case hg => rfl);(case hr => first|(go_simp;done)|(go_simp;rfl))
   intro gb253 hg w6 hbox hb
   have BK253 := ak (hbox)
   have GW253 := ak ((gw_ (w := w) hg))
   have GE253 := ak ((gw_ (w := w) hg))
   replace HB := ak (below_step b_ hb)
   have NB248_253 := ak ((nl_ BK248 hg))
   have NB253_248 := ak ((ng_ BK248 hg))
   replace BK248 := ak (blk_below (kb_ BK248) hb)
   have NB249_253 := ak ((nl_ BK249 hg))
   have NB253_249 := ak ((ng_ BK249 hg))
   replace BK249 := ak (blk_below (kb_ BK249) hb)
   clear hb hbox hg
   refine hK.out _ _ hh_ (fun hHeld => ?_)
   clear hK K
   refine nr_ (some 3) _ ?_
   refine oy_ 4 12 (fun K hK => ?_)
   refine gs_ Try.func121 #[.slice A0_3 l0_3.length c0_3] ?_
   with_reducible refine (slices_Clone_int64_int64.calls _ _ l0_3 t250 _ ?side1 ?side2 A2.out).mono ?_
   (case side1 => exact cb_ HR0_3)
   (case side2 => exact HC0_3.out)
   rintro e w7 ⟨v251,rfl,ho0,hb⟩
   refine ⟨_,rfl,?_⟩
   replace BK248 := ak (blk_below (kb_ BK248) hb)
   replace BK249 := ak (blk_below (kb_ BK249) hb)
   replace BK253 := ak (blk_below (kb_ BK253) hb)
   have HO252 := ak (Kd.R_lower ho0 (below_size b_))
   replace HB := ak (below_step b_ hb)
   (try clear hb)
   (try clear hb2)
   (try clear hk)
   (try clear hi)
   (try clear ho0)
   obtain ⟨Ao8,co8,eo8⟩ := Kd.R_slice HO252.out
   (first|subst eo8|(injection eo8 with f1_ f2_ f3_;have f4_ := f1_.symm;have f5_ := f3_.symm;clear f1_ f2_ f3_;subst f4_;subst f5_))
   refine hK.out _ _ hh_ (fun hHeld => ?_)
   clear hK K
   refine nr_ (some 12) _ ?_
   refine pv_ 5 13 ?_
   exact norm_ (by simp only [putAll,Act.put,List.setIfInBounds_toArray,List.set_cons_zero,List.set_cons_succ]) (hCont (.slice Ao8 t250.length co8,gb253) _ ⟨hHeld,(by (with_reducible repeat (first|apply Kd.R_alloc|apply Kd.R_drewN|apply Kd.R_drew));exact HO252.out),kk_,kk_,kk_,GW253.out,GE253.out,NB248_253.out,NB253_248.out,NB249_253.out,NB253_249.out,b_⟩)
 rintro ⟨v251,gb253⟩ w9 ⟨hS_,h0_,h1_,h2_,h3_,h4_,h5_,h6_,h7_,h8_,h9_,h10_⟩
 have n0_ : Aside0 (Kd.R (Kd.int .i64) 2 w9 w.heap.size (fun _ => True) v251 t250) := ⟨h0_⟩
 have n1_ : Aside0 (w9.heap[gb248]? = some (.cells #[.bool a0_0,.slice A0_1 l0_1.length c0_1,.slice A0_2 l0_2.length c0_2,.slice A0_3 l0_3.length c0_3] 32 (0,0))) := ⟨h1_⟩
 have n2_ : Aside0 (w9.heap[gb249]? = some (.cells #[.bool false,.slice none 0 0,.slice none 0 0,.slice none 0 0] 32 (0,0))) := ⟨h2_⟩
 have n3_ : Aside0 (w9.heap[gb253]? = some (.cells #[.bool false,.slice none 0 0,.slice none 0 0,.slice none 0 0] 32 (0,0))) := ⟨h3_⟩
 have n4_ : Aside0 (w.heap.size ≤ gb253) := ⟨h4_⟩
 have n5_ : Aside0 (w.heap.size ≤ gb253) := ⟨h5_⟩
 have n6_ : Aside0 (gb248 ≠ gb253) := ⟨h6_⟩
 have n7_ : Aside0 (gb253 ≠ gb248) := ⟨h7_⟩
 have n8_ : Aside0 (gb249 ≠ gb253) := ⟨h8_⟩
 have n9_ : Aside0 (gb253 ≠ gb249) := ⟨h9_⟩
 have n10_ : Aside0 (Below w.heap.size w w9) := ⟨h10_⟩
 clear BK248
 clear BK249
 clear HB
 clear h0_ h1_ h2_ h3_ h4_ h5_ h6_ h7_ h8_ h9_ h10_
 have HO252 := n0_
 have BK248 := n1_
 have BK249 := n2_
 have BK253 := n3_
 have GW253 := n4_
 have GE253 := n5_
 have NB248_253 := n6_
 have NB253_248 := n7_
 have NB249_253 := n8_
 have NB253_249 := n9_
 have HB := n10_
 clear n0_ n1_ n2_ n3_ n4_ n5_ n6_ n7_ n8_ n9_ n10_
 have hHeld : w9.cell? ⟨gb248,0,none⟩ = some (.bool a0_0) ∧ w9.cell? ⟨gb248,1,none⟩ = some (.slice A0_1 l0_1.length c0_1) ∧ w9.cell? ⟨gb248,2,none⟩ = some (.slice A0_2 l0_2.length c0_2) ∧ w9.cell? ⟨gb248,3,none⟩ = some (.slice A0_3 l0_3.length c0_3) := hS_
 obtain ⟨Ao10,co10,eo10⟩ := Kd.R_slice HO252.out
 (first|subst eo10|(injection eo10 with f1_ f2_ f3_;have f4_ := f1_.symm;have f5_ := f3_.symm;clear f1_ f2_ f3_;subst f4_;subst f5_))
 refine norm_ (a' := ?_) ?_ ?_
 rotate_left
 ·simp only [putAll,Act.put,List.setIfInBounds_toArray,List.set_cons_zero,List.set_cons_succ]
  rfl
 refine oz_ (i := 7) (N := none) HT_.out rfl rfl (by kernel_rfl) (by decide) (fun K hK => ?_)
 have hs11 : w9.cell? ⟨gb253,0,none⟩ = some (.bool false) := (blk_cell BK253.out 0).trans rfl
 have hfs11 := blk_frozen BK253.out 0
 have hns11_0 := NB248_253.out
 have hns11_1 := NB249_253.out
 have hms11_0 := NB253_248.out
 have hms11_1 := NB253_249.out
 have hs12 : w9.cell? ⟨gb253,1,none⟩ = some (.slice none 0 0) := (blk_cell BK253.out 1).trans rfl
 have hfs12 := blk_frozen BK253.out 1
 have hns12_0 := NB248_253.out
 have hns12_1 := NB249_253.out
 have hms12_0 := NB253_248.out
 have hms12_1 := NB253_249.out
 have hs13 : w9.cell? ⟨gb253,2,none⟩ = some (.slice none 0 0) := (blk_cell BK253.out 2).trans rfl
 have hfs13 := blk_frozen BK253.out 2
 have hns13_0 := NB248_253.out
 have hns13_1 := NB249_253.out
 have hms13_0 := NB253_248.out
 have hms13_1 := NB253_249.out
 have hs14 : w9.cell? ⟨gb253,3,none⟩ = some (.slice none 0 0) := (blk_cell BK253.out 3).trans rfl
 have hfs14 := blk_frozen BK253.out 3
 have hns14_0 := NB248_253.out
 have hns14_1 := NB249_253.out
 have hms14_0 := NB253_248.out
 have hms14_1 := NB253_249.out
 refine skip_ (w1 := ?_) (by rfl) rfl ?_ ?_
 rotate_left
 ·go_simp
  rfl
 refine hK.out _ _ ⟨((cell_far (p := ⟨gb253,_,none⟩) NB248_253.out _).trans (((cell_far (p := ⟨gb253,_,none⟩) NB248_253.out _).trans (((cell_far (p := ⟨gb253,_,none⟩) NB248_253.out _).trans (((cell_far (p := ⟨gb253,_,none⟩) NB248_253.out _).trans (hHeld.1)))))))),((cell_far (p := ⟨gb253,_,none⟩) NB248_253.out _).trans (((cell_far (p := ⟨gb253,_,none⟩) NB248_253.out _).trans (((cell_far (p := ⟨gb253,_,none⟩) NB248_253.out _).trans (((cell_far (p := ⟨gb253,_,none⟩) NB248_253.out _).trans (hHeld.2.1)))))))),((cell_far (p := ⟨gb253,_,none⟩) NB248_253.out _).trans (((cell_far (p := ⟨gb253,_,none⟩) NB248_253.out _).trans (((cell_far (p := ⟨gb253,_,none⟩) NB248_253.out _).trans (((cell_far (p := ⟨gb253,_,none⟩) NB248_253.out _).trans (hHeld.2.2.1)))))))),((cell_far (p := ⟨gb253,_,none⟩) NB248_253.out _).trans (((cell_far (p := ⟨gb253,_,none⟩) NB248_253.out _).trans (((cell_far (p := ⟨gb253,_,none⟩) NB248_253.out _).trans (((cell_far (p := ⟨gb253,_,none⟩) NB248_253.out _).trans (hHeld.2.2.2))))))))⟩ (fun hHeld => ?_)
 clear hK K
 refine done_ (done_of HT_.out (by kernel_rfl)) ?_
 have hnb15 := NB248_249.out
 have hnc15 := NB249_248.out
 have hnb16 := NB248_253.out
 have hnc16 := NB253_248.out
 obtain ⟨⟨hcz17_0,hcz17_1,hcz17_2,hcz17_3⟩,hfz17_0,hfz17_1,hfz17_2,hfz17_3⟩ := cl4_ BK248.out
 try go_wp2
 go_loopg [17] k (fun kq v17 w' => ∃ (x17_1 : Int) (x254001_1 : List (S79)) (u254001 : Value),v17 = .int .i64 x17_1 ∧ Aside0 (impl_cloneMachine.l0 kq l0_1 (l0_1.length : Int) x17_1 a0_0 l0_1 l0_2 l0_3 a0_0 x254001_1 t250 = some (r1,r2,r3,r4)) ∧ Aside0 (kq ≤ k) ∧ Aside0 (Kd.S k79 79 w' w.heap.size (fun _ => True) u254001 x254001_1) ∧ Aside0 (Kd.R (Kd.int .i64) 2 w' w.heap.size (fun _ => True) (.slice Ao10 t250.length co10) t250) ∧ Aside0 (w'.heap[gb248]? = some (.cells #[.bool a0_0,(.slice A0_1 l0_1.length c0_1),(.slice A0_2 l0_2.length c0_2),(.slice A0_3 l0_3.length c0_3)] 32 (0,0))) ∧ Aside0 (w'.heap[gb249]? = some (.cells #[.bool false,(.slice none 0 0),(.slice none 0 0),(.slice none 0 0)] 32 (0,0))) ∧ Aside0 (w'.heap[gb253]? = some (.cells #[.bool a0_0,u254001,(.slice none 0 0),(.slice Ao10 t250.length co10)] 32 (0,0))) ∧ Aside0 (Below w.heap.size w w'))
 case atStart => exact ⟨(0),(([] : List (S79))),(.slice none 0 0),rs_,H',⟨Nat.le_refl _⟩,⟨by first|exact Kd.S_nil _ _ _ _ _|exact Kd.N_nil _ _ _ _ _|exact Kd.V_nil _ _ _ _ _|exact Kd.Q_nil _ _ _ _ _|exact Kd.R_nil _ _ _ _ _⟩,⟨by (with_reducible repeat (first|apply Kd.R_alloc|apply Kd.R_drewN|apply Kd.R_drew));exact Kd.R_mono (Kd.R_far (p := ⟨gb253,3,none⟩) (Kd.R_far (p := ⟨gb253,2,none⟩) (Kd.R_far (p := ⟨gb253,1,none⟩) (Kd.R_far (p := ⟨gb253,0,none⟩) (Kd.R_types HO252.out BK253.out (by decide)) (fun _ hk => hk.2) (.bool a0_0)) (fun _ hk => hk.2) (.slice none 0 0)) (fun _ hk => hk.2) (.slice none 0 0)) (fun _ hk => hk.2) (.slice Ao10 t250.length co10)) (fun _ hk => trivial)⟩,⟨kf_ BK248⟩,⟨kf_ BK249⟩,⟨by (with_reducible repeat (first|refine blk_drewN ?_ _|refine blk_drew ?_|refine blk_alloc ?_ _));refine blk_put (cs := #[.bool a0_0,.slice none 0 0,.slice none 0 0,.slice none 0 0]) ?_ 3 _ rfl;(with_reducible repeat (first|refine blk_drewN ?_ _|refine blk_drew ?_|refine blk_alloc ?_ _));refine blk_put (cs := #[.bool a0_0,.slice none 0 0,.slice none 0 0,.slice none 0 0]) ?_ 2 _ rfl;(with_reducible repeat (first|refine blk_drewN ?_ _|refine blk_drew ?_|refine blk_alloc ?_ _));refine blk_put (cs := #[.bool a0_0,.slice none 0 0,.slice none 0 0,.slice none 0 0]) ?_ 1 _ rfl;(with_reducible repeat (first|refine blk_drewN ?_ _|refine blk_drew ?_|refine blk_alloc ?_ _));refine blk_put (cs := #[.bool false,.slice none 0 0,.slice none 0 0,.slice none 0 0]) ?_ 0 _ rfl;(with_reducible repeat (first|refine blk_drewN ?_ _|refine blk_drew ?_|refine blk_alloc ?_ _));exact BK253.out⟩,⟨b_⟩⟩
 case round =>
  clear H'
  try clear c1
  try clear p2
  try clear c7
  try clear c12
  try clear c15
  try clear c16
  try clear hcz17_0
  try clear hcz17_1
  try clear hcz17_2
  try clear hcz17_3
  try clear hfz17_0
  try clear hfz17_1
  try clear hfz17_2
  try clear hfz17_3
  obtain ⟨x17_1,x254001_1,u254001,rfl,HA,HK1,HO_254001,HO_254003,BK248,BK249,BK253,HB⟩ := hrel
  cases gk with
    | zero => exact absurd HA.out (by simp [impl_cloneMachine.l0])
    | succ k1 =>
   have H := HA.out
   clear HA
   simp only [impl_cloneMachine.l0] at H
   by_cases c18 : x17_1 < (l0_1.length : Int)
   ·rw [if_pos c18] at H
    have c18b0 : decide (x17_1 < (l0_1.length : Int)) = true := decide_eq_true c18
    clear c18
    by_cases c19 : 0 ≤ x17_1
    ·rw [if_pos c19] at H
     have c19b0 : decide (0 ≤ x17_1) = true := decide_eq_true c19
     clear c19
     by_cases c20 : x17_1 < (l0_1.length : Int)
     ·rw [if_pos c20] at H
      have c20b0 : decide (x17_1 < (l0_1.length : Int)) = true := decide_eq_true c20
      clear c20
      replace H := bs_ H
      obtain ⟨t256,A21,H⟩ := H
      by_cases c22 : x254001_1.length < 4398046511104
      ·rw [if_pos c22] at H
       have LMc22 := ak c22
       clear c22
       obtain ⟨y259,hy259⟩ : ∃ y_ : List (S79),y_ = (x254001_1 ++ [(⟨(rd_T79 l0_1 x17_1).f0,t256⟩ : S79)]) := ⟨_,rfl⟩
       replace H : (impl_cloneMachine.l0 k1 l0_1 (l0_1.length : Int) (wrap64 (x17_1 + 1)) a0_0 l0_1 l0_2 l0_3 a0_0 y259 t250) = some (r1,r2,r3,r4) := by first|(rw [hy259];with_reducible exact H)|(have H2_ := (Option.bind_some _ _).symm.trans H;rw [hy259];with_reducible exact H2_)|(have H2_ := (Option.bind_some _ _).symm.trans H;with_reducible exact H2_)|with_reducible exact H|(rw [hy259];exact H)|exact H
       have Ny259 := ak hy259
       clear hy259
       have H' := ak H
       clear H
       have p254 : 0 ≤ (x17_1 : Int) := od_
       have q254 : x17_1 < (l0_1.length : Int) := od_
       obtain ⟨ad254,A254_1,c254_1,e254,hx254_0,hx254_1,hl254_1,hi254_1⟩ := at_T79 HR0_1.out x17_1 p254 q254
       cases e254
       replace hx254_0 := hx_ HB hx254_0
       replace hx254_1 := hx_ HB hx254_1
       have HR254_1 := ak hi254_1
       have HC254_1 := ak hl254_1
       clear hi254_1 hl254_1
       replace p254 := eq_true p254
       replace q254 := eq_true q254
       try go_wp2_with (first|((with_reducible refine gate_dst (N := 5) rfl ?_);refine bx_ 5 #[.int .i64 0,.slice none 0 0] 79 ?_;intro gb255 hg w23 hbox hb;replace HO_254001 := ak (Kd.S_below (Kd.S_elderB (by (with_reducible repeat (first|apply Kd.S_alloc|apply Kd.S_drewN|apply Kd.S_drew));exact HO_254001.out) gb255 (Nat.le_of_eq hg.symm)) hb);replace HO_254003 := ak (Kd.R_below (by (with_reducible repeat (first|apply Kd.R_alloc|apply Kd.R_drewN|apply Kd.R_drew));exact HO_254003.out) hb);replace HB := nb_ hg hbox hb;obtain ⟨BK255,GW255,GE255,HB⟩ := HB;have NB248_255 := ak ((nl_ BK248 hg));have NB255_248 := ak ((ng_ BK248 hg));replace BK248 := ak (blk_below (kb_ BK248) hb);have NB249_255 := ak ((nl_ BK249 hg));have NB255_249 := ak ((ng_ BK249 hg));replace BK249 := ak (blk_below (kb_ BK249) hb);have NB253_255 := ak ((nl_ BK253 hg));have NB255_253 := ak ((ng_ BK253 hg));replace BK253 := ak (blk_below (kb_ BK253) hb);clear hb hbox hg;have hnb24 := NB255_248.out;have hnc24 := NB248_255.out;have hnb25 := NB255_249.out;have hnc25 := NB249_255.out;have hnb26 := NB255_253.out;have hnc26 := NB253_255.out;obtain ⟨⟨hcz27_0,hcz27_1⟩,hfz27_0,hfz27_1⟩ := cl2_ BK255.out))
       have n0_ : Aside0 (Kd.S k79 79 ((w23.setCell ⟨gb255,0,none⟩ (.int .i64 ((rd_T79 l0_1 x17_1).f0))).setCell ⟨gb255,1,none⟩ (.slice A254_1 ((rd_T79 l0_1 x17_1).f1).length c254_1)) w.heap.size (fun k_ => k_ ≠ gb255) u254001 x254001_1) := ⟨by (with_reducible repeat (first|apply Kd.S_alloc|apply Kd.S_drewN|apply Kd.S_drew));exact Kd.S_mono (Kd.S_far (p := ⟨gb255,1,none⟩) (Kd.S_far (p := ⟨gb255,0,none⟩) (Kd.S_mono HO_254001.out (fun k_ hk => (⟨hk,hk.2⟩ : _ ∧ k_ ≠ gb255))) (fun _ hk => hk.2) (.int .i64 ((rd_T79 l0_1 x17_1).f0))) (fun _ hk => hk.2) (.slice A254_1 ((rd_T79 l0_1 x17_1).f1).length c254_1)) (fun _ hk => hk.1.2)⟩
       have n1_ : Aside0 (Kd.R (Kd.int .i64) 2 ((w23.setCell ⟨gb255,0,none⟩ (.int .i64 ((rd_T79 l0_1 x17_1).f0))).setCell ⟨gb255,1,none⟩ (.slice A254_1 ((rd_T79 l0_1 x17_1).f1).length c254_1)) w.heap.size (fun _ => True) (.slice Ao10 t250.length co10) t250) := ⟨by (with_reducible repeat (first|apply Kd.R_alloc|apply Kd.R_drewN|apply Kd.R_drew));exact Kd.R_mono (Kd.R_far (p := ⟨gb255,1,none⟩) (Kd.R_far (p := ⟨gb255,0,none⟩) (Kd.R_types HO_254003.out BK255.out (by decide)) (fun _ hk => hk.2) (.int .i64 ((rd_T79 l0_1 x17_1).f0))) (fun _ hk => hk.2) (.slice A254_1 ((rd_T79 l0_1 x17_1).f1).length c254_1)) (fun _ hk => trivial)⟩
       have n2_ : Aside0 (((w23.setCell ⟨gb255,0,none⟩ (.int .i64 ((rd_T79 l0_1 x17_1).f0))).setCell ⟨gb255,1,none⟩ (.slice A254_1 ((rd_T79 l0_1 x17_1).f1).length c254_1)).heap[gb248]? = some (.cells #[.bool a0_0,.slice (some ad254) l0_1.length c0_1,.slice A0_2 l0_2.length c0_2,.slice A0_3 l0_3.length c0_3] 32 (0,0))) := ⟨kf_ BK248⟩
       have n3_ : Aside0 (((w23.setCell ⟨gb255,0,none⟩ (.int .i64 ((rd_T79 l0_1 x17_1).f0))).setCell ⟨gb255,1,none⟩ (.slice A254_1 ((rd_T79 l0_1 x17_1).f1).length c254_1)).heap[gb249]? = some (.cells #[.bool false,.slice none 0 0,.slice none 0 0,.slice none 0 0] 32 (0,0))) := ⟨kf_ BK249⟩
       have n4_ : Aside0 (((w23.setCell ⟨gb255,0,none⟩ (.int .i64 ((rd_T79 l0_1 x17_1).f0))).setCell ⟨gb255,1,none⟩ (.slice A254_1 ((rd_T79 l0_1 x17_1).f1).length c254_1)).heap[gb253]? = some (.cells #[.bool a0_0,u254001,.slice none 0 0,.slice Ao10 t250.length co10] 32 (0,0))) := ⟨kf_ BK253⟩
       have n5_ : Aside0 (((w23.setCell ⟨gb255,0,none⟩ (.int .i64 ((rd_T79 l0_1 x17_1).f0))).setCell ⟨gb255,1,none⟩ (.slice A254_1 ((rd_T79 l0_1 x17_1).f1).length c254_1)).heap[gb255]? = some (.cells #[.int .i64 ((rd_T79 l0_1 x17_1).f0),.slice A254_1 ((rd_T79 l0_1 x17_1).f1).length c254_1] 79 (0,0))) := ⟨by (with_reducible repeat (first|refine blk_drewN ?_ _|refine blk_drew ?_|refine blk_alloc ?_ _));refine blk_put (cs := #[.int .i64 ((rd_T79 l0_1 x17_1).f0),.slice none 0 0]) ?_ 1 _ rfl;(with_reducible repeat (first|refine blk_drewN ?_ _|refine blk_drew ?_|refine blk_alloc ?_ _));refine blk_put (cs := #[.int .i64 0,.slice none 0 0]) ?_ 0 _ rfl;(with_reducible repeat (first|refine blk_drewN ?_ _|refine blk_drew ?_|refine blk_alloc ?_ _));exact BK255.out⟩
       have n6_ : Aside0 (Below w.heap.size w ((w23.setCell ⟨gb255,0,none⟩ (.int .i64 ((rd_T79 l0_1 x17_1).f0))).setCell ⟨gb255,1,none⟩ (.slice A254_1 ((rd_T79 l0_1 x17_1).f1).length c254_1))) := ⟨b_⟩
       (try clear HO_254001)
       (try clear HO_254003)
       (try clear BK248)
       (try clear BK249)
       (try clear BK253)
       (try clear BK255)
       (try clear HB)
       generalize ((w23.setCell ⟨gb255,0,none⟩ (.int .i64 ((rd_T79 l0_1 x17_1).f0))).setCell ⟨gb255,1,none⟩ (.slice A254_1 ((rd_T79 l0_1 x17_1).f1).length c254_1)) = w28 at n0_ n1_ n2_ n3_ n4_ n5_ n6_ ⊢
       have HO_254001 := n0_
       have HO_254003 := n1_
       have BK248 := n2_
       have BK249 := n3_
       have BK253 := n4_
       have BK255 := n5_
       have HB := n6_
       clear n0_ n1_ n2_ n3_ n4_ n5_ n6_
       replace HO_254001 := ak (Kd.S_drew HO_254001.out)
       replace HO_254003 := ak (Kd.R_drew HO_254003.out)
       replace BK248 := ak (blk_drew BK248.out)
       replace BK249 := ak (blk_drew BK249.out)
       replace BK253 := ak (blk_drew BK253.out)
       replace BK255 := ak (blk_drew BK255.out)
       replace HB := ak (below_drew1 HB.out)
       refine std_ 12 (S := fun w' => hc4 w' gb253 (.bool a0_0) (u254001) (.slice none 0 0) (.slice Ao10 t250.length co10) (hd2 w' gb255 (.int .i64 ((rd_T79 l0_1 x17_1).f0)) (.slice A254_1 ((rd_T79 l0_1 x17_1).f1).length c254_1))) (ds := [11]) hh_ (fun hHeld => ?_);refine with_tabW impl_cloneMachine.tab5 impl_cloneMachine.bits5 (fun HT_ HW_ => ?_)
       generalize w28.drew = w29 at HO_254001 HO_254003 BK248 BK249 BK253 BK255 HB hHeld ⊢
       refine pv_ 0 21 ?_
       refine pv_ 2 23 ?_
       refine pv_ 4 25 ?_
       refine tx_ 1 22 hHeld ?_
       refine tx_ 3 24 hHeld ?_
       refine tx_ 5 26 hHeld ?_
       refine oy_ 6 27 (fun K hK => ?_)
       refine gs_ Try.func60 #[.slice A254_1 ((rd_T79 l0_1 x17_1).f1).length c254_1] ?_
       with_reducible refine (impl_Cell_60.calls _ _ ((rd_T79 l0_1 x17_1).f1) t256 _ ?side1 ?side2 A21.out).mono ?_
       (case side1 => exact cb_ HR254_1)
       (case side2 => exact HC254_1.out)
       rintro e w30 ⟨v257,rfl,ho0,hb⟩
       refine ⟨_,rfl,?_⟩
       replace HO_254001 := ak (Kd.S_elder' (by (with_reducible repeat (first|apply Kd.S_alloc|apply Kd.S_drewN|apply Kd.S_drew));exact HO_254001.out) (Kd.R_base ho0) hb)
       replace HO_254003 := ak (Kd.R_below (by (with_reducible repeat (first|apply Kd.R_alloc|apply Kd.R_drewN|apply Kd.R_drew));exact HO_254003.out) hb)
       replace BK248 := ak (blk_below (kb_ BK248) hb)
       replace BK249 := ak (blk_below (kb_ BK249) hb)
       replace BK253 := ak (blk_below (kb_ BK253) hb)
       replace BK255 := ak (blk_below (kb_ BK255) hb)
       have HO258 := ak (Kd.R_lower ho0 (below_size b_))
       replace HB := ak (below_step b_ hb)
       (try clear hb)
       (try clear hb2)
       (try clear hk)
       (try clear hi)
       (try clear ho0)
       obtain ⟨Ao31,co31,eo31⟩ := Kd.R_slice HO258.out
       (first|subst eo31|(injection eo31 with f1_ f2_ f3_;have f4_ := f1_.symm;have f5_ := f3_.symm;clear f1_ f2_ f3_;subst f4_;subst f5_))
       refine hK.out _ _ hh_ (fun hHeld => ?_)
       clear hK K
       refine nr_ (some 27) _ ?_
       refine pv_ 7 28 ?_
       refine oy_ 8 29 (fun K hK => ?_)
       refine value_ (w1 := ?_) (v := ?_) (by rfl) rfl ?_ ?_
       rotate_left 2
       ·go_simp
        constructor
        ·rfl
        ·rfl
       refine hK.out _ _ ⟨(blk_cell (blk_alloc BK253.out _) 0).trans rfl,(blk_cell (blk_alloc BK253.out _) 1).trans rfl,(blk_cell (blk_alloc BK253.out _) 2).trans rfl,(blk_cell (blk_alloc BK253.out _) 3).trans rfl,(blk_cell (blk_alloc BK255.out _) 0).trans rfl,(blk_cell (blk_alloc BK255.out _) 1).trans rfl⟩ (fun hHeld => ?_)
       clear hK K
       refine nr_ (some 29) _ ?_
       refine oy_ 9 30 (fun K hK => ?_)
       refine Kd.S_append_step k79 (w0 := w) w.heap.size (by rfl) (.tmp 22) (.tmp 29) 29 79 (.agg #[(.int .i64 0),(.slice none 0 0)]) 32 rfl Try.underlying29 info79 rfl (by decide) (by omega) u254001 x254001_1 (⟨(rd_T79 l0_1 x17_1).f0,t256⟩ : S79) [.int .i64 ((rd_T79 l0_1 x17_1).f0),.slice Ao31 t256.length co31] (fun k_ => k_ ≠ gb255) (fun k_ => some k_ = (.slice Ao31 t256.length co31 : Value).ownBlock) rfl rfl ?aP (fun k_ hk_ => ((Kd.R_mono (ok' := fun k_ => ((fun k_ => k_ ≠ gb255)) k_ ∧ some k_ ≠ (u254001 : Value).ownBlock) (Kd.R_types (Kd.R_apart' (HO258.out) (Kd.S_typed HO_254001.out) (by decide)) BK255.out (by decide)) (fun k_ hk => ⟨hk.2,hk.1.2⟩))).1 k_ hk_.symm) ?aF ?aO ?aB ?aS ?aL ?_
       (case aP => exact k79_mkM _ _ _ (⟨(rd_T79 l0_1 x17_1).f0,t256⟩ : S79) (Kd.R_mono (Kd.R_tight rfl (Kd.R_mono (ok' := fun k_ => ((fun k_ => k_ ≠ gb255)) k_ ∧ some k_ ≠ (u254001 : Value).ownBlock) (Kd.R_types (Kd.R_apart' (HO258.out) (Kd.S_typed HO_254001.out) (by decide)) BK255.out (by decide)) (fun k_ hk => ⟨hk.2,hk.1.2⟩))) (fun _ h_ => h_)))
       (case aB => exact b_)
       (case aF => exact (fun k_ hk => Kd.freshB (kb_ BK255) k_ hk))
       (case aO => exact (by (with_reducible repeat (first|apply Kd.S_alloc|apply Kd.S_drewN|apply Kd.S_drew));exact Kd.S_mono HO_254001.out (fun k_ hk => ⟨hk.1,fun e_ => hk.2 e_⟩)))
       (case aS => exact (below_size b_))
       (case aL => have := LMc22.out;omega)
       intro v260 w32 ho hb hg hat
       rw [← Ny259.out] at ho
       replace HO_254003 := ak (Kd.R_over' (by (with_reducible repeat (first|apply Kd.R_alloc|apply Kd.R_drewN|apply Kd.R_drew));exact HO_254003.out) (Kd.S_typed (by (with_reducible repeat (first|apply Kd.S_alloc|apply Kd.S_drewN|apply Kd.S_drew));exact HO_254001.out)) (by decide) hg)
       replace BK248 := ak (blk_grown (kb_ BK248) hg (Kd.S_ne HO_254001.out BK248.out (by decide)))
       replace BK249 := ak (blk_grown (kb_ BK249) hg (Kd.S_ne HO_254001.out BK249.out (by decide)))
       replace BK253 := ak (blk_grown (kb_ BK253) hg (Kd.S_ne HO_254001.out BK253.out (by decide)))
       replace BK255 := ak (blk_grown (kb_ BK255) hg (Kd.S_away HO_254001.out (fun _ hk => hk.1)))
       replace HB := ak (hb)
       have HO261 := ak (ho)
       clear HO_254001 HO258
       clear ho hb hg hat
       obtain ⟨Ao33,co33,eo33⟩ := Kd.S_slice HO261.out
       (first|subst eo33|(injection eo33 with f1_ f2_ f3_;have f4_ := f1_.symm;have f5_ := f3_.symm;clear f1_ f2_ f3_;subst f4_;subst f5_))
       refine hK.out _ _ hh_ (fun hHeld => ?_)
       clear hK K
       refine nr_ (some 30) _ ?_
       refine pv_ 10 31 ?_
       refine last_ (i := 11) (N := none) #[true,true,true,true,true,true,true,true,true,true,true,true] rfl rfl (one_of HT_.out (by kernel_rfl)) (by decide) (fun K hK => ?_)
       have hs34 : w32.cell? ⟨gb253,1,none⟩ = some (u254001) := (blk_cell BK253.out 1).trans rfl
       have hfs34 := blk_frozen BK253.out 1
       have hns34_0 := NB248_253.out
       have hns34_1 := NB249_253.out
       have hns34_3 := NB255_253.out
       have hms34_0 := NB253_248.out
       have hms34_1 := NB253_249.out
       have hms34_3 := NB253_255.out
       refine skip_ (w1 := ?_) (by rfl) rfl ?_ ?_
       rotate_left
       ·go_simp
        rfl
       refine hK.out _ _ ?_
       clear hK K
       refine done_ (done_of HT_.out (by kernel_rfl)) ?_
       try go_wp2
       go_roundg k1
       case measure => have := HK1.out;omega
       case rel => exact ⟨(wrap64 (x17_1 + 1)),(y259),(.slice Ao33 y259.length co33),rs_,H',⟨by have := HK1.out;omega⟩,⟨by (with_reducible repeat (first|apply Kd.S_alloc|apply Kd.S_drewN|apply Kd.S_drew));exact Kd.S_mono (Kd.S_far (p := ⟨gb253,1,none⟩) (Kd.S_types HO261.out BK253.out (by decide)) (fun _ hk => hk.2) (.slice Ao33 y259.length co33)) (fun _ hk => trivial)⟩,⟨by (with_reducible repeat (first|apply Kd.R_alloc|apply Kd.R_drewN|apply Kd.R_drew));exact Kd.R_mono (Kd.R_far (p := ⟨gb253,1,none⟩) (Kd.R_types HO_254003.out BK253.out (by decide)) (fun _ hk => hk.2) (.slice Ao33 y259.length co33)) (fun _ hk => trivial)⟩,⟨kf_ BK248⟩,⟨kf_ BK249⟩,⟨by (with_reducible repeat (first|refine blk_drewN ?_ _|refine blk_drew ?_|refine blk_alloc ?_ _));refine blk_put (cs := #[.bool a0_0,u254001,.slice none 0 0,.slice Ao10 t250.length co10]) ?_ 1 _ rfl;(with_reducible repeat (first|refine blk_drewN ?_ _|refine blk_drew ?_|refine blk_alloc ?_ _));exact BK253.out⟩,⟨b_⟩⟩
      ·rw [if_neg c22] at H
       exact absurd H (by simp)
     ·rw [if_neg c20] at H
      exact absurd H (by simp)
    ·rw [if_neg c19] at H
     exact absurd H (by simp)
   ·rw [if_neg c18] at H
    have c18b0 : decide (x17_1 < (l0_1.length : Int)) = false := decide_eq_false c18
    clear c18
    have H' := ak H
    clear H
    have hnb35 := NB248_249.out
    have hnc35 := NB249_248.out
    have hnb36 := NB248_253.out
    have hnc36 := NB253_248.out
    obtain ⟨⟨hcz37_0,hcz37_1,hcz37_2,hcz37_3⟩,hfz37_0,hfz37_1,hfz37_2,hfz37_3⟩ := cl4_ BK248.out
    go_wp2
    go_loopg [36] k1 (fun kq v36 w' => ∃ (x36_2 : Int) (x254002_2 : List (S45)) (u254002 : Value),v36 = .int .i64 x36_2 ∧ Aside0 (impl_cloneMachine.l1 kq l0_2 (l0_2.length : Int) x36_2 a0_0 x254001_1 x254002_2 t250 = some (r1,r2,r3,r4)) ∧ Aside0 (kq ≤ k1) ∧ Aside0 (Kd.S k79 79 w' w.heap.size (fun _ => True) u254001 x254001_1) ∧ Aside0 (Kd.S k45 45 w' w.heap.size (fun _ => True) u254002 x254002_2) ∧ Aside0 (Kd.R (Kd.int .i64) 2 w' w.heap.size (fun _ => True) (.slice Ao10 t250.length co10) t250) ∧ Aside0 (w'.heap[gb248]? = some (.cells #[.bool a0_0,(.slice A0_1 l0_1.length c0_1),(.slice A0_2 l0_2.length c0_2),(.slice A0_3 l0_3.length c0_3)] 32 (0,0))) ∧ Aside0 (w'.heap[gb249]? = some (.cells #[.bool false,(.slice none 0 0),(.slice none 0 0),(.slice none 0 0)] 32 (0,0))) ∧ Aside0 (w'.heap[gb253]? = some (.cells #[.bool a0_0,u254001,u254002,(.slice Ao10 t250.length co10)] 32 (0,0))) ∧ Aside0 (Below w.heap.size w w'))
    case atStart => exact ⟨(0),(([] : List (S45))),(.slice none 0 0),rs_,H',⟨Nat.le_refl _⟩,⟨by (with_reducible repeat (first|apply Kd.S_alloc|apply Kd.S_drewN|apply Kd.S_drew));exact HO_254001.out⟩,⟨by first|exact Kd.S_nil _ _ _ _ _|exact Kd.N_nil _ _ _ _ _|exact Kd.V_nil _ _ _ _ _|exact Kd.Q_nil _ _ _ _ _|exact Kd.R_nil _ _ _ _ _⟩,⟨by (with_reducible repeat (first|apply Kd.R_alloc|apply Kd.R_drewN|apply Kd.R_drew));exact HO_254003.out⟩,⟨kb_ BK248⟩,⟨kb_ BK249⟩,⟨kb_ BK253⟩,⟨b_⟩⟩
    case round =>
     clear H'
     try clear c1
     try clear c2
     try clear p2
     try clear q2
     try clear hx2
     try clear c3
     try clear c6
     try clear p6
     try clear c7
     try clear c12
     try clear c15
     try clear c16
     try clear c18
     try clear c18b0
     try clear c19
     try clear c19b0
     try clear c20
     try clear c20b0
     try clear c22
     try clear c24
     try clear c25
     try clear p25
     try clear q25
     try clear hx25
     try clear c26
     try clear c35
     try clear c36
     try clear hcz17_0
     try clear hcz17_1
     try clear hcz17_2
     try clear hcz17_3
     try clear hcz27_0
     try clear hcz27_1
     try clear hcz37_0
     try clear hcz37_1
     try clear hcz37_2
     try clear hcz37_3
     try clear hfz17_0
     try clear hfz17_1
     try clear hfz17_2
     try clear hfz17_3
     try clear hfz27_0
     try clear hfz27_1
     try clear hfz37_0
     try clear hfz37_1
     try clear hfz37_2
     try clear hfz37_3
     try clear hx254_0
     try clear hx254_1
     try clear p2
     try clear p254
     try clear q254
     obtain ⟨x36_2,x254002_2,u254002,rfl,HA,HK2,HO_254001,HO_254002,HO_254003,BK248,BK249,BK253,HB⟩ := hrel
     cases gk with
     | zero => exact absurd HA.out (by simp [impl_cloneMachine.l1])
     | succ k2 =>
      have H := HA.out
      clear HA
      simp only [impl_cloneMachine.l1] at H
      by_cases c38 : x36_2 < (l0_2.length : Int)
      ·rw [if_pos c38] at H
       have c38b0 : decide (x36_2 < (l0_2.length : Int)) = true := decide_eq_true c38
       clear c38
       by_cases c39 : 0 ≤ x36_2
       ·rw [if_pos c39] at H
        have c39b0 : decide (0 ≤ x36_2) = true := decide_eq_true c39
        clear c39
        by_cases c40 : x36_2 < (l0_2.length : Int)
        ·rw [if_pos c40] at H
         have c40b0 : decide (x36_2 < (l0_2.length : Int)) = true := decide_eq_true c40
         clear c40
         replace H := Option.bind_eq_some_iff.mp H
         obtain ⟨⟨t264,t265,t266,t267⟩,A410,H⟩ := H
         replace H : (if x254002_2.length < 2932031007402 then (impl_cloneMachine.l1 k2 l0_2 (l0_2.length : Int) (wrap64 (x36_2 + 1)) a0_0 x254001_1 (x254002_2 ++ [(⟨t264,t265,t266,t267⟩ : S45)]) t250) else (none)) = some (r1,r2,r3,r4) := H
         have A41 := ak A410
         clear A410
         by_cases c42 : x254002_2.length < 2932031007402
         ·rw [if_pos c42] at H
          have LMc42 := ak c42
          clear c42
          obtain ⟨y270,hy270⟩ : ∃ y_ : List (S45),y_ = (x254002_2 ++ [(⟨t264,t265,t266,t267⟩ : S45)]) := ⟨_,rfl⟩
          replace H : (impl_cloneMachine.l1 k2 l0_2 (l0_2.length : Int) (wrap64 (x36_2 + 1)) a0_0 x254001_1 y270 t250) = some (r1,r2,r3,r4) := by first|(rw [hy270];with_reducible exact H)|(have H2_ := (Option.bind_some _ _).symm.trans H;rw [hy270];with_reducible exact H2_)|(have H2_ := (Option.bind_some _ _).symm.trans H;with_reducible exact H2_)|with_reducible exact H|(rw [hy270];exact H)|exact H
          have Ny270 := ak hy270
          clear hy270
          have H' := ak H
          clear H
          have p262 : 0 ≤ (x36_2 : Int) := od_
          have q262 : x36_2 < (l0_2.length : Int) := od_
          obtain ⟨ad262,A262_3,c262_3,e262,hx262_0,hx262_1,hx262_2,hx262_3,hl262_3,hi262_3⟩ := at_T45 HR0_2.out x36_2 p262 q262
          cases e262
          replace hx262_0 := hx_ HB hx262_0
          replace hx262_1 := hx_ HB hx262_1
          replace hx262_2 := hx_ HB hx262_2
          replace hx262_3 := hx_ HB hx262_3
          have HR262_3 := ak hi262_3
          have HC262_3 := ak hl262_3
          clear hi262_3 hl262_3
          replace p262 := eq_true p262
          replace q262 := eq_true q262
          try go_wp2_with (first|((with_reducible refine gate_dst (N := 7) rfl ?_);refine bx_ 7 #[.int .i64 0,.int .i64 0,.int .i64 0,.slice none 0 0] 45 ?_;intro gb263 hg w43 hbox hb;replace HO_254001 := ak (Kd.S_below (by (with_reducible repeat (first|apply Kd.S_alloc|apply Kd.S_drewN|apply Kd.S_drew));exact HO_254001.out) hb);replace HO_254002 := ak (Kd.S_below (Kd.S_elderB (by (with_reducible repeat (first|apply Kd.S_alloc|apply Kd.S_drewN|apply Kd.S_drew));exact HO_254002.out) gb263 (Nat.le_of_eq hg.symm)) hb);replace HO_254003 := ak (Kd.R_below (by (with_reducible repeat (first|apply Kd.R_alloc|apply Kd.R_drewN|apply Kd.R_drew));exact HO_254003.out) hb);replace HB := nb_ hg hbox hb;obtain ⟨BK263,GW263,GE263,HB⟩ := HB;have NB248_263 := ak ((nl_ BK248 hg));have NB263_248 := ak ((ng_ BK248 hg));replace BK248 := ak (blk_below (kb_ BK248) hb);have NB249_263 := ak ((nl_ BK249 hg));have NB263_249 := ak ((ng_ BK249 hg));replace BK249 := ak (blk_below (kb_ BK249) hb);have NB253_263 := ak ((nl_ BK253 hg));have NB263_253 := ak ((ng_ BK253 hg));replace BK253 := ak (blk_below (kb_ BK253) hb);clear hb hbox hg;have hnb44 := NB263_248.out;have hnc44 := NB248_263.out;have hnb45 := NB263_249.out;have hnc45 := NB249_263.out;have hnb46 := NB263_253.out;have hnc46 := NB253_263.out;obtain ⟨⟨hcz47_0,hcz47_1,hcz47_2,hcz47_3⟩,hfz47_0,hfz47_1,hfz47_2,hfz47_3⟩ := cl4_ BK263.out))
          have n0_ : Aside0 (Kd.S k79 79 ((((w43.setCell ⟨gb263,0,none⟩ (.int .i64 ((rd_T45 l0_2 x36_2).f0))).setCell ⟨gb263,1,none⟩ (.int .i64 ((rd_T45 l0_2 x36_2).f1))).setCell ⟨gb263,2,none⟩ (.int .i64 ((rd_T45 l0_2 x36_2).f2))).setCell ⟨gb263,3,none⟩ (.slice A262_3 ((rd_T45 l0_2 x36_2).f3).length c262_3)) w.heap.size (fun _ => True) u254001 x254001_1) := ⟨by (with_reducible repeat (first|apply Kd.S_alloc|apply Kd.S_drewN|apply Kd.S_drew));exact Kd.S_mono (Kd.S_far (p := ⟨gb263,3,none⟩) (Kd.S_far (p := ⟨gb263,2,none⟩) (Kd.S_far (p := ⟨gb263,1,none⟩) (Kd.S_far (p := ⟨gb263,0,none⟩) (Kd.S_types HO_254001.out BK263.out (by decide)) (fun _ hk => hk.2) (.int .i64 ((rd_T45 l0_2 x36_2).f0))) (fun _ hk => hk.2) (.int .i64 ((rd_T45 l0_2 x36_2).f1))) (fun _ hk => hk.2) (.int .i64 ((rd_T45 l0_2 x36_2).f2))) (fun _ hk => hk.2) (.slice A262_3 ((rd_T45 l0_2 x36_2).f3).length c262_3)) (fun _ hk => trivial)⟩
          have n1_ : Aside0 (Kd.S k45 45 ((((w43.setCell ⟨gb263,0,none⟩ (.int .i64 ((rd_T45 l0_2 x36_2).f0))).setCell ⟨gb263,1,none⟩ (.int .i64 ((rd_T45 l0_2 x36_2).f1))).setCell ⟨gb263,2,none⟩ (.int .i64 ((rd_T45 l0_2 x36_2).f2))).setCell ⟨gb263,3,none⟩ (.slice A262_3 ((rd_T45 l0_2 x36_2).f3).length c262_3)) w.heap.size (fun k_ => k_ ≠ gb263) u254002 x254002_2) := ⟨by (with_reducible repeat (first|apply Kd.S_alloc|apply Kd.S_drewN|apply Kd.S_drew));exact Kd.S_mono (Kd.S_far (p := ⟨gb263,3,none⟩) (Kd.S_far (p := ⟨gb263,2,none⟩) (Kd.S_far (p := ⟨gb263,1,none⟩) (Kd.S_far (p := ⟨gb263,0,none⟩) (Kd.S_mono HO_254002.out (fun k_ hk => (⟨hk,hk.2⟩ : _ ∧ k_ ≠ gb263))) (fun _ hk => hk.2) (.int .i64 ((rd_T45 l0_2 x36_2).f0))) (fun _ hk => hk.2) (.int .i64 ((rd_T45 l0_2 x36_2).f1))) (fun _ hk => hk.2) (.int .i64 ((rd_T45 l0_2 x36_2).f2))) (fun _ hk => hk.2) (.slice A262_3 ((rd_T45 l0_2 x36_2).f3).length c262_3)) (fun _ hk => hk.1.2)⟩
          have n2_ : Aside0 (Kd.R (Kd.int .i64) 2 ((((w43.setCell ⟨gb263,0,none⟩ (.int .i64 ((rd_T45 l0_2 x36_2).f0))).setCell ⟨gb263,1,none⟩ (.int .i64 ((rd_T45 l0_2 x36_2).f1))).setCell ⟨gb263,2,none⟩ (.int .i64 ((rd_T45 l0_2 x36_2).f2))).setCell ⟨gb263,3,none⟩ (.slice A262_3 ((rd_T45 l0_2 x36_2).f3).length c262_3)) w.heap.size (fun _ => True) (.slice Ao10 t250.length co10) t250) := ⟨by (with_reducible repeat (first|apply Kd.R_alloc|apply Kd.R_drewN|apply Kd.R_drew));exact Kd.R_mono (Kd.R_far (p := ⟨gb263,3,none⟩) (Kd.R_far (p := ⟨gb263,2,none⟩) (Kd.R_far (p := ⟨gb263,1,none⟩) (Kd.R_far (p := ⟨gb263,0,none⟩) (Kd.R_types HO_254003.out BK263.out (by decide)) (fun _ hk => hk.2) (.int .i64 ((rd_T45 l0_2 x36_2).f0))) (fun _ hk => hk.2) (.int .i64 ((rd_T45 l0_2 x36_2).f1))) (fun _ hk => hk.2) (.int .i64 ((rd_T45 l0_2 x36_2).f2))) (fun _ hk => hk.2) (.slice A262_3 ((rd_T45 l0_2 x36_2).f3).length c262_3)) (fun _ hk => trivial)⟩
          have n3_ : Aside0 (((((w43.setCell ⟨gb263,0,none⟩ (.int .i64 ((rd_T45 l0_2 x36_2).f0))).setCell ⟨gb263,1,none⟩ (.int .i64 ((rd_T45 l0_2 x36_2).f1))).setCell ⟨gb263,2,none⟩ (.int .i64 ((rd_T45 l0_2 x36_2).f2))).setCell ⟨gb263,3,none⟩ (.slice A262_3 ((rd_T45 l0_2 x36_2).f3).length c262_3)).heap[gb248]? = some (.cells #[.bool a0_0,.slice A0_1 l0_1.length c0_1,.slice (some ad262) l0_2.length c0_2,.slice A0_3 l0_3.length c0_3] 32 (0,0))) := ⟨kf_ BK248⟩
          have n4_ : Aside0 (((((w43.setCell ⟨gb263,0,none⟩ (.int .i64 ((rd_T45 l0_2 x36_2).f0))).setCell ⟨gb263,1,none⟩ (.int .i64 ((rd_T45 l0_2 x36_2).f1))).setCell ⟨gb263,2,none⟩ (.int .i64 ((rd_T45 l0_2 x36_2).f2))).setCell ⟨gb263,3,none⟩ (.slice A262_3 ((rd_T45 l0_2 x36_2).f3).length c262_3)).heap[gb249]? = some (.cells #[.bool false,.slice none 0 0,.slice none 0 0,.slice none 0 0] 32 (0,0))) := ⟨kf_ BK249⟩
          have n5_ : Aside0 (((((w43.setCell ⟨gb263,0,none⟩ (.int .i64 ((rd_T45 l0_2 x36_2).f0))).setCell ⟨gb263,1,none⟩ (.int .i64 ((rd_T45 l0_2 x36_2).f1))).setCell ⟨gb263,2,none⟩ (.int .i64 ((rd_T45 l0_2 x36_2).f2))).setCell ⟨gb263,3,none⟩ (.slice A262_3 ((rd_T45 l0_2 x36_2).f3).length c262_3)).heap[gb253]? = some (.cells #[.bool a0_0,u254001,u254002,.slice Ao10 t250.length co10] 32 (0,0))) := ⟨kf_ BK253⟩
          have n6_ : Aside0 (((((w43.setCell ⟨gb263,0,none⟩ (.int .i64 ((rd_T45 l0_2 x36_2).f0))).setCell ⟨gb263,1,none⟩ (.int .i64 ((rd_T45 l0_2 x36_2).f1))).setCell ⟨gb263,2,none⟩ (.int .i64 ((rd_T45 l0_2 x36_2).f2))).setCell ⟨gb263,3,none⟩ (.slice A262_3 ((rd_T45 l0_2 x36_2).f3).length c262_3)).heap[gb263]? = some (.cells #[.int .i64 ((rd_T45 l0_2 x36_2).f0),.int .i64 ((rd_T45 l0_2 x36_2).f1),.int .i64 ((rd_T45 l0_2 x36_2).f2),.slice A262_3 ((rd_T45 l0_2 x36_2).f3).length c262_3] 45 (0,0))) := ⟨by (with_reducible repeat (first|refine blk_drewN ?_ _|refine blk_drew ?_|refine blk_alloc ?_ _));refine blk_put (cs := #[.int .i64 ((rd_T45 l0_2 x36_2).f0),.int .i64 ((rd_T45 l0_2 x36_2).f1),.int .i64 ((rd_T45 l0_2 x36_2).f2),.slice none 0 0]) ?_ 3 _ rfl;(with_reducible repeat (first|refine blk_drewN ?_ _|refine blk_drew ?_|refine blk_alloc ?_ _));refine blk_put (cs := #[.int .i64 ((rd_T45 l0_2 x36_2).f0),.int .i64 ((rd_T45 l0_2 x36_2).f1),.int .i64 0,.slice none 0 0]) ?_ 2 _ rfl;(with_reducible repeat (first|refine blk_drewN ?_ _|refine blk_drew ?_|refine blk_alloc ?_ _));refine blk_put (cs := #[.int .i64 ((rd_T45 l0_2 x36_2).f0),.int .i64 0,.int .i64 0,.slice none 0 0]) ?_ 1 _ rfl;(with_reducible repeat (first|refine blk_drewN ?_ _|refine blk_drew ?_|refine blk_alloc ?_ _));refine blk_put (cs := #[.int .i64 0,.int .i64 0,.int .i64 0,.slice none 0 0]) ?_ 0 _ rfl;(with_reducible repeat (first|refine blk_drewN ?_ _|refine blk_drew ?_|refine blk_alloc ?_ _));exact BK263.out⟩
          have n7_ : Aside0 (Below w.heap.size w ((((w43.setCell ⟨gb263,0,none⟩ (.int .i64 ((rd_T45 l0_2 x36_2).f0))).setCell ⟨gb263,1,none⟩ (.int .i64 ((rd_T45 l0_2 x36_2).f1))).setCell ⟨gb263,2,none⟩ (.int .i64 ((rd_T45 l0_2 x36_2).f2))).setCell ⟨gb263,3,none⟩ (.slice A262_3 ((rd_T45 l0_2 x36_2).f3).length c262_3))) := ⟨b_⟩
          (try clear HO_254001)
          (try clear HO_254002)
          (try clear HO_254003)
          (try clear BK248)
          (try clear BK249)
          (try clear BK253)
          (try clear BK263)
          (try clear HB)
          generalize ((((w43.setCell ⟨gb263,0,none⟩ (.int .i64 ((rd_T45 l0_2 x36_2).f0))).setCell ⟨gb263,1,none⟩ (.int .i64 ((rd_T45 l0_2 x36_2).f1))).setCell ⟨gb263,2,none⟩ (.int .i64 ((rd_T45 l0_2 x36_2).f2))).setCell ⟨gb263,3,none⟩ (.slice A262_3 ((rd_T45 l0_2 x36_2).f3).length c262_3)) = w48 at n0_ n1_ n2_ n3_ n4_ n5_ n6_ n7_ ⊢
          have HO_254001 := n0_
          have HO_254002 := n1_
          have HO_254003 := n2_
          have BK248 := n3_
          have BK249 := n4_
          have BK253 := n5_
          have BK263 := n6_
          have HB := n7_
          clear n0_ n1_ n2_ n3_ n4_ n5_ n6_ n7_
          replace HO_254001 := ak (Kd.S_drew HO_254001.out)
          replace HO_254002 := ak (Kd.S_drew HO_254002.out)
          replace HO_254003 := ak (Kd.R_drew HO_254003.out)
          replace BK248 := ak (blk_drew BK248.out)
          replace BK249 := ak (blk_drew BK249.out)
          replace BK253 := ak (blk_drew BK253.out)
          replace BK263 := ak (blk_drew BK263.out)
          replace HB := ak (below_drew1 HB.out)
          refine std_ 8 (S := fun w' => hc4 w' gb253 (.bool a0_0) (u254001) (u254002) (.slice Ao10 t250.length co10) (hd4 w' gb263 (.int .i64 ((rd_T45 l0_2 x36_2).f0)) (.int .i64 ((rd_T45 l0_2 x36_2).f1)) (.int .i64 ((rd_T45 l0_2 x36_2).f2)) (.slice A262_3 ((rd_T45 l0_2 x36_2).f3).length c262_3))) (ds := [7]) hh_ (fun hHeld => ?_);refine with_tabW impl_cloneMachine.tab10 impl_cloneMachine.bits10 (fun HT_ HW_ => ?_)
          generalize w48.drew = w49 at HO_254001 HO_254002 HO_254003 BK248 BK249 BK253 BK263 HB hHeld ⊢
          refine pv_ 0 40 ?_
          refine tx_ 1 41 hHeld ?_
          refine tx_ 2 42 hHeld ?_
          refine oy_ 3 43 (fun K hK => ?_)
          refine gs_ Try.func68 #[.agg #[.int .i64 ((rd_T45 l0_2 x36_2).f0),.int .i64 ((rd_T45 l0_2 x36_2).f1),.int .i64 ((rd_T45 l0_2 x36_2).f2),.slice A262_3 ((rd_T45 l0_2 x36_2).f3).length c262_3]] ?_
          with_reducible refine (impl_cloneRecord.calls ((rd_T45 l0_2 x36_2).f0) ((rd_T45 l0_2 x36_2).f1) ((rd_T45 l0_2 x36_2).f2) _ _ ((rd_T45 l0_2 x36_2).f3) t264 t265 t266 t267 _ ?side1 ?side2 A41.out).mono ?_
          (case side1 => exact cb_ HR262_3)
          (case side2 => exact HC262_3.out)
          rintro e w50 ⟨v268,rfl,ho0,hb⟩
          refine ⟨_,rfl,?_⟩
          replace HO_254001 := ak (Kd.S_below (by (with_reducible repeat (first|apply Kd.S_alloc|apply Kd.S_drewN|apply Kd.S_drew));exact HO_254001.out) hb)
          replace HO_254002 := ak (Kd.S_elder' (by (with_reducible repeat (first|apply Kd.S_alloc|apply Kd.S_drewN|apply Kd.S_drew));exact HO_254002.out) (Kd.R_base ho0) hb)
          replace HO_254003 := ak (Kd.R_below (by (with_reducible repeat (first|apply Kd.R_alloc|apply Kd.R_drewN|apply Kd.R_drew));exact HO_254003.out) hb)
          replace BK248 := ak (blk_below (kb_ BK248) hb)
          replace BK249 := ak (blk_below (kb_ BK249) hb)
          replace BK253 := ak (blk_below (kb_ BK253) hb)
          replace BK263 := ak (blk_below (kb_ BK263) hb)
          have HO269 := ak (Kd.R_lower ho0 (below_size b_))
          replace HB := ak (below_step b_ hb)
          (try clear hb)
          (try clear hb2)
          (try clear hk)
          (try clear hi)
          (try clear ho0)
          obtain ⟨Ao52,co52,eo52⟩ := Kd.R_slice HO269.out
          (first|subst eo52|(injection eo52 with f1_ f2_ f3_;have f4_ := f1_.symm;have f5_ := f3_.symm;clear f1_ f2_ f3_;subst f4_;subst f5_))
          refine hK.out _ _ hh_ (fun hHeld => ?_)
          clear hK K
          refine nr_ (some 43) _ ?_
          refine oy_ 4 44 (fun K hK => ?_)
          refine value_ (w1 := ?_) (v := ?_) (by rfl) rfl ?_ ?_
          rotate_left 2
          ·go_simp
           constructor
           ·rfl
           ·rfl
          refine hK.out _ _ ⟨(blk_cell (blk_alloc BK253.out _) 0).trans rfl,(blk_cell (blk_alloc BK253.out _) 1).trans rfl,(blk_cell (blk_alloc BK253.out _) 2).trans rfl,(blk_cell (blk_alloc BK253.out _) 3).trans rfl,(blk_cell (blk_alloc BK263.out _) 0).trans rfl,(blk_cell (blk_alloc BK263.out _) 1).trans rfl,(blk_cell (blk_alloc BK263.out _) 2).trans rfl,(blk_cell (blk_alloc BK263.out _) 3).trans rfl⟩ (fun hHeld => ?_)
          clear hK K
          refine nr_ (some 44) _ ?_
          refine oy_ 5 45 (fun K hK => ?_)
          refine Kd.S_append_step k45 (w0 := w) w.heap.size (by rfl) (.tmp 41) (.tmp 44) 30 45 (.agg #[(.int .i64 0),(.int .i64 0),(.int .i64 0),(.slice none 0 0)]) 48 rfl Try.underlying30 info45 rfl (by decide) (by omega) u254002 x254002_2 (⟨t264,t265,t266,t267⟩ : S45) [.int .i64 t264,.int .i64 t265,.int .i64 t266,.slice Ao52 t267.length co52] (fun k_ => k_ ≠ gb263) (fun k_ => some k_ = (.slice Ao52 t267.length co52 : Value).ownBlock) rfl rfl ?aP (fun k_ hk_ => ((Kd.R_mono (ok' := fun k_ => ((fun k_ => k_ ≠ gb263)) k_ ∧ some k_ ≠ (u254002 : Value).ownBlock) (Kd.R_types (Kd.R_apart' (HO269.out) (Kd.S_typed HO_254002.out) (by decide)) BK263.out (by decide)) (fun k_ hk => ⟨hk.2,hk.1.2⟩))).1 k_ hk_.symm) ?aF ?aO ?aB ?aS ?aL ?_
          (case aP => exact k45_mkM _ _ _ (⟨t264,t265,t266,t267⟩ : S45) (Kd.R_mono (Kd.R_tight rfl (Kd.R_mono (ok' := fun k_ => ((fun k_ => k_ ≠ gb263)) k_ ∧ some k_ ≠ (u254002 : Value).ownBlock) (Kd.R_types (Kd.R_apart' (HO269.out) (Kd.S_typed HO_254002.out) (by decide)) BK263.out (by decide)) (fun k_ hk => ⟨hk.2,hk.1.2⟩))) (fun _ h_ => h_)))
          (case aB => exact b_)
          (case aF => exact (fun k_ hk => Kd.freshB (kb_ BK263) k_ hk))
          (case aO => exact (by (with_reducible repeat (first|apply Kd.S_alloc|apply Kd.S_drewN|apply Kd.S_drew));exact Kd.S_mono HO_254002.out (fun k_ hk => ⟨hk.1,fun e_ => hk.2 e_⟩)))
          (case aS => exact (below_size b_))
          (case aL => have := LMc42.out;omega)
          intro v271 w51 ho hb hg hat
          rw [← Ny270.out] at ho
          replace HO_254001 := ak (Kd.S_over' (by (with_reducible repeat (first|apply Kd.S_alloc|apply Kd.S_drewN|apply Kd.S_drew));exact HO_254001.out) (Kd.S_typed (by (with_reducible repeat (first|apply Kd.S_alloc|apply Kd.S_drewN|apply Kd.S_drew));exact HO_254002.out)) (by decide) hg)
          replace HO_254003 := ak (Kd.R_over' (by (with_reducible repeat (first|apply Kd.R_alloc|apply Kd.R_drewN|apply Kd.R_drew));exact HO_254003.out) (Kd.S_typed (by (with_reducible repeat (first|apply Kd.S_alloc|apply Kd.S_drewN|apply Kd.S_drew));exact HO_254002.out)) (by decide) hg)
          replace BK248 := ak (blk_grown (kb_ BK248) hg (Kd.S_ne HO_254002.out BK248.out (by decide)))
          replace BK249 := ak (blk_grown (kb_ BK249) hg (Kd.S_ne HO_254002.out BK249.out (by decide)))
          replace BK253 := ak (blk_grown (kb_ BK253) hg (Kd.S_ne HO_254002.out BK253.out (by decide)))
          replace BK263 := ak (blk_grown (kb_ BK263) hg (Kd.S_away HO_254002.out (fun _ hk => hk.1)))
          replace HB := ak (hb)
          have HO272 := ak (ho)
          clear HO_254002 HO269
          clear ho hb hg hat
          obtain ⟨Ao53,co53,eo53⟩ := Kd.S_slice HO272.out
          (first|subst eo53|(injection eo53 with f1_ f2_ f3_;have f4_ := f1_.symm;have f5_ := f3_.symm;clear f1_ f2_ f3_;subst f4_;subst f5_))
          refine hK.out _ _ hh_ (fun hHeld => ?_)
          clear hK K
          refine nr_ (some 45) _ ?_
          refine pv_ 6 46 ?_
          refine last_ (i := 7) (N := none) #[true,true,true,true,true,true,true,true] rfl rfl (one_of HT_.out (by kernel_rfl)) (by decide) (fun K hK => ?_)
          have hs54 : w51.cell? ⟨gb253,2,none⟩ = some (u254002) := (blk_cell BK253.out 2).trans rfl
          have hfs54 := blk_frozen BK253.out 2
          have hns54_0 := NB248_253.out
          have hns54_1 := NB249_253.out
          have hns54_3 := NB263_253.out
          have hms54_0 := NB253_248.out
          have hms54_1 := NB253_249.out
          have hms54_3 := NB253_263.out
          refine skip_ (w1 := ?_) (by rfl) rfl ?_ ?_
          rotate_left
          ·go_simp
           rfl
          refine hK.out _ _ ?_
          clear hK K
          refine done_ (done_of HT_.out (by kernel_rfl)) ?_
          try go_wp2
          go_roundg k2
          case measure => have := HK1.out;have := HK2.out;omega
          case rel => exact ⟨(wrap64 (x36_2 + 1)),(y270),(.slice Ao53 y270.length co53),rs_,H',⟨by have := HK1.out;have := HK2.out;omega⟩,⟨by (with_reducible repeat (first|apply Kd.S_alloc|apply Kd.S_drewN|apply Kd.S_drew));exact Kd.S_mono (Kd.S_far (p := ⟨gb253,2,none⟩) (Kd.S_types HO_254001.out BK253.out (by decide)) (fun _ hk => hk.2) (.slice Ao53 y270.length co53)) (fun _ hk => trivial)⟩,⟨by (with_reducible repeat (first|apply Kd.S_alloc|apply Kd.S_drewN|apply Kd.S_drew));exact Kd.S_mono (Kd.S_far (p := ⟨gb253,2,none⟩) (Kd.S_types HO272.out BK253.out (by decide)) (fun _ hk => hk.2) (.slice Ao53 y270.length co53)) (fun _ hk => trivial)⟩,⟨by (with_reducible repeat (first|apply Kd.R_alloc|apply Kd.R_drewN|apply Kd.R_drew));exact Kd.R_mono (Kd.R_far (p := ⟨gb253,2,none⟩) (Kd.R_types HO_254003.out BK253.out (by decide)) (fun _ hk => hk.2) (.slice Ao53 y270.length co53)) (fun _ hk => trivial)⟩,⟨kf_ BK248⟩,⟨kf_ BK249⟩,⟨by (with_reducible repeat (first|refine blk_drewN ?_ _|refine blk_drew ?_|refine blk_alloc ?_ _));refine blk_put (cs := #[.bool a0_0,u254001,u254002,.slice Ao10 t250.length co10]) ?_ 2 _ rfl;(with_reducible repeat (first|refine blk_drewN ?_ _|refine blk_drew ?_|refine blk_alloc ?_ _));exact BK253.out⟩,⟨b_⟩⟩
         ·rw [if_neg c42] at H
          exact absurd H (by simp)
        ·rw [if_neg c40] at H
         exact absurd H (by simp)
       ·rw [if_neg c39] at H
        exact absurd H (by simp)
      ·rw [if_neg c38] at H
       have c38b0 : decide (x36_2 < (l0_2.length : Int)) = false := decide_eq_false c38
       clear c38
       simp only [Option.some.injEq,Prod.mk.injEq] at H
       obtain ⟨rfl,rfl,rfl,rfl⟩ := H
       have hnb55 := NB253_248.out
       have hnc55 := NB248_253.out
       have hnb56 := NB253_249.out
       have hnc56 := NB249_253.out
       obtain ⟨⟨hcz57_0,hcz57_1,hcz57_2,hcz57_3⟩,hfz57_0,hfz57_1,hfz57_2,hfz57_3⟩ := cl4_ BK253.out
       have hnb58 := NB249_248.out
       have hnc58 := NB248_249.out
       obtain ⟨⟨hcz59_0,hcz59_1,hcz59_2,hcz59_3⟩,hfz59_0,hfz59_1,hfz59_2,hfz59_3⟩ := cl4_ BK249.out
       obtain ⟨Ao60,co60,eo60⟩ := Kd.S_slice HO_254001.out
       subst eo60
       obtain ⟨Ao61,co61,eo61⟩ := Kd.S_slice HO_254002.out
       subst eo61
       go_wp2
       refine bodyPost_ret (results_cell_row rfl _ _ gb249 32 #[.bool a0_0,.slice Ao60 x254001_1.length co60,.slice Ao61 x254002_2.length co61,.slice Ao10 t250.length co10] (0,0) _ rfl (by (with_reducible repeat (first|refine blk_drewN ?_ _|refine blk_drew ?_|refine blk_alloc ?_ _));refine blk_put (cs := #[.bool a0_0,.slice Ao60 x254001_1.length co60,.slice Ao61 x254002_2.length co61,.slice none 0 0]) ?_ 3 _ rfl;(with_reducible repeat (first|refine blk_drewN ?_ _|refine blk_drew ?_|refine blk_alloc ?_ _));refine blk_put (cs := #[.bool a0_0,.slice Ao60 x254001_1.length co60,.slice none 0 0,.slice none 0 0]) ?_ 2 _ rfl;(with_reducible repeat (first|refine blk_drewN ?_ _|refine blk_drew ?_|refine blk_alloc ?_ _));refine blk_put (cs := #[.bool a0_0,.slice none 0 0,.slice none 0 0,.slice none 0 0]) ?_ 1 _ rfl;(with_reducible repeat (first|refine blk_drewN ?_ _|refine blk_drew ?_|refine blk_alloc ?_ _));refine blk_put (cs := #[.bool false,.slice none 0 0,.slice none 0 0,.slice none 0 0]) ?_ 0 _ rfl;(with_reducible repeat (first|refine blk_drewN ?_ _|refine blk_drew ?_|refine blk_alloc ?_ _));exact BK249.out) Try.underlying32 rfl (by kernel_rfl)) rfl ?_
       exact ⟨_,_,_,rf_,by (with_reducible repeat (first|apply Kd.S_alloc|apply Kd.S_drewN|apply Kd.S_drew));exact Kd.S_mono (Kd.S_far (p := ⟨gb249,3,none⟩) (Kd.S_far (p := ⟨gb249,2,none⟩) (Kd.S_far (p := ⟨gb249,1,none⟩) (Kd.S_far (p := ⟨gb249,0,none⟩) (Kd.S_types HO_254001.out BK249.out (by decide)) (fun _ hk => hk.2) (.bool a0_0)) (fun _ hk => hk.2) (.slice Ao60 x254001_1.length co60)) (fun _ hk => hk.2) (.slice Ao61 x254002_2.length co61)) (fun _ hk => hk.2) (.slice Ao10 t250.length co10)) (fun _ hk => trivial),by (with_reducible repeat (first|apply Kd.S_alloc|apply Kd.S_drewN|apply Kd.S_drew));exact Kd.S_mono (Kd.S_far (p := ⟨gb249,3,none⟩) (Kd.S_far (p := ⟨gb249,2,none⟩) (Kd.S_far (p := ⟨gb249,1,none⟩) (Kd.S_far (p := ⟨gb249,0,none⟩) (Kd.S_types HO_254002.out BK249.out (by decide)) (fun _ hk => hk.2) (.bool a0_0)) (fun _ hk => hk.2) (.slice Ao60 x254001_1.length co60)) (fun _ hk => hk.2) (.slice Ao61 x254002_2.length co61)) (fun _ hk => hk.2) (.slice Ao10 t250.length co10)) (fun _ hk => trivial),by (with_reducible repeat (first|apply Kd.R_alloc|apply Kd.R_drewN|apply Kd.R_drew));exact Kd.R_mono (Kd.R_far (p := ⟨gb249,3,none⟩) (Kd.R_far (p := ⟨gb249,2,none⟩) (Kd.R_far (p := ⟨gb249,1,none⟩) (Kd.R_far (p := ⟨gb249,0,none⟩) (Kd.R_types HO_254003.out BK249.out (by decide)) (fun _ hk => hk.2) (.bool a0_0)) (fun _ hk => hk.2) (.slice Ao60 x254001_1.length co60)) (fun _ hk => hk.2) (.slice Ao61 x254002_2.length co61)) (fun _ hk => hk.2) (.slice Ao10 t250.length co10)) (fun _ hk => trivial),b_⟩

end Go.Proofs.Ythplaakckfhaaaa.XCd
