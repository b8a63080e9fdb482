/- Proved: of each Go function here that a call comes to what the Lean function of its name tells. Written by a program of this session over the translation. No conditions beyond each theorem's own. -/
import Derived.Test.YthplaakckfhaaaaXRp0
import Derived.Test.YthplaakckfhaaaaXRp14
import Derived.Test.YthplaakckfhaaaaXRp22
namespace Go.Proofs.Ythplaakckfhaaaa.XRp
open Go.RowKit Go.Proofs.Ythplaakckfhaaaa.Aid Go.Proofs.YthplaakckfhaaaaW.PrintWords Go.Proofs.YthplaakckfhaaaaW.PrintLast Go.Proofs.YthplaakckfhaaaaW.PrintMore
set_option linter.unusedVariables false
set_option linter.unusedSimpArgs false

/-! ### impl_cloneMachine: function 76 -/
mutual
def impl_cloneMachine.l0 : Nat → List (S79) → Int → Int → Bool → List (S79) → List (S45) → List Int → Bool → List (S79) → List Int → Option (Bool × (List (S79)) × (List (S45)) × List Int)
  | 0, _, _, _, _, _, _, _, _, _, _ => none
  | k + 1, x15, x16, x17, x400000, x400001, x400002, x400003, x405000, x405001, x405003 => if x17 < x16 then (if 0 ≤ x17 then (if x17 < (x15.length : Int) then ((impl_Cell_60.f ((rd_T79 x15 x17).f1)).bind fun t407 => (if x405001.length < 4398046511104 then (impl_cloneMachine.l0 k x15 x16 (wrap64 (x17 + 1)) x400000 x400001 x400002 x400003 x405000 (x405001 ++ [(⟨(rd_T79 x15 x17).f0, t407⟩ : S79)]) x405003) else (none))) else (none)) else (none)) else (impl_cloneMachine.l1 k x400002 (x400002.length : Int) 0 x405000 x405001 ([] : List (S45)) x405003)
def impl_cloneMachine.l1 : Nat → List (S45) → Int → Int → Bool → List (S79) → List (S45) → List Int → Option (Bool × (List (S79)) × (List (S45)) × List Int)
  | 0, _, _, _, _, _, _, _ => none
  | k + 1, x34, x35, x36, x405000, x405001, x405002, x405003 => if x36 < x35 then (if 0 ≤ x36 then (if x36 < (x34.length : Int) then ((impl_cloneRecord.f ((rd_T45 x34 x36).f0) ((rd_T45 x34 x36).f1) ((rd_T45 x34 x36).f2) ((rd_T45 x34 x36).f3)).bind fun bt415 => (if x405002.length < 2932031007402 then (impl_cloneMachine.l1 k x34 x35 (wrap64 (x36 + 1)) x405000 x405001 (x405002 ++ [(⟨bt415.1, bt415.2.1, bt415.2.2.1, bt415.2.2.2⟩ : S45)]) x405003) else (none))) else (none)) else (none)) else (some (x405000, x405001, x405002, x405003))
end
def impl_cloneMachine.f (k : Nat) (a0_0 : Bool) (l0_1 : List (S79)) (l0_2 : List (S45)) (l0_3 : List Int) : Option (Bool × (List (S79)) × (List (S45)) × List Int) := (slices_Clone_int64_int64.f l0_3).bind fun t401 => (impl_cloneMachine.l0 k l0_1 (l0_1.length : Int) 0 a0_0 l0_1 l0_2 l0_3 a0_0 ([] : List (S79)) t401)

def impl_cloneMachine.T1 : Bool × List (List Nat × List Nat) := (true, [([], []), ([0], [0]), ([], []), ([2], [2]), ([3], [3]), ([1, 4], [1, 4]), ([], []), ([6, 5, 4, 0, 1, 2, 3, 4, 5, 6], [5, 6])])
def impl_cloneMachine.B1 : List Nat := [0, 1, 0, 4, 12, 31, 0, 127]
theorem impl_cloneMachine.tab1 : rtab .any (opsOf Try.f76 1) = impl_cloneMachine.T1 := by kernel_rfl
theorem impl_cloneMachine.bits1 : waitsOk impl_cloneMachine.T1.2 impl_cloneMachine.B1 = true := by kernel_rfl
def impl_cloneMachine.T5 : Bool × List (List Nat × List Nat) := (true, [([], []), ([0], [0]), ([], []), ([2], [2]), ([], []), ([4], [4]), ([5], [5]), ([3, 6], [3, 6]), ([7], [7]), ([1, 8, 6], [1, 8]), ([0, 1, 2, 3, 4, 5, 6, 7, 8, 9], []), ([10, 9, 9, 0, 1, 2, 3, 4, 5, 6, 7, 8, 9], [9, 10])])
def impl_cloneMachine.B5 : List Nat := [0, 1, 0, 4, 0, 16, 48, 124, 252, 511, 1023, 2047]
theorem impl_cloneMachine.tab5 : rtab .any (opsOf Try.f76 5) = impl_cloneMachine.T5 := by kernel_rfl
theorem impl_cloneMachine.bits5 : waitsOk impl_cloneMachine.T5.2 impl_cloneMachine.B5 = true := by kernel_rfl
def impl_cloneMachine.T10 : Bool × List (List Nat × List Nat) := (true, [([], []), ([0], [0]), ([], []), ([2], [2]), ([3], [3]), ([1, 4, 3], [1, 4]), ([0, 1, 2, 3, 4, 5], []), ([6, 5, 5, 0, 1, 2, 3, 4, 5], [5, 6])])
def impl_cloneMachine.B10 : List Nat := [0, 1, 0, 4, 12, 31, 63, 127]
theorem impl_cloneMachine.tab10 : rtab .any (opsOf Try.f76 10) = impl_cloneMachine.T10 := by kernel_rfl
theorem impl_cloneMachine.bits10 : waitsOk impl_cloneMachine.T10.2 impl_cloneMachine.B10 = true := by kernel_rfl
set_option maxHeartbeats 8000000 in
set_option maxRecDepth 100000 in
theorem impl_cloneMachine.calls (k : Nat) (a0_0 : Bool) (A0_1 : Option Addr) (c0_1 : Nat) (l0_1 : List (S79)) (A0_2 : Option Addr) (c0_2 : Nat) (l0_2 : List (S45)) (A0_3 : Option Addr) (c0_3 : Nat) (l0_3 : List Int) (r1 : Bool) (r2 : List (S79)) (r3 : List (S45)) (r4 : List Int) (w : World) (hr0_1 : Kd.C k79 w A0_1 l0_1.length l0_1) (hc0_1 : l0_1.length ≤ c0_1) (hr0_2 : Kd.C k45 w A0_2 l0_2.length l0_2) (hc0_2 : l0_2.length ≤ c0_2) (hr0_3 : Kd.C (Kd.int .i64) w A0_3 l0_3.length l0_3) (hc0_3 : l0_3.length ≤ c0_3) (h : impl_cloneMachine.f k a0_0 l0_1 l0_2 l0_3 = some (r1, r2, r3, r4)) :
    Calls Try.prog 76 #[.agg #[.bool a0_0, .slice A0_1 l0_1.length c0_1, .slice A0_2 l0_2.length c0_2, .slice A0_3 l0_3.length c0_3]] w fun e w' => ∃ v1_ v2_ v3_ : Value, e = .returned (.agg #[.bool r1, v1_, v2_, v3_]) ∧ Kd.S k79 79 w' w.heap.size (fun _ => True) v1_ r2 ∧ Kd.S k45 45 w' w.heap.size (fun _ => True) v2_ r3 ∧ Kd.R (Kd.int .i64) 2 w' w.heap.size (fun _ => True) v3_ r4 ∧ Below w.heap.size w w' := by
 have hu32 := Try.underlying32
 have hu79 := Try.underlying79
 have hu45 := Try.underlying45
 have HR0_1 := Aside0.mk hr0_1
 have HC0_1 := Aside0.mk hc0_1
 clear hr0_1 hc0_1
 have HR0_2 := Aside0.mk hr0_2
 have HC0_2 := Aside0.mk hc0_2
 clear hr0_2 hc0_2
 have HR0_3 := Aside0.mk hr0_3
 have HC0_3 := Aside0.mk hc0_3
 clear hr0_3 hc0_3
 have HB := Aside0.mk (Below.refl w.heap.size w)
 have H : ((slices_Clone_int64_int64.f l0_3).bind fun t401 => (impl_cloneMachine.l0 k l0_1 (l0_1.length : Int) 0 a0_0 l0_1 l0_2 l0_3 a0_0 ([] : List (S79)) t401)) = some (r1,r2,r3,r4) := h
 clear h
 replace H := bs_ H
 obtain ⟨t401,A2,H⟩ := H
 have H' := Aside0.mk H
 clear H
 go_enter Try.func76,Try.ntmps76
 try go_wp2_with (first|((with_reducible refine gate_dst (N := 1) rfl ?_);refine bx_ 1 #[.bool a0_0,.slice A0_1 l0_1.length c0_1,.slice A0_2 l0_2.length c0_2,.slice A0_3 l0_3.length c0_3] 32 ?_;intro gb399 hg w3 hbox hb;replace HB := nb_ hg hbox hb;obtain ⟨BK399,GW399,GE399,HB⟩ := HB;clear hb hbox hg)|((with_reducible refine gate_dst (N := 2) rfl ?_);refine bx_ 2 #[.bool false,.slice none 0 0,.slice none 0 0,.slice none 0 0] 32 ?_;intro gb400 hg w4 hbox hb;replace HB := nb_ hg hbox hb;obtain ⟨BK400,GW400,GE400,HB⟩ := HB;have NB399_400 := Aside0.mk ((nl_ BK399 hg));have NB400_399 := Aside0.mk ((ng_ BK399 hg));replace BK399 := Aside0.mk (blk_below (kb_ BK399) hb);clear hb hbox hg))
 replace BK399 := Aside0.mk (blk_drew BK399.out)
 replace BK400 := Aside0.mk (blk_drew BK400.out)
 replace HB := Aside0.mk (below_drew1 HB.out)
 refine st_ 8 (S := fun w' => hd4 w' gb399 (.bool a0_0) (.slice A0_1 l0_1.length c0_1) (.slice A0_2 l0_2.length c0_2) (.slice A0_3 l0_3.length c0_3)) hh_ (fun hHeld => ?_);refine with_tabW impl_cloneMachine.tab1 impl_cloneMachine.bits1 (fun HT_ HW_ => ?_)
 generalize w4.drew = w5 at BK399 BK400 HB hHeld ⊢
 refine pv_ 0 8 ?_
 refine pv_ 2 10 ?_
 refine tx_ 1 9 hHeld ?_
 refine tx_ 3 11 hHeld ?_
 refine join_ (σ := Value × Nat) 1 #[true,true,true,true,true,true,true,false] (fun s_ => [(12,s_.1),(3,.pointer (some ⟨s_.2,0,none⟩)),(13,.agg #[.bool a0_0,.slice none 0 0,.slice none 0 0,s_.1])]) (fun s_ w' => (w'.cell? ⟨gb399,0,none⟩ = some (.bool a0_0) ∧ w'.cell? ⟨gb399,1,none⟩ = some (.slice A0_1 l0_1.length c0_1) ∧ w'.cell? ⟨gb399,2,none⟩ = some (.slice A0_2 l0_2.length c0_2) ∧ w'.cell? ⟨gb399,3,none⟩ = some (.slice A0_3 l0_3.length c0_3)) ∧ (Kd.R (Kd.int .i64) 2 w' w.heap.size (fun _ => True) s_.1 t401) ∧ (w'.heap[gb399]? = some (.cells #[.bool a0_0,.slice A0_1 l0_1.length c0_1,.slice A0_2 l0_2.length c0_2,.slice A0_3 l0_3.length c0_3] 32 (0,0))) ∧ (w'.heap[gb400]? = some (.cells #[.bool false,.slice none 0 0,.slice none 0 0,.slice none 0 0] 32 (0,0))) ∧ (w'.heap[s_.2]? = some (.cells #[.bool false,.slice none 0 0,.slice none 0 0,.slice none 0 0] 32 (0,0))) ∧ (w.heap.size ≤ s_.2) ∧ (w.heap.size ≤ s_.2) ∧ (gb399 ≠ s_.2) ∧ (s_.2 ≠ gb399) ∧ (gb400 ≠ s_.2) ∧ (s_.2 ≠ gb400) ∧ (Below w.heap.size w w')) ?_ ?_
 rotate_left
 ·intro hCont
  refine two_ (i := 4) (j := 6) (Ni := some 12) (Nj := some 3) #[true,true,true,true,true,false,false,false] #[true,true,true,true,false,false,true,false] rfl rfl rfl rfl (two_of HT_.out (by kernel_rfl)) (by decide) (by decide) (fun K hK => ?_) (fun K hK => ?_)
  ·skip
   refine gs_ Try.func121 #[.slice A0_3 l0_3.length c0_3] ?_
   with_reducible refine (slices_Clone_int64_int64.calls _ _ l0_3 t401 _ ?side1 ?side2 A2.out).mono ?_
   (case side1 => exact cb_ HR0_3)
   (case side2 => exact HC0_3.out)
   rintro e w6 ⟨v402,rfl,ho0,hb⟩
   refine ⟨_,rfl,?_⟩
   replace BK399 := Aside0.mk (blk_below (kb_ BK399) hb)
   replace BK400 := Aside0.mk (blk_below (kb_ BK400) hb)
   have HO403 := Aside0.mk (Kd.R_lower ho0 (below_size b_))
   replace HB := Aside0.mk (below_step b_ hb)
   (try clear hb)
   (try clear hb2)
   (try clear hk)
   (try clear hi)
   (try clear ho0)
   obtain ⟨Ao7,co7,eo7⟩ := Kd.R_slice HO403.out
   (first|subst eo7|(injection eo7 with f1_ f2_ f3_;have f4_ := f1_.symm;have f5_ := f3_.symm;clear f1_ f2_ f3_;subst f4_;subst f5_))
   refine hK.out _ _ hh_ (fun hHeld => ?_)
   clear hK K
   refine nr_ (some 12) _ ?_
   refine pv_ 5 13 ?_
   refine oy_ 6 3 (fun K hK => ?_)
   refine box_step ?hg (N := 3) ?hd (cs := #[.bool false,.slice none 0 0,.slice none 0 0,.slice none 0 0]) (t := 32) ?hr ?_;(case hd => rfl);(case hg => rfl);(case hr => first|(go_simp;done)|(go_simp;rfl))
   intro gb404 hg w8 hbox hb
   replace HO403 := Aside0.mk (Kd.R_below (by (with_reducible repeat (first|apply Kd.R_alloc|apply Kd.R_drewN|apply Kd.R_drew));exact HO403.out) hb)
   have BK404 := Aside0.mk (hbox)
   have GW404 := Aside0.mk ((gw_ (w := w) hg))
   have GE404 := Aside0.mk ((gw_ (w := w) hg))
   replace HB := Aside0.mk (below_step b_ hb)
   have NB399_404 := Aside0.mk ((nl_ BK399 hg))
   have NB404_399 := Aside0.mk ((ng_ BK399 hg))
   replace BK399 := Aside0.mk (blk_below (kb_ BK399) hb)
   have NB400_404 := Aside0.mk ((nl_ BK400 hg))
   have NB404_400 := Aside0.mk ((ng_ BK400 hg))
   replace BK400 := Aside0.mk (blk_below (kb_ BK400) hb)
   clear hb hbox hg
   refine hK.out _ _ hh_ (fun hHeld => ?_)
   clear hK K
   refine nr_ (some 3) _ ?_
   exact norm_ (by simp only [putAll,Act.put,List.setIfInBounds_toArray,List.set_cons_zero,List.set_cons_succ]) (hCont (.slice Ao7 t401.length co7,gb404) _ ⟨hHeld,(by (with_reducible repeat (first|apply Kd.R_alloc|apply Kd.R_drewN|apply Kd.R_drew));exact HO403.out),kk_,kk_,kk_,GW404.out,GE404.out,NB399_404.out,NB404_399.out,NB400_404.out,NB404_400.out,b_⟩)
  ·skip
   refine box_step ?hg (N := 3) ?hd (cs := #[.bool false,.slice none 0 0,.slice none 0 0,.slice none 0 0]) (t := 32) ?hr ?_;(case hd => rfl);(case hg => rfl);(case hr => first|(go_simp;done)|(go_simp;rfl))
   intro gb404 hg w6 hbox hb
   have BK404 := Aside0.mk (hbox)
   have GW404 := Aside0.mk ((gw_ (w := w) hg))
   have GE404 := Aside0.mk ((gw_ (w := w) hg))
   replace HB := Aside0.mk (below_step b_ hb)
   have NB399_404 := Aside0.mk ((nl_ BK399 hg))
   have NB404_399 := Aside0.mk ((ng_ BK399 hg))
   replace BK399 := Aside0.mk (blk_below (kb_ BK399) hb)
   have NB400_404 := Aside0.mk ((nl_ BK400 hg))
   have NB404_400 := Aside0.mk ((ng_ BK400 hg))
   replace BK400 := Aside0.mk (blk_below (kb_ BK400) hb)
   clear hb hbox hg
   refine hK.out _ _ hh_ (fun hHeld => ?_)
   clear hK K
   refine nr_ (some 3) _ ?_
   refine oy_ 4 12 (fun K hK => ?_)
   refine gs_ Try.func121 #[.slice A0_3 l0_3.length c0_3] ?_
   with_reducible refine (slices_Clone_int64_int64.calls _ _ l0_3 t401 _ ?side1 ?side2 A2.out).mono ?_
   (case side1 => exact cb_ HR0_3)
   (case side2 => exact HC0_3.out)
   rintro e w7 ⟨v402,rfl,ho0,hb⟩
   refine ⟨_,rfl,?_⟩
   replace BK399 := Aside0.mk (blk_below (kb_ BK399) hb)
   replace BK400 := Aside0.mk (blk_below (kb_ BK400) hb)
   replace BK404 := Aside0.mk (blk_below (kb_ BK404) hb)
   have HO403 := Aside0.mk (Kd.R_lower ho0 (below_size b_))
   replace HB := Aside0.mk (below_step b_ hb)
   (try clear hb)
   (try clear hb2)
   (try clear hk)
   (try clear hi)
   (try clear ho0)
   obtain ⟨Ao8,co8,eo8⟩ := Kd.R_slice HO403.out
   (first|subst eo8|(injection eo8 with f1_ f2_ f3_;have f4_ := f1_.symm;have f5_ := f3_.symm;clear f1_ f2_ f3_;subst f4_;subst f5_))
   refine hK.out _ _ hh_ (fun hHeld => ?_)
   clear hK K
   refine nr_ (some 12) _ ?_
   refine pv_ 5 13 ?_
   exact norm_ (by simp only [putAll,Act.put,List.setIfInBounds_toArray,List.set_cons_zero,List.set_cons_succ]) (hCont (.slice Ao8 t401.length co8,gb404) _ ⟨hHeld,(by (with_reducible repeat (first|apply Kd.R_alloc|apply Kd.R_drewN|apply Kd.R_drew));exact HO403.out),kk_,kk_,kk_,GW404.out,GE404.out,NB399_404.out,NB404_399.out,NB400_404.out,NB404_400.out,b_⟩)
 rintro ⟨v402,gb404⟩ w9 ⟨hS_,h0_,h1_,h2_,h3_,h4_,h5_,h6_,h7_,h8_,h9_,h10_⟩
 have n0_ : Aside0 (Kd.R (Kd.int .i64) 2 w9 w.heap.size (fun _ => True) v402 t401) := ⟨h0_⟩
 have n1_ : Aside0 (w9.heap[gb399]? = some (.cells #[.bool a0_0,.slice A0_1 l0_1.length c0_1,.slice A0_2 l0_2.length c0_2,.slice A0_3 l0_3.length c0_3] 32 (0,0))) := ⟨h1_⟩
 have n2_ : Aside0 (w9.heap[gb400]? = some (.cells #[.bool false,.slice none 0 0,.slice none 0 0,.slice none 0 0] 32 (0,0))) := ⟨h2_⟩
 have n3_ : Aside0 (w9.heap[gb404]? = some (.cells #[.bool false,.slice none 0 0,.slice none 0 0,.slice none 0 0] 32 (0,0))) := ⟨h3_⟩
 have n4_ : Aside0 (w.heap.size ≤ gb404) := ⟨h4_⟩
 have n5_ : Aside0 (w.heap.size ≤ gb404) := ⟨h5_⟩
 have n6_ : Aside0 (gb399 ≠ gb404) := ⟨h6_⟩
 have n7_ : Aside0 (gb404 ≠ gb399) := ⟨h7_⟩
 have n8_ : Aside0 (gb400 ≠ gb404) := ⟨h8_⟩
 have n9_ : Aside0 (gb404 ≠ gb400) := ⟨h9_⟩
 have n10_ : Aside0 (Below w.heap.size w w9) := ⟨h10_⟩
 clear BK399
 clear BK400
 clear HB
 clear h0_ h1_ h2_ h3_ h4_ h5_ h6_ h7_ h8_ h9_ h10_
 have HO403 := n0_
 have BK399 := n1_
 have BK400 := n2_
 have BK404 := n3_
 have GW404 := n4_
 have GE404 := n5_
 have NB399_404 := n6_
 have NB404_399 := n7_
 have NB400_404 := n8_
 have NB404_400 := n9_
 have HB := n10_
 clear n0_ n1_ n2_ n3_ n4_ n5_ n6_ n7_ n8_ n9_ n10_
 have hHeld : w9.cell? ⟨gb399,0,none⟩ = some (.bool a0_0) ∧ w9.cell? ⟨gb399,1,none⟩ = some (.slice A0_1 l0_1.length c0_1) ∧ w9.cell? ⟨gb399,2,none⟩ = some (.slice A0_2 l0_2.length c0_2) ∧ w9.cell? ⟨gb399,3,none⟩ = some (.slice A0_3 l0_3.length c0_3) := hS_
 obtain ⟨Ao10,co10,eo10⟩ := Kd.R_slice HO403.out
 (first|subst eo10|(injection eo10 with f1_ f2_ f3_;have f4_ := f1_.symm;have f5_ := f3_.symm;clear f1_ f2_ f3_;subst f4_;subst f5_))
 refine norm_ (a' := ?_) ?_ ?_
 rotate_left
 ·simp only [putAll,Act.put,List.setIfInBounds_toArray,List.set_cons_zero,List.set_cons_succ]
  rfl
 refine oz_ (i := 7) (N := none) HT_.out rfl rfl (by kernel_rfl) (by decide) (fun K hK => ?_)
 have hs11 : w9.cell? ⟨gb404,0,none⟩ = some (.bool false) := (blk_cell BK404.out 0).trans rfl
 have hfs11 := blk_frozen BK404.out 0
 have hns11_0 := NB399_404.out
 have hns11_1 := NB400_404.out
 have hms11_0 := NB404_399.out
 have hms11_1 := NB404_400.out
 have hs12 : w9.cell? ⟨gb404,1,none⟩ = some (.slice none 0 0) := (blk_cell BK404.out 1).trans rfl
 have hfs12 := blk_frozen BK404.out 1
 have hns12_0 := NB399_404.out
 have hns12_1 := NB400_404.out
 have hms12_0 := NB404_399.out
 have hms12_1 := NB404_400.out
 have hs13 : w9.cell? ⟨gb404,2,none⟩ = some (.slice none 0 0) := (blk_cell BK404.out 2).trans rfl
 have hfs13 := blk_frozen BK404.out 2
 have hns13_0 := NB399_404.out
 have hns13_1 := NB400_404.out
 have hms13_0 := NB404_399.out
 have hms13_1 := NB404_400.out
 have hs14 : w9.cell? ⟨gb404,3,none⟩ = some (.slice none 0 0) := (blk_cell BK404.out 3).trans rfl
 have hfs14 := blk_frozen BK404.out 3
 have hns14_0 := NB399_404.out
 have hns14_1 := NB400_404.out
 have hms14_0 := NB404_399.out
 have hms14_1 := NB404_400.out
 refine skip_ (w1 := ?_) (by rfl) rfl ?_ ?_
 rotate_left
 ·go_simp
  rfl
 refine hK.out _ _ ⟨((cell_far (p := ⟨gb404,_,none⟩) NB399_404.out _).trans (((cell_far (p := ⟨gb404,_,none⟩) NB399_404.out _).trans (((cell_far (p := ⟨gb404,_,none⟩) NB399_404.out _).trans (((cell_far (p := ⟨gb404,_,none⟩) NB399_404.out _).trans (hHeld.1)))))))),((cell_far (p := ⟨gb404,_,none⟩) NB399_404.out _).trans (((cell_far (p := ⟨gb404,_,none⟩) NB399_404.out _).trans (((cell_far (p := ⟨gb404,_,none⟩) NB399_404.out _).trans (((cell_far (p := ⟨gb404,_,none⟩) NB399_404.out _).trans (hHeld.2.1)))))))),((cell_far (p := ⟨gb404,_,none⟩) NB399_404.out _).trans (((cell_far (p := ⟨gb404,_,none⟩) NB399_404.out _).trans (((cell_far (p := ⟨gb404,_,none⟩) NB399_404.out _).trans (((cell_far (p := ⟨gb404,_,none⟩) NB399_404.out _).trans (hHeld.2.2.1)))))))),((cell_far (p := ⟨gb404,_,none⟩) NB399_404.out _).trans (((cell_far (p := ⟨gb404,_,none⟩) NB399_404.out _).trans (((cell_far (p := ⟨gb404,_,none⟩) NB399_404.out _).trans (((cell_far (p := ⟨gb404,_,none⟩) NB399_404.out _).trans (hHeld.2.2.2))))))))⟩ (fun hHeld => ?_)
 clear hK K
 refine done_ (done_of HT_.out (by kernel_rfl)) ?_
 have hnb15 := NB399_400.out
 have hnc15 := NB400_399.out
 have hnb16 := NB399_404.out
 have hnc16 := NB404_399.out
 obtain ⟨⟨hcz17_0,hcz17_1,hcz17_2,hcz17_3⟩,hfz17_0,hfz17_1,hfz17_2,hfz17_3⟩ := cl4_ BK399.out
 try go_wp2
 go_loopg [17] k (fun kq v17 w' => ∃ (x17_1 : Int) (x405001_1 : List (S79)) (u405001 : Value),v17 = .int .i64 x17_1 ∧ Aside0 (impl_cloneMachine.l0 kq l0_1 (l0_1.length : Int) x17_1 a0_0 l0_1 l0_2 l0_3 a0_0 x405001_1 t401 = some (r1,r2,r3,r4)) ∧ Aside0 (kq ≤ k) ∧ Aside0 (Kd.S k79 79 w' w.heap.size (fun _ => True) u405001 x405001_1) ∧ Aside0 (Kd.R (Kd.int .i64) 2 w' w.heap.size (fun _ => True) (.slice Ao10 t401.length co10) t401) ∧ Aside0 (w'.heap[gb399]? = some (.cells #[.bool a0_0,(.slice A0_1 l0_1.length c0_1),(.slice A0_2 l0_2.length c0_2),(.slice A0_3 l0_3.length c0_3)] 32 (0,0))) ∧ Aside0 (w'.heap[gb400]? = some (.cells #[.bool false,(.slice none 0 0),(.slice none 0 0),(.slice none 0 0)] 32 (0,0))) ∧ Aside0 (w'.heap[gb404]? = some (.cells #[.bool a0_0,u405001,(.slice none 0 0),(.slice Ao10 t401.length co10)] 32 (0,0))) ∧ Aside0 (Below w.heap.size w w'))
 case atStart => exact ⟨(0),(([] : List (S79))),(.slice none 0 0),rs_,H',⟨Nat.le_refl _⟩,⟨by first|exact Kd.S_nil _ _ _ _ _|exact Kd.N_nil _ _ _ _ _|exact Kd.V_nil _ _ _ _ _|exact Kd.Q_nil _ _ _ _ _|exact Kd.R_nil _ _ _ _ _⟩,⟨by (with_reducible repeat (first|apply Kd.R_alloc|apply Kd.R_drewN|apply Kd.R_drew));exact Kd.R_mono (Kd.R_far (p := ⟨gb404,3,none⟩) (Kd.R_far (p := ⟨gb404,2,none⟩) (Kd.R_far (p := ⟨gb404,1,none⟩) (Kd.R_far (p := ⟨gb404,0,none⟩) (Kd.R_types HO403.out BK404.out (by decide)) (fun _ hk => hk.2) (.bool a0_0)) (fun _ hk => hk.2) (.slice none 0 0)) (fun _ hk => hk.2) (.slice none 0 0)) (fun _ hk => hk.2) (.slice Ao10 t401.length co10)) (fun _ hk => trivial)⟩,⟨kf_ BK399⟩,⟨kf_ BK400⟩,⟨by (with_reducible repeat (first|refine blk_drewN ?_ _|refine blk_drew ?_|refine blk_alloc ?_ _));refine blk_put (cs := #[.bool a0_0,.slice none 0 0,.slice none 0 0,.slice none 0 0]) ?_ 3 _ rfl;(with_reducible repeat (first|refine blk_drewN ?_ _|refine blk_drew ?_|refine blk_alloc ?_ _));refine blk_put (cs := #[.bool a0_0,.slice none 0 0,.slice none 0 0,.slice none 0 0]) ?_ 2 _ rfl;(with_reducible repeat (first|refine blk_drewN ?_ _|refine blk_drew ?_|refine blk_alloc ?_ _));refine blk_put (cs := #[.bool a0_0,.slice none 0 0,.slice none 0 0,.slice none 0 0]) ?_ 1 _ rfl;(with_reducible repeat (first|refine blk_drewN ?_ _|refine blk_drew ?_|refine blk_alloc ?_ _));refine blk_put (cs := #[.bool false,.slice none 0 0,.slice none 0 0,.slice none 0 0]) ?_ 0 _ rfl;(with_reducible repeat (first|refine blk_drewN ?_ _|refine blk_drew ?_|refine blk_alloc ?_ _));exact BK404.out⟩,⟨b_⟩⟩
 case round =>
  clear H'
  try clear c1
  try clear p2
  try clear c7
  try clear c12
  try clear c15
  try clear c16
  try clear hcz17_0
  try clear hcz17_1
  try clear hcz17_2
  try clear hcz17_3
  try clear hfz17_0
  try clear hfz17_1
  try clear hfz17_2
  try clear hfz17_3
  obtain ⟨x17_1,x405001_1,u405001,rfl,HA,HK1,HO_405001,HO_405003,BK399,BK400,BK404,HB⟩ := hrel
  cases gk with
    | zero => exact absurd HA.out (by simp [impl_cloneMachine.l0])
    | succ k1 =>
   have H := HA.out
   clear HA
   simp only [impl_cloneMachine.l0] at H
   by_cases c18 : x17_1 < (l0_1.length : Int)
   ·rw [if_pos c18] at H
    have c18b0 : decide (x17_1 < (l0_1.length : Int)) = true := decide_eq_true c18
    clear c18
    by_cases c19 : 0 ≤ x17_1
    ·rw [if_pos c19] at H
     have c19b0 : decide (0 ≤ x17_1) = true := decide_eq_true c19
     clear c19
     by_cases c20 : x17_1 < (l0_1.length : Int)
     ·rw [if_pos c20] at H
      have c20b0 : decide (x17_1 < (l0_1.length : Int)) = true := decide_eq_true c20
      clear c20
      replace H := bs_ H
      obtain ⟨t407,A21,H⟩ := H
      by_cases c22 : x405001_1.length < 4398046511104
      ·rw [if_pos c22] at H
       have LMc22 := Aside0.mk c22
       clear c22
       obtain ⟨y410,hy410⟩ : ∃ y_ : List (S79),y_ = (x405001_1 ++ [(⟨(rd_T79 l0_1 x17_1).f0,t407⟩ : S79)]) := ⟨_,rfl⟩
       replace H : (impl_cloneMachine.l0 k1 l0_1 (l0_1.length : Int) (wrap64 (x17_1 + 1)) a0_0 l0_1 l0_2 l0_3 a0_0 y410 t401) = some (r1,r2,r3,r4) := by first|(rw [hy410];with_reducible exact H)|(have H2_ := (Option.bind_some _ _).symm.trans H;rw [hy410];with_reducible exact H2_)|(have H2_ := (Option.bind_some _ _).symm.trans H;with_reducible exact H2_)|with_reducible exact H|(rw [hy410];exact H)|exact H
       have Ny410 := Aside0.mk hy410
       clear hy410
       have H' := Aside0.mk H
       clear H
       have p405 : 0 ≤ (x17_1 : Int) := od_
       have q405 : x17_1 < (l0_1.length : Int) := od_
       obtain ⟨ad405,A405_1,c405_1,e405,hx405_0,hx405_1,hl405_1,hi405_1⟩ := at_T79 HR0_1.out x17_1 p405 q405
       cases e405
       replace hx405_0 := hx_ HB hx405_0
       replace hx405_1 := hx_ HB hx405_1
       have HR405_1 := Aside0.mk hi405_1
       have HC405_1 := Aside0.mk hl405_1
       clear hi405_1 hl405_1
       replace p405 := eq_true p405
       replace q405 := eq_true q405
       try go_wp2_with (first|((with_reducible refine gate_dst (N := 5) rfl ?_);refine bx_ 5 #[.int .i64 0,.slice none 0 0] 79 ?_;intro gb406 hg w23 hbox hb;replace HO_405001 := Aside0.mk (Kd.S_below (Kd.S_elderB (by (with_reducible repeat (first|apply Kd.S_alloc|apply Kd.S_drewN|apply Kd.S_drew));exact HO_405001.out) gb406 (Nat.le_of_eq hg.symm)) hb);replace HO_405003 := Aside0.mk (Kd.R_below (by (with_reducible repeat (first|apply Kd.R_alloc|apply Kd.R_drewN|apply Kd.R_drew));exact HO_405003.out) hb);replace HB := nb_ hg hbox hb;obtain ⟨BK406,GW406,GE406,HB⟩ := HB;have NB399_406 := Aside0.mk ((nl_ BK399 hg));have NB406_399 := Aside0.mk ((ng_ BK399 hg));replace BK399 := Aside0.mk (blk_below (kb_ BK399) hb);have NB400_406 := Aside0.mk ((nl_ BK400 hg));have NB406_400 := Aside0.mk ((ng_ BK400 hg));replace BK400 := Aside0.mk (blk_below (kb_ BK400) hb);have NB404_406 := Aside0.mk ((nl_ BK404 hg));have NB406_404 := Aside0.mk ((ng_ BK404 hg));replace BK404 := Aside0.mk (blk_below (kb_ BK404) hb);clear hb hbox hg;have hnb24 := NB406_399.out;have hnc24 := NB399_406.out;have hnb25 := NB406_400.out;have hnc25 := NB400_406.out;have hnb26 := NB406_404.out;have hnc26 := NB404_406.out;obtain ⟨⟨hcz27_0,hcz27_1⟩,hfz27_0,hfz27_1⟩ := cl2_ BK406.out))
       have n0_ : Aside0 (Kd.S k79 79 ((w23.setCell ⟨gb406,0,none⟩ (.int .i64 ((rd_T79 l0_1 x17_1).f0))).setCell ⟨gb406,1,none⟩ (.slice A405_1 ((rd_T79 l0_1 x17_1).f1).length c405_1)) w.heap.size (fun k_ => k_ ≠ gb406) u405001 x405001_1) := ⟨by (with_reducible repeat (first|apply Kd.S_alloc|apply Kd.S_drewN|apply Kd.S_drew));exact Kd.S_mono (Kd.S_far (p := ⟨gb406,1,none⟩) (Kd.S_far (p := ⟨gb406,0,none⟩) (Kd.S_mono HO_405001.out (fun k_ hk => (⟨hk,hk.2⟩ : _ ∧ k_ ≠ gb406))) (fun _ hk => hk.2) (.int .i64 ((rd_T79 l0_1 x17_1).f0))) (fun _ hk => hk.2) (.slice A405_1 ((rd_T79 l0_1 x17_1).f1).length c405_1)) (fun _ hk => hk.1.2)⟩
       have n1_ : Aside0 (Kd.R (Kd.int .i64) 2 ((w23.setCell ⟨gb406,0,none⟩ (.int .i64 ((rd_T79 l0_1 x17_1).f0))).setCell ⟨gb406,1,none⟩ (.slice A405_1 ((rd_T79 l0_1 x17_1).f1).length c405_1)) w.heap.size (fun _ => True) (.slice Ao10 t401.length co10) t401) := ⟨by (with_reducible repeat (first|apply Kd.R_alloc|apply Kd.R_drewN|apply Kd.R_drew));exact Kd.R_mono (Kd.R_far (p := ⟨gb406,1,none⟩) (Kd.R_far (p := ⟨gb406,0,none⟩) (Kd.R_types HO_405003.out BK406.out (by decide)) (fun _ hk => hk.2) (.int .i64 ((rd_T79 l0_1 x17_1).f0))) (fun _ hk => hk.2) (.slice A405_1 ((rd_T79 l0_1 x17_1).f1).length c405_1)) (fun _ hk => trivial)⟩
       have n2_ : Aside0 (((w23.setCell ⟨gb406,0,none⟩ (.int .i64 ((rd_T79 l0_1 x17_1).f0))).setCell ⟨gb406,1,none⟩ (.slice A405_1 ((rd_T79 l0_1 x17_1).f1).length c405_1)).heap[gb399]? = some (.cells #[.bool a0_0,.slice (some ad405) l0_1.length c0_1,.slice A0_2 l0_2.length c0_2,.slice A0_3 l0_3.length c0_3] 32 (0,0))) := ⟨kf_ BK399⟩
       have n3_ : Aside0 (((w23.setCell ⟨gb406,0,none⟩ (.int .i64 ((rd_T79 l0_1 x17_1).f0))).setCell ⟨gb406,1,none⟩ (.slice A405_1 ((rd_T79 l0_1 x17_1).f1).length c405_1)).heap[gb400]? = some (.cells #[.bool false,.slice none 0 0,.slice none 0 0,.slice none 0 0] 32 (0,0))) := ⟨kf_ BK400⟩
       have n4_ : Aside0 (((w23.setCell ⟨gb406,0,none⟩ (.int .i64 ((rd_T79 l0_1 x17_1).f0))).setCell ⟨gb406,1,none⟩ (.slice A405_1 ((rd_T79 l0_1 x17_1).f1).length c405_1)).heap[gb404]? = some (.cells #[.bool a0_0,u405001,.slice none 0 0,.slice Ao10 t401.length co10] 32 (0,0))) := ⟨kf_ BK404⟩
       have n5_ : Aside0 (((w23.setCell ⟨gb406,0,none⟩ (.int .i64 ((rd_T79 l0_1 x17_1).f0))).setCell ⟨gb406,1,none⟩ (.slice A405_1 ((rd_T79 l0_1 x17_1).f1).length c405_1)).heap[gb406]? = some (.cells #[.int .i64 ((rd_T79 l0_1 x17_1).f0),.slice A405_1 ((rd_T79 l0_1 x17_1).f1).length c405_1] 79 (0,0))) := ⟨by (with_reducible repeat (first|refine blk_drewN ?_ _|refine blk_drew ?_|refine blk_alloc ?_ _));refine blk_put (cs := #[.int .i64 ((rd_T79 l0_1 x17_1).f0),.slice none 0 0]) ?_ 1 _ rfl;(with_reducible repeat (first|refine blk_drewN ?_ _|refine blk_drew ?_|refine blk_alloc ?_ _));refine blk_put (cs := #[.int .i64 0,.slice none 0 0]) ?_ 0 _ rfl;(with_reducible repeat (first|refine blk_drewN ?_ _|refine blk_drew ?_|refine blk_alloc ?_ _));exact BK406.out⟩
       have n6_ : Aside0 (Below w.heap.size w ((w23.setCell ⟨gb406,0,none⟩ (.int .i64 ((rd_T79 l0_1 x17_1).f0))).setCell ⟨gb406,1,none⟩ (.slice A405_1 ((rd_T79 l0_1 x17_1).f1).length c405_1))) := ⟨b_⟩
       (try clear HO_405001)
       (try clear HO_405003)
       (try clear BK399)
       (try clear BK400)
       (try clear BK404)
       (try clear BK406)
       (try clear HB)
       generalize ((w23.setCell ⟨gb406,0,none⟩ (.int .i64 ((rd_T79 l0_1 x17_1).f0))).setCell ⟨gb406,1,none⟩ (.slice A405_1 ((rd_T79 l0_1 x17_1).f1).length c405_1)) = w28 at n0_ n1_ n2_ n3_ n4_ n5_ n6_ ⊢
       have HO_405001 := n0_
       have HO_405003 := n1_
       have BK399 := n2_
       have BK400 := n3_
       have BK404 := n4_
       have BK406 := n5_
       have HB := n6_
       clear n0_ n1_ n2_ n3_ n4_ n5_ n6_
       replace HO_405001 := Aside0.mk (Kd.S_drew HO_405001.out)
       replace HO_405003 := Aside0.mk (Kd.R_drew HO_405003.out)
       replace BK399 := Aside0.mk (blk_drew BK399.out)
       replace BK400 := Aside0.mk (blk_drew BK400.out)
       replace BK404 := Aside0.mk (blk_drew BK404.out)
       replace BK406 := Aside0.mk (blk_drew BK406.out)
       replace HB := Aside0.mk (below_drew1 HB.out)
       refine std_ 12 (S := fun w' => hc4 w' gb404 (.bool a0_0) (u405001) (.slice none 0 0) (.slice Ao10 t401.length co10) (hd2 w' gb406 (.int .i64 ((rd_T79 l0_1 x17_1).f0)) (.slice A405_1 ((rd_T79 l0_1 x17_1).f1).length c405_1))) (ds := [11]) hh_ (fun hHeld => ?_);refine with_tabW impl_cloneMachine.tab5 impl_cloneMachine.bits5 (fun HT_ HW_ => ?_)
       generalize w28.drew = w29 at HO_405001 HO_405003 BK399 BK400 BK404 BK406 HB hHeld ⊢
       refine pv_ 0 21 ?_
       refine pv_ 2 23 ?_
       refine pv_ 4 25 ?_
       refine tx_ 1 22 hHeld ?_
       refine tx_ 3 24 hHeld ?_
       refine tx_ 5 26 hHeld ?_
       refine oy_ 6 27 (fun K hK => ?_)
       refine gs_ Try.func60 #[.slice A405_1 ((rd_T79 l0_1 x17_1).f1).length c405_1] ?_
       with_reducible refine (impl_Cell_60.calls _ _ ((rd_T79 l0_1 x17_1).f1) t407 _ ?side1 ?side2 A21.out).mono ?_
       (case side1 => exact cb_ HR405_1)
       (case side2 => exact HC405_1.out)
       rintro e w30 ⟨v408,rfl,ho0,hb⟩
       refine ⟨_,rfl,?_⟩
       replace HO_405001 := Aside0.mk (Kd.S_elder' (by (with_reducible repeat (first|apply Kd.S_alloc|apply Kd.S_drewN|apply Kd.S_drew));exact HO_405001.out) (Kd.R_base ho0) hb)
       replace HO_405003 := Aside0.mk (Kd.R_below (by (with_reducible repeat (first|apply Kd.R_alloc|apply Kd.R_drewN|apply Kd.R_drew));exact HO_405003.out) hb)
       replace BK399 := Aside0.mk (blk_below (kb_ BK399) hb)
       replace BK400 := Aside0.mk (blk_below (kb_ BK400) hb)
       replace BK404 := Aside0.mk (blk_below (kb_ BK404) hb)
       replace BK406 := Aside0.mk (blk_below (kb_ BK406) hb)
       have HO409 := Aside0.mk (Kd.R_lower ho0 (below_size b_))
       replace HB := Aside0.mk (below_step b_ hb)
       (try clear hb)
       (try clear hb2)
       (try clear hk)
       (try clear hi)
       (try clear ho0)
       obtain ⟨Ao31,co31,eo31⟩ := Kd.R_slice HO409.out
       (first|subst eo31|(injection eo31 with f1_ f2_ f3_;have f4_ := f1_.symm;have f5_ := f3_.symm;clear f1_ f2_ f3_;subst f4_;subst f5_))
       refine hK.out _ _ hh_ (fun hHeld => ?_)
       clear hK K
       refine nr_ (some 27) _ ?_
       refine pv_ 7 28 ?_
       refine oy_ 8 29 (fun K hK => ?_)
       refine value_ (w1 := ?_) (v := ?_) (by rfl) rfl ?_ ?_
       rotate_left 2
       ·go_simp
        constructor
        ·rfl
        ·rfl
       refine hK.out _ _ ⟨(blk_cell (blk_alloc BK404.out _) 0).trans rfl,(blk_cell (blk_alloc BK404.out _) 1).trans rfl,(blk_cell (blk_alloc BK404.out _) 2).trans rfl,(blk_cell (blk_alloc BK404.out _) 3).trans rfl,(blk_cell (blk_alloc BK406.out _) 0).trans rfl,(blk_cell (blk_alloc BK406.out _) 1).trans rfl⟩ (fun hHeld => ?_)
       clear hK K
       refine nr_ (some 29) _ ?_
       refine oy_ 9 30 (fun K hK => ?_)
       refine Kd.S_append_step k79 (w0 := w) w.heap.size (by rfl) (.tmp 22) (.tmp 29) 29 79 (.agg #[(.int .i64 0),(.slice none 0 0)]) 32 rfl Try.underlying29 info79 rfl (by decide) (by omega) u405001 x405001_1 (⟨(rd_T79 l0_1 x17_1).f0,t407⟩ : S79) [.int .i64 ((rd_T79 l0_1 x17_1).f0),.slice Ao31 t407.length co31] (fun k_ => k_ ≠ gb406) (fun k_ => some k_ = (.slice Ao31 t407.length co31 : Value).ownBlock) rfl rfl ?aP (fun k_ hk_ => ((Kd.R_mono (ok' := fun k_ => ((fun k_ => k_ ≠ gb406)) k_ ∧ some k_ ≠ (u405001 : Value).ownBlock) (Kd.R_types (Kd.R_apart' (HO409.out) (Kd.S_typed HO_405001.out) (by decide)) BK406.out (by decide)) (fun k_ hk => ⟨hk.2,hk.1.2⟩))).1 k_ hk_.symm) ?aF ?aO ?aB ?aS ?aL ?_
       (case aP => exact k79_mkM _ _ _ (⟨(rd_T79 l0_1 x17_1).f0,t407⟩ : S79) (Kd.R_mono (Kd.R_tight rfl (Kd.R_mono (ok' := fun k_ => ((fun k_ => k_ ≠ gb406)) k_ ∧ some k_ ≠ (u405001 : Value).ownBlock) (Kd.R_types (Kd.R_apart' (HO409.out) (Kd.S_typed HO_405001.out) (by decide)) BK406.out (by decide)) (fun k_ hk => ⟨hk.2,hk.1.2⟩))) (fun _ h_ => h_)))
       (case aB => exact b_)
       (case aF => exact (fun k_ hk => Kd.freshB (kb_ BK406) k_ hk))
       (case aO => exact (by (with_reducible repeat (first|apply Kd.S_alloc|apply Kd.S_drewN|apply Kd.S_drew));exact Kd.S_mono HO_405001.out (fun k_ hk => ⟨hk.1,fun e_ => hk.2 e_⟩)))
       (case aS => exact (below_size b_))
       (case aL => have := LMc22.out;omega)
       intro v411 w32 ho hb hg hat
       rw [← Ny410.out] at ho
       replace HO_405003 := Aside0.mk (Kd.R_over' (by (with_reducible repeat (first|apply Kd.R_alloc|apply Kd.R_drewN|apply Kd.R_drew));exact HO_405003.out) (Kd.S_typed (by (with_reducible repeat (first|apply Kd.S_alloc|apply Kd.S_drewN|apply Kd.S_drew));exact HO_405001.out)) (by decide) hg)
       replace BK399 := Aside0.mk (blk_grown (kb_ BK399) hg (Kd.S_ne HO_405001.out BK399.out (by decide)))
       replace BK400 := Aside0.mk (blk_grown (kb_ BK400) hg (Kd.S_ne HO_405001.out BK400.out (by decide)))
       replace BK404 := Aside0.mk (blk_grown (kb_ BK404) hg (Kd.S_ne HO_405001.out BK404.out (by decide)))
       replace BK406 := Aside0.mk (blk_grown (kb_ BK406) hg (Kd.S_away HO_405001.out (fun _ hk => hk.1)))
       replace HB := Aside0.mk (hb)
       have HO412 := Aside0.mk (ho)
       clear HO_405001 HO409
       clear ho hb hg hat
       obtain ⟨Ao33,co33,eo33⟩ := Kd.S_slice HO412.out
       (first|subst eo33|(injection eo33 with f1_ f2_ f3_;have f4_ := f1_.symm;have f5_ := f3_.symm;clear f1_ f2_ f3_;subst f4_;subst f5_))
       refine hK.out _ _ hh_ (fun hHeld => ?_)
       clear hK K
       refine nr_ (some 30) _ ?_
       refine pv_ 10 31 ?_
       refine last_ (i := 11) (N := none) #[true,true,true,true,true,true,true,true,true,true,true,true] rfl rfl (one_of HT_.out (by kernel_rfl)) (by decide) (fun K hK => ?_)
       have hs34 : w32.cell? ⟨gb404,1,none⟩ = some (u405001) := (blk_cell BK404.out 1).trans rfl
       have hfs34 := blk_frozen BK404.out 1
       have hns34_0 := NB399_404.out
       have hns34_1 := NB400_404.out
       have hns34_3 := NB406_404.out
       have hms34_0 := NB404_399.out
       have hms34_1 := NB404_400.out
       have hms34_3 := NB404_406.out
       refine skip_ (w1 := ?_) (by rfl) rfl ?_ ?_
       rotate_left
       ·go_simp
        rfl
       refine hK.out _ _ ?_
       clear hK K
       refine done_ (done_of HT_.out (by kernel_rfl)) ?_
       try go_wp2
       go_roundg k1
       case measure => have := HK1.out;omega
       case rel => exact ⟨(wrap64 (x17_1 + 1)),(y410),(.slice Ao33 y410.length co33),rs_,H',⟨by have := HK1.out;omega⟩,⟨by (with_reducible repeat (first|apply Kd.S_alloc|apply Kd.S_drewN|apply Kd.S_drew));exact Kd.S_mono (Kd.S_far (p := ⟨gb404,1,none⟩) (Kd.S_types HO412.out BK404.out (by decide)) (fun _ hk => hk.2) (.slice Ao33 y410.length co33)) (fun _ hk => trivial)⟩,⟨by (with_reducible repeat (first|apply Kd.R_alloc|apply Kd.R_drewN|apply Kd.R_drew));exact Kd.R_mono (Kd.R_far (p := ⟨gb404,1,none⟩) (Kd.R_types HO_405003.out BK404.out (by decide)) (fun _ hk => hk.2) (.slice Ao33 y410.length co33)) (fun _ hk => trivial)⟩,⟨kf_ BK399⟩,⟨kf_ BK400⟩,⟨by (with_reducible repeat (first|refine blk_drewN ?_ _|refine blk_drew ?_|refine blk_alloc ?_ _));refine blk_put (cs := #[.bool a0_0,u405001,.slice none 0 0,.slice Ao10 t401.length co10]) ?_ 1 _ rfl;(with_reducible repeat (first|refine blk_drewN ?_ _|refine blk_drew ?_|refine blk_alloc ?_ _));exact BK404.out⟩,⟨b_⟩⟩
      ·rw [if_neg c22] at H
       exact absurd H (by simp)
     ·rw [if_neg c20] at H
      exact absurd H (by simp)
    ·rw [if_neg c19] at H
     exact absurd H (by simp)
   ·rw [if_neg c18] at H
    have c18b0 : decide (x17_1 < (l0_1.length : Int)) = false := decide_eq_false c18
    clear c18
    have H' := Aside0.mk H
    clear H
    have hnb35 := NB399_400.out
    have hnc35 := NB400_399.out
    have hnb36 := NB399_404.out
    have hnc36 := NB404_399.out
    obtain ⟨⟨hcz37_0,hcz37_1,hcz37_2,hcz37_3⟩,hfz37_0,hfz37_1,hfz37_2,hfz37_3⟩ := cl4_ BK399.out
    go_wp2
    go_loopg [36] k1 (fun kq v36 w' => ∃ (x36_2 : Int) (x405002_2 : List (S45)) (u405002 : Value),v36 = .int .i64 x36_2 ∧ Aside0 (impl_cloneMachine.l1 kq l0_2 (l0_2.length : Int) x36_2 a0_0 x405001_1 x405002_2 t401 = some (r1,r2,r3,r4)) ∧ Aside0 (kq ≤ k1) ∧ Aside0 (Kd.S k79 79 w' w.heap.size (fun _ => True) u405001 x405001_1) ∧ Aside0 (Kd.S k45 45 w' w.heap.size (fun _ => True) u405002 x405002_2) ∧ Aside0 (Kd.R (Kd.int .i64) 2 w' w.heap.size (fun _ => True) (.slice Ao10 t401.length co10) t401) ∧ Aside0 (w'.heap[gb399]? = some (.cells #[.bool a0_0,(.slice A0_1 l0_1.length c0_1),(.slice A0_2 l0_2.length c0_2),(.slice A0_3 l0_3.length c0_3)] 32 (0,0))) ∧ Aside0 (w'.heap[gb400]? = some (.cells #[.bool false,(.slice none 0 0),(.slice none 0 0),(.slice none 0 0)] 32 (0,0))) ∧ Aside0 (w'.heap[gb404]? = some (.cells #[.bool a0_0,u405001,u405002,(.slice Ao10 t401.length co10)] 32 (0,0))) ∧ Aside0 (Below w.heap.size w w'))
    case atStart => exact ⟨(0),(([] : List (S45))),(.slice none 0 0),rs_,H',⟨Nat.le_refl _⟩,⟨by (with_reducible repeat (first|apply Kd.S_alloc|apply Kd.S_drewN|apply Kd.S_drew));exact HO_405001.out⟩,⟨by first|exact Kd.S_nil _ _ _ _ _|exact Kd.N_nil _ _ _ _ _|exact Kd.V_nil _ _ _ _ _|exact Kd.Q_nil _ _ _ _ _|exact Kd.R_nil _ _ _ _ _⟩,⟨by (with_reducible repeat (first|apply Kd.R_alloc|apply Kd.R_drewN|apply Kd.R_drew));exact HO_405003.out⟩,⟨kb_ BK399⟩,⟨kb_ BK400⟩,⟨kb_ BK404⟩,⟨b_⟩⟩
    case round =>
     clear H'
     try clear c1
     try clear c2
     try clear p2
     try clear c3
     try clear c4
     try clear p4
     try clear q4
     try clear hx4
     try clear c6
     try clear p6
     try clear c7
     try clear c12
     try clear c15
     try clear c16
     try clear c18
     try clear c18b0
     try clear c19
     try clear c19b0
     try clear c20
     try clear c20b0
     try clear c22
     try clear c24
     try clear c25
     try clear c26
     try clear c35
     try clear c36
     try clear hcz17_0
     try clear hcz17_1
     try clear hcz17_2
     try clear hcz17_3
     try clear hcz27_0
     try clear hcz27_1
     try clear hcz37_0
     try clear hcz37_1
     try clear hcz37_2
     try clear hcz37_3
     try clear hfz17_0
     try clear hfz17_1
     try clear hfz17_2
     try clear hfz17_3
     try clear hfz27_0
     try clear hfz27_1
     try clear hfz37_0
     try clear hfz37_1
     try clear hfz37_2
     try clear hfz37_3
     try clear hx405_0
     try clear hx405_1
     try clear p2
     try clear p405
     try clear q405
     obtain ⟨x36_2,x405002_2,u405002,rfl,HA,HK2,HO_405001,HO_405002,HO_405003,BK399,BK400,BK404,HB⟩ := hrel
     cases gk with
     | zero => exact absurd HA.out (by simp [impl_cloneMachine.l1])
     | succ k2 =>
      have H := HA.out
      clear HA
      simp only [impl_cloneMachine.l1] at H
      by_cases c38 : x36_2 < (l0_2.length : Int)
      ·rw [if_pos c38] at H
       have c38b0 : decide (x36_2 < (l0_2.length : Int)) = true := decide_eq_true c38
       clear c38
       by_cases c39 : 0 ≤ x36_2
       ·rw [if_pos c39] at H
        have c39b0 : decide (0 ≤ x36_2) = true := decide_eq_true c39
        clear c39
        by_cases c40 : x36_2 < (l0_2.length : Int)
        ·rw [if_pos c40] at H
         have c40b0 : decide (x36_2 < (l0_2.length : Int)) = true := decide_eq_true c40
         clear c40
         replace H := Option.bind_eq_some_iff.mp H
         obtain ⟨⟨t415,t416,t417,t418⟩,A410,H⟩ := H
         replace H : (if x405002_2.length < 2932031007402 then (impl_cloneMachine.l1 k2 l0_2 (l0_2.length : Int) (wrap64 (x36_2 + 1)) a0_0 x405001_1 (x405002_2 ++ [(⟨t415,t416,t417,t418⟩ : S45)]) t401) else (none)) = some (r1,r2,r3,r4) := H
         have A41 := Aside0.mk A410
         clear A410
         by_cases c42 : x405002_2.length < 2932031007402
         ·rw [if_pos c42] at H
          have LMc42 := Aside0.mk c42
          clear c42
          obtain ⟨y421,hy421⟩ : ∃ y_ : List (S45),y_ = (x405002_2 ++ [(⟨t415,t416,t417,t418⟩ : S45)]) := ⟨_,rfl⟩
          replace H : (impl_cloneMachine.l1 k2 l0_2 (l0_2.length : Int) (wrap64 (x36_2 + 1)) a0_0 x405001_1 y421 t401) = some (r1,r2,r3,r4) := by first|(rw [hy421];with_reducible exact H)|(have H2_ := (Option.bind_some _ _).symm.trans H;rw [hy421];with_reducible exact H2_)|(have H2_ := (Option.bind_some _ _).symm.trans H;with_reducible exact H2_)|with_reducible exact H|(rw [hy421];exact H)|exact H
          have Ny421 := Aside0.mk hy421
          clear hy421
          have H' := Aside0.mk H
          clear H
          have p413 : 0 ≤ (x36_2 : Int) := od_
          have q413 : x36_2 < (l0_2.length : Int) := od_
          obtain ⟨ad413,A413_3,c413_3,e413,hx413_0,hx413_1,hx413_2,hx413_3,hl413_3,hi413_3⟩ := at_T45 HR0_2.out x36_2 p413 q413
          cases e413
          replace hx413_0 := hx_ HB hx413_0
          replace hx413_1 := hx_ HB hx413_1
          replace hx413_2 := hx_ HB hx413_2
          replace hx413_3 := hx_ HB hx413_3
          have HR413_3 := Aside0.mk hi413_3
          have HC413_3 := Aside0.mk hl413_3
          clear hi413_3 hl413_3
          replace p413 := eq_true p413
          replace q413 := eq_true q413
          try go_wp2_with (first|((with_reducible refine gate_dst (N := 7) rfl ?_);refine bx_ 7 #[.int .i64 0,.int .i64 0,.int .i64 0,.slice none 0 0] 45 ?_;intro gb414 hg w43 hbox hb;replace HO_405001 := Aside0.mk (Kd.S_below (by (with_reducible repeat (first|apply Kd.S_alloc|apply Kd.S_drewN|apply Kd.S_drew));exact HO_405001.out) hb);replace HO_405002 := Aside0.mk (Kd.S_below (Kd.S_elderB (by (with_reducible repeat (first|apply Kd.S_alloc|apply Kd.S_drewN|apply Kd.S_drew));exact HO_405002.out) gb414 (Nat.le_of_eq hg.symm)) hb);replace HO_405003 := Aside0.mk (Kd.R_below (by (with_reducible repeat (first|apply Kd.R_alloc|apply Kd.R_drewN|apply Kd.R_drew));exact HO_405003.out) hb);replace HB := nb_ hg hbox hb;obtain ⟨BK414,GW414,GE414,HB⟩ := HB;have NB399_414 := Aside0.mk ((nl_ BK399 hg));have NB414_399 := Aside0.mk ((ng_ BK399 hg));replace BK399 := Aside0.mk (blk_below (kb_ BK399) hb);have NB400_414 := Aside0.mk ((nl_ BK400 hg));have NB414_400 := Aside0.mk ((ng_ BK400 hg));replace BK400 := Aside0.mk (blk_below (kb_ BK400) hb);have NB404_414 := Aside0.mk ((nl_ BK404 hg));have NB414_404 := Aside0.mk ((ng_ BK404 hg));replace BK404 := Aside0.mk (blk_below (kb_ BK404) hb);clear hb hbox hg;have hnb44 := NB414_399.out;have hnc44 := NB399_414.out;have hnb45 := NB414_400.out;have hnc45 := NB400_414.out;have hnb46 := NB414_404.out;have hnc46 := NB404_414.out;obtain ⟨⟨hcz47_0,hcz47_1,hcz47_2,hcz47_3⟩,hfz47_0,hfz47_1,hfz47_2,hfz47_3⟩ := cl4_ BK414.out))
          have n0_ : Aside0 (Kd.S k79 79 ((((w43.setCell ⟨gb414,0,none⟩ (.int .i64 ((rd_T45 l0_2 x36_2).f0))).setCell ⟨gb414,1,none⟩ (.int .i64 ((rd_T45 l0_2 x36_2).f1))).setCell ⟨gb414,2,none⟩ (.int .i64 ((rd_T45 l0_2 x36_2).f2))).setCell ⟨gb414,3,none⟩ (.slice A413_3 ((rd_T45 l0_2 x36_2).f3).length c413_3)) w.heap.size (fun _ => True) u405001 x405001_1) := ⟨by (with_reducible repeat (first|apply Kd.S_alloc|apply Kd.S_drewN|apply Kd.S_drew));exact Kd.S_mono (Kd.S_far (p := ⟨gb414,3,none⟩) (Kd.S_far (p := ⟨gb414,2,none⟩) (Kd.S_far (p := ⟨gb414,1,none⟩) (Kd.S_far (p := ⟨gb414,0,none⟩) (Kd.S_types HO_405001.out BK414.out (by decide)) (fun _ hk => hk.2) (.int .i64 ((rd_T45 l0_2 x36_2).f0))) (fun _ hk => hk.2) (.int .i64 ((rd_T45 l0_2 x36_2).f1))) (fun _ hk => hk.2) (.int .i64 ((rd_T45 l0_2 x36_2).f2))) (fun _ hk => hk.2) (.slice A413_3 ((rd_T45 l0_2 x36_2).f3).length c413_3)) (fun _ hk => trivial)⟩
          have n1_ : Aside0 (Kd.S k45 45 ((((w43.setCell ⟨gb414,0,none⟩ (.int .i64 ((rd_T45 l0_2 x36_2).f0))).setCell ⟨gb414,1,none⟩ (.int .i64 ((rd_T45 l0_2 x36_2).f1))).setCell ⟨gb414,2,none⟩ (.int .i64 ((rd_T45 l0_2 x36_2).f2))).setCell ⟨gb414,3,none⟩ (.slice A413_3 ((rd_T45 l0_2 x36_2).f3).length c413_3)) w.heap.size (fun k_ => k_ ≠ gb414) u405002 x405002_2) := ⟨by (with_reducible repeat (first|apply Kd.S_alloc|apply Kd.S_drewN|apply Kd.S_drew));exact Kd.S_mono (Kd.S_far (p := ⟨gb414,3,none⟩) (Kd.S_far (p := ⟨gb414,2,none⟩) (Kd.S_far (p := ⟨gb414,1,none⟩) (Kd.S_far (p := ⟨gb414,0,none⟩) (Kd.S_mono HO_405002.out (fun k_ hk => (⟨hk,hk.2⟩ : _ ∧ k_ ≠ gb414))) (fun _ hk => hk.2) (.int .i64 ((rd_T45 l0_2 x36_2).f0))) (fun _ hk => hk.2) (.int .i64 ((rd_T45 l0_2 x36_2).f1))) (fun _ hk => hk.2) (.int .i64 ((rd_T45 l0_2 x36_2).f2))) (fun _ hk => hk.2) (.slice A413_3 ((rd_T45 l0_2 x36_2).f3).length c413_3)) (fun _ hk => hk.1.2)⟩
          have n2_ : Aside0 (Kd.R (Kd.int .i64) 2 ((((w43.setCell ⟨gb414,0,none⟩ (.int .i64 ((rd_T45 l0_2 x36_2).f0))).setCell ⟨gb414,1,none⟩ (.int .i64 ((rd_T45 l0_2 x36_2).f1))).setCell ⟨gb414,2,none⟩ (.int .i64 ((rd_T45 l0_2 x36_2).f2))).setCell ⟨gb414,3,none⟩ (.slice A413_3 ((rd_T45 l0_2 x36_2).f3).length c413_3)) w.heap.size (fun _ => True) (.slice Ao10 t401.length co10) t401) := ⟨by (with_reducible repeat (first|apply Kd.R_alloc|apply Kd.R_drewN|apply Kd.R_drew));exact Kd.R_mono (Kd.R_far (p := ⟨gb414,3,none⟩) (Kd.R_far (p := ⟨gb414,2,none⟩) (Kd.R_far (p := ⟨gb414,1,none⟩) (Kd.R_far (p := ⟨gb414,0,none⟩) (Kd.R_types HO_405003.out BK414.out (by decide)) (fun _ hk => hk.2) (.int .i64 ((rd_T45 l0_2 x36_2).f0))) (fun _ hk => hk.2) (.int .i64 ((rd_T45 l0_2 x36_2).f1))) (fun _ hk => hk.2) (.int .i64 ((rd_T45 l0_2 x36_2).f2))) (fun _ hk => hk.2) (.slice A413_3 ((rd_T45 l0_2 x36_2).f3).length c413_3)) (fun _ hk => trivial)⟩
          have n3_ : Aside0 (((((w43.setCell ⟨gb414,0,none⟩ (.int .i64 ((rd_T45 l0_2 x36_2).f0))).setCell ⟨gb414,1,none⟩ (.int .i64 ((rd_T45 l0_2 x36_2).f1))).setCell ⟨gb414,2,none⟩ (.int .i64 ((rd_T45 l0_2 x36_2).f2))).setCell ⟨gb414,3,none⟩ (.slice A413_3 ((rd_T45 l0_2 x36_2).f3).length c413_3)).heap[gb399]? = some (.cells #[.bool a0_0,.slice A0_1 l0_1.length c0_1,.slice (some ad413) l0_2.length c0_2,.slice A0_3 l0_3.length c0_3] 32 (0,0))) := ⟨kf_ BK399⟩
          have n4_ : Aside0 (((((w43.setCell ⟨gb414,0,none⟩ (.int .i64 ((rd_T45 l0_2 x36_2).f0))).setCell ⟨gb414,1,none⟩ (.int .i64 ((rd_T45 l0_2 x36_2).f1))).setCell ⟨gb414,2,none⟩ (.int .i64 ((rd_T45 l0_2 x36_2).f2))).setCell ⟨gb414,3,none⟩ (.slice A413_3 ((rd_T45 l0_2 x36_2).f3).length c413_3)).heap[gb400]? = some (.cells #[.bool false,.slice none 0 0,.slice none 0 0,.slice none 0 0] 32 (0,0))) := ⟨kf_ BK400⟩
          have n5_ : Aside0 (((((w43.setCell ⟨gb414,0,none⟩ (.int .i64 ((rd_T45 l0_2 x36_2).f0))).setCell ⟨gb414,1,none⟩ (.int .i64 ((rd_T45 l0_2 x36_2).f1))).setCell ⟨gb414,2,none⟩ (.int .i64 ((rd_T45 l0_2 x36_2).f2))).setCell ⟨gb414,3,none⟩ (.slice A413_3 ((rd_T45 l0_2 x36_2).f3).length c413_3)).heap[gb404]? = some (.cells #[.bool a0_0,u405001,u405002,.slice Ao10 t401.length co10] 32 (0,0))) := ⟨kf_ BK404⟩
          have n6_ : Aside0 (((((w43.setCell ⟨gb414,0,none⟩ (.int .i64 ((rd_T45 l0_2 x36_2).f0))).setCell ⟨gb414,1,none⟩ (.int .i64 ((rd_T45 l0_2 x36_2).f1))).setCell ⟨gb414,2,none⟩ (.int .i64 ((rd_T45 l0_2 x36_2).f2))).setCell ⟨gb414,3,none⟩ (.slice A413_3 ((rd_T45 l0_2 x36_2).f3).length c413_3)).heap[gb414]? = some (.cells #[.int .i64 ((rd_T45 l0_2 x36_2).f0),.int .i64 ((rd_T45 l0_2 x36_2).f1),.int .i64 ((rd_T45 l0_2 x36_2).f2),.slice A413_3 ((rd_T45 l0_2 x36_2).f3).length c413_3] 45 (0,0))) := ⟨by (with_reducible repeat (first|refine blk_drewN ?_ _|refine blk_drew ?_|refine blk_alloc ?_ _));refine blk_put (cs := #[.int .i64 ((rd_T45 l0_2 x36_2).f0),.int .i64 ((rd_T45 l0_2 x36_2).f1),.int .i64 ((rd_T45 l0_2 x36_2).f2),.slice none 0 0]) ?_ 3 _ rfl;(with_reducible repeat (first|refine blk_drewN ?_ _|refine blk_drew ?_|refine blk_alloc ?_ _));refine blk_put (cs := #[.int .i64 ((rd_T45 l0_2 x36_2).f0),.int .i64 ((rd_T45 l0_2 x36_2).f1),.int .i64 0,.slice none 0 0]) ?_ 2 _ rfl;(with_reducible repeat (first|refine blk_drewN ?_ _|refine blk_drew ?_|refine blk_alloc ?_ _));refine blk_put (cs := #[.int .i64 ((rd_T45 l0_2 x36_2).f0),.int .i64 0,.int .i64 0,.slice none 0 0]) ?_ 1 _ rfl;(with_reducible repeat (first|refine blk_drewN ?_ _|refine blk_drew ?_|refine blk_alloc ?_ _));refine blk_put (cs := #[.int .i64 0,.int .i64 0,.int .i64 0,.slice none 0 0]) ?_ 0 _ rfl;(with_reducible repeat (first|refine blk_drewN ?_ _|refine blk_drew ?_|refine blk_alloc ?_ _));exact BK414.out⟩
          have n7_ : Aside0 (Below w.heap.size w ((((w43.setCell ⟨gb414,0,none⟩ (.int .i64 ((rd_T45 l0_2 x36_2).f0))).setCell ⟨gb414,1,none⟩ (.int .i64 ((rd_T45 l0_2 x36_2).f1))).setCell ⟨gb414,2,none⟩ (.int .i64 ((rd_T45 l0_2 x36_2).f2))).setCell ⟨gb414,3,none⟩ (.slice A413_3 ((rd_T45 l0_2 x36_2).f3).length c413_3))) := ⟨b_⟩
          (try clear HO_405001)
          (try clear HO_405002)
          (try clear HO_405003)
          (try clear BK399)
          (try clear BK400)
          (try clear BK404)
          (try clear BK414)
          (try clear HB)
          generalize ((((w43.setCell ⟨gb414,0,none⟩ (.int .i64 ((rd_T45 l0_2 x36_2).f0))).setCell ⟨gb414,1,none⟩ (.int .i64 ((rd_T45 l0_2 x36_2).f1))).setCell ⟨gb414,2,none⟩ (.int .i64 ((rd_T45 l0_2 x36_2).f2))).setCell ⟨gb414,3,none⟩ (.slice A413_3 ((rd_T45 l0_2 x36_2).f3).length c413_3)) = w48 at n0_ n1_ n2_ n3_ n4_ n5_ n6_ n7_ ⊢
          have HO_405001 := n0_
          have HO_405002 := n1_
          have HO_405003 := n2_
          have BK399 := n3_
          have BK400 := n4_
          have BK404 := n5_
          have BK414 := n6_
          have HB := n7_
          clear n0_ n1_ n2_ n3_ n4_ n5_ n6_ n7_
          replace HO_405001 := Aside0.mk (Kd.S_drew HO_405001.out)
          replace HO_405002 := Aside0.mk (Kd.S_drew HO_405002.out)
          replace HO_405003 := Aside0.mk (Kd.R_drew HO_405003.out)
          replace BK399 := Aside0.mk (blk_drew BK399.out)
          replace BK400 := Aside0.mk (blk_drew BK400.out)
          replace BK404 := Aside0.mk (blk_drew BK404.out)
          replace BK414 := Aside0.mk (blk_drew BK414.out)
          replace HB := Aside0.mk (below_drew1 HB.out)
          refine std_ 8 (S := fun w' => hc4 w' gb404 (.bool a0_0) (u405001) (u405002) (.slice Ao10 t401.length co10) (hd4 w' gb414 (.int .i64 ((rd_T45 l0_2 x36_2).f0)) (.int .i64 ((rd_T45 l0_2 x36_2).f1)) (.int .i64 ((rd_T45 l0_2 x36_2).f2)) (.slice A413_3 ((rd_T45 l0_2 x36_2).f3).length c413_3))) (ds := [7]) hh_ (fun hHeld => ?_);refine with_tabW impl_cloneMachine.tab10 impl_cloneMachine.bits10 (fun HT_ HW_ => ?_)
          generalize w48.drew = w49 at HO_405001 HO_405002 HO_405003 BK399 BK400 BK404 BK414 HB hHeld ⊢
          refine pv_ 0 40 ?_
          refine tx_ 1 41 hHeld ?_
          refine tx_ 2 42 hHeld ?_
          refine oy_ 3 43 (fun K hK => ?_)
          refine gs_ Try.func68 #[.agg #[.int .i64 ((rd_T45 l0_2 x36_2).f0),.int .i64 ((rd_T45 l0_2 x36_2).f1),.int .i64 ((rd_T45 l0_2 x36_2).f2),.slice A413_3 ((rd_T45 l0_2 x36_2).f3).length c413_3]] ?_
          with_reducible refine (impl_cloneRecord.calls ((rd_T45 l0_2 x36_2).f0) ((rd_T45 l0_2 x36_2).f1) ((rd_T45 l0_2 x36_2).f2) _ _ ((rd_T45 l0_2 x36_2).f3) t415 t416 t417 t418 _ ?side1 ?side2 A41.out).mono ?_
          (case side1 => exact cb_ HR413_3)
          (case side2 => exact HC413_3.out)
          rintro e w50 ⟨v419,rfl,ho0,hb⟩
          refine ⟨_,rfl,?_⟩
          replace HO_405001 := Aside0.mk (Kd.S_below (by (with_reducible repeat (first|apply Kd.S_alloc|apply Kd.S_drewN|apply Kd.S_drew));exact HO_405001.out) hb)
          replace HO_405002 := Aside0.mk (Kd.S_elder' (by (with_reducible repeat (first|apply Kd.S_alloc|apply Kd.S_drewN|apply Kd.S_drew));exact HO_405002.out) (Kd.R_base ho0) hb)
          replace HO_405003 := Aside0.mk (Kd.R_below (by (with_reducible repeat (first|apply Kd.R_alloc|apply Kd.R_drewN|apply Kd.R_drew));exact HO_405003.out) hb)
          replace BK399 := Aside0.mk (blk_below (kb_ BK399) hb)
          replace BK400 := Aside0.mk (blk_below (kb_ BK400) hb)
          replace BK404 := Aside0.mk (blk_below (kb_ BK404) hb)
          replace BK414 := Aside0.mk (blk_below (kb_ BK414) hb)
          have HO420 := Aside0.mk (Kd.R_lower ho0 (below_size b_))
          replace HB := Aside0.mk (below_step b_ hb)
          (try clear hb)
          (try clear hb2)
          (try clear hk)
          (try clear hi)
          (try clear ho0)
          obtain ⟨Ao52,co52,eo52⟩ := Kd.R_slice HO420.out
          (first|subst eo52|(injection eo52 with f1_ f2_ f3_;have f4_ := f1_.symm;have f5_ := f3_.symm;clear f1_ f2_ f3_;subst f4_;subst f5_))
          refine hK.out _ _ hh_ (fun hHeld => ?_)
          clear hK K
          refine nr_ (some 43) _ ?_
          refine oy_ 4 44 (fun K hK => ?_)
          refine value_ (w1 := ?_) (v := ?_) (by rfl) rfl ?_ ?_
          rotate_left 2
          ·go_simp
           constructor
           ·rfl
           ·rfl
          refine hK.out _ _ ⟨(blk_cell (blk_alloc BK404.out _) 0).trans rfl,(blk_cell (blk_alloc BK404.out _) 1).trans rfl,(blk_cell (blk_alloc BK404.out _) 2).trans rfl,(blk_cell (blk_alloc BK404.out _) 3).trans rfl,(blk_cell (blk_alloc BK414.out _) 0).trans rfl,(blk_cell (blk_alloc BK414.out _) 1).trans rfl,(blk_cell (blk_alloc BK414.out _) 2).trans rfl,(blk_cell (blk_alloc BK414.out _) 3).trans rfl⟩ (fun hHeld => ?_)
          clear hK K
          refine nr_ (some 44) _ ?_
          refine oy_ 5 45 (fun K hK => ?_)
          refine Kd.S_append_step k45 (w0 := w) w.heap.size (by rfl) (.tmp 41) (.tmp 44) 30 45 (.agg #[(.int .i64 0),(.int .i64 0),(.int .i64 0),(.slice none 0 0)]) 48 rfl Try.underlying30 info45 rfl (by decide) (by omega) u405002 x405002_2 (⟨t415,t416,t417,t418⟩ : S45) [.int .i64 t415,.int .i64 t416,.int .i64 t417,.slice Ao52 t418.length co52] (fun k_ => k_ ≠ gb414) (fun k_ => some k_ = (.slice Ao52 t418.length co52 : Value).ownBlock) rfl rfl ?aP (fun k_ hk_ => ((Kd.R_mono (ok' := fun k_ => ((fun k_ => k_ ≠ gb414)) k_ ∧ some k_ ≠ (u405002 : Value).ownBlock) (Kd.R_types (Kd.R_apart' (HO420.out) (Kd.S_typed HO_405002.out) (by decide)) BK414.out (by decide)) (fun k_ hk => ⟨hk.2,hk.1.2⟩))).1 k_ hk_.symm) ?aF ?aO ?aB ?aS ?aL ?_
          (case aP => exact k45_mkM _ _ _ (⟨t415,t416,t417,t418⟩ : S45) (Kd.R_mono (Kd.R_tight rfl (Kd.R_mono (ok' := fun k_ => ((fun k_ => k_ ≠ gb414)) k_ ∧ some k_ ≠ (u405002 : Value).ownBlock) (Kd.R_types (Kd.R_apart' (HO420.out) (Kd.S_typed HO_405002.out) (by decide)) BK414.out (by decide)) (fun k_ hk => ⟨hk.2,hk.1.2⟩))) (fun _ h_ => h_)))
          (case aB => exact b_)
          (case aF => exact (fun k_ hk => Kd.freshB (kb_ BK414) k_ hk))
          (case aO => exact (by (with_reducible repeat (first|apply Kd.S_alloc|apply Kd.S_drewN|apply Kd.S_drew));exact Kd.S_mono HO_405002.out (fun k_ hk => ⟨hk.1,fun e_ => hk.2 e_⟩)))
          (case aS => exact (below_size b_))
          (case aL => have := LMc42.out;omega)
          intro v422 w51 ho hb hg hat
          rw [← Ny421.out] at ho
          replace HO_405001 := Aside0.mk (Kd.S_over' (by (with_reducible repeat (first|apply Kd.S_alloc|apply Kd.S_drewN|apply Kd.S_drew));exact HO_405001.out) (Kd.S_typed (by (with_reducible repeat (first|apply Kd.S_alloc|apply Kd.S_drewN|apply Kd.S_drew));exact HO_405002.out)) (by decide) hg)
          replace HO_405003 := Aside0.mk (Kd.R_over' (by (with_reducible repeat (first|apply Kd.R_alloc|apply Kd.R_drewN|apply Kd.R_drew));exact HO_405003.out) (Kd.S_typed (by (with_reducible repeat (first|apply Kd.S_alloc|apply Kd.S_drewN|apply Kd.S_drew));exact HO_405002.out)) (by decide) hg)
          replace BK399 := Aside0.mk (blk_grown (kb_ BK399) hg (Kd.S_ne HO_405002.out BK399.out (by decide)))
          replace BK400 := Aside0.mk (blk_grown (kb_ BK400) hg (Kd.S_ne HO_405002.out BK400.out (by decide)))
          replace BK404 := Aside0.mk (blk_grown (kb_ BK404) hg (Kd.S_ne HO_405002.out BK404.out (by decide)))
          replace BK414 := Aside0.mk (blk_grown (kb_ BK414) hg (Kd.S_away HO_405002.out (fun _ hk => hk.1)))
          replace HB := Aside0.mk (hb)
          have HO423 := Aside0.mk (ho)
          clear HO_405002 HO420
          clear ho hb hg hat
          obtain ⟨Ao53,co53,eo53⟩ := Kd.S_slice HO423.out
          (first|subst eo53|(injection eo53 with f1_ f2_ f3_;have f4_ := f1_.symm;have f5_ := f3_.symm;clear f1_ f2_ f3_;subst f4_;subst f5_))
          refine hK.out _ _ hh_ (fun hHeld => ?_)
          clear hK K
          refine nr_ (some 45) _ ?_
          refine pv_ 6 46 ?_
          refine last_ (i := 7) (N := none) #[true,true,true,true,true,true,true,true] rfl rfl (one_of HT_.out (by kernel_rfl)) (by decide) (fun K hK => ?_)
          have hs54 : w51.cell? ⟨gb404,2,none⟩ = some (u405002) := (blk_cell BK404.out 2).trans rfl
          have hfs54 := blk_frozen BK404.out 2
          have hns54_0 := NB399_404.out
          have hns54_1 := NB400_404.out
          have hns54_3 := NB414_404.out
          have hms54_0 := NB404_399.out
          have hms54_1 := NB404_400.out
          have hms54_3 := NB404_414.out
          refine skip_ (w1 := ?_) (by rfl) rfl ?_ ?_
          rotate_left
          ·go_simp
           rfl
          refine hK.out _ _ ?_
          clear hK K
          refine done_ (done_of HT_.out (by kernel_rfl)) ?_
          try go_wp2
          go_roundg k2
          case measure => have := HK1.out;have := HK2.out;omega
          case rel => exact ⟨(wrap64 (x36_2 + 1)),(y421),(.slice Ao53 y421.length co53),rs_,H',⟨by have := HK1.out;have := HK2.out;omega⟩,⟨by (with_reducible repeat (first|apply Kd.S_alloc|apply Kd.S_drewN|apply Kd.S_drew));exact Kd.S_mono (Kd.S_far (p := ⟨gb404,2,none⟩) (Kd.S_types HO_405001.out BK404.out (by decide)) (fun _ hk => hk.2) (.slice Ao53 y421.length co53)) (fun _ hk => trivial)⟩,⟨by (with_reducible repeat (first|apply Kd.S_alloc|apply Kd.S_drewN|apply Kd.S_drew));exact Kd.S_mono (Kd.S_far (p := ⟨gb404,2,none⟩) (Kd.S_types HO423.out BK404.out (by decide)) (fun _ hk => hk.2) (.slice Ao53 y421.length co53)) (fun _ hk => trivial)⟩,⟨by (with_reducible repeat (first|apply Kd.R_alloc|apply Kd.R_drewN|apply Kd.R_drew));exact Kd.R_mono (Kd.R_far (p := ⟨gb404,2,none⟩) (Kd.R_types HO_405003.out BK404.out (by decide)) (fun _ hk => hk.2) (.slice Ao53 y421.length co53)) (fun _ hk => trivial)⟩,⟨kf_ BK399⟩,⟨kf_ BK400⟩,⟨by (with_reducible repeat (first|refine blk_drewN ?_ _|refine blk_drew ?_|refine blk_alloc ?_ _));refine blk_put (cs := #[.bool a0_0,u405001,u405002,.slice Ao10 t401.length co10]) ?_ 2 _ rfl;(with_reducible repeat (first|refine blk_drewN ?_ _|refine blk_drew ?_|refine blk_alloc ?_ _));exact BK404.out⟩,⟨b_⟩⟩
         ·rw [if_neg c42] at H
          exact absurd H (by simp)
        ·rw [if_neg c40] at H
         exact absurd H (by simp)
       ·rw [if_neg c39] at H
        exact absurd H (by simp)
      ·rw [if_neg c38] at H
       have c38b0 : decide (x36_2 < (l0_2.length : Int)) = false := decide_eq_false c38
       clear c38
       simp only [Option.some.injEq,Prod.mk.injEq] at H
       obtain ⟨rfl,rfl,rfl,rfl⟩ := H
       have hnb55 := NB404_399.out
       have hnc55 := NB399_404.out
       have hnb56 := NB404_400.out
       have hnc56 := NB400_404.out
       obtain ⟨⟨hcz57_0,hcz57_1,hcz57_2,hcz57_3⟩,hfz57_0,hfz57_1,hfz57_2,hfz57_3⟩ := cl4_ BK404.out
       have hnb58 := NB400_399.out
       have hnc58 := NB399_400.out
       obtain ⟨⟨hcz59_0,hcz59_1,hcz59_2,hcz59_3⟩,hfz59_0,hfz59_1,hfz59_2,hfz59_3⟩ := cl4_ BK400.out
       obtain ⟨Ao60,co60,eo60⟩ := Kd.S_slice HO_405001.out
       subst eo60
       obtain ⟨Ao61,co61,eo61⟩ := Kd.S_slice HO_405002.out
       subst eo61
       go_wp2
       refine bodyPost_ret (results_cell_row rfl _ _ gb400 32 #[.bool a0_0,.slice Ao60 x405001_1.length co60,.slice Ao61 x405002_2.length co61,.slice Ao10 t401.length co10] (0,0) _ rfl (by (with_reducible repeat (first|refine blk_drewN ?_ _|refine blk_drew ?_|refine blk_alloc ?_ _));refine blk_put (cs := #[.bool a0_0,.slice Ao60 x405001_1.length co60,.slice Ao61 x405002_2.length co61,.slice none 0 0]) ?_ 3 _ rfl;(with_reducible repeat (first|refine blk_drewN ?_ _|refine blk_drew ?_|refine blk_alloc ?_ _));refine blk_put (cs := #[.bool a0_0,.slice Ao60 x405001_1.length co60,.slice none 0 0,.slice none 0 0]) ?_ 2 _ rfl;(with_reducible repeat (first|refine blk_drewN ?_ _|refine blk_drew ?_|refine blk_alloc ?_ _));refine blk_put (cs := #[.bool a0_0,.slice none 0 0,.slice none 0 0,.slice none 0 0]) ?_ 1 _ rfl;(with_reducible repeat (first|refine blk_drewN ?_ _|refine blk_drew ?_|refine blk_alloc ?_ _));refine blk_put (cs := #[.bool false,.slice none 0 0,.slice none 0 0,.slice none 0 0]) ?_ 0 _ rfl;(with_reducible repeat (first|refine blk_drewN ?_ _|refine blk_drew ?_|refine blk_alloc ?_ _));exact BK400.out) Try.underlying32 rfl (by kernel_rfl)) rfl ?_
       exact ⟨_,_,_,rf_,by (with_reducible repeat (first|apply Kd.S_alloc|apply Kd.S_drewN|apply Kd.S_drew));exact Kd.S_mono (Kd.S_far (p := ⟨gb400,3,none⟩) (Kd.S_far (p := ⟨gb400,2,none⟩) (Kd.S_far (p := ⟨gb400,1,none⟩) (Kd.S_far (p := ⟨gb400,0,none⟩) (Kd.S_types HO_405001.out BK400.out (by decide)) (fun _ hk => hk.2) (.bool a0_0)) (fun _ hk => hk.2) (.slice Ao60 x405001_1.length co60)) (fun _ hk => hk.2) (.slice Ao61 x405002_2.length co61)) (fun _ hk => hk.2) (.slice Ao10 t401.length co10)) (fun _ hk => trivial),by (with_reducible repeat (first|apply Kd.S_alloc|apply Kd.S_drewN|apply Kd.S_drew));exact Kd.S_mono (Kd.S_far (p := ⟨gb400,3,none⟩) (Kd.S_far (p := ⟨gb400,2,none⟩) (Kd.S_far (p := ⟨gb400,1,none⟩) (Kd.S_far (p := ⟨gb400,0,none⟩) (Kd.S_types HO_405002.out BK400.out (by decide)) (fun _ hk => hk.2) (.bool a0_0)) (fun _ hk => hk.2) (.slice Ao60 x405001_1.length co60)) (fun _ hk => hk.2) (.slice Ao61 x405002_2.length co61)) (fun _ hk => hk.2) (.slice Ao10 t401.length co10)) (fun _ hk => trivial),by (with_reducible repeat (first|apply Kd.R_alloc|apply Kd.R_drewN|apply Kd.R_drew));exact Kd.R_mono (Kd.R_far (p := ⟨gb400,3,none⟩) (Kd.R_far (p := ⟨gb400,2,none⟩) (Kd.R_far (p := ⟨gb400,1,none⟩) (Kd.R_far (p := ⟨gb400,0,none⟩) (Kd.R_types HO_405003.out BK400.out (by decide)) (fun _ hk => hk.2) (.bool a0_0)) (fun _ hk => hk.2) (.slice Ao60 x405001_1.length co60)) (fun _ hk => hk.2) (.slice Ao61 x405002_2.length co61)) (fun _ hk => hk.2) (.slice Ao10 t401.length co10)) (fun _ hk => trivial),b_⟩

end Go.Proofs.Ythplaakckfhaaaa.XRp
