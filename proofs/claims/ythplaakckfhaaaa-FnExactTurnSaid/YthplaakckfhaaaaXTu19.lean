/- Proved: of each Go function here that a call comes to what the Lean function of its name tells. Written by a program of this session over the translation. No conditions beyond each theorem's own. -/
import Derived.Test.YthplaakckfhaaaaXTu0
import Derived.Test.YthplaakckfhaaaaXTu18
namespace Go.Proofs.Ythplaakckfhaaaa.XTu
open Go.RowKit Go.Proofs.Ythplaakckfhaaaa.Aid Go.Proofs.YthplaakckfhaaaaW.PrintWords Go.Proofs.YthplaakckfhaaaaW.PrintLast Go.Proofs.YthplaakckfhaaaaW.PrintMore
set_option linter.unusedVariables false
set_option linter.unusedSimpArgs false

/-! ### impl_cloneMachine: function 76 -/
mutual
def impl_cloneMachine.l0 : Nat → List (S79) → Int → Int → Bool → List (S79) → List (S45) → List Int → Bool → List (S79) → List Int → Option (Bool × (List (S79)) × (List (S45)) × List Int)
  | 0, _, _, _, _, _, _, _, _, _, _ => none
  | k + 1, x15, x16, x17, x388000, x388001, x388002, x388003, x393000, x393001, x393003 => if x17 < x16 then (if 0 ≤ x17 then (if x17 < (x15.length : Int) then ((impl_Cell_60.f ((rd_T79 x15 x17).f1)).bind fun t395 => (if x393001.length < 4398046511104 then (impl_cloneMachine.l0 k x15 x16 (wrap64 (x17 + 1)) x388000 x388001 x388002 x388003 x393000 (x393001 ++ [(⟨(rd_T79 x15 x17).f0, t395⟩ : S79)]) x393003) else (none))) else (none)) else (none)) else (impl_cloneMachine.l1 k x388002 (x388002.length : Int) 0 x393000 x393001 ([] : List (S45)) x393003)
def impl_cloneMachine.l1 : Nat → List (S45) → Int → Int → Bool → List (S79) → List (S45) → List Int → Option (Bool × (List (S79)) × (List (S45)) × List Int)
  | 0, _, _, _, _, _, _, _ => none
  | k + 1, x34, x35, x36, x393000, x393001, x393002, x393003 => if x36 < x35 then (if 0 ≤ x36 then (if x36 < (x34.length : Int) then ((impl_cloneRecord.f ((rd_T45 x34 x36).f0) ((rd_T45 x34 x36).f1) ((rd_T45 x34 x36).f2) ((rd_T45 x34 x36).f3)).bind fun bt403 => (if x393002.length < 2932031007402 then (impl_cloneMachine.l1 k x34 x35 (wrap64 (x36 + 1)) x393000 x393001 (x393002 ++ [(⟨bt403.1, bt403.2.1, bt403.2.2.1, bt403.2.2.2⟩ : S45)]) x393003) else (none))) else (none)) else (none)) else (some (x393000, x393001, x393002, x393003))
end
def impl_cloneMachine.f (k : Nat) (a0_0 : Bool) (l0_1 : List (S79)) (l0_2 : List (S45)) (l0_3 : List Int) : Option (Bool × (List (S79)) × (List (S45)) × List Int) := (slices_Clone_int64_int64.f l0_3).bind fun t389 => (impl_cloneMachine.l0 k l0_1 (l0_1.length : Int) 0 a0_0 l0_1 l0_2 l0_3 a0_0 ([] : List (S79)) t389)

def impl_cloneMachine.T1 : Bool × List (List Nat × List Nat) := (true, [([], []), ([0], [0]), ([], []), ([2], [2]), ([3], [3]), ([1, 4], [1, 4]), ([], []), ([6, 5, 4, 0, 1, 2, 3, 4, 5, 6], [5, 6])])
def impl_cloneMachine.B1 : List Nat := [0, 1, 0, 4, 12, 31, 0, 127]
theorem impl_cloneMachine.tab1 : rtab .any (opsOf Try.f76 1) = impl_cloneMachine.T1 := by kernel_rfl
theorem impl_cloneMachine.bits1 : waitsOk impl_cloneMachine.T1.2 impl_cloneMachine.B1 = true := by kernel_rfl
def impl_cloneMachine.T5 : Bool × List (List Nat × List Nat) := (true, [([], []), ([0], [0]), ([], []), ([2], [2]), ([], []), ([4], [4]), ([5], [5]), ([3, 6], [3, 6]), ([7], [7]), ([1, 8, 6], [1, 8]), ([0, 1, 2, 3, 4, 5, 6, 7, 8, 9], []), ([10, 9, 9, 0, 1, 2, 3, 4, 5, 6, 7, 8, 9], [9, 10])])
def impl_cloneMachine.B5 : List Nat := [0, 1, 0, 4, 0, 16, 48, 124, 252, 511, 1023, 2047]
theorem impl_cloneMachine.tab5 : rtab .any (opsOf Try.f76 5) = impl_cloneMachine.T5 := by kernel_rfl
theorem impl_cloneMachine.bits5 : waitsOk impl_cloneMachine.T5.2 impl_cloneMachine.B5 = true := by kernel_rfl
def impl_cloneMachine.T10 : Bool × List (List Nat × List Nat) := (true, [([], []), ([0], [0]), ([], []), ([2], [2]), ([3], [3]), ([1, 4, 3], [1, 4]), ([0, 1, 2, 3, 4, 5], []), ([6, 5, 5, 0, 1, 2, 3, 4, 5], [5, 6])])
def impl_cloneMachine.B10 : List Nat := [0, 1, 0, 4, 12, 31, 63, 127]
theorem impl_cloneMachine.tab10 : rtab .any (opsOf Try.f76 10) = impl_cloneMachine.T10 := by kernel_rfl
theorem impl_cloneMachine.bits10 : waitsOk impl_cloneMachine.T10.2 impl_cloneMachine.B10 = true := by kernel_rfl
set_option maxHeartbeats 8000000 in
set_option maxRecDepth 100000 in
theorem impl_cloneMachine.calls (k : Nat) (a0_0 : Bool) (A0_1 : Option Addr) (c0_1 : Nat) (l0_1 : List (S79)) (A0_2 : Option Addr) (c0_2 : Nat) (l0_2 : List (S45)) (A0_3 : Option Addr) (c0_3 : Nat) (l0_3 : List Int) (r1 : Bool) (r2 : List (S79)) (r3 : List (S45)) (r4 : List Int) (w : World) (hr0_1 : Kd.C k79 w A0_1 l0_1.length l0_1) (hc0_1 : l0_1.length ≤ c0_1) (hr0_2 : Kd.C k45 w A0_2 l0_2.length l0_2) (hc0_2 : l0_2.length ≤ c0_2) (hr0_3 : Kd.C (Kd.int .i64) w A0_3 l0_3.length l0_3) (hc0_3 : l0_3.length ≤ c0_3) (h : impl_cloneMachine.f k a0_0 l0_1 l0_2 l0_3 = some (r1, r2, r3, r4)) :
    Calls Try.prog 76 #[.agg #[.bool a0_0, .slice A0_1 l0_1.length c0_1, .slice A0_2 l0_2.length c0_2, .slice A0_3 l0_3.length c0_3]] w fun e w' => ∃ v1_ v2_ v3_ : Value, e = .returned (.agg #[.bool r1, v1_, v2_, v3_]) ∧ Kd.S k79 79 w' w.heap.size (fun _ => True) v1_ r2 ∧ Kd.S k45 45 w' w.heap.size (fun _ => True) v2_ r3 ∧ Kd.R (Kd.int .i64) 2 w' w.heap.size (fun _ => True) v3_ r4 ∧ Below w.heap.size w w' := by
 have hu32 := Try.underlying32
 have hu79 := Try.underlying79
 have hu45 := Try.underlying45
 have HR0_1 := Aside0.mk hr0_1
 have HC0_1 := Aside0.mk hc0_1
 clear hr0_1 hc0_1
 have HR0_2 := Aside0.mk hr0_2
 have HC0_2 := Aside0.mk hc0_2
 clear hr0_2 hc0_2
 have HR0_3 := Aside0.mk hr0_3
 have HC0_3 := Aside0.mk hc0_3
 clear hr0_3 hc0_3
 have HB := Aside0.mk (Below.refl w.heap.size w)
 have H : ((slices_Clone_int64_int64.f l0_3).bind fun t389 => (impl_cloneMachine.l0 k l0_1 (l0_1.length : Int) 0 a0_0 l0_1 l0_2 l0_3 a0_0 ([] : List (S79)) t389)) = some (r1,r2,r3,r4) := h
 clear h
 replace H := Option.bind_eq_some_iff.mp H
 obtain ⟨t389,A20,H⟩ := H
 replace H : (impl_cloneMachine.l0 k l0_1 (l0_1.length : Int) 0 a0_0 l0_1 l0_2 l0_3 a0_0 ([] : List (S79)) t389) = some (r1,r2,r3,r4) := H
 have A2 := Aside0.mk A20
 clear A20
 have H' := Aside0.mk H
 clear H
 go_enter Try.func76,Try.ntmps76
 try go_wp2_with (first|((with_reducible refine gate_dst (N := 1) rfl ?_);refine bx_ 1 #[.bool a0_0,.slice A0_1 l0_1.length c0_1,.slice A0_2 l0_2.length c0_2,.slice A0_3 l0_3.length c0_3] 32 ?_;intro gb387 hg w3 hbox hb;have BK387 := Aside0.mk (hbox);have GW387 := Aside0.mk ((gw_ (w := w) hg));have GE387 := Aside0.mk ((gw_ (w := w) hg));replace HB := Aside0.mk (below_step b_ hb);clear hb hbox hg)|((with_reducible refine gate_dst (N := 2) rfl ?_);refine bx_ 2 #[.bool false,.slice none 0 0,.slice none 0 0,.slice none 0 0] 32 ?_;intro gb388 hg w4 hbox hb;have BK388 := Aside0.mk (hbox);have GW388 := Aside0.mk ((gw_ (w := w) hg));have GE388 := Aside0.mk ((gw_ (w := w) hg));replace HB := Aside0.mk (below_step b_ hb);have NB387_388 := Aside0.mk ((nl_ BK387 hg));have NB388_387 := Aside0.mk ((ng_ BK387 hg));replace BK387 := Aside0.mk (blk_below (kb_ BK387) hb);clear hb hbox hg))
 replace BK387 := Aside0.mk (blk_drew BK387.out)
 replace BK388 := Aside0.mk (blk_drew BK388.out)
 replace HB := Aside0.mk (below_drew1 HB.out)
 refine start_ (n := 8) (S := fun w' => w'.cell? ⟨gb387,0,none⟩ = some (.bool a0_0) ∧ w'.cell? ⟨gb387,1,none⟩ = some (.slice A0_1 l0_1.length c0_1) ∧ w'.cell? ⟨gb387,2,none⟩ = some (.slice A0_2 l0_2.length c0_2) ∧ w'.cell? ⟨gb387,3,none⟩ = some (.slice A0_3 l0_3.length c0_3)) (ds := []) #[false,false,false,false,false,false,false,false] (by kernel_rfl) rfl rfl ⟨(blk_cell BK387.out 0).trans rfl,(blk_cell BK387.out 1).trans rfl,(blk_cell BK387.out 2).trans rfl,(blk_cell BK387.out 3).trans rfl⟩ (fun hHeld => ?_);refine with_tabW impl_cloneMachine.tab1 impl_cloneMachine.bits1 (fun HT_ HW_ => ?_)
 generalize w4.drew = w5 at BK387 BK388 HB hHeld ⊢
 refine pw_ 0 (some 8) HT_.out ?_
 refine pw_ 2 (some 10) HT_.out ?_
 refine tw_ 1 (some 9) HT_.out HW_.out hHeld rfl rfl (by rintro w' ⟨s0,s1,s2,s3⟩;go_simp;with_reducible rfl) ?_
 refine tw_ 3 (some 11) HT_.out HW_.out hHeld rfl rfl (by rintro w' ⟨s0,s1,s2,s3⟩;go_simp;with_reducible rfl) ?_
 refine join_ (σ := Value × Nat) 1 #[true,true,true,true,true,true,true,false] (fun s_ => [(12,s_.1),(3,.pointer (some ⟨s_.2,0,none⟩)),(13,.agg #[.bool a0_0,.slice none 0 0,.slice none 0 0,s_.1])]) (fun s_ w' => (w'.cell? ⟨gb387,0,none⟩ = some (.bool a0_0) ∧ w'.cell? ⟨gb387,1,none⟩ = some (.slice A0_1 l0_1.length c0_1) ∧ w'.cell? ⟨gb387,2,none⟩ = some (.slice A0_2 l0_2.length c0_2) ∧ w'.cell? ⟨gb387,3,none⟩ = some (.slice A0_3 l0_3.length c0_3)) ∧ (Kd.R (Kd.int .i64) 2 w' w.heap.size (fun _ => True) s_.1 t389) ∧ (w'.heap[gb387]? = some (.cells #[.bool a0_0,.slice A0_1 l0_1.length c0_1,.slice A0_2 l0_2.length c0_2,.slice A0_3 l0_3.length c0_3] 32 (0,0))) ∧ (w'.heap[gb388]? = some (.cells #[.bool false,.slice none 0 0,.slice none 0 0,.slice none 0 0] 32 (0,0))) ∧ (w'.heap[s_.2]? = some (.cells #[.bool false,.slice none 0 0,.slice none 0 0,.slice none 0 0] 32 (0,0))) ∧ (w.heap.size ≤ s_.2) ∧ (w.heap.size ≤ s_.2) ∧ (gb387 ≠ s_.2) ∧ (s_.2 ≠ gb387) ∧ (gb388 ≠ s_.2) ∧ (s_.2 ≠ gb388) ∧ (Below w.heap.size w w')) ?_ ?_
 rotate_left
 ·intro hCont
  refine two_ (i := 4) (j := 6) (Ni := some 12) (Nj := some 3) #[true,true,true,true,true,false,false,false] #[true,true,true,true,false,false,true,false] rfl rfl rfl rfl (two_of HT_.out (by kernel_rfl)) (by decide) (by decide) (fun K hK => ?_) (fun K hK => ?_)
  ·skip
   refine goes_ Try.func121 (by kernel_rfl) rfl #[.slice A0_3 l0_3.length c0_3] (by rfl) rfl rfl (by (try simp only [List.map_toArray,List.map_cons,List.map_nil]);first|done|rfl|(simp only [List.length_drop,List.length_take];rfl)) ?_
   with_reducible refine (slices_Clone_int64_int64.calls _ _ l0_3 t389 _ ?side1 ?side2 A2.out).mono ?_
   (case side1 => repeat (first|exact (Kd.C_below HR0_3.out HB.out)|(with_reducible refine Kd.C_alloc ?_ _)|(with_reducible refine Kd.C_drewN ?_ _)|(with_reducible refine Kd.C_drew ?_)))
   (case side2 => exact HC0_3.out)
   rintro e w6 ⟨v390,rfl,ho0,hb⟩
   refine ⟨_,rfl,?_⟩
   replace BK387 := Aside0.mk (blk_below (kb_ BK387) hb)
   replace BK388 := Aside0.mk (blk_below (kb_ BK388) hb)
   have HO391 := Aside0.mk (Kd.R_lower ho0 (below_size b_))
   replace HB := Aside0.mk (below_step b_ hb)
   (try clear hb)
   (try clear hb2)
   (try clear hk)
   (try clear hi)
   (try clear ho0)
   obtain ⟨Ao7,co7,eo7⟩ := Kd.R_slice HO391.out
   (first|subst eo7|(injection eo7 with f1_ f2_ f3_;have f4_ := f1_.symm;have f5_ := f3_.symm;clear f1_ f2_ f3_;subst f4_;subst f5_))
   refine hK.out _ _ ⟨(blk_cell BK387.out 0).trans rfl,(blk_cell BK387.out 1).trans rfl,(blk_cell BK387.out 2).trans rfl,(blk_cell BK387.out 3).trans rfl⟩ (fun hHeld => ?_)
   clear hK K
   refine nr_ (some 12) _ ?_
   refine pw_ 5 (some 13) HT_.out ?_
   refine oz_ (i := 6) (N := some 3) HT_.out rfl rfl (by kernel_rfl) (by decide) (fun K hK => ?_)
   refine box_step ?hg (N := 3) ?hd (cs := #[.bool false,.slice none 0 0,.slice none 0 0,.slice none 0 0]) (t := 32) ?hr ?_;(case hd => rfl);(case hg => rfl);(case hr => first|(go_simp;done)|(go_simp;rfl))
   intro gb392 hg w8 hbox hb
   replace HO391 := Aside0.mk (Kd.R_below (by (with_reducible repeat (first|apply Kd.R_alloc|apply Kd.R_drewN|apply Kd.R_drew));exact HO391.out) hb)
   have BK392 := Aside0.mk (hbox)
   have GW392 := Aside0.mk ((gw_ (w := w) hg))
   have GE392 := Aside0.mk ((gw_ (w := w) hg))
   replace HB := Aside0.mk (below_step b_ hb)
   have NB387_392 := Aside0.mk ((nl_ BK387 hg))
   have NB392_387 := Aside0.mk ((ng_ BK387 hg))
   replace BK387 := Aside0.mk (blk_below (kb_ BK387) hb)
   have NB388_392 := Aside0.mk ((nl_ BK388 hg))
   have NB392_388 := Aside0.mk ((ng_ BK388 hg))
   replace BK388 := Aside0.mk (blk_below (kb_ BK388) hb)
   clear hb hbox hg
   refine hK.out _ _ ⟨(blk_cell BK387.out 0).trans rfl,(blk_cell BK387.out 1).trans rfl,(blk_cell BK387.out 2).trans rfl,(blk_cell BK387.out 3).trans rfl⟩ (fun hHeld => ?_)
   clear hK K
   refine nr_ (some 3) _ ?_
   exact norm_ (by simp only [putAll,Act.put,List.setIfInBounds_toArray,List.set_cons_zero,List.set_cons_succ]) (hCont (.slice Ao7 t389.length co7,gb392) _ ⟨hHeld,(by (with_reducible repeat (first|apply Kd.R_alloc|apply Kd.R_drewN|apply Kd.R_drew));exact HO391.out),kk_,kk_,kk_,GW392.out,GE392.out,NB387_392.out,NB392_387.out,NB388_392.out,NB392_388.out,b_⟩)
  ·skip
   refine box_step ?hg (N := 3) ?hd (cs := #[.bool false,.slice none 0 0,.slice none 0 0,.slice none 0 0]) (t := 32) ?hr ?_;(case hd => rfl);(case hg => rfl);(case hr => first|(go_simp;done)|(go_simp;rfl))
   intro gb392 hg w6 hbox hb
   have BK392 := Aside0.mk (hbox)
   have GW392 := Aside0.mk ((gw_ (w := w) hg))
   have GE392 := Aside0.mk ((gw_ (w := w) hg))
   replace HB := Aside0.mk (below_step b_ hb)
   have NB387_392 := Aside0.mk ((nl_ BK387 hg))
   have NB392_387 := Aside0.mk ((ng_ BK387 hg))
   replace BK387 := Aside0.mk (blk_below (kb_ BK387) hb)
   have NB388_392 := Aside0.mk ((nl_ BK388 hg))
   have NB392_388 := Aside0.mk ((ng_ BK388 hg))
   replace BK388 := Aside0.mk (blk_below (kb_ BK388) hb)
   clear hb hbox hg
   refine hK.out _ _ ⟨(blk_cell BK387.out 0).trans rfl,(blk_cell BK387.out 1).trans rfl,(blk_cell BK387.out 2).trans rfl,(blk_cell BK387.out 3).trans rfl⟩ (fun hHeld => ?_)
   clear hK K
   refine nr_ (some 3) _ ?_
   refine oz_ (i := 4) (N := some 12) HT_.out rfl rfl (by kernel_rfl) (by decide) (fun K hK => ?_)
   refine goes_ Try.func121 (by kernel_rfl) rfl #[.slice A0_3 l0_3.length c0_3] (by rfl) rfl rfl (by (try simp only [List.map_toArray,List.map_cons,List.map_nil]);first|done|rfl|(simp only [List.length_drop,List.length_take];rfl)) ?_
   with_reducible refine (slices_Clone_int64_int64.calls _ _ l0_3 t389 _ ?side1 ?side2 A2.out).mono ?_
   (case side1 => repeat (first|exact (Kd.C_below HR0_3.out HB.out)|(with_reducible refine Kd.C_alloc ?_ _)|(with_reducible refine Kd.C_drewN ?_ _)|(with_reducible refine Kd.C_drew ?_)))
   (case side2 => exact HC0_3.out)
   rintro e w7 ⟨v390,rfl,ho0,hb⟩
   refine ⟨_,rfl,?_⟩
   replace BK387 := Aside0.mk (blk_below (kb_ BK387) hb)
   replace BK388 := Aside0.mk (blk_below (kb_ BK388) hb)
   replace BK392 := Aside0.mk (blk_below (kb_ BK392) hb)
   have HO391 := Aside0.mk (Kd.R_lower ho0 (below_size b_))
   replace HB := Aside0.mk (below_step b_ hb)
   (try clear hb)
   (try clear hb2)
   (try clear hk)
   (try clear hi)
   (try clear ho0)
   obtain ⟨Ao8,co8,eo8⟩ := Kd.R_slice HO391.out
   (first|subst eo8|(injection eo8 with f1_ f2_ f3_;have f4_ := f1_.symm;have f5_ := f3_.symm;clear f1_ f2_ f3_;subst f4_;subst f5_))
   refine hK.out _ _ ⟨(blk_cell BK387.out 0).trans rfl,(blk_cell BK387.out 1).trans rfl,(blk_cell BK387.out 2).trans rfl,(blk_cell BK387.out 3).trans rfl⟩ (fun hHeld => ?_)
   clear hK K
   refine nr_ (some 12) _ ?_
   refine pw_ 5 (some 13) HT_.out ?_
   exact norm_ (by simp only [putAll,Act.put,List.setIfInBounds_toArray,List.set_cons_zero,List.set_cons_succ]) (hCont (.slice Ao8 t389.length co8,gb392) _ ⟨hHeld,(by (with_reducible repeat (first|apply Kd.R_alloc|apply Kd.R_drewN|apply Kd.R_drew));exact HO391.out),kk_,kk_,kk_,GW392.out,GE392.out,NB387_392.out,NB392_387.out,NB388_392.out,NB392_388.out,b_⟩)
 rintro ⟨v390,gb392⟩ w9 ⟨hS_,h0_,h1_,h2_,h3_,h4_,h5_,h6_,h7_,h8_,h9_,h10_⟩
 have n0_ : Aside0 (Kd.R (Kd.int .i64) 2 w9 w.heap.size (fun _ => True) v390 t389) := ⟨h0_⟩
 have n1_ : Aside0 (w9.heap[gb387]? = some (.cells #[.bool a0_0,.slice A0_1 l0_1.length c0_1,.slice A0_2 l0_2.length c0_2,.slice A0_3 l0_3.length c0_3] 32 (0,0))) := ⟨h1_⟩
 have n2_ : Aside0 (w9.heap[gb388]? = some (.cells #[.bool false,.slice none 0 0,.slice none 0 0,.slice none 0 0] 32 (0,0))) := ⟨h2_⟩
 have n3_ : Aside0 (w9.heap[gb392]? = some (.cells #[.bool false,.slice none 0 0,.slice none 0 0,.slice none 0 0] 32 (0,0))) := ⟨h3_⟩
 have n4_ : Aside0 (w.heap.size ≤ gb392) := ⟨h4_⟩
 have n5_ : Aside0 (w.heap.size ≤ gb392) := ⟨h5_⟩
 have n6_ : Aside0 (gb387 ≠ gb392) := ⟨h6_⟩
 have n7_ : Aside0 (gb392 ≠ gb387) := ⟨h7_⟩
 have n8_ : Aside0 (gb388 ≠ gb392) := ⟨h8_⟩
 have n9_ : Aside0 (gb392 ≠ gb388) := ⟨h9_⟩
 have n10_ : Aside0 (Below w.heap.size w w9) := ⟨h10_⟩
 clear BK387
 clear BK388
 clear HB
 clear h0_ h1_ h2_ h3_ h4_ h5_ h6_ h7_ h8_ h9_ h10_
 have HO391 := n0_
 have BK387 := n1_
 have BK388 := n2_
 have BK392 := n3_
 have GW392 := n4_
 have GE392 := n5_
 have NB387_392 := n6_
 have NB392_387 := n7_
 have NB388_392 := n8_
 have NB392_388 := n9_
 have HB := n10_
 clear n0_ n1_ n2_ n3_ n4_ n5_ n6_ n7_ n8_ n9_ n10_
 have hHeld : w9.cell? ⟨gb387,0,none⟩ = some (.bool a0_0) ∧ w9.cell? ⟨gb387,1,none⟩ = some (.slice A0_1 l0_1.length c0_1) ∧ w9.cell? ⟨gb387,2,none⟩ = some (.slice A0_2 l0_2.length c0_2) ∧ w9.cell? ⟨gb387,3,none⟩ = some (.slice A0_3 l0_3.length c0_3) := hS_
 obtain ⟨Ao10,co10,eo10⟩ := Kd.R_slice HO391.out
 (first|subst eo10|(injection eo10 with f1_ f2_ f3_;have f4_ := f1_.symm;have f5_ := f3_.symm;clear f1_ f2_ f3_;subst f4_;subst f5_))
 refine norm_ (a' := ?_) ?_ ?_
 rotate_left
 ·simp only [putAll,Act.put,List.setIfInBounds_toArray,List.set_cons_zero,List.set_cons_succ]
  rfl
 refine oz_ (i := 7) (N := none) HT_.out rfl rfl (by kernel_rfl) (by decide) (fun K hK => ?_)
 have hs11 : w9.cell? ⟨gb392,0,none⟩ = some (.bool false) := (blk_cell BK392.out 0).trans rfl
 have hfs11 := blk_frozen BK392.out 0
 have hns11_0 := NB387_392.out
 have hns11_1 := NB388_392.out
 have hms11_0 := NB392_387.out
 have hms11_1 := NB392_388.out
 have hs12 : w9.cell? ⟨gb392,1,none⟩ = some (.slice none 0 0) := (blk_cell BK392.out 1).trans rfl
 have hfs12 := blk_frozen BK392.out 1
 have hns12_0 := NB387_392.out
 have hns12_1 := NB388_392.out
 have hms12_0 := NB392_387.out
 have hms12_1 := NB392_388.out
 have hs13 : w9.cell? ⟨gb392,2,none⟩ = some (.slice none 0 0) := (blk_cell BK392.out 2).trans rfl
 have hfs13 := blk_frozen BK392.out 2
 have hns13_0 := NB387_392.out
 have hns13_1 := NB388_392.out
 have hms13_0 := NB392_387.out
 have hms13_1 := NB392_388.out
 have hs14 : w9.cell? ⟨gb392,3,none⟩ = some (.slice none 0 0) := (blk_cell BK392.out 3).trans rfl
 have hfs14 := blk_frozen BK392.out 3
 have hns14_0 := NB387_392.out
 have hns14_1 := NB388_392.out
 have hms14_0 := NB392_387.out
 have hms14_1 := NB392_388.out
 refine skip_ (w1 := ?_) (by rfl) rfl ?_ ?_
 rotate_left
 ·go_simp
  rfl
 refine hK.out _ _ ⟨((cell_far (p := ⟨gb392,_,none⟩) NB387_392.out _).trans (((cell_far (p := ⟨gb392,_,none⟩) NB387_392.out _).trans (((cell_far (p := ⟨gb392,_,none⟩) NB387_392.out _).trans (((cell_far (p := ⟨gb392,_,none⟩) NB387_392.out _).trans (hHeld.1)))))))),((cell_far (p := ⟨gb392,_,none⟩) NB387_392.out _).trans (((cell_far (p := ⟨gb392,_,none⟩) NB387_392.out _).trans (((cell_far (p := ⟨gb392,_,none⟩) NB387_392.out _).trans (((cell_far (p := ⟨gb392,_,none⟩) NB387_392.out _).trans (hHeld.2.1)))))))),((cell_far (p := ⟨gb392,_,none⟩) NB387_392.out _).trans (((cell_far (p := ⟨gb392,_,none⟩) NB387_392.out _).trans (((cell_far (p := ⟨gb392,_,none⟩) NB387_392.out _).trans (((cell_far (p := ⟨gb392,_,none⟩) NB387_392.out _).trans (hHeld.2.2.1)))))))),((cell_far (p := ⟨gb392,_,none⟩) NB387_392.out _).trans (((cell_far (p := ⟨gb392,_,none⟩) NB387_392.out _).trans (((cell_far (p := ⟨gb392,_,none⟩) NB387_392.out _).trans (((cell_far (p := ⟨gb392,_,none⟩) NB387_392.out _).trans (hHeld.2.2.2))))))))⟩ (fun hHeld => ?_)
 clear hK K
 refine done_ (done_of HT_.out (by kernel_rfl)) ?_
 have hnb15 := NB387_388.out
 have hnc15 := NB388_387.out
 have hnb16 := NB387_392.out
 have hnc16 := NB392_387.out
 obtain ⟨⟨hcz17_0,hcz17_1,hcz17_2,hcz17_3⟩,hfz17_0,hfz17_1,hfz17_2,hfz17_3⟩ := cl4_ BK387.out
 try go_wp2
 go_loopg [17] k (fun kq v17 w' => ∃ (x17_1 : Int) (x393001_1 : List (S79)) (u393001 : Value),v17 = .int .i64 x17_1 ∧ Aside0 (impl_cloneMachine.l0 kq l0_1 (l0_1.length : Int) x17_1 a0_0 l0_1 l0_2 l0_3 a0_0 x393001_1 t389 = some (r1,r2,r3,r4)) ∧ Aside0 (kq ≤ k) ∧ Aside0 (Kd.S k79 79 w' w.heap.size (fun _ => True) u393001 x393001_1) ∧ Aside0 (Kd.R (Kd.int .i64) 2 w' w.heap.size (fun _ => True) (.slice Ao10 t389.length co10) t389) ∧ Aside0 (w'.heap[gb387]? = some (.cells #[.bool a0_0,(.slice A0_1 l0_1.length c0_1),(.slice A0_2 l0_2.length c0_2),(.slice A0_3 l0_3.length c0_3)] 32 (0,0))) ∧ Aside0 (w'.heap[gb388]? = some (.cells #[.bool false,(.slice none 0 0),(.slice none 0 0),(.slice none 0 0)] 32 (0,0))) ∧ Aside0 (w'.heap[gb392]? = some (.cells #[.bool a0_0,u393001,(.slice none 0 0),(.slice Ao10 t389.length co10)] 32 (0,0))) ∧ Aside0 (Below w.heap.size w w'))
 case atStart => exact ⟨(0),(([] : List (S79))),(.slice none 0 0),(by first|rfl|(simp;done)|(simp [*];done)),H',⟨Nat.le_refl _⟩,⟨by first|exact Kd.S_nil _ _ _ _ _|exact Kd.N_nil _ _ _ _ _|exact Kd.V_nil _ _ _ _ _|exact Kd.Q_nil _ _ _ _ _|exact Kd.R_nil _ _ _ _ _⟩,⟨by (with_reducible repeat (first|apply Kd.R_alloc|apply Kd.R_drewN|apply Kd.R_drew));exact Kd.R_mono (Kd.R_far (p := ⟨gb392,3,none⟩) (Kd.R_far (p := ⟨gb392,2,none⟩) (Kd.R_far (p := ⟨gb392,1,none⟩) (Kd.R_far (p := ⟨gb392,0,none⟩) (Kd.R_types HO391.out BK392.out (by decide)) (fun _ hk => hk.2) (.bool a0_0)) (fun _ hk => hk.2) (.slice none 0 0)) (fun _ hk => hk.2) (.slice none 0 0)) (fun _ hk => hk.2) (.slice Ao10 t389.length co10)) (fun _ hk => trivial)⟩,⟨by (with_reducible repeat (first|refine blk_drewN ?_ _|refine blk_drew ?_|refine blk_alloc ?_ _));refine blk_far ?_ NB387_392.out _;(with_reducible repeat (first|refine blk_drewN ?_ _|refine blk_drew ?_|refine blk_alloc ?_ _));refine blk_far ?_ NB387_392.out _;(with_reducible repeat (first|refine blk_drewN ?_ _|refine blk_drew ?_|refine blk_alloc ?_ _));refine blk_far ?_ NB387_392.out _;(with_reducible repeat (first|refine blk_drewN ?_ _|refine blk_drew ?_|refine blk_alloc ?_ _));refine blk_far ?_ NB387_392.out _;(with_reducible repeat (first|refine blk_drewN ?_ _|refine blk_drew ?_|refine blk_alloc ?_ _));exact BK387.out⟩,⟨by (with_reducible repeat (first|refine blk_drewN ?_ _|refine blk_drew ?_|refine blk_alloc ?_ _));refine blk_far ?_ NB388_392.out _;(with_reducible repeat (first|refine blk_drewN ?_ _|refine blk_drew ?_|refine blk_alloc ?_ _));refine blk_far ?_ NB388_392.out _;(with_reducible repeat (first|refine blk_drewN ?_ _|refine blk_drew ?_|refine blk_alloc ?_ _));refine blk_far ?_ NB388_392.out _;(with_reducible repeat (first|refine blk_drewN ?_ _|refine blk_drew ?_|refine blk_alloc ?_ _));refine blk_far ?_ NB388_392.out _;(with_reducible repeat (first|refine blk_drewN ?_ _|refine blk_drew ?_|refine blk_alloc ?_ _));exact BK388.out⟩,⟨by (with_reducible repeat (first|refine blk_drewN ?_ _|refine blk_drew ?_|refine blk_alloc ?_ _));refine blk_put (cs := #[.bool a0_0,.slice none 0 0,.slice none 0 0,.slice none 0 0]) ?_ 3 _ rfl;(with_reducible repeat (first|refine blk_drewN ?_ _|refine blk_drew ?_|refine blk_alloc ?_ _));refine blk_put (cs := #[.bool a0_0,.slice none 0 0,.slice none 0 0,.slice none 0 0]) ?_ 2 _ rfl;(with_reducible repeat (first|refine blk_drewN ?_ _|refine blk_drew ?_|refine blk_alloc ?_ _));refine blk_put (cs := #[.bool a0_0,.slice none 0 0,.slice none 0 0,.slice none 0 0]) ?_ 1 _ rfl;(with_reducible repeat (first|refine blk_drewN ?_ _|refine blk_drew ?_|refine blk_alloc ?_ _));refine blk_put (cs := #[.bool false,.slice none 0 0,.slice none 0 0,.slice none 0 0]) ?_ 0 _ rfl;(with_reducible repeat (first|refine blk_drewN ?_ _|refine blk_drew ?_|refine blk_alloc ?_ _));exact BK392.out⟩,⟨b_⟩⟩
 case round =>
  clear H'
  try clear c1
  try clear p2
  try clear c7
  try clear c12
  try clear c15
  try clear c16
  try clear hcz17_0
  try clear hcz17_1
  try clear hcz17_2
  try clear hcz17_3
  try clear hfz17_0
  try clear hfz17_1
  try clear hfz17_2
  try clear hfz17_3
  obtain ⟨x17_1,x393001_1,u393001,rfl,HA,HK1,HO_393001,HO_393003,BK387,BK388,BK392,HB⟩ := hrel
  cases gk with
    | zero => exact absurd HA.out (by simp [impl_cloneMachine.l0])
    | succ k1 =>
   have H := HA.out
   clear HA
   simp only [impl_cloneMachine.l0] at H
   by_cases c18 : x17_1 < (l0_1.length : Int)
   ·rw [if_pos c18] at H
    have c18b0 : decide (x17_1 < (l0_1.length : Int)) = true := decide_eq_true c18
    clear c18
    by_cases c19 : 0 ≤ x17_1
    ·rw [if_pos c19] at H
     have c19b0 : decide (0 ≤ x17_1) = true := decide_eq_true c19
     clear c19
     by_cases c20 : x17_1 < (l0_1.length : Int)
     ·rw [if_pos c20] at H
      have c20b0 : decide (x17_1 < (l0_1.length : Int)) = true := decide_eq_true c20
      clear c20
      replace H := Option.bind_eq_some_iff.mp H
      obtain ⟨t395,A210,H⟩ := H
      replace H : (if x393001_1.length < 4398046511104 then (impl_cloneMachine.l0 k1 l0_1 (l0_1.length : Int) (wrap64 (x17_1 + 1)) a0_0 l0_1 l0_2 l0_3 a0_0 (x393001_1 ++ [(⟨(rd_T79 l0_1 x17_1).f0,t395⟩ : S79)]) t389) else (none)) = some (r1,r2,r3,r4) := H
      have A21 := Aside0.mk A210
      clear A210
      by_cases c22 : x393001_1.length < 4398046511104
      ·rw [if_pos c22] at H
       have LMc22 := Aside0.mk c22
       clear c22
       obtain ⟨y398,hy398⟩ : ∃ y_ : List (S79),y_ = (x393001_1 ++ [(⟨(rd_T79 l0_1 x17_1).f0,t395⟩ : S79)]) := ⟨_,rfl⟩
       replace H : (impl_cloneMachine.l0 k1 l0_1 (l0_1.length : Int) (wrap64 (x17_1 + 1)) a0_0 l0_1 l0_2 l0_3 a0_0 y398 t389) = some (r1,r2,r3,r4) := by first|(rw [hy398];with_reducible exact H)|(have H2_ := (Option.bind_some _ _).symm.trans H;rw [hy398];with_reducible exact H2_)|(have H2_ := (Option.bind_some _ _).symm.trans H;with_reducible exact H2_)|with_reducible exact H|(rw [hy398];exact H)|exact H
       have Ny398 := Aside0.mk hy398
       clear hy398
       have H' := Aside0.mk H
       clear H
       have p393 : 0 ≤ (x17_1 : Int) := of_decide_eq_true (by first|(with_reducible assumption)|assumption)
       have q393 : x17_1 < (l0_1.length : Int) := of_decide_eq_true (by first|(with_reducible assumption)|assumption)
       obtain ⟨ad393,A393_1,c393_1,e393,hx393_0,hx393_1,hl393_1,hi393_1⟩ := at_T79 HR0_1.out x17_1 p393 q393
       cases e393
       replace hx393_0 := (HB.out.cell (World.block_lt_of_cell? w _ hx393_0)).trans hx393_0
       replace hx393_1 := (HB.out.cell (World.block_lt_of_cell? w _ hx393_1)).trans hx393_1
       have HR393_1 := Aside0.mk hi393_1
       have HC393_1 := Aside0.mk hl393_1
       clear hi393_1 hl393_1
       replace p393 := eq_true p393
       replace q393 := eq_true q393
       try go_wp2_with (first|((with_reducible refine gate_dst (N := 5) rfl ?_);refine bx_ 5 #[.int .i64 0,.slice none 0 0] 79 ?_;intro gb394 hg w23 hbox hb;replace HO_393001 := Aside0.mk (Kd.S_below (Kd.S_elderB (by (with_reducible repeat (first|apply Kd.S_alloc|apply Kd.S_drewN|apply Kd.S_drew));exact HO_393001.out) gb394 (Nat.le_of_eq hg.symm)) hb);replace HO_393003 := Aside0.mk (Kd.R_below (by (with_reducible repeat (first|apply Kd.R_alloc|apply Kd.R_drewN|apply Kd.R_drew));exact HO_393003.out) hb);have BK394 := Aside0.mk (hbox);have GW394 := Aside0.mk ((gw_ (w := w) hg));have GE394 := Aside0.mk ((gw_ (w := w) hg));replace HB := Aside0.mk (below_step b_ hb);have NB387_394 := Aside0.mk ((nl_ BK387 hg));have NB394_387 := Aside0.mk ((ng_ BK387 hg));replace BK387 := Aside0.mk (blk_below (kb_ BK387) hb);have NB388_394 := Aside0.mk ((nl_ BK388 hg));have NB394_388 := Aside0.mk ((ng_ BK388 hg));replace BK388 := Aside0.mk (blk_below (kb_ BK388) hb);have NB392_394 := Aside0.mk ((nl_ BK392 hg));have NB394_392 := Aside0.mk ((ng_ BK392 hg));replace BK392 := Aside0.mk (blk_below (kb_ BK392) hb);clear hb hbox hg;have hnb24 := NB394_387.out;have hnc24 := NB387_394.out;have hnb25 := NB394_388.out;have hnc25 := NB388_394.out;have hnb26 := NB394_392.out;have hnc26 := NB392_394.out;obtain ⟨⟨hcz27_0,hcz27_1⟩,hfz27_0,hfz27_1⟩ := cl2_ BK394.out))
       have n0_ : Aside0 (Kd.S k79 79 ((w23.setCell ⟨gb394,0,none⟩ (.int .i64 ((rd_T79 l0_1 x17_1).f0))).setCell ⟨gb394,1,none⟩ (.slice A393_1 ((rd_T79 l0_1 x17_1).f1).length c393_1)) w.heap.size (fun k_ => k_ ≠ gb394) u393001 x393001_1) := ⟨by (with_reducible repeat (first|apply Kd.S_alloc|apply Kd.S_drewN|apply Kd.S_drew));exact Kd.S_mono (Kd.S_far (p := ⟨gb394,1,none⟩) (Kd.S_far (p := ⟨gb394,0,none⟩) (Kd.S_mono HO_393001.out (fun k_ hk => (⟨hk,hk.2⟩ : _ ∧ k_ ≠ gb394))) (fun _ hk => hk.2) (.int .i64 ((rd_T79 l0_1 x17_1).f0))) (fun _ hk => hk.2) (.slice A393_1 ((rd_T79 l0_1 x17_1).f1).length c393_1)) (fun _ hk => hk.1.2)⟩
       have n1_ : Aside0 (Kd.R (Kd.int .i64) 2 ((w23.setCell ⟨gb394,0,none⟩ (.int .i64 ((rd_T79 l0_1 x17_1).f0))).setCell ⟨gb394,1,none⟩ (.slice A393_1 ((rd_T79 l0_1 x17_1).f1).length c393_1)) w.heap.size (fun _ => True) (.slice Ao10 t389.length co10) t389) := ⟨by (with_reducible repeat (first|apply Kd.R_alloc|apply Kd.R_drewN|apply Kd.R_drew));exact Kd.R_mono (Kd.R_far (p := ⟨gb394,1,none⟩) (Kd.R_far (p := ⟨gb394,0,none⟩) (Kd.R_types HO_393003.out BK394.out (by decide)) (fun _ hk => hk.2) (.int .i64 ((rd_T79 l0_1 x17_1).f0))) (fun _ hk => hk.2) (.slice A393_1 ((rd_T79 l0_1 x17_1).f1).length c393_1)) (fun _ hk => trivial)⟩
       have n2_ : Aside0 (((w23.setCell ⟨gb394,0,none⟩ (.int .i64 ((rd_T79 l0_1 x17_1).f0))).setCell ⟨gb394,1,none⟩ (.slice A393_1 ((rd_T79 l0_1 x17_1).f1).length c393_1)).heap[gb387]? = some (.cells #[.bool a0_0,.slice (some ad393) l0_1.length c0_1,.slice A0_2 l0_2.length c0_2,.slice A0_3 l0_3.length c0_3] 32 (0,0))) := ⟨by (with_reducible repeat (first|refine blk_drewN ?_ _|refine blk_drew ?_|refine blk_alloc ?_ _));refine blk_far ?_ NB387_394.out _;(with_reducible repeat (first|refine blk_drewN ?_ _|refine blk_drew ?_|refine blk_alloc ?_ _));refine blk_far ?_ NB387_394.out _;(with_reducible repeat (first|refine blk_drewN ?_ _|refine blk_drew ?_|refine blk_alloc ?_ _));exact BK387.out⟩
       have n3_ : Aside0 (((w23.setCell ⟨gb394,0,none⟩ (.int .i64 ((rd_T79 l0_1 x17_1).f0))).setCell ⟨gb394,1,none⟩ (.slice A393_1 ((rd_T79 l0_1 x17_1).f1).length c393_1)).heap[gb388]? = some (.cells #[.bool false,.slice none 0 0,.slice none 0 0,.slice none 0 0] 32 (0,0))) := ⟨by (with_reducible repeat (first|refine blk_drewN ?_ _|refine blk_drew ?_|refine blk_alloc ?_ _));refine blk_far ?_ NB388_394.out _;(with_reducible repeat (first|refine blk_drewN ?_ _|refine blk_drew ?_|refine blk_alloc ?_ _));refine blk_far ?_ NB388_394.out _;(with_reducible repeat (first|refine blk_drewN ?_ _|refine blk_drew ?_|refine blk_alloc ?_ _));exact BK388.out⟩
       have n4_ : Aside0 (((w23.setCell ⟨gb394,0,none⟩ (.int .i64 ((rd_T79 l0_1 x17_1).f0))).setCell ⟨gb394,1,none⟩ (.slice A393_1 ((rd_T79 l0_1 x17_1).f1).length c393_1)).heap[gb392]? = some (.cells #[.bool a0_0,u393001,.slice none 0 0,.slice Ao10 t389.length co10] 32 (0,0))) := ⟨by (with_reducible repeat (first|refine blk_drewN ?_ _|refine blk_drew ?_|refine blk_alloc ?_ _));refine blk_far ?_ NB392_394.out _;(with_reducible repeat (first|refine blk_drewN ?_ _|refine blk_drew ?_|refine blk_alloc ?_ _));refine blk_far ?_ NB392_394.out _;(with_reducible repeat (first|refine blk_drewN ?_ _|refine blk_drew ?_|refine blk_alloc ?_ _));exact BK392.out⟩
       have n5_ : Aside0 (((w23.setCell ⟨gb394,0,none⟩ (.int .i64 ((rd_T79 l0_1 x17_1).f0))).setCell ⟨gb394,1,none⟩ (.slice A393_1 ((rd_T79 l0_1 x17_1).f1).length c393_1)).heap[gb394]? = some (.cells #[.int .i64 ((rd_T79 l0_1 x17_1).f0),.slice A393_1 ((rd_T79 l0_1 x17_1).f1).length c393_1] 79 (0,0))) := ⟨by (with_reducible repeat (first|refine blk_drewN ?_ _|refine blk_drew ?_|refine blk_alloc ?_ _));refine blk_put (cs := #[.int .i64 ((rd_T79 l0_1 x17_1).f0),.slice none 0 0]) ?_ 1 _ rfl;(with_reducible repeat (first|refine blk_drewN ?_ _|refine blk_drew ?_|refine blk_alloc ?_ _));refine blk_put (cs := #[.int .i64 0,.slice none 0 0]) ?_ 0 _ rfl;(with_reducible repeat (first|refine blk_drewN ?_ _|refine blk_drew ?_|refine blk_alloc ?_ _));exact BK394.out⟩
       have n6_ : Aside0 (Below w.heap.size w ((w23.setCell ⟨gb394,0,none⟩ (.int .i64 ((rd_T79 l0_1 x17_1).f0))).setCell ⟨gb394,1,none⟩ (.slice A393_1 ((rd_T79 l0_1 x17_1).f1).length c393_1))) := ⟨b_⟩
       (try clear HO_393001)
       (try clear HO_393003)
       (try clear BK387)
       (try clear BK388)
       (try clear BK392)
       (try clear BK394)
       (try clear HB)
       generalize ((w23.setCell ⟨gb394,0,none⟩ (.int .i64 ((rd_T79 l0_1 x17_1).f0))).setCell ⟨gb394,1,none⟩ (.slice A393_1 ((rd_T79 l0_1 x17_1).f1).length c393_1)) = w28 at n0_ n1_ n2_ n3_ n4_ n5_ n6_ ⊢
       have HO_393001 := n0_
       have HO_393003 := n1_
       have BK387 := n2_
       have BK388 := n3_
       have BK392 := n4_
       have BK394 := n5_
       have HB := n6_
       clear n0_ n1_ n2_ n3_ n4_ n5_ n6_
       replace HO_393001 := Aside0.mk (Kd.S_drew HO_393001.out)
       replace HO_393003 := Aside0.mk (Kd.R_drew HO_393003.out)
       replace BK387 := Aside0.mk (blk_drew BK387.out)
       replace BK388 := Aside0.mk (blk_drew BK388.out)
       replace BK392 := Aside0.mk (blk_drew BK392.out)
       replace BK394 := Aside0.mk (blk_drew BK394.out)
       replace HB := Aside0.mk (below_drew1 HB.out)
       refine start_ (n := 12) (S := fun w' => w'.cell? ⟨gb392,0,none⟩ = some (.bool a0_0) ∧ w'.cell? ⟨gb392,1,none⟩ = some (u393001) ∧ w'.cell? ⟨gb392,2,none⟩ = some (.slice none 0 0) ∧ w'.cell? ⟨gb392,3,none⟩ = some (.slice Ao10 t389.length co10) ∧ w'.cell? ⟨gb394,0,none⟩ = some (.int .i64 ((rd_T79 l0_1 x17_1).f0)) ∧ w'.cell? ⟨gb394,1,none⟩ = some (.slice A393_1 ((rd_T79 l0_1 x17_1).f1).length c393_1)) (ds := [11]) #[false,false,false,false,false,false,false,false,false,false,false,false] (by kernel_rfl) rfl rfl ⟨(blk_cell BK392.out 0).trans rfl,(blk_cell BK392.out 1).trans rfl,(blk_cell BK392.out 2).trans rfl,(blk_cell BK392.out 3).trans rfl,(blk_cell BK394.out 0).trans rfl,(blk_cell BK394.out 1).trans rfl⟩ (fun hHeld => ?_);refine with_tabW impl_cloneMachine.tab5 impl_cloneMachine.bits5 (fun HT_ HW_ => ?_)
       generalize w28.drew = w29 at HO_393001 HO_393003 BK387 BK388 BK392 BK394 HB hHeld ⊢
       refine pw_ 0 (some 21) HT_.out ?_
       refine pw_ 2 (some 23) HT_.out ?_
       refine pw_ 4 (some 25) HT_.out ?_
       refine tw_ 1 (some 22) HT_.out HW_.out hHeld rfl rfl (by rintro w' ⟨s0,s1,s2,s3,s4,s5⟩;go_simp;with_reducible rfl) ?_
       refine tw_ 3 (some 24) HT_.out HW_.out hHeld rfl rfl (by rintro w' ⟨s0,s1,s2,s3,s4,s5⟩;go_simp;with_reducible rfl) ?_
       refine tw_ 5 (some 26) HT_.out HW_.out hHeld rfl rfl (by rintro w' ⟨s0,s1,s2,s3,s4,s5⟩;go_simp;with_reducible rfl) ?_
       refine oz_ (i := 6) (N := some 27) HT_.out rfl rfl (by kernel_rfl) (by decide) (fun K hK => ?_)
       refine goes_ Try.func60 (by kernel_rfl) rfl #[.slice A393_1 ((rd_T79 l0_1 x17_1).f1).length c393_1] (by rfl) rfl rfl (by (try simp only [List.map_toArray,List.map_cons,List.map_nil]);first|done|rfl|(simp only [List.length_drop,List.length_take];rfl)) ?_
       with_reducible refine (impl_Cell_60.calls _ _ ((rd_T79 l0_1 x17_1).f1) t395 _ ?side1 ?side2 A21.out).mono ?_
       (case side1 => repeat (first|exact (Kd.C_below HR393_1.out HB.out)|(with_reducible refine Kd.C_alloc ?_ _)|(with_reducible refine Kd.C_drewN ?_ _)|(with_reducible refine Kd.C_drew ?_)))
       (case side2 => exact HC393_1.out)
       rintro e w30 ⟨v396,rfl,ho0,hb⟩
       refine ⟨_,rfl,?_⟩
       replace HO_393001 := Aside0.mk (Kd.S_elder' (by (with_reducible repeat (first|apply Kd.S_alloc|apply Kd.S_drewN|apply Kd.S_drew));exact HO_393001.out) (Kd.R_base ho0) hb)
       replace HO_393003 := Aside0.mk (Kd.R_below (by (with_reducible repeat (first|apply Kd.R_alloc|apply Kd.R_drewN|apply Kd.R_drew));exact HO_393003.out) hb)
       replace BK387 := Aside0.mk (blk_below (kb_ BK387) hb)
       replace BK388 := Aside0.mk (blk_below (kb_ BK388) hb)
       replace BK392 := Aside0.mk (blk_below (kb_ BK392) hb)
       replace BK394 := Aside0.mk (blk_below (kb_ BK394) hb)
       have HO397 := Aside0.mk (Kd.R_lower ho0 (below_size b_))
       replace HB := Aside0.mk (below_step b_ hb)
       (try clear hb)
       (try clear hb2)
       (try clear hk)
       (try clear hi)
       (try clear ho0)
       obtain ⟨Ao31,co31,eo31⟩ := Kd.R_slice HO397.out
       (first|subst eo31|(injection eo31 with f1_ f2_ f3_;have f4_ := f1_.symm;have f5_ := f3_.symm;clear f1_ f2_ f3_;subst f4_;subst f5_))
       refine hK.out _ _ ⟨(blk_cell BK392.out 0).trans rfl,(blk_cell BK392.out 1).trans rfl,(blk_cell BK392.out 2).trans rfl,(blk_cell BK392.out 3).trans rfl,(blk_cell BK394.out 0).trans rfl,(blk_cell BK394.out 1).trans rfl⟩ (fun hHeld => ?_)
       clear hK K
       refine nr_ (some 27) _ ?_
       refine pw_ 7 (some 28) HT_.out ?_
       refine oz_ (i := 8) (N := some 29) HT_.out rfl rfl (by kernel_rfl) (by decide) (fun K hK => ?_)
       refine value_ (w1 := ?_) (v := ?_) (by rfl) rfl ?_ ?_
       rotate_left 2
       ·go_simp
        constructor
        ·rfl
        ·rfl
       refine hK.out _ _ ⟨(blk_cell (blk_alloc BK392.out _) 0).trans rfl,(blk_cell (blk_alloc BK392.out _) 1).trans rfl,(blk_cell (blk_alloc BK392.out _) 2).trans rfl,(blk_cell (blk_alloc BK392.out _) 3).trans rfl,(blk_cell (blk_alloc BK394.out _) 0).trans rfl,(blk_cell (blk_alloc BK394.out _) 1).trans rfl⟩ (fun hHeld => ?_)
       clear hK K
       refine nr_ (some 29) _ ?_
       refine oz_ (i := 9) (N := some 30) HT_.out rfl rfl (by kernel_rfl) (by decide) (fun K hK => ?_)
       refine Kd.S_append_step k79 (w0 := w) w.heap.size (by rfl) (.tmp 22) (.tmp 29) 29 79 (.agg #[(.int .i64 0),(.slice none 0 0)]) 32 rfl Try.underlying29 info79 rfl (by decide) (by omega) u393001 x393001_1 (⟨(rd_T79 l0_1 x17_1).f0,t395⟩ : S79) [.int .i64 ((rd_T79 l0_1 x17_1).f0),.slice Ao31 t395.length co31] (fun k_ => k_ ≠ gb394) (fun k_ => some k_ = (.slice Ao31 t395.length co31 : Value).ownBlock) rfl rfl ?aP (fun k_ hk_ => ((Kd.R_mono (ok' := fun k_ => ((fun k_ => k_ ≠ gb394)) k_ ∧ some k_ ≠ (u393001 : Value).ownBlock) (Kd.R_types (Kd.R_apart' (HO397.out) (Kd.S_typed HO_393001.out) (by decide)) BK394.out (by decide)) (fun k_ hk => ⟨hk.2,hk.1.2⟩))).1 k_ hk_.symm) ?aF ?aO ?aB ?aS ?aL ?_
       (case aP => exact k79_mkM _ _ _ (⟨(rd_T79 l0_1 x17_1).f0,t395⟩ : S79) (Kd.R_mono (Kd.R_tight rfl (Kd.R_mono (ok' := fun k_ => ((fun k_ => k_ ≠ gb394)) k_ ∧ some k_ ≠ (u393001 : Value).ownBlock) (Kd.R_types (Kd.R_apart' (HO397.out) (Kd.S_typed HO_393001.out) (by decide)) BK394.out (by decide)) (fun k_ hk => ⟨hk.2,hk.1.2⟩))) (fun _ h_ => h_)))
       (case aB => exact b_)
       (case aF => exact (fun k_ hk => Kd.freshB (kb_ BK394) k_ hk))
       (case aO => exact (by (with_reducible repeat (first|apply Kd.S_alloc|apply Kd.S_drewN|apply Kd.S_drew));exact Kd.S_mono HO_393001.out (fun k_ hk => ⟨hk.1,fun e_ => hk.2 e_⟩)))
       (case aS => exact (below_size b_))
       (case aL => have := LMc22.out;omega)
       intro v399 w32 ho hb hg hat
       rw [← Ny398.out] at ho
       replace HO_393003 := Aside0.mk (Kd.R_over' (by (with_reducible repeat (first|apply Kd.R_alloc|apply Kd.R_drewN|apply Kd.R_drew));exact HO_393003.out) (Kd.S_typed (by (with_reducible repeat (first|apply Kd.S_alloc|apply Kd.S_drewN|apply Kd.S_drew));exact HO_393001.out)) (by decide) hg)
       replace BK387 := Aside0.mk (blk_grown (kb_ BK387) hg (Kd.S_ne HO_393001.out BK387.out (by decide)))
       replace BK388 := Aside0.mk (blk_grown (kb_ BK388) hg (Kd.S_ne HO_393001.out BK388.out (by decide)))
       replace BK392 := Aside0.mk (blk_grown (kb_ BK392) hg (Kd.S_ne HO_393001.out BK392.out (by decide)))
       replace BK394 := Aside0.mk (blk_grown (kb_ BK394) hg (Kd.S_away HO_393001.out (fun _ hk => hk.1)))
       replace HB := Aside0.mk (hb)
       have HO400 := Aside0.mk (ho)
       clear HO_393001 HO397
       clear ho hb hg hat
       obtain ⟨Ao33,co33,eo33⟩ := Kd.S_slice HO400.out
       (first|subst eo33|(injection eo33 with f1_ f2_ f3_;have f4_ := f1_.symm;have f5_ := f3_.symm;clear f1_ f2_ f3_;subst f4_;subst f5_))
       refine hK.out _ _ ⟨(blk_cell BK392.out 0).trans rfl,(blk_cell BK392.out 1).trans rfl,(blk_cell BK392.out 2).trans rfl,(blk_cell BK392.out 3).trans rfl,(blk_cell BK394.out 0).trans rfl,(blk_cell BK394.out 1).trans rfl⟩ (fun hHeld => ?_)
       clear hK K
       refine nr_ (some 30) _ ?_
       refine pw_ 10 (some 31) HT_.out ?_
       refine last_ (i := 11) (N := none) #[true,true,true,true,true,true,true,true,true,true,true,true] rfl rfl (one_of HT_.out (by kernel_rfl)) (by decide) (fun K hK => ?_)
       have hs34 : w32.cell? ⟨gb392,1,none⟩ = some (u393001) := (blk_cell BK392.out 1).trans rfl
       have hfs34 := blk_frozen BK392.out 1
       have hns34_0 := NB387_392.out
       have hns34_1 := NB388_392.out
       have hns34_3 := NB394_392.out
       have hms34_0 := NB392_387.out
       have hms34_1 := NB392_388.out
       have hms34_3 := NB392_394.out
       refine skip_ (w1 := ?_) (by rfl) rfl ?_ ?_
       rotate_left
       ·go_simp
        rfl
       refine hK.out _ _ ?_
       clear hK K
       refine done_ (done_of HT_.out (by kernel_rfl)) ?_
       try go_wp2
       go_roundg k1
       case measure => have := HK1.out;omega
       case rel => exact ⟨(wrap64 (x17_1 + 1)),(y398),(.slice Ao33 y398.length co33),(by first|rfl|(simp;done)|(simp [*];done)),H',⟨by have := HK1.out;omega⟩,⟨by (with_reducible repeat (first|apply Kd.S_alloc|apply Kd.S_drewN|apply Kd.S_drew));exact Kd.S_mono (Kd.S_far (p := ⟨gb392,1,none⟩) (Kd.S_types HO400.out BK392.out (by decide)) (fun _ hk => hk.2) (.slice Ao33 y398.length co33)) (fun _ hk => trivial)⟩,⟨by (with_reducible repeat (first|apply Kd.R_alloc|apply Kd.R_drewN|apply Kd.R_drew));exact Kd.R_mono (Kd.R_far (p := ⟨gb392,1,none⟩) (Kd.R_types HO_393003.out BK392.out (by decide)) (fun _ hk => hk.2) (.slice Ao33 y398.length co33)) (fun _ hk => trivial)⟩,⟨by (with_reducible repeat (first|refine blk_drewN ?_ _|refine blk_drew ?_|refine blk_alloc ?_ _));refine blk_far ?_ NB387_392.out _;(with_reducible repeat (first|refine blk_drewN ?_ _|refine blk_drew ?_|refine blk_alloc ?_ _));exact BK387.out⟩,⟨by (with_reducible repeat (first|refine blk_drewN ?_ _|refine blk_drew ?_|refine blk_alloc ?_ _));refine blk_far ?_ NB388_392.out _;(with_reducible repeat (first|refine blk_drewN ?_ _|refine blk_drew ?_|refine blk_alloc ?_ _));exact BK388.out⟩,⟨by (with_reducible repeat (first|refine blk_drewN ?_ _|refine blk_drew ?_|refine blk_alloc ?_ _));refine blk_put (cs := #[.bool a0_0,u393001,.slice none 0 0,.slice Ao10 t389.length co10]) ?_ 1 _ rfl;(with_reducible repeat (first|refine blk_drewN ?_ _|refine blk_drew ?_|refine blk_alloc ?_ _));exact BK392.out⟩,⟨b_⟩⟩
      ·rw [if_neg c22] at H
       exact absurd H (by simp)
     ·rw [if_neg c20] at H
      exact absurd H (by simp)
    ·rw [if_neg c19] at H
     exact absurd H (by simp)
   ·rw [if_neg c18] at H
    have c18b0 : decide (x17_1 < (l0_1.length : Int)) = false := decide_eq_false c18
    clear c18
    have H' := Aside0.mk H
    clear H
    have hnb35 := NB387_388.out
    have hnc35 := NB388_387.out
    have hnb36 := NB387_392.out
    have hnc36 := NB392_387.out
    obtain ⟨⟨hcz37_0,hcz37_1,hcz37_2,hcz37_3⟩,hfz37_0,hfz37_1,hfz37_2,hfz37_3⟩ := cl4_ BK387.out
    go_wp2
    go_loopg [36] k1 (fun kq v36 w' => ∃ (x36_2 : Int) (x393002_2 : List (S45)) (u393002 : Value),v36 = .int .i64 x36_2 ∧ Aside0 (impl_cloneMachine.l1 kq l0_2 (l0_2.length : Int) x36_2 a0_0 x393001_1 x393002_2 t389 = some (r1,r2,r3,r4)) ∧ Aside0 (kq ≤ k1) ∧ Aside0 (Kd.S k79 79 w' w.heap.size (fun _ => True) u393001 x393001_1) ∧ Aside0 (Kd.S k45 45 w' w.heap.size (fun _ => True) u393002 x393002_2) ∧ Aside0 (Kd.R (Kd.int .i64) 2 w' w.heap.size (fun _ => True) (.slice Ao10 t389.length co10) t389) ∧ Aside0 (w'.heap[gb387]? = some (.cells #[.bool a0_0,(.slice A0_1 l0_1.length c0_1),(.slice A0_2 l0_2.length c0_2),(.slice A0_3 l0_3.length c0_3)] 32 (0,0))) ∧ Aside0 (w'.heap[gb388]? = some (.cells #[.bool false,(.slice none 0 0),(.slice none 0 0),(.slice none 0 0)] 32 (0,0))) ∧ Aside0 (w'.heap[gb392]? = some (.cells #[.bool a0_0,u393001,u393002,(.slice Ao10 t389.length co10)] 32 (0,0))) ∧ Aside0 (Below w.heap.size w w'))
    case atStart => exact ⟨(0),(([] : List (S45))),(.slice none 0 0),(by first|rfl|(simp;done)|(simp [*];done)),H',⟨Nat.le_refl _⟩,⟨by (with_reducible repeat (first|apply Kd.S_alloc|apply Kd.S_drewN|apply Kd.S_drew));exact HO_393001.out⟩,⟨by first|exact Kd.S_nil _ _ _ _ _|exact Kd.N_nil _ _ _ _ _|exact Kd.V_nil _ _ _ _ _|exact Kd.Q_nil _ _ _ _ _|exact Kd.R_nil _ _ _ _ _⟩,⟨by (with_reducible repeat (first|apply Kd.R_alloc|apply Kd.R_drewN|apply Kd.R_drew));exact HO_393003.out⟩,⟨by (with_reducible repeat (first|refine blk_drewN ?_ _|refine blk_drew ?_|refine blk_alloc ?_ _));exact BK387.out⟩,⟨by (with_reducible repeat (first|refine blk_drewN ?_ _|refine blk_drew ?_|refine blk_alloc ?_ _));exact BK388.out⟩,⟨by (with_reducible repeat (first|refine blk_drewN ?_ _|refine blk_drew ?_|refine blk_alloc ?_ _));exact BK392.out⟩,⟨b_⟩⟩
    case round =>
     clear H'
     try clear c1
     try clear c2
     try clear p2
     try clear c3
     try clear p3
     try clear q3
     try clear hx3
     try clear c6
     try clear p6
     try clear c7
     try clear c12
     try clear c15
     try clear c16
     try clear c18
     try clear c18b0
     try clear c19
     try clear c19b0
     try clear c20
     try clear c20b0
     try clear c22
     try clear c24
     try clear c25
     try clear c26
     try clear c35
     try clear c36
     try clear hcz17_0
     try clear hcz17_1
     try clear hcz17_2
     try clear hcz17_3
     try clear hcz27_0
     try clear hcz27_1
     try clear hcz37_0
     try clear hcz37_1
     try clear hcz37_2
     try clear hcz37_3
     try clear hfz17_0
     try clear hfz17_1
     try clear hfz17_2
     try clear hfz17_3
     try clear hfz27_0
     try clear hfz27_1
     try clear hfz37_0
     try clear hfz37_1
     try clear hfz37_2
     try clear hfz37_3
     try clear hx393_0
     try clear hx393_1
     try clear p2
     try clear p393
     try clear q393
     obtain ⟨x36_2,x393002_2,u393002,rfl,HA,HK2,HO_393001,HO_393002,HO_393003,BK387,BK388,BK392,HB⟩ := hrel
     cases gk with
     | zero => exact absurd HA.out (by simp [impl_cloneMachine.l1])
     | succ k2 =>
      have H := HA.out
      clear HA
      simp only [impl_cloneMachine.l1] at H
      by_cases c38 : x36_2 < (l0_2.length : Int)
      ·rw [if_pos c38] at H
       have c38b0 : decide (x36_2 < (l0_2.length : Int)) = true := decide_eq_true c38
       clear c38
       by_cases c39 : 0 ≤ x36_2
       ·rw [if_pos c39] at H
        have c39b0 : decide (0 ≤ x36_2) = true := decide_eq_true c39
        clear c39
        by_cases c40 : x36_2 < (l0_2.length : Int)
        ·rw [if_pos c40] at H
         have c40b0 : decide (x36_2 < (l0_2.length : Int)) = true := decide_eq_true c40
         clear c40
         replace H := Option.bind_eq_some_iff.mp H
         obtain ⟨⟨t403,t404,t405,t406⟩,A410,H⟩ := H
         replace H : (if x393002_2.length < 2932031007402 then (impl_cloneMachine.l1 k2 l0_2 (l0_2.length : Int) (wrap64 (x36_2 + 1)) a0_0 x393001_1 (x393002_2 ++ [(⟨t403,t404,t405,t406⟩ : S45)]) t389) else (none)) = some (r1,r2,r3,r4) := H
         have A41 := Aside0.mk A410
         clear A410
         by_cases c42 : x393002_2.length < 2932031007402
         ·rw [if_pos c42] at H
          have LMc42 := Aside0.mk c42
          clear c42
          obtain ⟨y409,hy409⟩ : ∃ y_ : List (S45),y_ = (x393002_2 ++ [(⟨t403,t404,t405,t406⟩ : S45)]) := ⟨_,rfl⟩
          replace H : (impl_cloneMachine.l1 k2 l0_2 (l0_2.length : Int) (wrap64 (x36_2 + 1)) a0_0 x393001_1 y409 t389) = some (r1,r2,r3,r4) := by first|(rw [hy409];with_reducible exact H)|(have H2_ := (Option.bind_some _ _).symm.trans H;rw [hy409];with_reducible exact H2_)|(have H2_ := (Option.bind_some _ _).symm.trans H;with_reducible exact H2_)|with_reducible exact H|(rw [hy409];exact H)|exact H
          have Ny409 := Aside0.mk hy409
          clear hy409
          have H' := Aside0.mk H
          clear H
          have p401 : 0 ≤ (x36_2 : Int) := of_decide_eq_true (by first|(with_reducible assumption)|assumption)
          have q401 : x36_2 < (l0_2.length : Int) := of_decide_eq_true (by first|(with_reducible assumption)|assumption)
          obtain ⟨ad401,A401_3,c401_3,e401,hx401_0,hx401_1,hx401_2,hx401_3,hl401_3,hi401_3⟩ := at_T45 HR0_2.out x36_2 p401 q401
          cases e401
          replace hx401_0 := (HB.out.cell (World.block_lt_of_cell? w _ hx401_0)).trans hx401_0
          replace hx401_1 := (HB.out.cell (World.block_lt_of_cell? w _ hx401_1)).trans hx401_1
          replace hx401_2 := (HB.out.cell (World.block_lt_of_cell? w _ hx401_2)).trans hx401_2
          replace hx401_3 := (HB.out.cell (World.block_lt_of_cell? w _ hx401_3)).trans hx401_3
          have HR401_3 := Aside0.mk hi401_3
          have HC401_3 := Aside0.mk hl401_3
          clear hi401_3 hl401_3
          replace p401 := eq_true p401
          replace q401 := eq_true q401
          try go_wp2_with (first|((with_reducible refine gate_dst (N := 7) rfl ?_);refine bx_ 7 #[.int .i64 0,.int .i64 0,.int .i64 0,.slice none 0 0] 45 ?_;intro gb402 hg w43 hbox hb;replace HO_393001 := Aside0.mk (Kd.S_below (by (with_reducible repeat (first|apply Kd.S_alloc|apply Kd.S_drewN|apply Kd.S_drew));exact HO_393001.out) hb);replace HO_393002 := Aside0.mk (Kd.S_below (Kd.S_elderB (by (with_reducible repeat (first|apply Kd.S_alloc|apply Kd.S_drewN|apply Kd.S_drew));exact HO_393002.out) gb402 (Nat.le_of_eq hg.symm)) hb);replace HO_393003 := Aside0.mk (Kd.R_below (by (with_reducible repeat (first|apply Kd.R_alloc|apply Kd.R_drewN|apply Kd.R_drew));exact HO_393003.out) hb);have BK402 := Aside0.mk (hbox);have GW402 := Aside0.mk ((gw_ (w := w) hg));have GE402 := Aside0.mk ((gw_ (w := w) hg));replace HB := Aside0.mk (below_step b_ hb);have NB387_402 := Aside0.mk ((nl_ BK387 hg));have NB402_387 := Aside0.mk ((ng_ BK387 hg));replace BK387 := Aside0.mk (blk_below (kb_ BK387) hb);have NB388_402 := Aside0.mk ((nl_ BK388 hg));have NB402_388 := Aside0.mk ((ng_ BK388 hg));replace BK388 := Aside0.mk (blk_below (kb_ BK388) hb);have NB392_402 := Aside0.mk ((nl_ BK392 hg));have NB402_392 := Aside0.mk ((ng_ BK392 hg));replace BK392 := Aside0.mk (blk_below (kb_ BK392) hb);clear hb hbox hg;have hnb44 := NB402_387.out;have hnc44 := NB387_402.out;have hnb45 := NB402_388.out;have hnc45 := NB388_402.out;have hnb46 := NB402_392.out;have hnc46 := NB392_402.out;obtain ⟨⟨hcz47_0,hcz47_1,hcz47_2,hcz47_3⟩,hfz47_0,hfz47_1,hfz47_2,hfz47_3⟩ := cl4_ BK402.out))
          have n0_ : Aside0 (Kd.S k79 79 ((((w43.setCell ⟨gb402,0,none⟩ (.int .i64 ((rd_T45 l0_2 x36_2).f0))).setCell ⟨gb402,1,none⟩ (.int .i64 ((rd_T45 l0_2 x36_2).f1))).setCell ⟨gb402,2,none⟩ (.int .i64 ((rd_T45 l0_2 x36_2).f2))).setCell ⟨gb402,3,none⟩ (.slice A401_3 ((rd_T45 l0_2 x36_2).f3).length c401_3)) w.heap.size (fun _ => True) u393001 x393001_1) := ⟨by (with_reducible repeat (first|apply Kd.S_alloc|apply Kd.S_drewN|apply Kd.S_drew));exact Kd.S_mono (Kd.S_far (p := ⟨gb402,3,none⟩) (Kd.S_far (p := ⟨gb402,2,none⟩) (Kd.S_far (p := ⟨gb402,1,none⟩) (Kd.S_far (p := ⟨gb402,0,none⟩) (Kd.S_types HO_393001.out BK402.out (by decide)) (fun _ hk => hk.2) (.int .i64 ((rd_T45 l0_2 x36_2).f0))) (fun _ hk => hk.2) (.int .i64 ((rd_T45 l0_2 x36_2).f1))) (fun _ hk => hk.2) (.int .i64 ((rd_T45 l0_2 x36_2).f2))) (fun _ hk => hk.2) (.slice A401_3 ((rd_T45 l0_2 x36_2).f3).length c401_3)) (fun _ hk => trivial)⟩
          have n1_ : Aside0 (Kd.S k45 45 ((((w43.setCell ⟨gb402,0,none⟩ (.int .i64 ((rd_T45 l0_2 x36_2).f0))).setCell ⟨gb402,1,none⟩ (.int .i64 ((rd_T45 l0_2 x36_2).f1))).setCell ⟨gb402,2,none⟩ (.int .i64 ((rd_T45 l0_2 x36_2).f2))).setCell ⟨gb402,3,none⟩ (.slice A401_3 ((rd_T45 l0_2 x36_2).f3).length c401_3)) w.heap.size (fun k_ => k_ ≠ gb402) u393002 x393002_2) := ⟨by (with_reducible repeat (first|apply Kd.S_alloc|apply Kd.S_drewN|apply Kd.S_drew));exact Kd.S_mono (Kd.S_far (p := ⟨gb402,3,none⟩) (Kd.S_far (p := ⟨gb402,2,none⟩) (Kd.S_far (p := ⟨gb402,1,none⟩) (Kd.S_far (p := ⟨gb402,0,none⟩) (Kd.S_mono HO_393002.out (fun k_ hk => (⟨hk,hk.2⟩ : _ ∧ k_ ≠ gb402))) (fun _ hk => hk.2) (.int .i64 ((rd_T45 l0_2 x36_2).f0))) (fun _ hk => hk.2) (.int .i64 ((rd_T45 l0_2 x36_2).f1))) (fun _ hk => hk.2) (.int .i64 ((rd_T45 l0_2 x36_2).f2))) (fun _ hk => hk.2) (.slice A401_3 ((rd_T45 l0_2 x36_2).f3).length c401_3)) (fun _ hk => hk.1.2)⟩
          have n2_ : Aside0 (Kd.R (Kd.int .i64) 2 ((((w43.setCell ⟨gb402,0,none⟩ (.int .i64 ((rd_T45 l0_2 x36_2).f0))).setCell ⟨gb402,1,none⟩ (.int .i64 ((rd_T45 l0_2 x36_2).f1))).setCell ⟨gb402,2,none⟩ (.int .i64 ((rd_T45 l0_2 x36_2).f2))).setCell ⟨gb402,3,none⟩ (.slice A401_3 ((rd_T45 l0_2 x36_2).f3).length c401_3)) w.heap.size (fun _ => True) (.slice Ao10 t389.length co10) t389) := ⟨by (with_reducible repeat (first|apply Kd.R_alloc|apply Kd.R_drewN|apply Kd.R_drew));exact Kd.R_mono (Kd.R_far (p := ⟨gb402,3,none⟩) (Kd.R_far (p := ⟨gb402,2,none⟩) (Kd.R_far (p := ⟨gb402,1,none⟩) (Kd.R_far (p := ⟨gb402,0,none⟩) (Kd.R_types HO_393003.out BK402.out (by decide)) (fun _ hk => hk.2) (.int .i64 ((rd_T45 l0_2 x36_2).f0))) (fun _ hk => hk.2) (.int .i64 ((rd_T45 l0_2 x36_2).f1))) (fun _ hk => hk.2) (.int .i64 ((rd_T45 l0_2 x36_2).f2))) (fun _ hk => hk.2) (.slice A401_3 ((rd_T45 l0_2 x36_2).f3).length c401_3)) (fun _ hk => trivial)⟩
          have n3_ : Aside0 (((((w43.setCell ⟨gb402,0,none⟩ (.int .i64 ((rd_T45 l0_2 x36_2).f0))).setCell ⟨gb402,1,none⟩ (.int .i64 ((rd_T45 l0_2 x36_2).f1))).setCell ⟨gb402,2,none⟩ (.int .i64 ((rd_T45 l0_2 x36_2).f2))).setCell ⟨gb402,3,none⟩ (.slice A401_3 ((rd_T45 l0_2 x36_2).f3).length c401_3)).heap[gb387]? = some (.cells #[.bool a0_0,.slice A0_1 l0_1.length c0_1,.slice (some ad401) l0_2.length c0_2,.slice A0_3 l0_3.length c0_3] 32 (0,0))) := ⟨by (with_reducible repeat (first|refine blk_drewN ?_ _|refine blk_drew ?_|refine blk_alloc ?_ _));refine blk_far ?_ NB387_402.out _;(with_reducible repeat (first|refine blk_drewN ?_ _|refine blk_drew ?_|refine blk_alloc ?_ _));refine blk_far ?_ NB387_402.out _;(with_reducible repeat (first|refine blk_drewN ?_ _|refine blk_drew ?_|refine blk_alloc ?_ _));refine blk_far ?_ NB387_402.out _;(with_reducible repeat (first|refine blk_drewN ?_ _|refine blk_drew ?_|refine blk_alloc ?_ _));refine blk_far ?_ NB387_402.out _;(with_reducible repeat (first|refine blk_drewN ?_ _|refine blk_drew ?_|refine blk_alloc ?_ _));exact BK387.out⟩
          have n4_ : Aside0 (((((w43.setCell ⟨gb402,0,none⟩ (.int .i64 ((rd_T45 l0_2 x36_2).f0))).setCell ⟨gb402,1,none⟩ (.int .i64 ((rd_T45 l0_2 x36_2).f1))).setCell ⟨gb402,2,none⟩ (.int .i64 ((rd_T45 l0_2 x36_2).f2))).setCell ⟨gb402,3,none⟩ (.slice A401_3 ((rd_T45 l0_2 x36_2).f3).length c401_3)).heap[gb388]? = some (.cells #[.bool false,.slice none 0 0,.slice none 0 0,.slice none 0 0] 32 (0,0))) := ⟨by (with_reducible repeat (first|refine blk_drewN ?_ _|refine blk_drew ?_|refine blk_alloc ?_ _));refine blk_far ?_ NB388_402.out _;(with_reducible repeat (first|refine blk_drewN ?_ _|refine blk_drew ?_|refine blk_alloc ?_ _));refine blk_far ?_ NB388_402.out _;(with_reducible repeat (first|refine blk_drewN ?_ _|refine blk_drew ?_|refine blk_alloc ?_ _));refine blk_far ?_ NB388_402.out _;(with_reducible repeat (first|refine blk_drewN ?_ _|refine blk_drew ?_|refine blk_alloc ?_ _));refine blk_far ?_ NB388_402.out _;(with_reducible repeat (first|refine blk_drewN ?_ _|refine blk_drew ?_|refine blk_alloc ?_ _));exact BK388.out⟩
          have n5_ : Aside0 (((((w43.setCell ⟨gb402,0,none⟩ (.int .i64 ((rd_T45 l0_2 x36_2).f0))).setCell ⟨gb402,1,none⟩ (.int .i64 ((rd_T45 l0_2 x36_2).f1))).setCell ⟨gb402,2,none⟩ (.int .i64 ((rd_T45 l0_2 x36_2).f2))).setCell ⟨gb402,3,none⟩ (.slice A401_3 ((rd_T45 l0_2 x36_2).f3).length c401_3)).heap[gb392]? = some (.cells #[.bool a0_0,u393001,u393002,.slice Ao10 t389.length co10] 32 (0,0))) := ⟨by (with_reducible repeat (first|refine blk_drewN ?_ _|refine blk_drew ?_|refine blk_alloc ?_ _));refine blk_far ?_ NB392_402.out _;(with_reducible repeat (first|refine blk_drewN ?_ _|refine blk_drew ?_|refine blk_alloc ?_ _));refine blk_far ?_ NB392_402.out _;(with_reducible repeat (first|refine blk_drewN ?_ _|refine blk_drew ?_|refine blk_alloc ?_ _));refine blk_far ?_ NB392_402.out _;(with_reducible repeat (first|refine blk_drewN ?_ _|refine blk_drew ?_|refine blk_alloc ?_ _));refine blk_far ?_ NB392_402.out _;(with_reducible repeat (first|refine blk_drewN ?_ _|refine blk_drew ?_|refine blk_alloc ?_ _));exact BK392.out⟩
          have n6_ : Aside0 (((((w43.setCell ⟨gb402,0,none⟩ (.int .i64 ((rd_T45 l0_2 x36_2).f0))).setCell ⟨gb402,1,none⟩ (.int .i64 ((rd_T45 l0_2 x36_2).f1))).setCell ⟨gb402,2,none⟩ (.int .i64 ((rd_T45 l0_2 x36_2).f2))).setCell ⟨gb402,3,none⟩ (.slice A401_3 ((rd_T45 l0_2 x36_2).f3).length c401_3)).heap[gb402]? = some (.cells #[.int .i64 ((rd_T45 l0_2 x36_2).f0),.int .i64 ((rd_T45 l0_2 x36_2).f1),.int .i64 ((rd_T45 l0_2 x36_2).f2),.slice A401_3 ((rd_T45 l0_2 x36_2).f3).length c401_3] 45 (0,0))) := ⟨by (with_reducible repeat (first|refine blk_drewN ?_ _|refine blk_drew ?_|refine blk_alloc ?_ _));refine blk_put (cs := #[.int .i64 ((rd_T45 l0_2 x36_2).f0),.int .i64 ((rd_T45 l0_2 x36_2).f1),.int .i64 ((rd_T45 l0_2 x36_2).f2),.slice none 0 0]) ?_ 3 _ rfl;(with_reducible repeat (first|refine blk_drewN ?_ _|refine blk_drew ?_|refine blk_alloc ?_ _));refine blk_put (cs := #[.int .i64 ((rd_T45 l0_2 x36_2).f0),.int .i64 ((rd_T45 l0_2 x36_2).f1),.int .i64 0,.slice none 0 0]) ?_ 2 _ rfl;(with_reducible repeat (first|refine blk_drewN ?_ _|refine blk_drew ?_|refine blk_alloc ?_ _));refine blk_put (cs := #[.int .i64 ((rd_T45 l0_2 x36_2).f0),.int .i64 0,.int .i64 0,.slice none 0 0]) ?_ 1 _ rfl;(with_reducible repeat (first|refine blk_drewN ?_ _|refine blk_drew ?_|refine blk_alloc ?_ _));refine blk_put (cs := #[.int .i64 0,.int .i64 0,.int .i64 0,.slice none 0 0]) ?_ 0 _ rfl;(with_reducible repeat (first|refine blk_drewN ?_ _|refine blk_drew ?_|refine blk_alloc ?_ _));exact BK402.out⟩
          have n7_ : Aside0 (Below w.heap.size w ((((w43.setCell ⟨gb402,0,none⟩ (.int .i64 ((rd_T45 l0_2 x36_2).f0))).setCell ⟨gb402,1,none⟩ (.int .i64 ((rd_T45 l0_2 x36_2).f1))).setCell ⟨gb402,2,none⟩ (.int .i64 ((rd_T45 l0_2 x36_2).f2))).setCell ⟨gb402,3,none⟩ (.slice A401_3 ((rd_T45 l0_2 x36_2).f3).length c401_3))) := ⟨b_⟩
          (try clear HO_393001)
          (try clear HO_393002)
          (try clear HO_393003)
          (try clear BK387)
          (try clear BK388)
          (try clear BK392)
          (try clear BK402)
          (try clear HB)
          generalize ((((w43.setCell ⟨gb402,0,none⟩ (.int .i64 ((rd_T45 l0_2 x36_2).f0))).setCell ⟨gb402,1,none⟩ (.int .i64 ((rd_T45 l0_2 x36_2).f1))).setCell ⟨gb402,2,none⟩ (.int .i64 ((rd_T45 l0_2 x36_2).f2))).setCell ⟨gb402,3,none⟩ (.slice A401_3 ((rd_T45 l0_2 x36_2).f3).length c401_3)) = w48 at n0_ n1_ n2_ n3_ n4_ n5_ n6_ n7_ ⊢
          have HO_393001 := n0_
          have HO_393002 := n1_
          have HO_393003 := n2_
          have BK387 := n3_
          have BK388 := n4_
          have BK392 := n5_
          have BK402 := n6_
          have HB := n7_
          clear n0_ n1_ n2_ n3_ n4_ n5_ n6_ n7_
          replace HO_393001 := Aside0.mk (Kd.S_drew HO_393001.out)
          replace HO_393002 := Aside0.mk (Kd.S_drew HO_393002.out)
          replace HO_393003 := Aside0.mk (Kd.R_drew HO_393003.out)
          replace BK387 := Aside0.mk (blk_drew BK387.out)
          replace BK388 := Aside0.mk (blk_drew BK388.out)
          replace BK392 := Aside0.mk (blk_drew BK392.out)
          replace BK402 := Aside0.mk (blk_drew BK402.out)
          replace HB := Aside0.mk (below_drew1 HB.out)
          refine start_ (n := 8) (S := fun w' => w'.cell? ⟨gb392,0,none⟩ = some (.bool a0_0) ∧ w'.cell? ⟨gb392,1,none⟩ = some (u393001) ∧ w'.cell? ⟨gb392,2,none⟩ = some (u393002) ∧ w'.cell? ⟨gb392,3,none⟩ = some (.slice Ao10 t389.length co10) ∧ w'.cell? ⟨gb402,0,none⟩ = some (.int .i64 ((rd_T45 l0_2 x36_2).f0)) ∧ w'.cell? ⟨gb402,1,none⟩ = some (.int .i64 ((rd_T45 l0_2 x36_2).f1)) ∧ w'.cell? ⟨gb402,2,none⟩ = some (.int .i64 ((rd_T45 l0_2 x36_2).f2)) ∧ w'.cell? ⟨gb402,3,none⟩ = some (.slice A401_3 ((rd_T45 l0_2 x36_2).f3).length c401_3)) (ds := [7]) #[false,false,false,false,false,false,false,false] (by kernel_rfl) rfl rfl ⟨(blk_cell BK392.out 0).trans rfl,(blk_cell BK392.out 1).trans rfl,(blk_cell BK392.out 2).trans rfl,(blk_cell BK392.out 3).trans rfl,(blk_cell BK402.out 0).trans rfl,(blk_cell BK402.out 1).trans rfl,(blk_cell BK402.out 2).trans rfl,(blk_cell BK402.out 3).trans rfl⟩ (fun hHeld => ?_);refine with_tabW impl_cloneMachine.tab10 impl_cloneMachine.bits10 (fun HT_ HW_ => ?_)
          generalize w48.drew = w49 at HO_393001 HO_393002 HO_393003 BK387 BK388 BK392 BK402 HB hHeld ⊢
          refine pw_ 0 (some 40) HT_.out ?_
          refine tw_ 1 (some 41) HT_.out HW_.out hHeld rfl rfl (by rintro w' ⟨s0,s1,s2,s3,s4,s5,s6,s7⟩;go_simp;with_reducible rfl) ?_
          refine tw_ 2 (some 42) HT_.out HW_.out hHeld rfl rfl (by rintro w' ⟨s0,s1,s2,s3,s4,s5,s6,s7⟩;go_simp;with_reducible rfl) ?_
          refine oz_ (i := 3) (N := some 43) HT_.out rfl rfl (by kernel_rfl) (by decide) (fun K hK => ?_)
          refine goes_ Try.func68 (by kernel_rfl) rfl #[.agg #[.int .i64 ((rd_T45 l0_2 x36_2).f0),.int .i64 ((rd_T45 l0_2 x36_2).f1),.int .i64 ((rd_T45 l0_2 x36_2).f2),.slice A401_3 ((rd_T45 l0_2 x36_2).f3).length c401_3]] (by rfl) rfl rfl (by (try simp only [List.map_toArray,List.map_cons,List.map_nil]);first|done|rfl|(simp only [List.length_drop,List.length_take];rfl)) ?_
          with_reducible refine (impl_cloneRecord.calls ((rd_T45 l0_2 x36_2).f0) ((rd_T45 l0_2 x36_2).f1) ((rd_T45 l0_2 x36_2).f2) _ _ ((rd_T45 l0_2 x36_2).f3) t403 t404 t405 t406 _ ?side1 ?side2 A41.out).mono ?_
          (case side1 => repeat (first|exact (Kd.C_below HR401_3.out HB.out)|(with_reducible refine Kd.C_alloc ?_ _)|(with_reducible refine Kd.C_drewN ?_ _)|(with_reducible refine Kd.C_drew ?_)))
          (case side2 => exact HC401_3.out)
          rintro e w50 ⟨v407,rfl,ho0,hb⟩
          refine ⟨_,rfl,?_⟩
          replace HO_393001 := Aside0.mk (Kd.S_below (by (with_reducible repeat (first|apply Kd.S_alloc|apply Kd.S_drewN|apply Kd.S_drew));exact HO_393001.out) hb)
          replace HO_393002 := Aside0.mk (Kd.S_elder' (by (with_reducible repeat (first|apply Kd.S_alloc|apply Kd.S_drewN|apply Kd.S_drew));exact HO_393002.out) (Kd.R_base ho0) hb)
          replace HO_393003 := Aside0.mk (Kd.R_below (by (with_reducible repeat (first|apply Kd.R_alloc|apply Kd.R_drewN|apply Kd.R_drew));exact HO_393003.out) hb)
          replace BK387 := Aside0.mk (blk_below (kb_ BK387) hb)
          replace BK388 := Aside0.mk (blk_below (kb_ BK388) hb)
          replace BK392 := Aside0.mk (blk_below (kb_ BK392) hb)
          replace BK402 := Aside0.mk (blk_below (kb_ BK402) hb)
          have HO408 := Aside0.mk (Kd.R_lower ho0 (below_size b_))
          replace HB := Aside0.mk (below_step b_ hb)
          (try clear hb)
          (try clear hb2)
          (try clear hk)
          (try clear hi)
          (try clear ho0)
          obtain ⟨Ao52,co52,eo52⟩ := Kd.R_slice HO408.out
          (first|subst eo52|(injection eo52 with f1_ f2_ f3_;have f4_ := f1_.symm;have f5_ := f3_.symm;clear f1_ f2_ f3_;subst f4_;subst f5_))
          refine hK.out _ _ ⟨(blk_cell BK392.out 0).trans rfl,(blk_cell BK392.out 1).trans rfl,(blk_cell BK392.out 2).trans rfl,(blk_cell BK392.out 3).trans rfl,(blk_cell BK402.out 0).trans rfl,(blk_cell BK402.out 1).trans rfl,(blk_cell BK402.out 2).trans rfl,(blk_cell BK402.out 3).trans rfl⟩ (fun hHeld => ?_)
          clear hK K
          refine nr_ (some 43) _ ?_
          refine oz_ (i := 4) (N := some 44) HT_.out rfl rfl (by kernel_rfl) (by decide) (fun K hK => ?_)
          refine value_ (w1 := ?_) (v := ?_) (by rfl) rfl ?_ ?_
          rotate_left 2
          ·go_simp
           constructor
           ·rfl
           ·rfl
          refine hK.out _ _ ⟨(blk_cell (blk_alloc BK392.out _) 0).trans rfl,(blk_cell (blk_alloc BK392.out _) 1).trans rfl,(blk_cell (blk_alloc BK392.out _) 2).trans rfl,(blk_cell (blk_alloc BK392.out _) 3).trans rfl,(blk_cell (blk_alloc BK402.out _) 0).trans rfl,(blk_cell (blk_alloc BK402.out _) 1).trans rfl,(blk_cell (blk_alloc BK402.out _) 2).trans rfl,(blk_cell (blk_alloc BK402.out _) 3).trans rfl⟩ (fun hHeld => ?_)
          clear hK K
          refine nr_ (some 44) _ ?_
          refine oz_ (i := 5) (N := some 45) HT_.out rfl rfl (by kernel_rfl) (by decide) (fun K hK => ?_)
          refine Kd.S_append_step k45 (w0 := w) w.heap.size (by rfl) (.tmp 41) (.tmp 44) 30 45 (.agg #[(.int .i64 0),(.int .i64 0),(.int .i64 0),(.slice none 0 0)]) 48 rfl Try.underlying30 info45 rfl (by decide) (by omega) u393002 x393002_2 (⟨t403,t404,t405,t406⟩ : S45) [.int .i64 t403,.int .i64 t404,.int .i64 t405,.slice Ao52 t406.length co52] (fun k_ => k_ ≠ gb402) (fun k_ => some k_ = (.slice Ao52 t406.length co52 : Value).ownBlock) rfl rfl ?aP (fun k_ hk_ => ((Kd.R_mono (ok' := fun k_ => ((fun k_ => k_ ≠ gb402)) k_ ∧ some k_ ≠ (u393002 : Value).ownBlock) (Kd.R_types (Kd.R_apart' (HO408.out) (Kd.S_typed HO_393002.out) (by decide)) BK402.out (by decide)) (fun k_ hk => ⟨hk.2,hk.1.2⟩))).1 k_ hk_.symm) ?aF ?aO ?aB ?aS ?aL ?_
          (case aP => exact k45_mkM _ _ _ (⟨t403,t404,t405,t406⟩ : S45) (Kd.R_mono (Kd.R_tight rfl (Kd.R_mono (ok' := fun k_ => ((fun k_ => k_ ≠ gb402)) k_ ∧ some k_ ≠ (u393002 : Value).ownBlock) (Kd.R_types (Kd.R_apart' (HO408.out) (Kd.S_typed HO_393002.out) (by decide)) BK402.out (by decide)) (fun k_ hk => ⟨hk.2,hk.1.2⟩))) (fun _ h_ => h_)))
          (case aB => exact b_)
          (case aF => exact (fun k_ hk => Kd.freshB (kb_ BK402) k_ hk))
          (case aO => exact (by (with_reducible repeat (first|apply Kd.S_alloc|apply Kd.S_drewN|apply Kd.S_drew));exact Kd.S_mono HO_393002.out (fun k_ hk => ⟨hk.1,fun e_ => hk.2 e_⟩)))
          (case aS => exact (below_size b_))
          (case aL => have := LMc42.out;omega)
          intro v410 w51 ho hb hg hat
          rw [← Ny409.out] at ho
          replace HO_393001 := Aside0.mk (Kd.S_over' (by (with_reducible repeat (first|apply Kd.S_alloc|apply Kd.S_drewN|apply Kd.S_drew));exact HO_393001.out) (Kd.S_typed (by (with_reducible repeat (first|apply Kd.S_alloc|apply Kd.S_drewN|apply Kd.S_drew));exact HO_393002.out)) (by decide) hg)
          replace HO_393003 := Aside0.mk (Kd.R_over' (by (with_reducible repeat (first|apply Kd.R_alloc|apply Kd.R_drewN|apply Kd.R_drew));exact HO_393003.out) (Kd.S_typed (by (with_reducible repeat (first|apply Kd.S_alloc|apply Kd.S_drewN|apply Kd.S_drew));exact HO_393002.out)) (by decide) hg)
          replace BK387 := Aside0.mk (blk_grown (kb_ BK387) hg (Kd.S_ne HO_393002.out BK387.out (by decide)))
          replace BK388 := Aside0.mk (blk_grown (kb_ BK388) hg (Kd.S_ne HO_393002.out BK388.out (by decide)))
          replace BK392 := Aside0.mk (blk_grown (kb_ BK392) hg (Kd.S_ne HO_393002.out BK392.out (by decide)))
          replace BK402 := Aside0.mk (blk_grown (kb_ BK402) hg (Kd.S_away HO_393002.out (fun _ hk => hk.1)))
          replace HB := Aside0.mk (hb)
          have HO411 := Aside0.mk (ho)
          clear HO_393002 HO408
          clear ho hb hg hat
          obtain ⟨Ao53,co53,eo53⟩ := Kd.S_slice HO411.out
          (first|subst eo53|(injection eo53 with f1_ f2_ f3_;have f4_ := f1_.symm;have f5_ := f3_.symm;clear f1_ f2_ f3_;subst f4_;subst f5_))
          refine hK.out _ _ ⟨(blk_cell BK392.out 0).trans rfl,(blk_cell BK392.out 1).trans rfl,(blk_cell BK392.out 2).trans rfl,(blk_cell BK392.out 3).trans rfl,(blk_cell BK402.out 0).trans rfl,(blk_cell BK402.out 1).trans rfl,(blk_cell BK402.out 2).trans rfl,(blk_cell BK402.out 3).trans rfl⟩ (fun hHeld => ?_)
          clear hK K
          refine nr_ (some 45) _ ?_
          refine pw_ 6 (some 46) HT_.out ?_
          refine last_ (i := 7) (N := none) #[true,true,true,true,true,true,true,true] rfl rfl (one_of HT_.out (by kernel_rfl)) (by decide) (fun K hK => ?_)
          have hs54 : w51.cell? ⟨gb392,2,none⟩ = some (u393002) := (blk_cell BK392.out 2).trans rfl
          have hfs54 := blk_frozen BK392.out 2
          have hns54_0 := NB387_392.out
          have hns54_1 := NB388_392.out
          have hns54_3 := NB402_392.out
          have hms54_0 := NB392_387.out
          have hms54_1 := NB392_388.out
          have hms54_3 := NB392_402.out
          refine skip_ (w1 := ?_) (by rfl) rfl ?_ ?_
          rotate_left
          ·go_simp
           rfl
          refine hK.out _ _ ?_
          clear hK K
          refine done_ (done_of HT_.out (by kernel_rfl)) ?_
          try go_wp2
          go_roundg k2
          case measure => have := HK1.out;have := HK2.out;omega
          case rel => exact ⟨(wrap64 (x36_2 + 1)),(y409),(.slice Ao53 y409.length co53),(by first|rfl|(simp;done)|(simp [*];done)),H',⟨by have := HK1.out;have := HK2.out;omega⟩,⟨by (with_reducible repeat (first|apply Kd.S_alloc|apply Kd.S_drewN|apply Kd.S_drew));exact Kd.S_mono (Kd.S_far (p := ⟨gb392,2,none⟩) (Kd.S_types HO_393001.out BK392.out (by decide)) (fun _ hk => hk.2) (.slice Ao53 y409.length co53)) (fun _ hk => trivial)⟩,⟨by (with_reducible repeat (first|apply Kd.S_alloc|apply Kd.S_drewN|apply Kd.S_drew));exact Kd.S_mono (Kd.S_far (p := ⟨gb392,2,none⟩) (Kd.S_types HO411.out BK392.out (by decide)) (fun _ hk => hk.2) (.slice Ao53 y409.length co53)) (fun _ hk => trivial)⟩,⟨by (with_reducible repeat (first|apply Kd.R_alloc|apply Kd.R_drewN|apply Kd.R_drew));exact Kd.R_mono (Kd.R_far (p := ⟨gb392,2,none⟩) (Kd.R_types HO_393003.out BK392.out (by decide)) (fun _ hk => hk.2) (.slice Ao53 y409.length co53)) (fun _ hk => trivial)⟩,⟨by (with_reducible repeat (first|refine blk_drewN ?_ _|refine blk_drew ?_|refine blk_alloc ?_ _));refine blk_far ?_ NB387_392.out _;(with_reducible repeat (first|refine blk_drewN ?_ _|refine blk_drew ?_|refine blk_alloc ?_ _));exact BK387.out⟩,⟨by (with_reducible repeat (first|refine blk_drewN ?_ _|refine blk_drew ?_|refine blk_alloc ?_ _));refine blk_far ?_ NB388_392.out _;(with_reducible repeat (first|refine blk_drewN ?_ _|refine blk_drew ?_|refine blk_alloc ?_ _));exact BK388.out⟩,⟨by (with_reducible repeat (first|refine blk_drewN ?_ _|refine blk_drew ?_|refine blk_alloc ?_ _));refine blk_put (cs := #[.bool a0_0,u393001,u393002,.slice Ao10 t389.length co10]) ?_ 2 _ rfl;(with_reducible repeat (first|refine blk_drewN ?_ _|refine blk_drew ?_|refine blk_alloc ?_ _));exact BK392.out⟩,⟨b_⟩⟩
         ·rw [if_neg c42] at H
          exact absurd H (by simp)
        ·rw [if_neg c40] at H
         exact absurd H (by simp)
       ·rw [if_neg c39] at H
        exact absurd H (by simp)
      ·rw [if_neg c38] at H
       have c38b0 : decide (x36_2 < (l0_2.length : Int)) = false := decide_eq_false c38
       clear c38
       simp only [Option.some.injEq,Prod.mk.injEq] at H
       obtain ⟨rfl,rfl,rfl,rfl⟩ := H
       have hnb55 := NB392_387.out
       have hnc55 := NB387_392.out
       have hnb56 := NB392_388.out
       have hnc56 := NB388_392.out
       obtain ⟨⟨hcz57_0,hcz57_1,hcz57_2,hcz57_3⟩,hfz57_0,hfz57_1,hfz57_2,hfz57_3⟩ := cl4_ BK392.out
       have hnb58 := NB388_387.out
       have hnc58 := NB387_388.out
       obtain ⟨⟨hcz59_0,hcz59_1,hcz59_2,hcz59_3⟩,hfz59_0,hfz59_1,hfz59_2,hfz59_3⟩ := cl4_ BK388.out
       obtain ⟨Ao60,co60,eo60⟩ := Kd.S_slice HO_393001.out
       subst eo60
       obtain ⟨Ao61,co61,eo61⟩ := Kd.S_slice HO_393002.out
       subst eo61
       go_wp2
       refine bodyPost_ret (results_cell_row rfl _ _ gb388 32 #[.bool a0_0,.slice Ao60 x393001_1.length co60,.slice Ao61 x393002_2.length co61,.slice Ao10 t389.length co10] (0,0) _ rfl (by (with_reducible repeat (first|refine blk_drewN ?_ _|refine blk_drew ?_|refine blk_alloc ?_ _));refine blk_put (cs := #[.bool a0_0,.slice Ao60 x393001_1.length co60,.slice Ao61 x393002_2.length co61,.slice none 0 0]) ?_ 3 _ rfl;(with_reducible repeat (first|refine blk_drewN ?_ _|refine blk_drew ?_|refine blk_alloc ?_ _));refine blk_put (cs := #[.bool a0_0,.slice Ao60 x393001_1.length co60,.slice none 0 0,.slice none 0 0]) ?_ 2 _ rfl;(with_reducible repeat (first|refine blk_drewN ?_ _|refine blk_drew ?_|refine blk_alloc ?_ _));refine blk_put (cs := #[.bool a0_0,.slice none 0 0,.slice none 0 0,.slice none 0 0]) ?_ 1 _ rfl;(with_reducible repeat (first|refine blk_drewN ?_ _|refine blk_drew ?_|refine blk_alloc ?_ _));refine blk_put (cs := #[.bool false,.slice none 0 0,.slice none 0 0,.slice none 0 0]) ?_ 0 _ rfl;(with_reducible repeat (first|refine blk_drewN ?_ _|refine blk_drew ?_|refine blk_alloc ?_ _));exact BK388.out) Try.underlying32 rfl (by kernel_rfl)) rfl ?_
       exact ⟨_,_,_,by first|rfl|(simp [errW_none,errW_some] <;> rfl)|(simp [*,errW_none,errW_some] <;> rfl),by (with_reducible repeat (first|apply Kd.S_alloc|apply Kd.S_drewN|apply Kd.S_drew));exact Kd.S_mono (Kd.S_far (p := ⟨gb388,3,none⟩) (Kd.S_far (p := ⟨gb388,2,none⟩) (Kd.S_far (p := ⟨gb388,1,none⟩) (Kd.S_far (p := ⟨gb388,0,none⟩) (Kd.S_types HO_393001.out BK388.out (by decide)) (fun _ hk => hk.2) (.bool a0_0)) (fun _ hk => hk.2) (.slice Ao60 x393001_1.length co60)) (fun _ hk => hk.2) (.slice Ao61 x393002_2.length co61)) (fun _ hk => hk.2) (.slice Ao10 t389.length co10)) (fun _ hk => trivial),by (with_reducible repeat (first|apply Kd.S_alloc|apply Kd.S_drewN|apply Kd.S_drew));exact Kd.S_mono (Kd.S_far (p := ⟨gb388,3,none⟩) (Kd.S_far (p := ⟨gb388,2,none⟩) (Kd.S_far (p := ⟨gb388,1,none⟩) (Kd.S_far (p := ⟨gb388,0,none⟩) (Kd.S_types HO_393002.out BK388.out (by decide)) (fun _ hk => hk.2) (.bool a0_0)) (fun _ hk => hk.2) (.slice Ao60 x393001_1.length co60)) (fun _ hk => hk.2) (.slice Ao61 x393002_2.length co61)) (fun _ hk => hk.2) (.slice Ao10 t389.length co10)) (fun _ hk => trivial),by (with_reducible repeat (first|apply Kd.R_alloc|apply Kd.R_drewN|apply Kd.R_drew));exact Kd.R_mono (Kd.R_far (p := ⟨gb388,3,none⟩) (Kd.R_far (p := ⟨gb388,2,none⟩) (Kd.R_far (p := ⟨gb388,1,none⟩) (Kd.R_far (p := ⟨gb388,0,none⟩) (Kd.R_types HO_393003.out BK388.out (by decide)) (fun _ hk => hk.2) (.bool a0_0)) (fun _ hk => hk.2) (.slice Ao60 x393001_1.length co60)) (fun _ hk => hk.2) (.slice Ao61 x393002_2.length co61)) (fun _ hk => hk.2) (.slice Ao10 t389.length co10)) (fun _ hk => trivial),b_⟩

end Go.Proofs.Ythplaakckfhaaaa.XTu
