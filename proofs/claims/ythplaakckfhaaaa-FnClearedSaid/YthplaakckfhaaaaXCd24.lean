/- Proved: of each Go function here that a call comes to what the Lean function of its name tells. Written by a program of this session over the translation. No conditions beyond each theorem's own. -/
import Derived.Test.YthplaakckfhaaaaXCd0
import Derived.Test.YthplaakckfhaaaaXCd3
import Derived.Test.YthplaakckfhaaaaXCd6
import Derived.Test.YthplaakckfhaaaaXCd16
import Derived.Test.YthplaakckfhaaaaXCd22
import Derived.Test.YthplaakckfhaaaaXCd23
namespace Go.Proofs.Ythplaakckfhaaaa.XCd
open Go.RowKit Go.Proofs.Ythplaakckfhaaaa.Aid Go.Proofs.YthplaakckfhaaaaW.PrintWords Go.Proofs.YthplaakckfhaaaaW.PrintLast Go.Proofs.YthplaakckfhaaaaW.PrintMore
set_option linter.unusedVariables false
set_option linter.unusedSimpArgs false

/-! ### impl_Machine_clear: function 94 -/
theorem hold_94 {p : Prop} (h : Aside0 p) : p := h.out
def impl_Machine_clear.f (k : Nat) (p2 : List S45) (p3 : List Int) (a1 a2 : Int) (d : Bool) : Option (List S45 × List Int) := (slices_BinarySearch_int64_int64.f k p3 a1).bind fun t => if d = true then (if t.2 = true then some ((p2.filter fun x => !hits a1 a2 x), p3) else if 0 ≤ t.1 ∧ t.1 ≤ (p3.length : Int) ∧ p3.length < 17592186044415 then some ((p2.filter fun x => !hits a1 a2 x), p3.take t.1.toNat ++ [a1] ++ p3.drop t.1.toNat) else none) else some ((p2.filter fun x => !hits a1 a2 x), p3)
set_option maxHeartbeats 8000000 in
set_option maxRecDepth 100000 in
theorem impl_Machine_clear.calls (k : Nat) (P2_ P3_ : Nat → Prop) (gb : Nat) (b : Bool) (s1 : Value) (A2 : Option Addr) (c2 : Nat) (p2 : List S45) (A3 : Option Addr) (c3 : Nat) (p3 : List Int) (a1 a2 : Int) (d : Bool) (r2 : List S45) (r3 : List Int) (w0 w : World) (hB : Below w0.heap.size w0 w) (hg0 : w0.heap.size ≤ gb) (hx : w.heap[gb]? = some (.cells #[.bool b, s1, .slice A2 p2.length c2, .slice A3 p3.length c3] 32 (0, 0))) (hP2 : ¬ P2_ gb) (hP3 : ¬ P3_ gb) (h23 : ∀ k, P2_ k → P3_ k → False) (ho2 : Kd.S k45 45 w w0.heap.size P2_ (.slice A2 p2.length c2) p2) (ho3 : (Kd.int .i64).R 2 w w0.heap.size P3_ (.slice A3 p3.length c3) p3) (h : impl_Machine_clear.f k p2 p3 a1 a2 d = some (r2, r3)) :
    Calls Try.prog 94 #[.pointer (some ⟨gb, 0, none⟩), .int .i64 a1, .int .i64 a2, .bool d] w fun e w' => e = .returned (.tuple #[]) ∧ ∃ (A4 : Option Addr) (c4 : Nat) (A5 : Option Addr) (c5 : Nat), w'.heap[gb]? = some (.cells #[.bool b, s1, .slice A4 r2.length c4, .slice A5 r3.length c5] 32 (0, 0)) ∧ Kd.S k45 45 w' w0.heap.size P2_ (.slice A4 r2.length c4) r2 ∧ (Kd.int .i64).R 2 w' w0.heap.size (fun k_ => P3_ k_ ∨ w.heap.size ≤ k_) (.slice A5 r3.length c5) r3 ∧ Below w0.heap.size w0 w' ∧ Kept w w' (fun k_ => (P2_ k_ ∨ P3_ k_) ∨ k_ = gb) := by
 have hu := Try.underlying32
 have hu2 := Try.underlying45
 obtain ⟨⟨t1,t2⟩,E0,h1⟩ := Option.bind_eq_some_iff.1 h
 clear h
 have F0 := ak E0
 have H1 := ak h1
 clear E0 h1
 have BG := ak hx
 have GG := ak hg0
 have HB := ak hB
 have P2 := ak hP2
 have P3 := ak hP3
 have PD := ak h23
 have T2 := ak (Kd.S_mono (ok' := fun k_ => P2_ k_ ∧ k_ < w.heap.size) (Kd.S_bound ho2) (fun _ h_ => ⟨h_.1,h_.2.2.1⟩))
 have T3 := ak (Kd.R_mono (ok' := fun k_ => P3_ k_ ∧ k_ < w.heap.size) (Kd.R_bound ho3) (fun _ h_ => ⟨h_.1,h_.2.2.1⟩))
 have HK := ak (Kept.refl w (fun k_ => (P2_ k_ ∨ P3_ k_) ∨ k_ = gb))
 have LG := ak (blk_lt hx)
 clear hx hg0 hB hP2 hP3 h23 ho2 ho3
 go_enter Try.func94,Try.ntmps94
 go_wp2_with ((with_reducible refine gate_dst (N := 5) rfl ?_);refine bx_ 5 #[.int .i64 a1] 2 ?_;intro g1 hg w1 hbox hb;have hge := ak (Nat.le_of_eq hg.symm);clear hg;refine hold_94 ?_)
 refine ⟨?_⟩
 have BG := ak (blk_below BG.out hb)
 have T2 := ak (Kd.S_below T2.out hb)
 have T3 := ak (Kd.R_below T3.out hb)
 have HB := ak (below_step HB.out hb)
 have HK := ak (HK.out.below hb)
 have X1 := ak hbox
 have N1 := hge
 clear hbox hb hge
 go_wp2_with ((with_reducible refine gate_dst (N := 6) rfl ?_);refine bx_ 6 #[.int .i64 a2] 2 ?_;intro g2 hg w2 hbox hb;have hge := ak (Nat.le_of_eq hg.symm);clear hg;refine hold_94 ?_)
 refine ⟨?_⟩
 have N2 := ak (Nat.le_trans HK.out.1 hge.out)
 have BG := ak (blk_below BG.out hb)
 have T2 := ak (Kd.S_below T2.out hb)
 have T3 := ak (Kd.R_below T3.out hb)
 have HB := ak (below_step HB.out hb)
 have HK := ak (HK.out.below hb)
 have X1 := ak (blk_below X1.out hb)
 have X2 := ak hbox
 clear hbox hb hge
 have hcgb2_0 : w2.cell? ⟨gb,0,none⟩ = some (.bool b) := (blk_cell BG.out 0).trans rfl
 have hcgb2_1 : w2.cell? ⟨gb,1,none⟩ = some (s1) := (blk_cell BG.out 1).trans rfl
 have hcgb2_2 : w2.cell? ⟨gb,2,none⟩ = some (.slice A2 p2.length c2) := (blk_cell BG.out 2).trans rfl
 have hcgb2_3 : w2.cell? ⟨gb,3,none⟩ = some (.slice A3 p3.length c3) := (blk_cell BG.out 3).trans rfl
 go_wp2_with ((with_reducible refine gcal_ (f := 134) rfl ?_);refine goesL_ (some 16) rfl rfl Try.func134 (by kernel_rfl) rfl #[.slice A2 p2.length c2,.func (.func 135) #[] #[.pointer (some ⟨g1,0,none⟩),.pointer (some ⟨g2,0,none⟩)]] rfl (by (try simp only [List.map_toArray,List.map_cons,List.map_nil]);first|done|rfl) ?_;refine (slices_DeleteFunc_Record.calls (fun k_ => P2_ k_ ∧ k_ < w.heap.size) A2 c2 p2 g1 g2 a1 a2 w0 _ HB.out (fun h_ => absurd h_.2 (Nat.not_lt.2 N1.out)) (fun h_ => absurd h_.2 (Nat.not_lt.2 N2.out)) ((blk_cell X1.out 0).trans rfl) ((blk_cell X2.out 0).trans rfl) T2.out).mono ?_;rintro e w3 ⟨A4,c4,rfl,S,B,K⟩;refine ⟨_,rfl,?_⟩;refine hold_94 ?_)
 refine ⟨?_⟩
 have T2 := ak S
 have T3 := ak (Kd.R_kept T3.out K (fun k_ hk_ hs_ => PD.out k_ hs_.1 hk_.1))
 have HB := ak B
 have HK := ak (HK.out.then_ K (fun _ h_ => .inl (.inl (.inl h_.1))))
 have X1 := ak (blk_kept X1.out K (fun h_ => absurd h_.2 (Nat.not_lt.2 N1.out)))
 have BG := ak (blk_kept BG.out K (fun h_ => P2.out h_.1))
 clear S B K X2 N2 hcgb2_0 hcgb2_1 hcgb2_2 hcgb2_3
 have hcgb3_0 : w3.cell? ⟨gb,0,none⟩ = some (.bool b) := (blk_cell BG.out 0).trans rfl
 have hcgb3_1 : w3.cell? ⟨gb,1,none⟩ = some (s1) := (blk_cell BG.out 1).trans rfl
 have hcgb3_2 : w3.cell? ⟨gb,2,none⟩ = some (.slice A2 p2.length c2) := (blk_cell BG.out 2).trans rfl
 have hcgb3_3 : w3.cell? ⟨gb,3,none⟩ = some (.slice A3 p3.length c3) := (blk_cell BG.out 3).trans rfl
 have hfgb3_2 := blk_frozen BG.out 2
 go_upto_region 2 with (fail)
 have n0_ : Aside0 ((w3.setCell ⟨gb,2,none⟩ (.slice A4 (p2.filter fun x => !hits a1 a2 x).length c4)).heap[gb]? = some (.cells #[.bool b,s1,.slice A4 (p2.filter fun x => !hits a1 a2 x).length c4,.slice A3 p3.length c3] 32 (0,0))) := ⟨by refine blk_put (cs := #[.bool b,s1,.slice A2 p2.length c2,.slice A3 p3.length c3]) ?_ 2 _ rfl;exact BG.out⟩
 have n1_ := ak (Kd.S_far (p := ⟨gb,2,none⟩) T2.out (fun k_ h_ e_ => P2.out (show P2_ gb from (show k_ = gb from e_) ▸ h_.1)) (.slice A4 (p2.filter fun x => !hits a1 a2 x).length c4))
 have n2_ := ak (Kd.R_far (p := ⟨gb,2,none⟩) T3.out (fun k_ h_ e_ => P3.out (show P3_ gb from (show k_ = gb from e_) ▸ h_.1)) (.slice A4 (p2.filter fun x => !hits a1 a2 x).length c4))
 have n3_ : Aside0 (Below w0.heap.size w0 (w3.setCell ⟨gb,2,none⟩ (.slice A4 (p2.filter fun x => !hits a1 a2 x).length c4))) := ⟨below_set HB.out GG.out⟩
 have n4_ := ak (HK.out.setCell (p := ⟨gb,2,none⟩) (.inl (.inr rfl)) (.slice A4 (p2.filter fun x => !hits a1 a2 x).length c4))
 have n5_ : Aside0 ((w3.setCell ⟨gb,2,none⟩ (.slice A4 (p2.filter fun x => !hits a1 a2 x).length c4)).heap[g1]? = some (.cells #[.int .i64 a1] 2 (0,0))) := ⟨blk_far X1.out (Nat.ne_of_gt (Nat.lt_of_lt_of_le LG.out N1.out)) _⟩
 clear BG T2 T3 HB HK X1 hcgb3_0 hcgb3_1 hcgb3_2 hcgb3_3 hfgb3_2
 generalize (w3.setCell ⟨gb,2,none⟩ (.slice A4 (p2.filter fun x => !hits a1 a2 x).length c4)) = w4 at n0_ n1_ n2_ n3_ n4_ n5_ ⊢
 have BG := n0_
 have T2 := n1_
 have T3 := n2_
 have HB := n3_
 have HK := n4_
 have X1 := n5_
 clear n0_ n1_ n2_ n3_ n4_ n5_
 have B : Below w4.heap.size w4 w4.drew := below_drew1 (Below.refl _ _)
 have BG := ak (blk_below BG.out B)
 have T2 := ak (Kd.S_below T2.out B)
 have T3 := ak (Kd.R_below T3.out B)
 have HB := ak (below_step HB.out B)
 have HK := ak (HK.out.below B)
 have X1 := ak (blk_below X1.out B)
 clear B
 refine start_ (n := 11) (S := fun w' => w'.cell? ⟨gb,0,none⟩ = some (.bool b) ∧ w'.cell? ⟨gb,1,none⟩ = some (s1) ∧ w'.cell? ⟨gb,2,none⟩ = some (.slice A4 (p2.filter fun x => !hits a1 a2 x).length c4) ∧ w'.cell? ⟨gb,3,none⟩ = some (.slice A3 p3.length c3) ∧ w'.cell? ⟨g1,0,none⟩ = some (.int .i64 a1)) (ds := []) #[false,false,false,false,false,false,false,false,false,false,false] (by kernel_rfl) rfl rfl ⟨(blk_cell BG.out 0).trans rfl,(blk_cell BG.out 1).trans rfl,(blk_cell BG.out 2).trans rfl,(blk_cell BG.out 3).trans rfl,(blk_cell X1.out 0).trans rfl⟩ (fun hHeld => ?_)
 generalize w4.drew = wc at BG X1 T2 T3 HB HK hHeld ⊢
 refine pure_ (i := 0) (N := some 20) (v := ?_) (a' := ?_) #[true,false,false,false,false,false,false,false,false,false,false] rfl rfl (by kernel_rfl) (fun _ _ _ h => h) (Or.inl ⟨by rfl,?_⟩) ?_ ?_
 rotate_left
 ·intro w'
  go_simp
  with_reducible rfl
 rotate_left
 ·simp only [Act.put,q1,q2,q3,i64_w,i32_w]
  rfl
 refine pure_ (i := 1) (N := some 21) (v := ?_) (a' := ?_) #[true,true,false,false,false,false,false,false,false,false,false] rfl rfl (by kernel_rfl) (fun _ _ _ h => h) (Or.inl ⟨by rfl,?_⟩) ?_ ?_
 rotate_left
 ·intro w'
  go_simp
  with_reducible rfl
 rotate_left
 ·simp only [Act.put,q1,q2,q3,i64_w,i32_w]
  rfl
 refine pure_ (i := 2) (N := some 22) (v := ?_) (a' := ?_) #[true,true,true,false,false,false,false,false,false,false,false] rfl rfl (by kernel_rfl) (fun _ _ _ h => h) (Or.inl ⟨by rfl,?_⟩) ?_ ?_
 rotate_left
 ·intro w'
  go_simp
  with_reducible rfl
 rotate_left
 ·simp only [Act.put,q1,q2,q3,i64_w,i32_w]
  rfl
 refine take_ (i := 3) (N := some 23) (v := ?_) (a' := ?_) #[true,true,true,true,false,false,false,false,false,false,false] rfl rfl (by kernel_rfl) (fun _ _ _ h => h) (Or.inl ⟨by rfl,?_⟩) hHeld ?_ ?_
 rotate_left
 ·rintro w' ⟨s0,s1,s2,s3,s4⟩
  go_simp
  with_reducible rfl
 rotate_left
 ·simp only [Act.put,q1,q2,q3,i64_w,i32_w]
  rfl
 refine take_ (i := 4) (N := some 24) (v := ?_) (a' := ?_) #[true,true,true,true,true,false,false,false,false,false,false] rfl rfl (by kernel_rfl) (fun _ _ _ h => h) (Or.inl ⟨by rfl,?_⟩) hHeld ?_ ?_
 rotate_left
 ·rintro w' ⟨s0,s1,s2,s3,s4⟩
  go_simp
  with_reducible rfl
 rotate_left
 ·simp only [Act.put,q1,q2,q3,i64_w,i32_w]
  rfl
 refine one_ (i := 5) (N := some 25) #[true,true,true,true,true,true,false,false,false,false,false] rfl rfl (by kernel_rfl) (by decide) (fun K hK => ?_)
 refine goes_ Try.func136 (by kernel_rfl) rfl #[.slice A3 p3.length c3,.int .i64 a1] (by rfl) rfl rfl (by (try simp only [List.map_toArray,List.map_cons,List.map_nil]);first|done|rfl) ?_
 refine (slices_BinarySearch_int64_int64.calls k A3 c3 p3 a1 t1 t2 _ (Kd.R_reads' T3.out).2.2 (Kd.R_reads' T3.out).2.1 F0.out).mono ?_
 rintro e w5 ⟨rfl,B0⟩
 refine ⟨_,rfl,?_⟩
 have B := B0.below
 have BG := ak (blk_below BG.out B)
 have T2 := ak (Kd.S_below T2.out B)
 have T3 := ak (Kd.R_below T3.out B)
 have HB := ak (below_step HB.out B)
 have HK := ak (HK.out.below B)
 have X1 := ak (blk_below X1.out B)
 clear B B0
 refine hK.out _ _ ⟨(blk_cell BG.out 0).trans rfl,(blk_cell BG.out 1).trans rfl,(blk_cell BG.out 2).trans rfl,(blk_cell BG.out 3).trans rfl,(blk_cell X1.out 0).trans rfl⟩ (fun hHeld => ?_)
 clear hK K
 refine nr_ (some 25) _ ?_
 refine pure_ (i := 6) (N := some 19) (v := ?_) (a' := ?_) #[true,true,true,true,true,true,true,false,false,false,false] rfl rfl (by kernel_rfl) (fun _ _ _ h => h) (Or.inl ⟨by rfl,?_⟩) ?_ ?_
 rotate_left
 ·intro w'
  go_simp
  with_reducible rfl
 rotate_left
 ·simp only [Act.put,q1,q2,q3,i64_w,i32_w]
  rfl
 refine pure_ (i := 7) (N := some 26) (v := ?_) (a' := ?_) #[true,true,true,true,true,true,true,true,false,false,false] rfl rfl (by kernel_rfl) (fun _ _ _ h => h) (Or.inl ⟨by rfl,?_⟩) ?_ ?_
 rotate_left
 ·intro w'
  go_simp
  with_reducible rfl
 rotate_left
 ·simp only [Act.put,q1,q2,q3,i64_w,i32_w]
  rfl
 refine pure_ (i := 8) (N := some 27) (v := ?_) (a' := ?_) #[true,true,true,true,true,true,true,true,true,false,false] rfl rfl (by kernel_rfl) (fun _ _ _ h => h) (Or.inl ⟨by rfl,?_⟩) ?_ ?_
 rotate_left
 ·intro w'
  go_simp
  with_reducible rfl
 rotate_left
 ·simp only [Act.put,q1,q2,q3,i64_w,i32_w]
  rfl
 refine pure_ (i := 9) (N := some 8) (v := ?_) (a' := ?_) #[true,true,true,true,true,true,true,true,true,true,false] rfl rfl (by kernel_rfl) (fun _ _ _ h => h) (Or.inl ⟨by rfl,?_⟩) ?_ ?_
 rotate_left
 ·intro w'
  go_simp
  with_reducible rfl
 rotate_left
 ·simp only [Act.put,q1,q2,q3,i64_w,i32_w]
  rfl
 refine pure_ (i := 10) (N := some 9) (v := ?_) (a' := ?_) #[true,true,true,true,true,true,true,true,true,true,true] rfl rfl (by kernel_rfl) (fun _ _ _ h => h) (Or.inl ⟨by rfl,?_⟩) ?_ ?_
 rotate_left
 ·intro w'
  go_simp
  with_reducible rfl
 rotate_left
 ·simp only [Act.put,q1,q2,q3,i64_w,i32_w]
  rfl
 refine done_ (by kernel_rfl) ?_
 clear hHeld
 cases d with
  | false =>
  have h1 := H1.out
  simp only [Bool.false_eq_true,if_false,Option.some.injEq,Prod.mk.injEq] at h1
  obtain ⟨rfl,rfl⟩ := h1
  go_wp2
  go_end0
  exact ⟨rfl,A4,c4,A3,c3,BG.out,Kd.S_mono T2.out (fun _ h_ => h_.1),Kd.R_mono T3.out (fun _ h_ => .inl h_.1),HB.out,HK.out⟩
  | true =>
 have h1 := H1.out
 rw [if_pos rfl] at h1
 clear H1
 cases t2 with
  | true =>
  simp only [if_true,Option.some.injEq,Prod.mk.injEq] at h1
  obtain ⟨rfl,rfl⟩ := h1
  go_wp2
  go_end0
  exact ⟨rfl,A4,c4,A3,c3,BG.out,Kd.S_mono T2.out (fun _ h_ => h_.1),Kd.R_mono T3.out (fun _ h_ => .inl h_.1),HB.out,HK.out⟩
  | false =>
 rw [if_neg (by simp)] at h1
 by_cases hb : 0 ≤ t1 ∧ t1 ≤ (p3.length : Int) ∧ p3.length < 17592186044415
 rotate_left
 ·rw [if_neg hb] at h1;cases h1
 rw [if_pos hb] at h1
 simp only [Option.some.injEq,Prod.mk.injEq] at h1
 obtain ⟨rfl,rfl⟩ := h1
 obtain ⟨hb1,hb2,hb3⟩ := hb
 obtain ⟨i,rfl⟩ := Int.eq_ofNat_of_zero_le hb1
 have Q2 : Aside0 (i ≤ p3.length) := ⟨by omega⟩
 have Q3 := ak hb3
 clear hb1 hb2 hb3
 go_upto_region 4 with (fail)
 have B : Below w5.heap.size w5 w5.drew := below_drew1 (Below.refl _ _)
 have BG := ak (blk_below BG.out B)
 have T2 := ak (Kd.S_below T2.out B)
 have T3 := ak (Kd.R_below T3.out B)
 have HB := ak (below_step HB.out B)
 have HK := ak (HK.out.below B)
 have X1 := ak (blk_below X1.out B)
 clear B
 refine start_ (n := 12) (S := fun w' => w'.cell? ⟨gb,0,none⟩ = some (.bool b) ∧ w'.cell? ⟨gb,1,none⟩ = some (s1) ∧ w'.cell? ⟨gb,2,none⟩ = some (.slice A4 (p2.filter fun x => !hits a1 a2 x).length c4) ∧ w'.cell? ⟨gb,3,none⟩ = some (.slice A3 p3.length c3) ∧ w'.cell? ⟨g1,0,none⟩ = some (.int .i64 a1)) (ds := [11]) #[false,false,false,false,false,false,false,false,false,false,false,false] (by kernel_rfl) rfl rfl ⟨(blk_cell BG.out 0).trans rfl,(blk_cell BG.out 1).trans rfl,(blk_cell BG.out 2).trans rfl,(blk_cell BG.out 3).trans rfl,(blk_cell X1.out 0).trans rfl⟩ (fun hHeld => ?_)
 generalize w5.drew = wd at BG X1 T2 T3 HB HK hHeld ⊢
 refine pure_ (i := 0) (N := some 33) (v := ?_) (a' := ?_) #[true,false,false,false,false,false,false,false,false,false,false,false] rfl rfl (by kernel_rfl) (fun _ _ _ h => h) (Or.inl ⟨by rfl,?_⟩) ?_ ?_
 rotate_left
 ·intro w'
  go_simp
  with_reducible rfl
 rotate_left
 ·simp only [Act.put,q1,q2,q3,i64_w,i32_w]
  rfl
 refine pure_ (i := 1) (N := some 34) (v := ?_) (a' := ?_) #[true,true,false,false,false,false,false,false,false,false,false,false] rfl rfl (by kernel_rfl) (fun _ _ _ h => h) (Or.inl ⟨by rfl,?_⟩) ?_ ?_
 rotate_left
 ·intro w'
  go_simp
  with_reducible rfl
 rotate_left
 ·simp only [Act.put,q1,q2,q3,i64_w,i32_w]
  rfl
 refine pure_ (i := 2) (N := some 35) (v := ?_) (a' := ?_) #[true,true,true,false,false,false,false,false,false,false,false,false] rfl rfl (by kernel_rfl) (fun _ _ _ h => h) (Or.inl ⟨by rfl,?_⟩) ?_ ?_
 rotate_left
 ·intro w'
  go_simp
  with_reducible rfl
 rotate_left
 ·simp only [Act.put,q1,q2,q3,i64_w,i32_w]
  rfl
 refine pure_ (i := 3) (N := some 36) (v := ?_) (a' := ?_) #[true,true,true,true,false,false,false,false,false,false,false,false] rfl rfl (by kernel_rfl) (fun _ _ _ h => h) (Or.inl ⟨by rfl,?_⟩) ?_ ?_
 rotate_left
 ·intro w'
  go_simp
  with_reducible rfl
 rotate_left
 ·simp only [Act.put,q1,q2,q3,i64_w,i32_w]
  rfl
 refine take_ (i := 4) (N := some 37) (v := ?_) (a' := ?_) #[true,true,true,true,true,false,false,false,false,false,false,false] rfl rfl (by kernel_rfl) (fun _ _ _ h => h) (Or.inl ⟨by rfl,?_⟩) hHeld ?_ ?_
 rotate_left
 ·rintro w' ⟨s0,s1,s2,s3,s4⟩
  go_simp
  with_reducible rfl
 rotate_left
 ·simp only [Act.put,q1,q2,q3,i64_w,i32_w]
  rfl
 refine pure_ (i := 5) (N := some 38) (v := ?_) (a' := ?_) #[true,true,true,true,true,true,false,false,false,false,false,false] rfl rfl (by kernel_rfl) (fun _ _ _ h => h) (Or.inl ⟨by rfl,?_⟩) ?_ ?_
 rotate_left
 ·intro w'
  go_simp
  with_reducible rfl
 rotate_left
 ·simp only [Act.put,q1,q2,q3,i64_w,i32_w]
  rfl
 refine take_ (i := 6) (N := some 39) (v := ?_) (a' := ?_) #[true,true,true,true,true,true,true,false,false,false,false,false] rfl rfl (by kernel_rfl) (fun _ _ _ h => h) (Or.inl ⟨by rfl,?_⟩) hHeld ?_ ?_
 rotate_left
 ·rintro w' ⟨s0,s1,s2,s3,s4⟩
  go_simp
  with_reducible rfl
 rotate_left
 ·simp only [Act.put,q1,q2,q3,i64_w,i32_w]
  rfl
 refine one_ (i := 7) (N := some 40) #[true,true,true,true,true,true,true,true,false,false,false,false] rfl rfl (by kernel_rfl) (by decide) (fun K hK => ?_)
 refine value_ (w1 := ?_) (v := ?_) (by rfl) rfl ?_ ?_
 rotate_left 2
 ·go_simp
  constructor
  ·rfl
  ·rfl
 have BV := ak (blk_new wd (.cells #[.int .i64 a1] 2))
 have B : Below wd.heap.size wd (wd.alloc (.cells #[.int .i64 a1] 2)) := below_alloc (Below.refl _ _) _
 have NV := ak HK.out.1
 have BG := ak (blk_below BG.out B)
 have T2 := ak (Kd.S_below T2.out B)
 have T3 := ak (Kd.R_below T3.out B)
 have HB := ak (below_step HB.out B)
 have HK := ak (HK.out.below B)
 have X1 := ak (blk_below X1.out B)
 clear B
 generalize wd.alloc (.cells #[.int .i64 a1] 2) = we at BV BG X1 T2 T3 HB HK ⊢
 refine hK.out _ _ ⟨(blk_cell BG.out 0).trans rfl,(blk_cell BG.out 1).trans rfl,(blk_cell BG.out 2).trans rfl,(blk_cell BG.out 3).trans rfl,(blk_cell X1.out 0).trans rfl⟩ (fun hHeld => ?_)
 clear hK K
 refine nr_ (some 40) _ ?_
 refine one_ (i := 8) (N := some 41) #[true,true,true,true,true,true,true,true,true,false,false,false] rfl rfl (by kernel_rfl) (by decide) (fun K hK => ?_)
 refine goes_ Try.func137 (by kernel_rfl) rfl #[.slice A3 p3.length c3,.int .i64 (i : Int),.slice (some ⟨wd.heap.size,0,none⟩) 1 1] (by rfl) rfl rfl (by (try simp only [List.map_toArray,List.map_cons,List.map_nil]);first|done|rfl) ?_
 refine (slices_Insert_int64.calls (fun k_ => P3_ k_ ∧ k_ < w.heap.size) A3 c3 p3 i a1 wd.heap.size w0 _ HB.out (fun h_ => absurd h_.2 (Nat.not_lt.2 NV.out)) BV.out T3.out Q3.out Q2.out).mono ?_
 rintro e w6 ⟨A5,c5,rfl,S,B,K⟩
 refine ⟨_,rfl,?_⟩
 have T2 := ak (Kd.S_kept T2.out K (fun k_ hk_ hs_ => PD.out k_ hk_.1 hs_.1))
 have BG := ak (blk_kept BG.out K (fun h_ => P3.out h_.1))
 have X1 := ak (blk_kept X1.out K (fun h_ => absurd h_.2 (Nat.not_lt.2 N1.out)))
 have T3 := ak (Kd.R_mono (ok' := fun k_ => (P3_ k_ ∨ w.heap.size ≤ k_) ∧ k_ ≠ gb) S (fun k_ h_ => h_.elim (fun h1_ => ⟨.inl h1_.1,fun e_ => P3.out (e_ ▸ h1_.1)⟩) (fun h1_ => ⟨.inr (Nat.le_trans HK.out.1 h1_),fun e_ => absurd LG.out (Nat.not_lt.2 (e_ ▸ Nat.le_trans HK.out.1 h1_))⟩)))
 have HB := ak B
 have HK := ak (HK.out.then_ K (fun _ h_ => .inl (.inl (.inr h_.1))))
 clear S B K BV
 refine hK.out _ _ ⟨(blk_cell BG.out 0).trans rfl,(blk_cell BG.out 1).trans rfl,(blk_cell BG.out 2).trans rfl,(blk_cell BG.out 3).trans rfl,(blk_cell X1.out 0).trans rfl⟩ (fun hHeld => ?_)
 clear hK K
 refine nr_ (some 41) _ ?_
 refine pure_ (i := 9) (N := some 42) (v := ?_) (a' := ?_) #[true,true,true,true,true,true,true,true,true,true,false,false] rfl rfl (by kernel_rfl) (fun _ _ _ h => h) (Or.inl ⟨by rfl,?_⟩) ?_ ?_
 rotate_left
 ·intro w'
  go_simp
  with_reducible rfl
 rotate_left
 ·simp only [Act.put,q1,q2,q3,i64_w,i32_w]
  rfl
 refine pure_ (i := 10) (N := some 43) (v := ?_) (a' := ?_) #[true,true,true,true,true,true,true,true,true,true,true,false] rfl rfl (by kernel_rfl) (fun _ _ _ h => h) (Or.inl ⟨by rfl,?_⟩) ?_ ?_
 rotate_left
 ·intro w'
  go_simp
  with_reducible rfl
 rotate_left
 ·simp only [Act.put,q1,q2,q3,i64_w,i32_w]
  rfl
 refine last_ (i := 11) (N := none) #[true,true,true,true,true,true,true,true,true,true,true,true] rfl rfl (by kernel_rfl) (by decide) (fun K hK => ?_)
 have hs_ : w6.cell? ⟨gb,3,none⟩ = some (.slice A3 p3.length c3) := (blk_cell BG.out 3).trans rfl
 have hf_ := blk_frozen BG.out 3
 refine skip_ (w1 := (w6.setCell ⟨gb,3,none⟩ (.slice A5 (p3.length + 1) c5))) (by rfl) rfl ?_ ?_
 ·first|(go_simp;done)|(go_simp;rfl)|(go_simp;simp)
 refine hK.out _ _ ?_
 clear hK K
 refine done_ (by kernel_rfl) ?_
 clear hs_ hf_ hHeld
 go_wp2
 go_end0
 try rw [Int.toNat_natCast]
 have e_ : (p3.take i ++ [a1] ++ p3.drop i).length = p3.length + 1 := by have := Q2.out;simp;omega
 refine ⟨rfl,A4,c4,A5,c5,?_,Kd.S_mono (Kd.S_far (p := ⟨gb,3,none⟩) T2.out (fun k_ h_ e_ => P2.out (show P2_ gb from (show k_ = gb from e_) ▸ h_.1)) _) (fun _ h_ => h_.1),?_,below_set HB.out GG.out,HK.out.setCell (p := ⟨gb,3,none⟩) (.inl (.inr rfl)) _⟩
 ·rw [e_];refine blk_put (cs := #[.bool b,s1,.slice A4 (p2.filter fun x => !hits a1 a2 x).length c4,.slice A3 p3.length c3]) ?_ 3 _ rfl;exact BG.out
 ·rw [e_];exact Kd.R_mono (Kd.R_far (p := ⟨gb,3,none⟩) T3.out (fun _ h_ => h_.2) _) (fun _ h_ => h_.1)

/-! ### impl_Clear: function 39 -/
theorem hold_39 {p : Prop} (h : Aside0 p) : p := h.out
theorem ty_39 {w : World} {k : Nat} {a b : List Nat} (h1 : ∃ q, q ∈ a ∧ ∃ cs, w.heap[k]? = some (.cells cs q (0, 0))) (h2 : ∃ q, q ∈ b ∧ ∃ cs, w.heap[k]? = some (.cells cs q (0, 0))) (hd : ∀ q, q ∈ a → ¬ q ∈ b) : False := by
 obtain ⟨q,hq,cs,h1⟩ := h1
 obtain ⟨q2,hq2,cs2,h2⟩ := h2
 rw [h1] at h2
 injection h2 with h2
 injection h2 with _ h2
 exact hd q hq (h2 ▸ hq2)
def impl_Clear.f (k : Nat) (a0_0 : Bool) (l0_1 : List (S79)) (l0_2 : List (S45)) (l0_3 : List Int) (a1 a2 : Int) (d : Bool) : Option (Bool × (List (S79)) × (List (S45)) × List Int × Bool) := (impl_isMachineOk.f k a0_0 l0_1 l0_2 l0_3).bind fun t => if t = true then ((impl_isId.f a1).bind fun t2 => if t2 = true then ((if d = true then impl_Machine_canClear.f k l0_3 a1 else some true).bind fun t3 => if t3 = true then ((impl_cloneMachine.f k a0_0 l0_1 l0_2 l0_3).bind fun c => (impl_Machine_clear.f k c.2.2.1 c.2.2.2 a1 a2 d).bind fun q => some (c.1, c.2.1, q.1, q.2, true)) else some (false, [], [], [], false)) else some (false, [], [], [], false)) else some (false, [], [], [], false)
set_option maxHeartbeats 8000000 in
set_option maxRecDepth 100000 in
theorem impl_Clear.calls (k : Nat) (a0_0 : Bool) (A0_1 : Option Addr) (c0_1 : Nat) (l0_1 : List (S79)) (A0_2 : Option Addr) (c0_2 : Nat) (l0_2 : List (S45)) (A0_3 : Option Addr) (c0_3 : Nat) (l0_3 : List Int) (a1 a2 : Int) (d : Bool) (r1 : Bool) (r2 : List (S79)) (r3 : List (S45)) (r4 : List Int) (r5 : Bool) (w : World) (hr0_1 : Kd.C k79 w A0_1 l0_1.length l0_1) (hc0_1 : l0_1.length ≤ c0_1) (hr0_2 : Kd.C k45 w A0_2 l0_2.length l0_2) (hc0_2 : l0_2.length ≤ c0_2) (hr0_3 : Kd.C (Kd.int .i64) w A0_3 l0_3.length l0_3) (hc0_3 : l0_3.length ≤ c0_3) (h : impl_Clear.f k a0_0 l0_1 l0_2 l0_3 a1 a2 d = some (r1, r2, r3, r4, r5)) :
    Calls Try.prog 39 #[.agg #[.bool a0_0, .slice A0_1 l0_1.length c0_1, .slice A0_2 l0_2.length c0_2, .slice A0_3 l0_3.length c0_3], .int .i64 a1, .int .i64 a2, .bool d] w fun e w' => ∃ v1_ v2_ v3_ : Value, e = .returned (.tuple #[.agg #[.bool r1, v1_, v2_, v3_], .bool r5]) ∧ Kd.S k79 79 w' w.heap.size (fun _ => True) v1_ r2 ∧ Kd.S k45 45 w' w.heap.size (fun _ => True) v2_ r3 ∧ Kd.R (Kd.int .i64) 2 w' w.heap.size (fun _ => True) v3_ r4 ∧ Below w.heap.size w w' := by
 have hu := Try.underlying32
 have HR1 := ak hr0_1
 have HC1 := ak hc0_1
 clear hr0_1 hc0_1
 have HR2 := ak hr0_2
 have HC2 := ak hc0_2
 clear hr0_2 hc0_2
 have HR3 := ak hr0_3
 have HC3 := ak hc0_3
 clear hr0_3 hc0_3
 obtain ⟨t,E0,h1⟩ := Option.bind_eq_some_iff.1 h
 clear h
 have H1 := ak h1
 have F0 := ak E0
 clear h1 E0
 go_enter Try.func39,Try.ntmps39
 go_wp2_with ((with_reducible refine gate_dst (N := 4) rfl ?_);refine bx_ 4 #[.bool a0_0,.slice A0_1 l0_1.length c0_1,.slice A0_2 l0_2.length c0_2,.slice A0_3 l0_3.length c0_3] 32 ?_;intro ga hg w1 hbox hb;have hge := ak (Nat.le_of_eq hg.symm);clear hg;refine hold_39 ?_)
 refine ⟨?_⟩
 have D1 := ak hb
 have BM := ak hbox
 clear hb hbox hge
 go_wp2_with ((with_reducible refine gate_dst (N := 8) rfl ?_);refine bx_ 8 #[.bool false,.slice none 0 0,.slice none 0 0,.slice none 0 0] 32 ?_;intro gr hg w2 hbox hb;have hge := ak (Nat.le_of_eq hg.symm);clear hg;refine hold_39 ?_)
 refine ⟨?_⟩
 have GR : Aside0 (w.heap.size ≤ gr) := ⟨Nat.le_trans D1.out.size hge.out⟩
 have D2 := ak (below_step D1.out hb)
 have BM := ak (blk_below BM.out hb)
 have BR := ak hbox
 clear hb hbox hge
 have hcga2_0 : w2.cell? ⟨ga,0,none⟩ = some (.bool a0_0) := (blk_cell BM.out 0).trans rfl
 have hcga2_1 : w2.cell? ⟨ga,1,none⟩ = some (.slice A0_1 l0_1.length c0_1) := (blk_cell BM.out 1).trans rfl
 have hcga2_2 : w2.cell? ⟨ga,2,none⟩ = some (.slice A0_2 l0_2.length c0_2) := (blk_cell BM.out 2).trans rfl
 have hcga2_3 : w2.cell? ⟨ga,3,none⟩ = some (.slice A0_3 l0_3.length c0_3) := (blk_cell BM.out 3).trans rfl
 go_wp2_with ((with_reducible refine gcal_ (f := 53) rfl ?_);refine goesL_ (some 12) rfl rfl Try.func53 (by kernel_rfl) rfl #[.agg #[.bool a0_0,.slice A0_1 l0_1.length c0_1,.slice A0_2 l0_2.length c0_2,.slice A0_3 l0_3.length c0_3]] rfl (by (try simp only [List.map_toArray,List.map_cons,List.map_nil]);first|done|rfl) ?_;refine (impl_isMachineOk.calls k a0_0 A0_1 c0_1 l0_1 A0_2 c0_2 l0_2 A0_3 c0_3 l0_3 t _ (Kd.C_below HR1.out D2.out) HC1.out (Kd.C_below HR2.out D2.out) HC2.out (Kd.C_below HR3.out D2.out) HC3.out F0.out).mono ?_;rintro e w2b ⟨rfl,B⟩;refine ⟨_,rfl,?_⟩;refine hold_39 ?_)
 refine ⟨?_⟩
 have D3 := ak (below_step D2.out B)
 have BM := ak (blk_below BM.out B)
 have BR := ak (blk_below BR.out B)
 clear B
 have hcgr3_0 : w2b.cell? ⟨gr,0,none⟩ = some (.bool false) := (blk_cell BR.out 0).trans rfl
 have hcgr3_1 : w2b.cell? ⟨gr,1,none⟩ = some (.slice none 0 0) := (blk_cell BR.out 1).trans rfl
 have hcgr3_2 : w2b.cell? ⟨gr,2,none⟩ = some (.slice none 0 0) := (blk_cell BR.out 2).trans rfl
 have hcgr3_3 : w2b.cell? ⟨gr,3,none⟩ = some (.slice none 0 0) := (blk_cell BR.out 3).trans rfl
 have hfr3_0 := blk_frozen BR.out 0
 have hfr3_1 := blk_frozen BR.out 1
 have hfr3_2 := blk_frozen BR.out 2
 have hfr3_3 := blk_frozen BR.out 3
 cases t with
  | false =>
  have h1 := H1.out
  rw [if_neg (by simp)] at h1
  clear H1
  simp only [Option.some.injEq,Prod.mk.injEq] at h1
  obtain ⟨rfl,rfl,rfl,rfl,rfl⟩ := h1
  go_wp2
  refine bodyPost_ret (results_ct rfl _ _ gr 32 #[.bool false,.slice none 0 0,.slice none 0 0,.slice none 0 0] (0,0) _ rfl (pt4_ BR.out _ _ _ _) Try.underlying32 rfl (by kernel_rfl)) rfl ?_
  exact ⟨.slice none 0 0,.slice none 0 0,.slice none 0 0,by first|rfl|(simp;done),Kd.S_nil _ _ _ _ _,Kd.S_nil _ _ _ _ _,Kd.R_nil _ _ _ _ _,below_set (below_set (below_set (below_set D3.out GR.out) GR.out) GR.out) GR.out⟩
  | true =>
 have h1 := H1.out
 rw [if_pos rfl] at h1
 clear H1
 obtain ⟨t2,E9,h2⟩ := Option.bind_eq_some_iff.1 h1
 clear h1
 have H1 := ak h2
 have F9 := ak E9
 clear h2 E9
 go_wp2_with (go_at_call 92;refine (impl_isId.calls a1 t2 _ F9.out).mono ?_;rintro e w3a ⟨rfl,B0⟩;(try dsimp only);refine hold_39 ?_)
 refine ⟨?_⟩
 have B := B0.below
 have D3 := ak (below_step D3.out B)
 have BM := ak (blk_below BM.out B)
 have BR := ak (blk_below BR.out B)
 clear B B0
 clear hcgr3_0 hfr3_0 hcgr3_1 hfr3_1 hcgr3_2 hfr3_2 hcgr3_3 hfr3_3
 have hcgr4_0 : w3a.cell? ⟨gr,0,none⟩ = some (.bool false) := (blk_cell BR.out 0).trans rfl
 have hcgr4_1 : w3a.cell? ⟨gr,1,none⟩ = some (.slice none 0 0) := (blk_cell BR.out 1).trans rfl
 have hcgr4_2 : w3a.cell? ⟨gr,2,none⟩ = some (.slice none 0 0) := (blk_cell BR.out 2).trans rfl
 have hcgr4_3 : w3a.cell? ⟨gr,3,none⟩ = some (.slice none 0 0) := (blk_cell BR.out 3).trans rfl
 have hfr4_0 := blk_frozen BR.out 0
 have hfr4_1 := blk_frozen BR.out 1
 have hfr4_2 := blk_frozen BR.out 2
 have hfr4_3 := blk_frozen BR.out 3
 have hcga4_0 : w3a.cell? ⟨ga,0,none⟩ = some (.bool a0_0) := (blk_cell BM.out 0).trans rfl
 have hcga4_1 : w3a.cell? ⟨ga,1,none⟩ = some (.slice A0_1 l0_1.length c0_1) := (blk_cell BM.out 1).trans rfl
 have hcga4_2 : w3a.cell? ⟨ga,2,none⟩ = some (.slice A0_2 l0_2.length c0_2) := (blk_cell BM.out 2).trans rfl
 have hcga4_3 : w3a.cell? ⟨ga,3,none⟩ = some (.slice A0_3 l0_3.length c0_3) := (blk_cell BM.out 3).trans rfl
 cases t2 with
  | false =>
  have h1 := H1.out
  rw [if_neg (by simp)] at h1
  clear H1
  simp only [Option.some.injEq,Prod.mk.injEq] at h1
  obtain ⟨rfl,rfl,rfl,rfl,rfl⟩ := h1
  go_wp2
  refine bodyPost_ret (results_ct rfl _ _ gr 32 #[.bool false,.slice none 0 0,.slice none 0 0,.slice none 0 0] (0,0) _ rfl (pt4_ BR.out _ _ _ _) Try.underlying32 rfl (by kernel_rfl)) rfl ?_
  exact ⟨.slice none 0 0,.slice none 0 0,.slice none 0 0,by first|rfl|(simp;done),Kd.S_nil _ _ _ _ _,Kd.S_nil _ _ _ _ _,Kd.R_nil _ _ _ _ _,below_set (below_set (below_set (below_set D3.out GR.out) GR.out) GR.out) GR.out⟩
  | true =>
 have h1 := H1.out
 rw [if_pos rfl] at h1
 clear H1
 obtain ⟨t3,E9,h2⟩ := Option.bind_eq_some_iff.1 h1
 clear h1
 have H1 := ak h2
 clear h2
 cases d with
  | false =>
  obtain rfl := Option.some.inj E9
  clear E9
  have h1 := H1.out
  rw [if_pos rfl] at h1
  clear H1
  obtain ⟨⟨b,p1,p2,p3⟩,E1,h2⟩ := Option.bind_eq_some_iff.1 h1
  clear h1
  obtain ⟨⟨q2,q3⟩,E2,h3⟩ := Option.bind_eq_some_iff.1 h2
  clear h2
  simp only [Option.some.injEq,Prod.mk.injEq] at h3
  obtain ⟨rfl,rfl,rfl,rfl,rfl⟩ := h3
  have F1 := ak E1
  have F2 := ak E2
  clear E1 E2
  go_wp2_with ((with_reducible refine gcal_ (f := 76) rfl ?_);refine goesL_ (some 29) rfl rfl Try.func76 (by kernel_rfl) rfl #[.agg #[.bool a0_0,.slice A0_1 l0_1.length c0_1,.slice A0_2 l0_2.length c0_2,.slice A0_3 l0_3.length c0_3]] rfl (by (try simp only [List.map_toArray,List.map_cons,List.map_nil]);first|done|rfl) ?_;refine (impl_cloneMachine.calls k a0_0 A0_1 c0_1 l0_1 A0_2 c0_2 l0_2 A0_3 c0_3 l0_3 b p1 p2 p3 _ (Kd.C_below HR1.out D3.out) HC1.out (Kd.C_below HR2.out D3.out) HC2.out (Kd.C_below HR3.out D3.out) HC3.out F1.out).mono ?_;rintro e w4 ⟨v1,v2,v3,rfl,S1,S2,S3,B⟩;refine ⟨_,rfl,?_⟩;refine hold_39 ?_)
  refine ⟨?_⟩
  clear hcgr4_0 hfr4_0 hcga4_0 hcgr4_1 hfr4_1 hcga4_1 hcgr4_2 hfr4_2 hcga4_2 hcgr4_3 hfr4_3 hcga4_3
  have T1 := ak S1
  have T2 := ak S2
  have T3 := ak S3
  have LG := ak (blk_lt BR.out)
  have G := ak B
  have D4 := ak (below_step D3.out B)
  have BR := ak (blk_below BR.out B)
  clear S1 S2 S3 B BM
  obtain ⟨A1,c1,e1_⟩ := Kd.S_slice T1.out
  subst e1_
  obtain ⟨A2,c2,e2_⟩ := Kd.S_slice T2.out
  subst e2_
  obtain ⟨A3,c3,e3_⟩ := Kd.R_slice T3.out
  subst e3_
  go_wp2_with ((with_reducible refine gate_dst (N := 10) rfl ?_);refine bx_ 10 #[.bool false,.slice none 0 0,.slice none 0 0,.slice none 0 0] 32 ?_;intro go hg w5 hbox hb;have hge := ak (Nat.le_of_eq hg.symm);clear hg;refine hold_39 ?_)
  refine ⟨?_⟩
  have BZ := ak hbox
  have Q0 := ak hb
  have HGE := hge
  clear hbox hb hge
  have hcgoy_0 : w5.cell? ⟨go,0,none⟩ = some (.bool false) := (blk_cell BZ.out 0).trans rfl
  have hcgoy_1 : w5.cell? ⟨go,1,none⟩ = some (.slice none 0 0) := (blk_cell BZ.out 1).trans rfl
  have hcgoy_2 : w5.cell? ⟨go,2,none⟩ = some (.slice none 0 0) := (blk_cell BZ.out 2).trans rfl
  have hcgoy_3 : w5.cell? ⟨go,3,none⟩ = some (.slice none 0 0) := (blk_cell BZ.out 3).trans rfl
  have hfy_0 := blk_frozen BZ.out 0
  have hfy_1 := blk_frozen BZ.out 1
  have hfy_2 := blk_frozen BZ.out 2
  have hfy_3 := blk_frozen BZ.out 3
  go_upto_region 4 with (fail)
  have n0_ : Aside0 (Below w4.heap.size w4 ((((w5.setCell ⟨go,0,none⟩ (.bool b)).setCell ⟨go,1,none⟩ (.slice A1 p1.length c1)).setCell ⟨go,2,none⟩ (.slice A2 p2.length c2)).setCell ⟨go,3,none⟩ (.slice A3 p3.length c3))) := ⟨below_set (below_set (below_set (below_set Q0.out HGE.out) HGE.out) HGE.out) HGE.out⟩
  have n1_ : Aside0 (((((w5.setCell ⟨go,0,none⟩ (.bool b)).setCell ⟨go,1,none⟩ (.slice A1 p1.length c1)).setCell ⟨go,2,none⟩ (.slice A2 p2.length c2)).setCell ⟨go,3,none⟩ (.slice A3 p3.length c3)).heap[go]? = some (.cells #[.bool b,.slice A1 p1.length c1,.slice A2 p2.length c2,.slice A3 p3.length c3] 32 (0,0))) := ⟨pt4_ BZ.out _ _ _ _⟩
  clear BZ Q0
  clear hcgoy_0 hfy_0 hcgoy_1 hfy_1 hcgoy_2 hfy_2 hcgoy_3 hfy_3
  generalize ((((w5.setCell ⟨go,0,none⟩ (.bool b)).setCell ⟨go,1,none⟩ (.slice A1 p1.length c1)).setCell ⟨go,2,none⟩ (.slice A2 p2.length c2)).setCell ⟨go,3,none⟩ (.slice A3 p3.length c3)) = w6 at n0_ n1_ ⊢
  have B := n0_.out
  have BG := n1_
  clear n0_ n1_
  have T1 := ak (Kd.S_bound (Kd.S_below T1.out B))
  have T2 := ak (Kd.S_bound (Kd.S_below T2.out B))
  have T3 := ak (Kd.R_bound (Kd.R_below T3.out B))
  have GO : Aside0 (w3a.heap.size ≤ go) := ⟨Nat.le_trans G.out.size HGE.out⟩
  have G := ak (below_step G.out B)
  have D6 := ak (below_step D4.out B)
  have BR := ak (blk_below BR.out B)
  clear B D4
  have NG : Aside0 (gr ≠ go) := ⟨Nat.ne_of_lt (Nat.lt_of_lt_of_le LG.out GO.out)⟩
  go_wp2_with ((with_reducible refine gcal_ (f := 94) rfl ?_);refine goesL_ (some 33) rfl rfl Try.func94 (by kernel_rfl) rfl #[.pointer (some ⟨go,0,none⟩),.int .i64 a1,.int .i64 a2,.bool false] rfl (by (try simp only [List.map_toArray,List.map_cons,List.map_nil]);first|done|rfl) ?_;refine (impl_Machine_clear.calls k (fun k_ => True ∧ w3a.heap.size ≤ k_ ∧ k_ < w6.heap.size ∧ ∃ q,q ∈ 45 :: (k45).E ∧ ∃ cells,w6.heap[k_]? = some (.cells cells q (0,0))) (fun k_ => True ∧ w3a.heap.size ≤ k_ ∧ k_ < w6.heap.size ∧ ∃ q,q ∈ 2 :: ((Kd.int .i64)).E ∧ ∃ cells,w6.heap[k_]? = some (.cells cells q (0,0))) go b (.slice A1 p1.length c1) A2 c2 p2 A3 c3 p3 a1 a2 false q2 q3 w3a _ G.out GO.out BG.out (fun hs_ => ty_39 ⟨32,List.mem_singleton.2 rfl,_,BG.out⟩ hs_.2.2.2 (by decide)) (fun hs_ => ty_39 ⟨32,List.mem_singleton.2 rfl,_,BG.out⟩ hs_.2.2.2 (by decide)) (fun k_ h1_ h2_ => ty_39 h1_.2.2.2 h2_.2.2.2 (by decide)) T2.out T3.out F2.out).mono ?_;rintro e w7 ⟨rfl,A4,c4,A5,c5,BG2,S2,S3,B,K⟩;refine ⟨_,rfl,?_⟩;refine hold_39 ?_)
  refine ⟨?_⟩
  have T1 := ak (Kd.S_kept T1.out K (fun k_ hk_ hs_ => hs_.elim (fun h_ => h_.elim (fun h_ => ty_39 hk_.2.2.2 h_.2.2.2 (by decide)) (fun h_ => ty_39 hk_.2.2.2 h_.2.2.2 (by decide))) (fun e_ => ty_39 (e_ ▸ hk_.2.2.2) ⟨32,List.mem_singleton.2 rfl,_,BG.out⟩ (by decide))))
  have T2 := ak S2
  have T3 := ak S3
  have BR2 := ak (blk_kept BR.out K (fun hs_ => hs_.elim (fun h_ => h_.elim (fun hs_ => ty_39 ⟨32,List.mem_singleton.2 rfl,_,BR.out⟩ hs_.2.2.2 (by decide)) (fun hs_ => ty_39 ⟨32,List.mem_singleton.2 rfl,_,BR.out⟩ hs_.2.2.2 (by decide))) NG.out))
  have BG := ak BG2
  have D7 := ak (below_step D3.out B)
  clear S2 S3 B K BG2 BR
  have BR := BR2
  clear BR2
  have hcgo7_0 : w7.cell? ⟨go,0,none⟩ = some (.bool b) := (blk_cell BG.out 0).trans rfl
  have hcgo7_1 : w7.cell? ⟨go,1,none⟩ = some (.slice A1 p1.length c1) := (blk_cell BG.out 1).trans rfl
  have hcgo7_2 : w7.cell? ⟨go,2,none⟩ = some (.slice A4 q2.length c4) := (blk_cell BG.out 2).trans rfl
  have hcgo7_3 : w7.cell? ⟨go,3,none⟩ = some (.slice A5 q3.length c5) := (blk_cell BG.out 3).trans rfl
  have hcgr7_0 : w7.cell? ⟨gr,0,none⟩ = some (.bool false) := (blk_cell BR.out 0).trans rfl
  have hcgr7_1 : w7.cell? ⟨gr,1,none⟩ = some (.slice none 0 0) := (blk_cell BR.out 1).trans rfl
  have hcgr7_2 : w7.cell? ⟨gr,2,none⟩ = some (.slice none 0 0) := (blk_cell BR.out 2).trans rfl
  have hcgr7_3 : w7.cell? ⟨gr,3,none⟩ = some (.slice none 0 0) := (blk_cell BR.out 3).trans rfl
  have hfr7_0 := blk_frozen BR.out 0
  have hfr7_1 := blk_frozen BR.out 1
  have hfr7_2 := blk_frozen BR.out 2
  have hfr7_3 := blk_frozen BR.out 3
  go_wp2
  refine bodyPost_ret (results_ct rfl _ _ gr 32 #[.bool b,.slice A1 p1.length c1,.slice A4 q2.length c4,.slice A5 q3.length c5] (0,0) _ rfl (pt4_ BR.out _ _ _ _) Try.underlying32 rfl (by kernel_rfl)) rfl ?_
  exact ⟨.slice A1 p1.length c1,.slice A4 q2.length c4,.slice A5 q3.length c5,by first|rfl|(simp;done),Kd.S_mono (Kd.S_far (p := ⟨gr,3,none⟩) (Kd.S_far (p := ⟨gr,2,none⟩) (Kd.S_far (p := ⟨gr,1,none⟩) (Kd.S_far (p := ⟨gr,0,none⟩) (Kd.S_types (Kd.S_lower T1.out D3.out.size) BR.out (by decide)) (fun _ h_ => h_.2) (.bool b)) (fun _ h_ => h_.2) (.slice A1 p1.length c1)) (fun _ h_ => h_.2) (.slice A4 q2.length c4)) (fun _ h_ => h_.2) (.slice A5 q3.length c5)) (fun _ _ => trivial),Kd.S_mono (Kd.S_far (p := ⟨gr,3,none⟩) (Kd.S_far (p := ⟨gr,2,none⟩) (Kd.S_far (p := ⟨gr,1,none⟩) (Kd.S_far (p := ⟨gr,0,none⟩) (Kd.S_types (Kd.S_lower T2.out D3.out.size) BR.out (by decide)) (fun _ h_ => h_.2) (.bool b)) (fun _ h_ => h_.2) (.slice A1 p1.length c1)) (fun _ h_ => h_.2) (.slice A4 q2.length c4)) (fun _ h_ => h_.2) (.slice A5 q3.length c5)) (fun _ _ => trivial),Kd.R_mono (Kd.R_far (p := ⟨gr,3,none⟩) (Kd.R_far (p := ⟨gr,2,none⟩) (Kd.R_far (p := ⟨gr,1,none⟩) (Kd.R_far (p := ⟨gr,0,none⟩) (Kd.R_types (Kd.R_lower T3.out D3.out.size) BR.out (by decide)) (fun _ h_ => h_.2) (.bool b)) (fun _ h_ => h_.2) (.slice A1 p1.length c1)) (fun _ h_ => h_.2) (.slice A4 q2.length c4)) (fun _ h_ => h_.2) (.slice A5 q3.length c5)) (fun _ _ => trivial),below_set (below_set (below_set (below_set D7.out GR.out) GR.out) GR.out) GR.out⟩
  | true =>
 have F8 : Aside0 (impl_Machine_canClear.f k l0_3 a1 = some t3) := ⟨E9⟩
 clear E9
 go_wp2_with (go_at_call 93;refine (impl_Machine_canClear.calls k ga (.bool a0_0) (.slice A0_1 l0_1.length c0_1) (.slice A0_2 l0_2.length c0_2) A0_3 c0_3 l0_3 a1 t3 _ BM.out (Kd.C_below HR3.out D3.out) HC3.out F8.out).mono ?_;rintro e w3b ⟨rfl,B⟩;(try dsimp only);refine hold_39 ?_)
 refine ⟨?_⟩
 have D3 := ak (below_step D3.out B)
 have BM := ak (blk_below BM.out B)
 have BR := ak (blk_below BR.out B)
 clear B
 clear hcgr4_0 hfr4_0 hcga4_0 hcgr4_1 hfr4_1 hcga4_1 hcgr4_2 hfr4_2 hcga4_2 hcgr4_3 hfr4_3 hcga4_3
 have hcgr5_0 : w3b.cell? ⟨gr,0,none⟩ = some (.bool false) := (blk_cell BR.out 0).trans rfl
 have hcgr5_1 : w3b.cell? ⟨gr,1,none⟩ = some (.slice none 0 0) := (blk_cell BR.out 1).trans rfl
 have hcgr5_2 : w3b.cell? ⟨gr,2,none⟩ = some (.slice none 0 0) := (blk_cell BR.out 2).trans rfl
 have hcgr5_3 : w3b.cell? ⟨gr,3,none⟩ = some (.slice none 0 0) := (blk_cell BR.out 3).trans rfl
 have hfr5_0 := blk_frozen BR.out 0
 have hfr5_1 := blk_frozen BR.out 1
 have hfr5_2 := blk_frozen BR.out 2
 have hfr5_3 := blk_frozen BR.out 3
 have hcga5_0 : w3b.cell? ⟨ga,0,none⟩ = some (.bool a0_0) := (blk_cell BM.out 0).trans rfl
 have hcga5_1 : w3b.cell? ⟨ga,1,none⟩ = some (.slice A0_1 l0_1.length c0_1) := (blk_cell BM.out 1).trans rfl
 have hcga5_2 : w3b.cell? ⟨ga,2,none⟩ = some (.slice A0_2 l0_2.length c0_2) := (blk_cell BM.out 2).trans rfl
 have hcga5_3 : w3b.cell? ⟨ga,3,none⟩ = some (.slice A0_3 l0_3.length c0_3) := (blk_cell BM.out 3).trans rfl
 cases t3 with
  | false =>
  have h1 := H1.out
  rw [if_neg (by simp)] at h1
  clear H1
  simp only [Option.some.injEq,Prod.mk.injEq] at h1
  obtain ⟨rfl,rfl,rfl,rfl,rfl⟩ := h1
  go_wp2
  refine bodyPost_ret (results_ct rfl _ _ gr 32 #[.bool false,.slice none 0 0,.slice none 0 0,.slice none 0 0] (0,0) _ rfl (pt4_ BR.out _ _ _ _) Try.underlying32 rfl (by kernel_rfl)) rfl ?_
  exact ⟨.slice none 0 0,.slice none 0 0,.slice none 0 0,by first|rfl|(simp;done),Kd.S_nil _ _ _ _ _,Kd.S_nil _ _ _ _ _,Kd.R_nil _ _ _ _ _,below_set (below_set (below_set (below_set D3.out GR.out) GR.out) GR.out) GR.out⟩
  | true =>
  have h1 := H1.out
  rw [if_pos rfl] at h1
  clear H1
  obtain ⟨⟨b,p1,p2,p3⟩,E1,h2⟩ := Option.bind_eq_some_iff.1 h1
  clear h1
  obtain ⟨⟨q2,q3⟩,E2,h3⟩ := Option.bind_eq_some_iff.1 h2
  clear h2
  simp only [Option.some.injEq,Prod.mk.injEq] at h3
  obtain ⟨rfl,rfl,rfl,rfl,rfl⟩ := h3
  have F1 := ak E1
  have F2 := ak E2
  clear E1 E2
  go_wp2_with ((with_reducible refine gcal_ (f := 76) rfl ?_);refine goesL_ (some 29) rfl rfl Try.func76 (by kernel_rfl) rfl #[.agg #[.bool a0_0,.slice A0_1 l0_1.length c0_1,.slice A0_2 l0_2.length c0_2,.slice A0_3 l0_3.length c0_3]] rfl (by (try simp only [List.map_toArray,List.map_cons,List.map_nil]);first|done|rfl) ?_;refine (impl_cloneMachine.calls k a0_0 A0_1 c0_1 l0_1 A0_2 c0_2 l0_2 A0_3 c0_3 l0_3 b p1 p2 p3 _ (Kd.C_below HR1.out D3.out) HC1.out (Kd.C_below HR2.out D3.out) HC2.out (Kd.C_below HR3.out D3.out) HC3.out F1.out).mono ?_;rintro e w4 ⟨v1,v2,v3,rfl,S1,S2,S3,B⟩;refine ⟨_,rfl,?_⟩;refine hold_39 ?_)
  refine ⟨?_⟩
  clear hcgr5_0 hfr5_0 hcga5_0 hcgr5_1 hfr5_1 hcga5_1 hcgr5_2 hfr5_2 hcga5_2 hcgr5_3 hfr5_3 hcga5_3
  have T1 := ak S1
  have T2 := ak S2
  have T3 := ak S3
  have LG := ak (blk_lt BR.out)
  have G := ak B
  have D4 := ak (below_step D3.out B)
  have BR := ak (blk_below BR.out B)
  clear S1 S2 S3 B BM
  obtain ⟨A1,c1,e1_⟩ := Kd.S_slice T1.out
  subst e1_
  obtain ⟨A2,c2,e2_⟩ := Kd.S_slice T2.out
  subst e2_
  obtain ⟨A3,c3,e3_⟩ := Kd.R_slice T3.out
  subst e3_
  go_wp2_with ((with_reducible refine gate_dst (N := 10) rfl ?_);refine bx_ 10 #[.bool false,.slice none 0 0,.slice none 0 0,.slice none 0 0] 32 ?_;intro go hg w5 hbox hb;have hge := ak (Nat.le_of_eq hg.symm);clear hg;refine hold_39 ?_)
  refine ⟨?_⟩
  have BZ := ak hbox
  have Q0 := ak hb
  have HGE := hge
  clear hbox hb hge
  have hcgoy_0 : w5.cell? ⟨go,0,none⟩ = some (.bool false) := (blk_cell BZ.out 0).trans rfl
  have hcgoy_1 : w5.cell? ⟨go,1,none⟩ = some (.slice none 0 0) := (blk_cell BZ.out 1).trans rfl
  have hcgoy_2 : w5.cell? ⟨go,2,none⟩ = some (.slice none 0 0) := (blk_cell BZ.out 2).trans rfl
  have hcgoy_3 : w5.cell? ⟨go,3,none⟩ = some (.slice none 0 0) := (blk_cell BZ.out 3).trans rfl
  have hfy_0 := blk_frozen BZ.out 0
  have hfy_1 := blk_frozen BZ.out 1
  have hfy_2 := blk_frozen BZ.out 2
  have hfy_3 := blk_frozen BZ.out 3
  go_upto_region 4 with (fail)
  have n0_ : Aside0 (Below w4.heap.size w4 ((((w5.setCell ⟨go,0,none⟩ (.bool b)).setCell ⟨go,1,none⟩ (.slice A1 p1.length c1)).setCell ⟨go,2,none⟩ (.slice A2 p2.length c2)).setCell ⟨go,3,none⟩ (.slice A3 p3.length c3))) := ⟨below_set (below_set (below_set (below_set Q0.out HGE.out) HGE.out) HGE.out) HGE.out⟩
  have n1_ : Aside0 (((((w5.setCell ⟨go,0,none⟩ (.bool b)).setCell ⟨go,1,none⟩ (.slice A1 p1.length c1)).setCell ⟨go,2,none⟩ (.slice A2 p2.length c2)).setCell ⟨go,3,none⟩ (.slice A3 p3.length c3)).heap[go]? = some (.cells #[.bool b,.slice A1 p1.length c1,.slice A2 p2.length c2,.slice A3 p3.length c3] 32 (0,0))) := ⟨pt4_ BZ.out _ _ _ _⟩
  clear BZ Q0
  clear hcgoy_0 hfy_0 hcgoy_1 hfy_1 hcgoy_2 hfy_2 hcgoy_3 hfy_3
  generalize ((((w5.setCell ⟨go,0,none⟩ (.bool b)).setCell ⟨go,1,none⟩ (.slice A1 p1.length c1)).setCell ⟨go,2,none⟩ (.slice A2 p2.length c2)).setCell ⟨go,3,none⟩ (.slice A3 p3.length c3)) = w6 at n0_ n1_ ⊢
  have B := n0_.out
  have BG := n1_
  clear n0_ n1_
  have T1 := ak (Kd.S_bound (Kd.S_below T1.out B))
  have T2 := ak (Kd.S_bound (Kd.S_below T2.out B))
  have T3 := ak (Kd.R_bound (Kd.R_below T3.out B))
  have GO : Aside0 (w3b.heap.size ≤ go) := ⟨Nat.le_trans G.out.size HGE.out⟩
  have G := ak (below_step G.out B)
  have D6 := ak (below_step D4.out B)
  have BR := ak (blk_below BR.out B)
  clear B D4
  have NG : Aside0 (gr ≠ go) := ⟨Nat.ne_of_lt (Nat.lt_of_lt_of_le LG.out GO.out)⟩
  go_wp2_with ((with_reducible refine gcal_ (f := 94) rfl ?_);refine goesL_ (some 33) rfl rfl Try.func94 (by kernel_rfl) rfl #[.pointer (some ⟨go,0,none⟩),.int .i64 a1,.int .i64 a2,.bool true] rfl (by (try simp only [List.map_toArray,List.map_cons,List.map_nil]);first|done|rfl) ?_;refine (impl_Machine_clear.calls k (fun k_ => True ∧ w3b.heap.size ≤ k_ ∧ k_ < w6.heap.size ∧ ∃ q,q ∈ 45 :: (k45).E ∧ ∃ cells,w6.heap[k_]? = some (.cells cells q (0,0))) (fun k_ => True ∧ w3b.heap.size ≤ k_ ∧ k_ < w6.heap.size ∧ ∃ q,q ∈ 2 :: ((Kd.int .i64)).E ∧ ∃ cells,w6.heap[k_]? = some (.cells cells q (0,0))) go b (.slice A1 p1.length c1) A2 c2 p2 A3 c3 p3 a1 a2 true q2 q3 w3b _ G.out GO.out BG.out (fun hs_ => ty_39 ⟨32,List.mem_singleton.2 rfl,_,BG.out⟩ hs_.2.2.2 (by decide)) (fun hs_ => ty_39 ⟨32,List.mem_singleton.2 rfl,_,BG.out⟩ hs_.2.2.2 (by decide)) (fun k_ h1_ h2_ => ty_39 h1_.2.2.2 h2_.2.2.2 (by decide)) T2.out T3.out F2.out).mono ?_;rintro e w7 ⟨rfl,A4,c4,A5,c5,BG2,S2,S3,B,K⟩;refine ⟨_,rfl,?_⟩;refine hold_39 ?_)
  refine ⟨?_⟩
  have T1 := ak (Kd.S_kept T1.out K (fun k_ hk_ hs_ => hs_.elim (fun h_ => h_.elim (fun h_ => ty_39 hk_.2.2.2 h_.2.2.2 (by decide)) (fun h_ => ty_39 hk_.2.2.2 h_.2.2.2 (by decide))) (fun e_ => ty_39 (e_ ▸ hk_.2.2.2) ⟨32,List.mem_singleton.2 rfl,_,BG.out⟩ (by decide))))
  have T2 := ak S2
  have T3 := ak S3
  have BR2 := ak (blk_kept BR.out K (fun hs_ => hs_.elim (fun h_ => h_.elim (fun hs_ => ty_39 ⟨32,List.mem_singleton.2 rfl,_,BR.out⟩ hs_.2.2.2 (by decide)) (fun hs_ => ty_39 ⟨32,List.mem_singleton.2 rfl,_,BR.out⟩ hs_.2.2.2 (by decide))) NG.out))
  have BG := ak BG2
  have D7 := ak (below_step D3.out B)
  clear S2 S3 B K BG2 BR
  have BR := BR2
  clear BR2
  have hcgo7_0 : w7.cell? ⟨go,0,none⟩ = some (.bool b) := (blk_cell BG.out 0).trans rfl
  have hcgo7_1 : w7.cell? ⟨go,1,none⟩ = some (.slice A1 p1.length c1) := (blk_cell BG.out 1).trans rfl
  have hcgo7_2 : w7.cell? ⟨go,2,none⟩ = some (.slice A4 q2.length c4) := (blk_cell BG.out 2).trans rfl
  have hcgo7_3 : w7.cell? ⟨go,3,none⟩ = some (.slice A5 q3.length c5) := (blk_cell BG.out 3).trans rfl
  have hcgr7_0 : w7.cell? ⟨gr,0,none⟩ = some (.bool false) := (blk_cell BR.out 0).trans rfl
  have hcgr7_1 : w7.cell? ⟨gr,1,none⟩ = some (.slice none 0 0) := (blk_cell BR.out 1).trans rfl
  have hcgr7_2 : w7.cell? ⟨gr,2,none⟩ = some (.slice none 0 0) := (blk_cell BR.out 2).trans rfl
  have hcgr7_3 : w7.cell? ⟨gr,3,none⟩ = some (.slice none 0 0) := (blk_cell BR.out 3).trans rfl
  have hfr7_0 := blk_frozen BR.out 0
  have hfr7_1 := blk_frozen BR.out 1
  have hfr7_2 := blk_frozen BR.out 2
  have hfr7_3 := blk_frozen BR.out 3
  go_wp2
  refine bodyPost_ret (results_ct rfl _ _ gr 32 #[.bool b,.slice A1 p1.length c1,.slice A4 q2.length c4,.slice A5 q3.length c5] (0,0) _ rfl (pt4_ BR.out _ _ _ _) Try.underlying32 rfl (by kernel_rfl)) rfl ?_
  exact ⟨.slice A1 p1.length c1,.slice A4 q2.length c4,.slice A5 q3.length c5,by first|rfl|(simp;done),Kd.S_mono (Kd.S_far (p := ⟨gr,3,none⟩) (Kd.S_far (p := ⟨gr,2,none⟩) (Kd.S_far (p := ⟨gr,1,none⟩) (Kd.S_far (p := ⟨gr,0,none⟩) (Kd.S_types (Kd.S_lower T1.out D3.out.size) BR.out (by decide)) (fun _ h_ => h_.2) (.bool b)) (fun _ h_ => h_.2) (.slice A1 p1.length c1)) (fun _ h_ => h_.2) (.slice A4 q2.length c4)) (fun _ h_ => h_.2) (.slice A5 q3.length c5)) (fun _ _ => trivial),Kd.S_mono (Kd.S_far (p := ⟨gr,3,none⟩) (Kd.S_far (p := ⟨gr,2,none⟩) (Kd.S_far (p := ⟨gr,1,none⟩) (Kd.S_far (p := ⟨gr,0,none⟩) (Kd.S_types (Kd.S_lower T2.out D3.out.size) BR.out (by decide)) (fun _ h_ => h_.2) (.bool b)) (fun _ h_ => h_.2) (.slice A1 p1.length c1)) (fun _ h_ => h_.2) (.slice A4 q2.length c4)) (fun _ h_ => h_.2) (.slice A5 q3.length c5)) (fun _ _ => trivial),Kd.R_mono (Kd.R_far (p := ⟨gr,3,none⟩) (Kd.R_far (p := ⟨gr,2,none⟩) (Kd.R_far (p := ⟨gr,1,none⟩) (Kd.R_far (p := ⟨gr,0,none⟩) (Kd.R_types (Kd.R_lower T3.out D3.out.size) BR.out (by decide)) (fun _ h_ => h_.2) (.bool b)) (fun _ h_ => h_.2) (.slice A1 p1.length c1)) (fun _ h_ => h_.2) (.slice A4 q2.length c4)) (fun _ h_ => h_.2) (.slice A5 q3.length c5)) (fun _ _ => trivial),below_set (below_set (below_set (below_set D7.out GR.out) GR.out) GR.out) GR.out⟩

/-! ### spec_l3Has: function 96 -/
def spec_l3Has.l0 : Nat → List Int → Int → Int → Option (Bool)
  | 0, _, _, _ => none
  | k + 1, x0, x1, x5 => if x5 < (x0.length : Int) then (if 0 ≤ x5 then (if (rd x0 x5) = x1 then (some true) else (spec_l3Has.l0 k x0 x1 (wrap64 (x5 + 1)))) else (none)) else (some false)
def spec_l3Has.f (k : Nat) (l0 : List Int) (a1 : Int) : Option (Bool) := spec_l3Has.l0 k l0 a1 0

set_option maxHeartbeats 8000000 in
set_option maxRecDepth 100000 in
theorem spec_l3Has.calls (k : Nat) (A0 : Option Addr) (c0 : Nat) (l0 : List Int) (a1 : Int) (r : Bool) (w : World) (hr0 : Kd.C (Kd.int .i64) w A0 l0.length l0) (hc0 : l0.length ≤ c0) (h : spec_l3Has.f k l0 a1 = some r) :
    Calls Try.prog 96 #[.slice A0 l0.length c0, .int .i64 a1] w fun e w' => e = .returned (.bool r) ∧ Drawn0 w w' := by
 have HR0 := ak hr0
 have HC0 := ak hc0
 clear hr0 hc0
 have H : (spec_l3Has.l0 k l0 a1 0) = some r := h
 clear h
 have H' := ak H
 clear H
 go_enter Try.func96,Try.ntmps96
 go_wp2
 go_loopg [5] k (fun kq v5 w' => ∃ (x5_1 : Int),v5 = .int .i64 x5_1 ∧ Aside0 (spec_l3Has.l0 kq l0 a1 x5_1 = some r) ∧ Aside0 (kq ≤ k) ∧ Drawn0 w w')
 case atStart => exact ⟨(0),rs_,H',⟨Nat.le_refl _⟩,by repeat (first|exact Drawn0.refl _|apply Drawn0.step)⟩
 case round =>
  clear H'
  try clear p2
  obtain ⟨x5_1,rfl,HA,HK1,⟨m1,rfl⟩⟩ := hrel
  cases gk with
    | zero => exact absurd HA.out (by simp [spec_l3Has.l0])
    | succ k1 =>
   have H := HA.out
   clear HA
   simp only [spec_l3Has.l0] at H
   by_cases c3 : x5_1 < (l0.length : Int)
   ·rw [if_pos c3] at H
    have c3b0 : decide (x5_1 < (l0.length : Int)) = true := decide_eq_true c3
    clear c3
    by_cases c4 : 0 ≤ x5_1
    ·rw [if_pos c4] at H
     have c4b0 : decide (0 ≤ x5_1) = true := decide_eq_true c4
     clear c4
     by_cases c5 : (rd l0 x5_1) = a1
     ·rw [if_pos c5] at H
      have c5b0 : ((rd l0 x5_1) == a1) = true := beq_iff_eq.mpr c5
      have c5b1 : ((rd l0 x5_1) != a1) = false := bne_eq_false_iff_eq.mpr c5
      clear c5
      obtain rfl := Option.some.inj H
      have p318 : 0 ≤ (x5_1 : Int) := od_
      have q318 : x5_1 < (l0.length : Int) := od_
      obtain ⟨ad318,e318,hx318_0⟩ := Kd.at_int HR0.out x5_1 p318 q318
      cases e318
      replace p318 := eq_true p318
      replace q318 := eq_true q318
      go_wp2
      go_ret
      exact ⟨rs_,by repeat (first|exact Drawn0.refl _|apply Drawn0.step)⟩
     ·rw [if_neg c5] at H
      have c5b0 : ((rd l0 x5_1) == a1) = false := beq_eq_false_iff_ne.mpr c5
      have c5b1 : ((rd l0 x5_1) != a1) = true := bne_iff_ne.mpr c5
      have H' := ak H
      clear H
      have p318 : 0 ≤ (x5_1 : Int) := od_
      have q318 : x5_1 < (l0.length : Int) := od_
      obtain ⟨ad318,e318,hx318_0⟩ := Kd.at_int HR0.out x5_1 p318 q318
      cases e318
      replace p318 := eq_true p318
      replace q318 := eq_true q318
      go_wp2
      go_roundg k1
      case measure => have := HK1.out;omega
      case rel => exact ⟨(wrap64 (x5_1 + 1)),rs_,H',⟨by have := HK1.out;omega⟩,by repeat (first|exact Drawn0.refl _|apply Drawn0.step)⟩
    ·rw [if_neg c4] at H
     exact absurd H (by simp)
   ·rw [if_neg c3] at H
    have c3b0 : decide (x5_1 < (l0.length : Int)) = false := decide_eq_false c3
    clear c3
    obtain rfl := Option.some.inj H
    go_wp2
    go_ret
    exact ⟨rs_,by repeat (first|exact Drawn0.refl _|apply Drawn0.step)⟩

end Go.Proofs.Ythplaakckfhaaaa.XCd
