/- Proved: of each Go function here that a call comes to what the Lean function of its name tells. Written by a program of this session over the translation. No conditions beyond each theorem's own. -/
import Derived.Test.YtnilfnkdgdfnnaaGreatDoorXRe0
import Derived.Test.YtnilfnkdgdfnnaaGreatDoorXRe12
import Derived.Test.YtnilfnkdgdfnnaaGreatDoorXRe15
import Derived.Test.YtnilfnkdgdfnnaaGreatDoorXRe16
namespace Go.Proofs.YtnilfnkdgdfnnaaGreatDoor.XRe
open Go.RowKit Go.Proofs.YtnilfnkdgdfnnaaGreatDoor.Aid Go.Proofs.YtnilfnkdgdfnnaaGreatDoorW.PrintWords Go.Proofs.YtnilfnkdgdfnnaaGreatDoorW.PrintLast Go.Proofs.YtnilfnkdgdfnnaaGreatDoorW.PrintMore
set_option linter.unusedVariables false
set_option linter.unusedSimpArgs false

/-! ### spec_ReadRecord: function 12 -/
mutual
def spec_ReadRecord.l0 : Nat → ByteArray → List ByteArray → List Int → Int → Option (Int × Int × Int × (List (S47)) × Bool)
  | 0, _, _, _, _ => none
  | k + 1, x0, x4, x5, x6 => if x6 < (x4.length : Int) then (if 0 ≤ x6 then ((spec_l2Number.f k (rdOf ByteArray.empty x4 x6)).bind fun bt430 => (if bt430.2 = true then (if x5.length < 17592186044416 then (spec_ReadRecord.l0 k x0 x4 (x5 ++ [bt430.1]) (wrap64 (x6 + 1))) else (none)) else (some (0, 0, 0, ([] : List (S47)), false)))) else (none)) else (if (x5.length : Int) < 4 then (spec_ReadRecord.j1 k x0 x5 true) else (spec_ReadRecord.j1 k x0 x5 (((x5.length : Int) % 4) != 0)))
def spec_ReadRecord.j1 : Nat → ByteArray → List Int → Bool → Option (Int × Int × Int × (List (S47)) × Bool)
  | 0, _, _, _ => none
  | k + 1, x0, x5, x43 => if x43 = true then (some (0, 0, 0, ([] : List (S47)), false)) else (if 0 < (x5.length : Int) then (if 1 < (x5.length : Int) then (if 2 < (x5.length : Int) then (spec_ReadRecord.l1 k x0 x5 4 (rd x5 0) (rd x5 1) (rd x5 2) ([] : List (S47))) else (none)) else (none)) else (none))
def spec_ReadRecord.l1 : Nat → ByteArray → List Int → Int → Int → Int → Int → List (S47) → Option (Int × Int × Int × (List (S47)) × Bool)
  | 0, _, _, _, _, _, _, _ => none
  | k + 1, x0, x5, x10, x439000, x439001, x439002, x439003 => if x10 < (x5.length : Int) then (if 2 < (x5.length : Int) then (if 0 ≤ x10 then (if 0 ≤ (wrap64 (x10 + 1)) then (if (wrap64 (x10 + 1)) < (x5.length : Int) then (if 0 ≤ (wrap64 (x10 + 2)) then (if (wrap64 (x10 + 2)) < (x5.length : Int) then (if 0 ≤ (wrap64 (x10 + 3)) then (if (wrap64 (x10 + 3)) < (x5.length : Int) then (if x439003.length < 3518437208883 then (spec_ReadRecord.l1 k x0 x5 (wrap64 (x10 + 4)) x439000 x439001 x439002 (x439003 ++ [(⟨rd x5 2, rd x5 x10, rd x5 (wrap64 (x10 + 1)), ((rd x5 (wrap64 (x10 + 2))) == 1), rd x5 (wrap64 (x10 + 3))⟩ : S47)])) else (none)) else (none)) else (none)) else (none)) else (none)) else (none)) else (none)) else (none)) else (none)) else ((spec_ShowRecord.f k x439000 x439001 x439002 x439003).bind fun t447 => (if t447.toList = x0.toList then (some (x439000, x439001, x439002, x439003, true)) else (some (0, 0, 0, ([] : List (S47)), false))))
end
def spec_ReadRecord.f (k : Nat) (a0 : ByteArray) : Option (Int × Int × Int × (List (S47)) × Bool) := (spec_l2Words.f k a0).bind fun t423 => (spec_ReadRecord.l0 k a0 t423 (([] : List Int)) 0)

def spec_ReadRecord.T12 : Bool × List (List Nat × List Nat) := (true, [([], []), ([0], [0]), ([1], [1]), ([], []), ([3], [3]), ([4], [4]), ([], []), ([6], [6]), ([7], [7]), ([2, 5, 8], [2, 5, 8]), ([], []), ([10, 9, 0, 1, 2, 3, 4, 5, 6, 7, 8, 9, 10], [9, 10])])
def spec_ReadRecord.B12 : List Nat := [0, 1, 3, 0, 8, 24, 0, 64, 192, 511, 0, 2047]
theorem spec_ReadRecord.tab12 : rtab .any (opsOf Tryz.f12 12) = spec_ReadRecord.T12 := by kernel_rfl
theorem spec_ReadRecord.bits12 : waitsOk spec_ReadRecord.T12.2 spec_ReadRecord.B12 = true := by kernel_rfl
def spec_ReadRecord.T16 : Bool × List (List Nat × List Nat) := (true, [([], []), ([0], [0]), ([], []), ([2], [2]), ([3], [3]), ([], []), ([], []), ([5, 6], [5, 6]), ([7], [7]), ([], []), ([], []), ([10], [10]), ([9, 11], [9, 11]), ([12], [12]), ([], []), ([], []), ([15], [15]), ([14, 16], [14, 16]), ([17], [17]), ([18], [18]), ([], []), ([], []), ([21], [21]), ([20, 22], [20, 22]), ([23], [23]), ([4, 8, 13, 19, 24], [4, 8, 13, 19, 24]), ([25], [25]), ([1, 26], [1, 26]), ([0, 1, 2, 3, 4, 5, 6, 7, 8, 9, 10, 11, 12, 13, 14, 15, 16, 17, 18, 19, 20, 21, 22, 23, 24, 25, 26, 27], []), ([28, 27, 27, 0, 1, 2, 3, 4, 5, 6, 7, 8, 9, 10, 11, 12, 13, 14, 15, 16, 17, 18, 19, 20, 21, 22, 23, 24, 25, 26, 27], [27, 28])])
def spec_ReadRecord.B16 : List Nat := [0, 1, 0, 4, 12, 0, 0, 96, 224, 0, 0, 1024, 3584, 7680, 0, 0, 32768, 114688, 245760, 507904, 0, 0, 2097152, 7340032, 15728640, 33554428, 67108860, 134217727, 268435455, 536870911]
theorem spec_ReadRecord.tab16 : rtab .any (opsOf Tryz.f12 16) = spec_ReadRecord.T16 := by kernel_rfl
theorem spec_ReadRecord.bits16 : waitsOk spec_ReadRecord.T16.2 spec_ReadRecord.B16 = true := by kernel_rfl
set_option maxHeartbeats 8000000 in
set_option maxRecDepth 100000 in
theorem spec_ReadRecord.calls (k : Nat) (a0 : ByteArray) (r1 : Int) (r2 : Int) (r3 : Int) (r4 : List (S47)) (r5 : Bool) (w : World) (h : spec_ReadRecord.f k a0 = some (r1, r2, r3, r4, r5)) :
    Calls Tryz.prog 12 #[.string a0] w fun e w' => ∃ v3_ : Value, e = .returned (.tuple #[.agg #[.int .i64 r1, .int .i64 r2, .int .i64 r3, v3_], .bool r5]) ∧ Kd.R k47 47 w' w.heap.size (fun _ => True) v3_ r4 ∧ Below w.heap.size w w' := by
 have hu26 := Tryz.underlying26
 have hu47 := Tryz.underlying47
 have HB := Aside0.mk (Below.refl w.heap.size w)
 have H : ((spec_l2Words.f k a0).bind fun t423 => (spec_ReadRecord.l0 k a0 t423 (([] : List Int)) 0)) = some (r1,r2,r3,r4,r5) := h
 clear h
 replace H := bs_ H
 obtain ⟨t423,A2,H⟩ := H
 obtain ⟨y426,hy426⟩ : ∃ y_ : List Int,y_ = (([] : List Int)) := ⟨_,rfl⟩
 replace H : (spec_ReadRecord.l0 k a0 t423 y426 0) = some (r1,r2,r3,r4,r5) := by first|(rw [hy426];with_reducible exact H)|(have H2_ := (Option.bind_some _ _).symm.trans H;rw [hy426];with_reducible exact H2_)|(have H2_ := (Option.bind_some _ _).symm.trans H;with_reducible exact H2_)|with_reducible exact H|(rw [hy426];exact H)|exact H
 have Ny426 := Aside0.mk hy426
 clear hy426
 have H' := Aside0.mk H
 clear H
 go_enter Tryz.func12,Tryz.ntmps12
 go_wp2_with (first|((with_reducible refine gate_dst (N := 2) rfl ?_);(try (refine gate_guard (by rfl) ?_;dsimp only));refine bx_ 2 #[.int .i64 0,.int .i64 0,.int .i64 0,.slice none 0 0] 26 ?_;intro gb422 hg w3 hbox hb;replace HB := nb_ hg hbox hb;obtain ⟨BK422,GW422,GE422,HB⟩ := HB;clear hb hbox hg)|((with_reducible refine gcal_ (f := 24) rfl ?_);refine gl_ (some 12) Tryz.func24 #[.string a0] ?_;(with_reducible refine (spec_l2Words.calls k a0 t423 _ A2.out).mono ?_);rintro e w4 ⟨v424,rfl,ho0,hb⟩;refine ⟨_,rfl,?_⟩;replace BK422 := Aside0.mk (blk_below (kb_ BK422) hb);have HO425 := Aside0.mk (Kd.R_lower ho0 (below_size b_));replace HB := Aside0.mk (below_step b_ hb);(try clear hb);(try clear hb2);(try clear hk);(try clear hi);(try clear ho0))|((with_reducible refine gate_dst (N := 13) rfl ?_);(try (refine gate_guard (by rfl) ?_;dsimp only));refine Kd.R_lit (Kd.int .i64) _ 2 ?hg (N := 13) ?hd (xs := ([] : List Int)) (inner := []) (ok := fun _ => True) (okp := fun _ => True) ?hr ?hp (fun _ hk => hk) trivial (Below.refl _ _) (Nat.le_refl _) (by simp) ?_;(case hd => rfl);(case hg => rfl);(case hr => first|(go_simp;done)|(go_simp;rfl));(case hp => exact (Reps.none _ _));intro v427 w5 ho6 hb hg_ hnew_;clear hg_ hnew_;(first|rw [← Ny426.out] at ho6|(simp only [Int.reduceToNat] at ho6;rw [← Ny426.out] at ho6));replace HO425 := Aside0.mk (Kd.R_below (by (with_reducible repeat (first|apply Kd.R_alloc|apply Kd.R_drewN|apply Kd.R_drew));exact HO425.out) hb);replace BK422 := Aside0.mk (blk_below (kb_ BK422) hb);have HO428 := Aside0.mk (Kd.R_lower ho6 (below_size b_));replace HB := Aside0.mk (below_step b_ hb);clear hb ho6))
 go_loopg [5,6] k (fun kq v5 v6 w' => ∃ (x5_1 : List Int) (x6_1 : Int) (x423000_1 : Int) (x423001_1 : Int) (x423002_1 : Int),v6 = .int .i64 x6_1 ∧ Aside0 (spec_ReadRecord.l0 kq a0 t423 x5_1 x6_1 = some (r1,r2,r3,r4,r5)) ∧ Aside0 (kq ≤ k) ∧ Aside0 (Kd.R Kd.string 9 w' w.heap.size (fun _ => True) v424 t423) ∧ Aside0 (Kd.R (Kd.int .i64) 2 w' w.heap.size (fun _ => True) v5 x5_1) ∧ Aside0 (w'.heap[gb422]? = some (.cells #[.int .i64 x423000_1,.int .i64 x423001_1,.int .i64 x423002_1,(.slice none 0 0)] 26 (0,0))) ∧ Aside0 (Below w.heap.size w w'))
 case atStart => exact ⟨(y426),(0),(0),(0),(0),rs_,H',⟨Nat.le_refl _⟩,⟨by (with_reducible repeat (first|apply Kd.R_alloc|apply Kd.R_drewN|apply Kd.R_drew));exact HO425.out⟩,⟨by (with_reducible repeat (first|apply Kd.R_alloc|apply Kd.R_drewN|apply Kd.R_drew));exact HO428.out⟩,⟨kb_ BK422⟩,⟨b_⟩⟩
 case round =>
  clear H'
  try clear c1
  try clear c2
  try clear p2
  obtain ⟨x5_1,x6_1,x423000_1,x423001_1,x423002_1,rfl,HA,HK1,HO_4,HO_5,BK422,HB⟩ := hrel
  cases gk with
    | zero => exact absurd HA.out (by simp [spec_ReadRecord.l0])
    | succ k1 =>
   have H := HA.out
   clear HA
   simp only [spec_ReadRecord.l0] at H
   by_cases c7 : x6_1 < (t423.length : Int)
   ·rw [if_pos c7] at H
    have c7b0 : decide (x6_1 < (t423.length : Int)) = true := decide_eq_true c7
    clear c7
    by_cases c8 : 0 ≤ x6_1
    ·rw [if_pos c8] at H
     have c8b0 : decide (0 ≤ x6_1) = true := decide_eq_true c8
     clear c8
     replace H := Option.bind_eq_some_iff.mp H
     obtain ⟨⟨t430,t431⟩,A90,H⟩ := H
     replace H : (if t431 = true then (if x5_1.length < 17592186044416 then (spec_ReadRecord.l0 k1 a0 t423 (x5_1 ++ [t430]) (wrap64 (x6_1 + 1))) else (none)) else (some (0,0,0,([] : List (S47)),false))) = some (r1,r2,r3,r4,r5) := H
     have A9 := Aside0.mk A90
     clear A90
     by_cases c10 : t431 = true
     ·subst c10
      replace H := it_ H
      by_cases c11 : x5_1.length < 17592186044416
      ·rw [if_pos c11] at H
       have LMc11 := Aside0.mk c11
       clear c11
       obtain ⟨y432,hy432⟩ : ∃ y_ : List Int,y_ = (x5_1 ++ [t430]) := ⟨_,rfl⟩
       replace H : (spec_ReadRecord.l0 k1 a0 t423 y432 (wrap64 (x6_1 + 1))) = some (r1,r2,r3,r4,r5) := by first|(rw [hy432];with_reducible exact H)|(have H2_ := (Option.bind_some _ _).symm.trans H;rw [hy432];with_reducible exact H2_)|(have H2_ := (Option.bind_some _ _).symm.trans H;with_reducible exact H2_)|with_reducible exact H|(rw [hy432];exact H)|exact H
       have Ny432 := Aside0.mk hy432
       clear hy432
       have H' := Aside0.mk H
       clear H
       obtain ⟨Ao12,co12,eo12⟩ := Kd.R_slice HO_4.out
       subst eo12
       have p429 : 0 ≤ (x6_1 : Int) := od_
       have q429 : x6_1 < (t423.length : Int) := od_
       obtain ⟨ad429,e429,hx429_0⟩ := Kd.at_string (Kd.R_reads' HO_4.out).2.2 x6_1 p429 q429
       cases e429
       replace p429 := eq_true p429
       replace q429 := eq_true q429
       go_wp2_with (first|((with_reducible refine gcal_ (f := 25) rfl ?_);refine gl_ (some 25) Tryz.func25 #[.string (rdOf ByteArray.empty t423 x6_1)] ?_;(with_reducible refine (spec_l2Number.calls k1 (rdOf ByteArray.empty t423 x6_1) t430 true _ A9.out).mono ?_);rintro e w' ⟨rfl,⟨nd,rfl⟩⟩;refine ⟨_,rfl,?_⟩)|((with_reducible refine gblt_ (b := .append) (xs := #[.tmp 31,.tmp 33]) rfl ?_);(try (refine gate_guard (by rfl) ?_;dsimp only));at_builtin;refine Kd.R_append (Kd.int .i64) (w0 := w) w.heap.size rfl (.tmp 31) (.tmp 33) 43 2 (.int .i64 0) 8 rfl Tryz.underlying43 info2 rfl (by decide) (by omega) u5 x5_1 t430 [.int .i64 t430] (fun _ => True) (fun _ => False) rfl rfl ?aP (fun _ hk => hk.elim) ?aF ?aO ?aB ?aS ?aL ?_;(case aP => exact rfl);(case aB => exact b_);(case aF => exact (fun _ _ => trivial));(case aO => exact (by (with_reducible repeat (first|apply Kd.R_alloc|apply Kd.R_drewN|apply Kd.R_drew));exact HO_5.out));(case aS => exact (below_size b_));(case aL => have := LMc11.out;omega);intro v433 w13 ho hb hg hat;rw [← Ny432.out] at ho;replace HO_4 := Aside0.mk (Kd.R_over' (by (with_reducible repeat (first|apply Kd.R_alloc|apply Kd.R_drewN|apply Kd.R_drew));exact HO_4.out) (Kd.R_typed (by (with_reducible repeat (first|apply Kd.R_alloc|apply Kd.R_drewN|apply Kd.R_drew));exact HO_5.out)) (by decide) hg);replace BK422 := Aside0.mk (blk_grown (kb_ BK422) hg (Kd.R_ne HO_5.out BK422.out (by decide)));replace HB := Aside0.mk (hb);have HO434 := Aside0.mk (ho);clear HO_5;clear ho hb hg hat))
       go_roundg k1
       case measure => have := HK1.out;omega
       case rel => exact ⟨(y432),(wrap64 (x6_1 + 1)),(x423000_1),(x423001_1),(x423002_1),rs_,H',⟨by have := HK1.out;omega⟩,⟨by (with_reducible repeat (first|apply Kd.R_alloc|apply Kd.R_drewN|apply Kd.R_drew));exact HO_4.out⟩,⟨by (with_reducible repeat (first|apply Kd.R_alloc|apply Kd.R_drewN|apply Kd.R_drew));exact HO434.out⟩,⟨kb_ BK422⟩,⟨b_⟩⟩
      ·rw [if_neg c11] at H
       exact absurd H (by simp)
     ·replace c10 := Bool.eq_false_iff.mpr c10
      subst c10
      replace H := ie_ H
      simp only [Option.some.injEq,Prod.mk.injEq] at H
      obtain ⟨rfl,rfl,rfl,rfl,rfl⟩ := H
      obtain ⟨Ao14,co14,eo14⟩ := Kd.R_slice HO_4.out
      subst eo14
      have p429 : 0 ≤ (x6_1 : Int) := od_
      have q429 : x6_1 < (t423.length : Int) := od_
      obtain ⟨ad429,e429,hx429_0⟩ := Kd.at_string (Kd.R_reads' HO_4.out).2.2 x6_1 p429 q429
      cases e429
      replace p429 := eq_true p429
      replace q429 := eq_true q429
      go_wp2_with (first|((with_reducible refine gcal_ (f := 25) rfl ?_);refine gl_ (some 25) Tryz.func25 #[.string (rdOf ByteArray.empty t423 x6_1)] ?_;(with_reducible refine (spec_l2Number.calls k1 (rdOf ByteArray.empty t423 x6_1) t430 false _ A9.out).mono ?_);rintro e w' ⟨rfl,⟨nd,rfl⟩⟩;refine ⟨_,rfl,?_⟩;(try (rw [drewN_self wr];generalize hq_ : World.drewN wr _ = wr;have n0_ : Aside0 (Kd.R Kd.string 9 wr w.heap.size (fun _ => True) (.slice (some ad429) t423.length co14) t423) := ⟨by rw [← hq_];exact (by (with_reducible repeat (first|apply Kd.R_alloc|apply Kd.R_drewN|apply Kd.R_drew));exact HO_4.out)⟩;have n1_ : Aside0 (Kd.R (Kd.int .i64) 2 wr w.heap.size (fun _ => True) u5 x5_1) := ⟨by rw [← hq_];exact (by (with_reducible repeat (first|apply Kd.R_alloc|apply Kd.R_drewN|apply Kd.R_drew));exact HO_5.out)⟩;have n2_ : Aside0 (wr.heap[gb422]? = some (.cells #[.int .i64 x423000_1,.int .i64 x423001_1,.int .i64 x423002_1,.slice none 0 0] 26 (0,0))) := ⟨by rw [← hq_];exact kk_⟩;have n3_ : Aside0 (Below w.heap.size w wr) := ⟨by rw [← hq_];exact b_⟩;clear HO_4 HO_5 BK422 HB hq_;have HO_4 := n0_;have HO_5 := n1_;have BK422 := n2_;have HB := n3_;clear n0_ n1_ n2_ n3_));(try (have hcy3_0 : wr.cell? ⟨gb422,0,none⟩ = some (.int .i64 x423000_1) := (blk_cell BK422.out 0).trans rfl));(try (have hfy3_0 := blk_frozen BK422.out 0));(try (have hcy3_1 : wr.cell? ⟨gb422,1,none⟩ = some (.int .i64 x423001_1) := (blk_cell BK422.out 1).trans rfl));(try (have hfy3_1 := blk_frozen BK422.out 1));(try (have hcy3_2 : wr.cell? ⟨gb422,2,none⟩ = some (.int .i64 x423002_1) := (blk_cell BK422.out 2).trans rfl));(try (have hfy3_2 := blk_frozen BK422.out 2));(try (have hcy3_3 : wr.cell? ⟨gb422,3,none⟩ = some (.slice none 0 0) := (blk_cell BK422.out 3).trans rfl));(try (have hfy3_3 := blk_frozen BK422.out 3));obtain ⟨⟨hcz15_0,hcz15_1,hcz15_2,hcz15_3⟩,hfz15_0,hfz15_1,hfz15_2,hfz15_3⟩ := cl4_ BK422.out))
      refine bodyPost_ret (results_ct rfl _ _ gb422 26 #[.int .i64 0,.int .i64 0,.int .i64 0,.slice none 0 0] (0,0) _ rfl (by (with_reducible repeat (first|refine blk_drewN ?_ _|refine blk_drew ?_|refine blk_alloc ?_ _));refine blk_put (cs := #[.int .i64 0,.int .i64 0,.int .i64 0,.slice none 0 0]) ?_ 3 _ rfl;(with_reducible repeat (first|refine blk_drewN ?_ _|refine blk_drew ?_|refine blk_alloc ?_ _));refine blk_put (cs := #[.int .i64 0,.int .i64 0,.int .i64 x423002_1,.slice none 0 0]) ?_ 2 _ rfl;(with_reducible repeat (first|refine blk_drewN ?_ _|refine blk_drew ?_|refine blk_alloc ?_ _));refine blk_put (cs := #[.int .i64 0,.int .i64 x423001_1,.int .i64 x423002_1,.slice none 0 0]) ?_ 1 _ rfl;(with_reducible repeat (first|refine blk_drewN ?_ _|refine blk_drew ?_|refine blk_alloc ?_ _));refine blk_put (cs := #[.int .i64 x423000_1,.int .i64 x423001_1,.int .i64 x423002_1,.slice none 0 0]) ?_ 0 _ rfl;(with_reducible repeat (first|refine blk_drewN ?_ _|refine blk_drew ?_|refine blk_alloc ?_ _));exact BK422.out) Tryz.underlying26 rfl (by kernel_rfl)) rfl ?_
      exact ⟨_,rf_,by first|exact Kd.R_nil _ _ _ _ _|exact Kd.N_nil _ _ _ _ _|exact Kd.V_nil _ _ _ _ _|exact Kd.Q_nil _ _ _ _ _|exact Kd.S_nil _ _ _ _ _,b_⟩
    ·rw [if_neg c8] at H
     exact absurd H (by simp)
   ·rw [if_neg c7] at H
    have c7b0 : decide (x6_1 < (t423.length : Int)) = false := decide_eq_false c7
    clear c7
    have HC16 := Aside0.mk H
    clear H
    obtain ⟨Ao17,co17,eo17⟩ := Kd.R_slice HO_4.out
    subst eo17
    go_upto_region 10 with (fail)
    go_cut [43] (fun v43 wc => ∃ (kq : Nat) (x43_15 : Bool),v43 = .bool x43_15 ∧ Aside0 (spec_ReadRecord.j1 kq a0 x5_1 x43_15 = some (r1,r2,r3,r4,r5)) ∧ Aside0 (kq ≤ k1) ∧ Aside0 (Kd.R (Kd.int .i64) 2 wc w.heap.size (fun _ => True) u5 x5_1) ∧ Aside0 (wc.heap[gb422]? = some (.cells #[.int .i64 x423000_1,.int .i64 x423001_1,.int .i64 x423002_1,(.slice none 0 0)] 26 (0,0))) ∧ Aside0 (Below w.heap.size w wc))
    case first =>
     have H := HC16.out
     clear HC16
     by_cases c18 : (x5_1.length : Int) < 4
     ·rw [if_pos c18] at H
      have c18b0 : decide ((x5_1.length : Int) < 4) = true := decide_eq_true c18
      have c18b1 : decide (x5_1.length < 4) = true := decide_eq_true (by omega)
      clear c18
      (first|rw [c18b0]|(simp only [i64_w,i32_w];rw [c18b0])|skip)
      have H' := Aside0.mk H
      clear H
      obtain ⟨Ao19,co19,eo19⟩ := Kd.R_slice HO_5.out
      subst eo19
      go_wp2
      go_meet
      case rel => exact ⟨_,(true),rs_,H',⟨by have := HK1.out;first|omega|exact Nat.le_refl _⟩,⟨by (with_reducible repeat (first|apply Kd.R_alloc|apply Kd.R_drewN|apply Kd.R_drew));exact HO_5.out⟩,⟨kb_ BK422⟩,⟨b_⟩⟩
     ·rw [if_neg c18] at H
      have c18b0 : decide ((x5_1.length : Int) < 4) = false := decide_eq_false c18
      have c18b1 : decide (x5_1.length < 4) = false := decide_eq_false (by omega)
      clear c18
      (first|rw [c18b0]|(simp only [i64_w,i32_w];rw [c18b0])|skip)
      have H' := Aside0.mk H
      clear H
      obtain ⟨Ao20,co20,eo20⟩ := Kd.R_slice HO_5.out
      subst eo20
      go_wp2
      go_meet
      case rel => exact ⟨_,((((x5_1.length : Int) % 4) != 0)),rs_,H',⟨by have := HK1.out;first|omega|exact Nat.le_refl _⟩,⟨by (with_reducible repeat (first|apply Kd.R_alloc|apply Kd.R_drewN|apply Kd.R_drew));exact HO_5.out⟩,⟨kb_ BK422⟩,⟨b_⟩⟩
    case rest =>
     clear HC16
     try clear c1
     try clear c2
     try clear p2
     try clear p4
     try clear q4
     try clear hx4
     try clear p6
     try clear c7
     try clear c7b0
     try clear c8
     try clear c8b0
     try clear c10
     try clear c11
     try clear c12
     try clear c18
     try clear c18b0
     try clear c18b1
     try clear hcz15_0
     try clear hcz15_1
     try clear hcz15_2
     try clear hcz15_3
     try clear hfz15_0
     try clear hfz15_1
     try clear hfz15_2
     try clear hfz15_3
     try clear hx429_0
     try clear p2
     try clear p429
     try clear q429
     obtain ⟨kq,x43_15,rfl,HA,HJ15,HO_5,BK422,HB⟩ := hcut
     cases kq with
     | zero => exact absurd HA.out (by simp [spec_ReadRecord.j1])
     | succ kj15 =>
      have H := HA.out
      clear HA
      simp only [spec_ReadRecord.j1] at H
      by_cases c21 : x43_15 = true
      ·subst c21
       replace H := it_ H
       simp only [Option.some.injEq,Prod.mk.injEq] at H
       obtain ⟨rfl,rfl,rfl,rfl,rfl⟩ := H
       obtain ⟨⟨hcz22_0,hcz22_1,hcz22_2,hcz22_3⟩,hfz22_0,hfz22_1,hfz22_2,hfz22_3⟩ := cl4_ BK422.out
       go_wp2
       refine bodyPost_ret (results_ct rfl _ _ gb422 26 #[.int .i64 0,.int .i64 0,.int .i64 0,.slice none 0 0] (0,0) _ rfl (by (with_reducible repeat (first|refine blk_drewN ?_ _|refine blk_drew ?_|refine blk_alloc ?_ _));refine blk_put (cs := #[.int .i64 0,.int .i64 0,.int .i64 0,.slice none 0 0]) ?_ 3 _ rfl;(with_reducible repeat (first|refine blk_drewN ?_ _|refine blk_drew ?_|refine blk_alloc ?_ _));refine blk_put (cs := #[.int .i64 0,.int .i64 0,.int .i64 x423002_1,.slice none 0 0]) ?_ 2 _ rfl;(with_reducible repeat (first|refine blk_drewN ?_ _|refine blk_drew ?_|refine blk_alloc ?_ _));refine blk_put (cs := #[.int .i64 0,.int .i64 x423001_1,.int .i64 x423002_1,.slice none 0 0]) ?_ 1 _ rfl;(with_reducible repeat (first|refine blk_drewN ?_ _|refine blk_drew ?_|refine blk_alloc ?_ _));refine blk_put (cs := #[.int .i64 x423000_1,.int .i64 x423001_1,.int .i64 x423002_1,.slice none 0 0]) ?_ 0 _ rfl;(with_reducible repeat (first|refine blk_drewN ?_ _|refine blk_drew ?_|refine blk_alloc ?_ _));exact BK422.out) Tryz.underlying26 rfl (by kernel_rfl)) rfl ?_
       exact ⟨_,rf_,by first|exact Kd.R_nil _ _ _ _ _|exact Kd.N_nil _ _ _ _ _|exact Kd.V_nil _ _ _ _ _|exact Kd.Q_nil _ _ _ _ _|exact Kd.S_nil _ _ _ _ _,b_⟩
      ·replace c21 := Bool.eq_false_iff.mpr c21
       subst c21
       replace H := ie_ H
       by_cases c23 : 0 < (x5_1.length : Int)
       ·rw [if_pos c23] at H
        have c23b0 : decide (0 < (x5_1.length : Int)) = true := decide_eq_true c23
        have c23b1 : decide (0 < x5_1.length) = true := decide_eq_true (by omega)
        clear c23
        by_cases c24 : 1 < (x5_1.length : Int)
        ·rw [if_pos c24] at H
         have c24b0 : decide (1 < (x5_1.length : Int)) = true := decide_eq_true c24
         have c24b1 : decide (1 < x5_1.length) = true := decide_eq_true (by omega)
         clear c24
         by_cases c25 : 2 < (x5_1.length : Int)
         ·rw [if_pos c25] at H
          have c25b0 : decide (2 < (x5_1.length : Int)) = true := decide_eq_true c25
          have c25b1 : decide (2 < x5_1.length) = true := decide_eq_true (by omega)
          clear c25
          have H' := Aside0.mk H
          clear H
          try go_wp2
          replace HO_5 := Aside0.mk (Kd.R_drew HO_5.out)
          replace BK422 := Aside0.mk (blk_drew BK422.out)
          replace HB := Aside0.mk (below_drew1 HB.out)
          obtain ⟨Ao27,co27,eo27⟩ := Kd.R_slice HO_5.out
          (first|subst eo27|(injection eo27 with f1_ f2_ f3_;have f4_ := f1_.symm;have f5_ := f3_.symm;clear f1_ f2_ f3_;subst f4_;subst f5_))
          have p435 : 0 ≤ (0 : Int) := (by omega)
          have q435 : 0 < (x5_1.length : Int) := od_
          obtain ⟨ad435,e435,hx435_0⟩ := Kd.at_int (Kd.R_reads' HO_5.out).2.2 0 p435 q435
          cases e435
          have qi435 : (0 < x5_1.length) = True := eq_true (by omega)
          (try rw [show ((0 : Int)).toNat = 0 from rfl] at hx435_0)
          (try rw [Addr.add_zero'] at hx435_0)
          replace p435 := eq_true p435
          replace q435 := eq_true q435
          have p436 : 0 ≤ (1 : Int) := (by omega)
          have q436 : 1 < (x5_1.length : Int) := od_
          obtain ⟨ad436,e436,hx436_0⟩ := Kd.at_int (Kd.R_reads' HO_5.out).2.2 1 p436 q436
          obtain rfl : ad435 = ad436 := (by injection e436)
          (try simp only [show (1 : Int).toNat = 1 from rfl,Nat.reduceMul,Nat.reduceEqDiff,Go.Addr.add,↓reduceIte] at hx436_0)
          have qi436 : (1 < x5_1.length) = True := eq_true (by omega)
          (try rw [show ((1 : Int)).toNat = 1 from rfl] at hx436_0)
          replace p436 := eq_true p436
          replace q436 := eq_true q436
          have p437 : 0 ≤ (2 : Int) := (by omega)
          have q437 : 2 < (x5_1.length : Int) := od_
          obtain ⟨ad437,e437,hx437_0⟩ := Kd.at_int (Kd.R_reads' HO_5.out).2.2 2 p437 q437
          obtain rfl : ad435 = ad437 := (by injection e437)
          (try simp only [show (2 : Int).toNat = 2 from rfl,Nat.reduceMul,Nat.reduceEqDiff,Go.Addr.add,↓reduceIte] at hx437_0)
          have qi437 : (2 < x5_1.length) = True := eq_true (by omega)
          (try rw [show ((2 : Int)).toNat = 2 from rfl] at hx437_0)
          replace p437 := eq_true p437
          replace q437 := eq_true q437
          refine st_ 12 (S := fun w' => (w'.cell? ad435 = some (.int .i64 (rd x5_1 0))) ∧ (w'.cell? ⟨ad435.block,ad435.off + 1,none⟩ = some (.int .i64 (rd x5_1 1))) ∧ w'.cell? ⟨ad435.block,ad435.off + 2,none⟩ = some (.int .i64 (rd x5_1 2))) hh_ (fun hHeld => ?_);refine with_tabW spec_ReadRecord.tab12 spec_ReadRecord.bits12 (fun HT_ HW_ => ?_)
          generalize wc.drew = w26 at HO_5 BK422 HB hx435_0 hx436_0 hx437_0 hHeld ⊢
          refine pv_ 0 45 ?_
          refine pv_ 1 46 ?_
          refine pv_ 3 48 ?_
          refine pv_ 4 49 ?_
          refine pv_ 6 51 ?_
          refine pv_ 7 52 ?_
          refine tx_ 2 47 hHeld ?_
          refine tx_ 5 50 hHeld ?_
          refine tx_ 8 53 hHeld ?_
          refine pv_ 9 54 ?_
          refine oy_ 10 9 (fun K hK => ?_)
          refine box_step ?hg (N := 9) ?hd (cs := #[.int .i64 0,.int .i64 0,.int .i64 0,.slice none 0 0]) (t := 26) ?hr ?_;(case hd => rfl);(case hg => rfl);(case hr => first|(go_simp;done)|(go_simp;rfl))
          intro gb438 hg w28 hbox hb
          have HS0_ := (hb.cell (World.block_lt_of_cell? _ _ (hHeld.1))).trans (hHeld.1)
          have HS1_ := (hb.cell (World.block_lt_of_cell? _ _ (hHeld.2.1))).trans (hHeld.2.1)
          have HS2_ := (hb.cell (World.block_lt_of_cell? _ _ (hHeld.2.2))).trans (hHeld.2.2)
          replace HO_5 := Aside0.mk (Kd.R_below (by (with_reducible repeat (first|apply Kd.R_alloc|apply Kd.R_drewN|apply Kd.R_drew));exact HO_5.out) hb)
          have BK438 := Aside0.mk (hbox)
          have GW438 := Aside0.mk ((gw_ (w := w) hg))
          have GE438 := Aside0.mk ((gw_ (w := w) hg))
          replace HB := Aside0.mk (below_step b_ hb)
          have NB422_438 := Aside0.mk ((nl_ BK422 hg))
          have NB438_422 := Aside0.mk ((ng_ BK422 hg))
          replace BK422 := Aside0.mk (blk_below (kb_ BK422) hb)
          clear hb hbox hg
          refine hK.out _ _ ⟨HS0_,HS1_,HS2_⟩ (fun hHeld => ?_)
          clear hK K
          refine nr_ (some 9) _ ?_
          refine oz_ (i := 11) (N := none) HT_.out rfl rfl (by kernel_rfl) (by decide) (fun K hK => ?_)
          have hs29 : w28.cell? ⟨gb438,0,none⟩ = some (.int .i64 0) := (blk_cell BK438.out 0).trans rfl
          have hfs29 := blk_frozen BK438.out 0
          have hns29_0 := NB422_438.out
          have hms29_0 := NB438_422.out
          have hs30 : w28.cell? ⟨gb438,1,none⟩ = some (.int .i64 0) := (blk_cell BK438.out 1).trans rfl
          have hfs30 := blk_frozen BK438.out 1
          have hns30_0 := NB422_438.out
          have hms30_0 := NB438_422.out
          have hs31 : w28.cell? ⟨gb438,2,none⟩ = some (.int .i64 0) := (blk_cell BK438.out 2).trans rfl
          have hfs31 := blk_frozen BK438.out 2
          have hns31_0 := NB422_438.out
          have hms31_0 := NB438_422.out
          have hs32 : w28.cell? ⟨gb438,3,none⟩ = some (.slice none 0 0) := (blk_cell BK438.out 3).trans rfl
          have hfs32 := blk_frozen BK438.out 3
          have hns32_0 := NB422_438.out
          have hms32_0 := NB438_422.out
          refine skip_ (w1 := ?_) (by rfl) rfl ?_ ?_
          rotate_left
          ·go_simp
           rfl
          refine hK.out _ _ ⟨((cell_far (p := ⟨gb438,_,none⟩) (by first|exact Kd.own_blk (Kd.R_ne HO_5.out BK438.out (by decide))|(rw [add_block];exact Kd.own_blk (Kd.R_ne HO_5.out BK438.out (by decide)))|(show (Addr.add _ _).block ≠ _;rw [add_block];exact Kd.own_blk (Kd.R_ne HO_5.out BK438.out (by decide)))|(dsimp only;exact Kd.own_blk (Kd.R_ne HO_5.out BK438.out (by decide)))) _).trans (((cell_far (p := ⟨gb438,_,none⟩) (by first|exact Kd.own_blk (Kd.R_ne HO_5.out BK438.out (by decide))|(rw [add_block];exact Kd.own_blk (Kd.R_ne HO_5.out BK438.out (by decide)))|(show (Addr.add _ _).block ≠ _;rw [add_block];exact Kd.own_blk (Kd.R_ne HO_5.out BK438.out (by decide)))|(dsimp only;exact Kd.own_blk (Kd.R_ne HO_5.out BK438.out (by decide)))) _).trans (((cell_far (p := ⟨gb438,_,none⟩) (by first|exact Kd.own_blk (Kd.R_ne HO_5.out BK438.out (by decide))|(rw [add_block];exact Kd.own_blk (Kd.R_ne HO_5.out BK438.out (by decide)))|(show (Addr.add _ _).block ≠ _;rw [add_block];exact Kd.own_blk (Kd.R_ne HO_5.out BK438.out (by decide)))|(dsimp only;exact Kd.own_blk (Kd.R_ne HO_5.out BK438.out (by decide)))) _).trans (((cell_far (p := ⟨gb438,_,none⟩) (by first|exact Kd.own_blk (Kd.R_ne HO_5.out BK438.out (by decide))|(rw [add_block];exact Kd.own_blk (Kd.R_ne HO_5.out BK438.out (by decide)))|(show (Addr.add _ _).block ≠ _;rw [add_block];exact Kd.own_blk (Kd.R_ne HO_5.out BK438.out (by decide)))|(dsimp only;exact Kd.own_blk (Kd.R_ne HO_5.out BK438.out (by decide)))) _).trans (hHeld.1)))))))),((cell_far (p := ⟨gb438,_,none⟩) (by first|exact Kd.own_blk (Kd.R_ne HO_5.out BK438.out (by decide))|(rw [add_block];exact Kd.own_blk (Kd.R_ne HO_5.out BK438.out (by decide)))|(show (Addr.add _ _).block ≠ _;rw [add_block];exact Kd.own_blk (Kd.R_ne HO_5.out BK438.out (by decide)))|(dsimp only;exact Kd.own_blk (Kd.R_ne HO_5.out BK438.out (by decide)))) _).trans (((cell_far (p := ⟨gb438,_,none⟩) (by first|exact Kd.own_blk (Kd.R_ne HO_5.out BK438.out (by decide))|(rw [add_block];exact Kd.own_blk (Kd.R_ne HO_5.out BK438.out (by decide)))|(show (Addr.add _ _).block ≠ _;rw [add_block];exact Kd.own_blk (Kd.R_ne HO_5.out BK438.out (by decide)))|(dsimp only;exact Kd.own_blk (Kd.R_ne HO_5.out BK438.out (by decide)))) _).trans (((cell_far (p := ⟨gb438,_,none⟩) (by first|exact Kd.own_blk (Kd.R_ne HO_5.out BK438.out (by decide))|(rw [add_block];exact Kd.own_blk (Kd.R_ne HO_5.out BK438.out (by decide)))|(show (Addr.add _ _).block ≠ _;rw [add_block];exact Kd.own_blk (Kd.R_ne HO_5.out BK438.out (by decide)))|(dsimp only;exact Kd.own_blk (Kd.R_ne HO_5.out BK438.out (by decide)))) _).trans (((cell_far (p := ⟨gb438,_,none⟩) (by first|exact Kd.own_blk (Kd.R_ne HO_5.out BK438.out (by decide))|(rw [add_block];exact Kd.own_blk (Kd.R_ne HO_5.out BK438.out (by decide)))|(show (Addr.add _ _).block ≠ _;rw [add_block];exact Kd.own_blk (Kd.R_ne HO_5.out BK438.out (by decide)))|(dsimp only;exact Kd.own_blk (Kd.R_ne HO_5.out BK438.out (by decide)))) _).trans (hHeld.2.1)))))))),((cell_far (p := ⟨gb438,_,none⟩) (by first|exact Kd.own_blk (Kd.R_ne HO_5.out BK438.out (by decide))|(rw [add_block];exact Kd.own_blk (Kd.R_ne HO_5.out BK438.out (by decide)))|(show (Addr.add _ _).block ≠ _;rw [add_block];exact Kd.own_blk (Kd.R_ne HO_5.out BK438.out (by decide)))|(dsimp only;exact Kd.own_blk (Kd.R_ne HO_5.out BK438.out (by decide)))) _).trans (((cell_far (p := ⟨gb438,_,none⟩) (by first|exact Kd.own_blk (Kd.R_ne HO_5.out BK438.out (by decide))|(rw [add_block];exact Kd.own_blk (Kd.R_ne HO_5.out BK438.out (by decide)))|(show (Addr.add _ _).block ≠ _;rw [add_block];exact Kd.own_blk (Kd.R_ne HO_5.out BK438.out (by decide)))|(dsimp only;exact Kd.own_blk (Kd.R_ne HO_5.out BK438.out (by decide)))) _).trans (((cell_far (p := ⟨gb438,_,none⟩) (by first|exact Kd.own_blk (Kd.R_ne HO_5.out BK438.out (by decide))|(rw [add_block];exact Kd.own_blk (Kd.R_ne HO_5.out BK438.out (by decide)))|(show (Addr.add _ _).block ≠ _;rw [add_block];exact Kd.own_blk (Kd.R_ne HO_5.out BK438.out (by decide)))|(dsimp only;exact Kd.own_blk (Kd.R_ne HO_5.out BK438.out (by decide)))) _).trans (((cell_far (p := ⟨gb438,_,none⟩) (by first|exact Kd.own_blk (Kd.R_ne HO_5.out BK438.out (by decide))|(rw [add_block];exact Kd.own_blk (Kd.R_ne HO_5.out BK438.out (by decide)))|(show (Addr.add _ _).block ≠ _;rw [add_block];exact Kd.own_blk (Kd.R_ne HO_5.out BK438.out (by decide)))|(dsimp only;exact Kd.own_blk (Kd.R_ne HO_5.out BK438.out (by decide)))) _).trans (hHeld.2.2))))))))⟩ (fun hHeld => ?_)
          clear hK K
          refine done_ (done_of HT_.out (by kernel_rfl)) ?_
          try go_wp2
          go_loopg [10] kj15 (fun kq v10 w' => ∃ (x10_3 : Int) (x439003_3 : List (S47)) (u439003 : Value),v10 = .int .i64 x10_3 ∧ Aside0 (spec_ReadRecord.l1 kq a0 x5_1 x10_3 (rd x5_1 0) (rd x5_1 1) (rd x5_1 2) x439003_3 = some (r1,r2,r3,r4,r5)) ∧ Aside0 (kq ≤ kj15) ∧ Aside0 (Kd.R (Kd.int .i64) 2 w' w.heap.size (fun _ => True) (.slice (some ad435) x5_1.length co27) x5_1) ∧ Aside0 (Kd.R k47 47 w' w.heap.size (fun _ => True) u439003 x439003_3) ∧ Aside0 (w'.heap[gb422]? = some (.cells #[.int .i64 x423000_1,.int .i64 x423001_1,.int .i64 x423002_1,(.slice none 0 0)] 26 (0,0))) ∧ Aside0 (w'.heap[gb438]? = some (.cells #[.int .i64 (rd x5_1 0),.int .i64 (rd x5_1 1),.int .i64 (rd x5_1 2),u439003] 26 (0,0))) ∧ Aside0 (Below w.heap.size w w'))
          case atStart => exact ⟨(4),(([] : List (S47))),(.slice none 0 0),rs_,H',⟨Nat.le_refl _⟩,⟨by (with_reducible repeat (first|apply Kd.R_alloc|apply Kd.R_drewN|apply Kd.R_drew));exact Kd.R_mono (Kd.R_far (p := ⟨gb438,3,none⟩) (Kd.R_far (p := ⟨gb438,2,none⟩) (Kd.R_far (p := ⟨gb438,1,none⟩) (Kd.R_far (p := ⟨gb438,0,none⟩) (Kd.R_types HO_5.out BK438.out (by decide)) (fun _ hk => hk.2) (.int .i64 (rd x5_1 0))) (fun _ hk => hk.2) (.int .i64 (rd x5_1 1))) (fun _ hk => hk.2) (.int .i64 (rd x5_1 2))) (fun _ hk => hk.2) (.slice none 0 0)) (fun _ hk => trivial)⟩,⟨by first|exact Kd.R_nil _ _ _ _ _|exact Kd.N_nil _ _ _ _ _|exact Kd.V_nil _ _ _ _ _|exact Kd.Q_nil _ _ _ _ _|exact Kd.S_nil _ _ _ _ _⟩,⟨kf_ BK422⟩,⟨by (with_reducible repeat (first|refine blk_drewN ?_ _|refine blk_drew ?_|refine blk_alloc ?_ _));refine blk_put (cs := #[.int .i64 (rd x5_1 0),.int .i64 (rd x5_1 1),.int .i64 (rd x5_1 2),.slice none 0 0]) ?_ 3 _ rfl;(with_reducible repeat (first|refine blk_drewN ?_ _|refine blk_drew ?_|refine blk_alloc ?_ _));refine blk_put (cs := #[.int .i64 (rd x5_1 0),.int .i64 (rd x5_1 1),.int .i64 0,.slice none 0 0]) ?_ 2 _ rfl;(with_reducible repeat (first|refine blk_drewN ?_ _|refine blk_drew ?_|refine blk_alloc ?_ _));refine blk_put (cs := #[.int .i64 (rd x5_1 0),.int .i64 0,.int .i64 0,.slice none 0 0]) ?_ 1 _ rfl;(with_reducible repeat (first|refine blk_drewN ?_ _|refine blk_drew ?_|refine blk_alloc ?_ _));refine blk_put (cs := #[.int .i64 0,.int .i64 0,.int .i64 0,.slice none 0 0]) ?_ 0 _ rfl;(with_reducible repeat (first|refine blk_drewN ?_ _|refine blk_drew ?_|refine blk_alloc ?_ _));exact BK438.out⟩,⟨b_⟩⟩
          case round =>
           clear H'
           try clear c1
           try clear c2
           try clear p2
           try clear p4
           try clear q4
           try clear hx4
           try clear qi4
           try clear p6
           try clear c7
           try clear c7b0
           try clear c8
           try clear c8b0
           try clear c10
           try clear c11
           try clear c12
           try clear c18
           try clear c18b0
           try clear c18b1
           try clear c21
           try clear c23
           try clear c23b0
           try clear c23b1
           try clear c24
           try clear c24b0
           try clear c24b1
           try clear c25
           try clear c25b0
           try clear c25b1
           try clear hcz15_0
           try clear hcz15_1
           try clear hcz15_2
           try clear hcz15_3
           try clear hcz22_0
           try clear hcz22_1
           try clear hcz22_2
           try clear hcz22_3
           try clear hfz15_0
           try clear hfz15_1
           try clear hfz15_2
           try clear hfz15_3
           try clear hfz22_0
           try clear hfz22_1
           try clear hfz22_2
           try clear hfz22_3
           try clear hx429_0
           try clear hx435_0
           try clear hx436_0
           try clear hx437_0
           try clear p2
           try clear p4
           try clear p429
           try clear p435
           try clear p436
           try clear p437
           try clear p6
           try clear q4
           try clear q429
           try clear q435
           try clear q436
           try clear q437
           obtain ⟨x10_3,x439003_3,u439003,rfl,HA,HK3,HO_5,HO_439003,BK422,BK438,HB⟩ := hrel
           cases gk with
           | zero => exact absurd HA.out (by simp [spec_ReadRecord.l1])
           | succ k3 =>
            have H := HA.out
            clear HA
            simp only [spec_ReadRecord.l1] at H
            by_cases c33 : x10_3 < (x5_1.length : Int)
            ·rw [if_pos c33] at H
             have c33b0 : decide (x10_3 < (x5_1.length : Int)) = true := decide_eq_true c33
             clear c33
             by_cases c34 : 2 < (x5_1.length : Int)
             ·rw [if_pos c34] at H
              have c34b0 : decide (2 < (x5_1.length : Int)) = true := decide_eq_true c34
              have c34b1 : decide (2 < x5_1.length) = true := decide_eq_true (by omega)
              clear c34
              by_cases c35 : 0 ≤ x10_3
              ·rw [if_pos c35] at H
               have c35b0 : decide (0 ≤ x10_3) = true := decide_eq_true c35
               clear c35
               obtain ⟨ji36,hji36⟩ : ∃ j_ : Int,(wrap64 (x10_3 + 1)) = j_ := ⟨_,rfl⟩
               replace H : (if 0 ≤ (ji36) then (if (ji36) < (x5_1.length : Int) then (if 0 ≤ (wrap64 (x10_3 + 2)) then (if (wrap64 (x10_3 + 2)) < (x5_1.length : Int) then (if 0 ≤ (wrap64 (x10_3 + 3)) then (if (wrap64 (x10_3 + 3)) < (x5_1.length : Int) then (if x439003_3.length < 3518437208883 then (spec_ReadRecord.l1 k3 a0 x5_1 (wrap64 (x10_3 + 4)) (rd x5_1 0) (rd x5_1 1) (rd x5_1 2) (x439003_3 ++ [(⟨rd x5_1 2,rd x5_1 x10_3,rd x5_1 (ji36),((rd x5_1 (wrap64 (x10_3 + 2))) == 1),rd x5_1 (wrap64 (x10_3 + 3))⟩ : S47)])) else (none)) else (none)) else (none)) else (none)) else (none)) else (none)) else (none)) = some (r1,r2,r3,r4,r5) := by first|(rw [hji36] at H;exact H)|(simp only [hji36] at H ⊢;exact H)
               have hji36w : (IntKind.i64.wrap (x10_3 + 1)) = ji36 := (i64_w _).trans hji36
               by_cases c37 : 0 ≤ (ji36)
               ·rw [if_pos c37] at H
                have c37b0 : decide (0 ≤ (ji36)) = true := decide_eq_true c37
                clear c37
                by_cases c38 : (ji36) < (x5_1.length : Int)
                ·rw [if_pos c38] at H
                 have c38b0 : decide ((ji36) < (x5_1.length : Int)) = true := decide_eq_true c38
                 clear c38
                 obtain ⟨ji39,hji39⟩ : ∃ j_ : Int,(wrap64 (x10_3 + 2)) = j_ := ⟨_,rfl⟩
                 replace H : (if 0 ≤ (ji39) then (if (ji39) < (x5_1.length : Int) then (if 0 ≤ (wrap64 (x10_3 + 3)) then (if (wrap64 (x10_3 + 3)) < (x5_1.length : Int) then (if x439003_3.length < 3518437208883 then (spec_ReadRecord.l1 k3 a0 x5_1 (wrap64 (x10_3 + 4)) (rd x5_1 0) (rd x5_1 1) (rd x5_1 2) (x439003_3 ++ [(⟨rd x5_1 2,rd x5_1 x10_3,rd x5_1 (ji36),((rd x5_1 (ji39)) == 1),rd x5_1 (wrap64 (x10_3 + 3))⟩ : S47)])) else (none)) else (none)) else (none)) else (none)) else (none)) = some (r1,r2,r3,r4,r5) := by first|(rw [hji39] at H;exact H)|(simp only [hji39] at H ⊢;exact H)
                 have hji39w : (IntKind.i64.wrap (x10_3 + 2)) = ji39 := (i64_w _).trans hji39
                 by_cases c40 : 0 ≤ (ji39)
                 ·rw [if_pos c40] at H
                  have c40b0 : decide (0 ≤ (ji39)) = true := decide_eq_true c40
                  clear c40
                  by_cases c41 : (ji39) < (x5_1.length : Int)
                  ·rw [if_pos c41] at H
                   have c41b0 : decide ((ji39) < (x5_1.length : Int)) = true := decide_eq_true c41
                   clear c41
                   obtain ⟨ji42,hji42⟩ : ∃ j_ : Int,(wrap64 (x10_3 + 3)) = j_ := ⟨_,rfl⟩
                   replace H : (if 0 ≤ (ji42) then (if (ji42) < (x5_1.length : Int) then (if x439003_3.length < 3518437208883 then (spec_ReadRecord.l1 k3 a0 x5_1 (wrap64 (x10_3 + 4)) (rd x5_1 0) (rd x5_1 1) (rd x5_1 2) (x439003_3 ++ [(⟨rd x5_1 2,rd x5_1 x10_3,rd x5_1 (ji36),((rd x5_1 (ji39)) == 1),rd x5_1 (ji42)⟩ : S47)])) else (none)) else (none)) else (none)) = some (r1,r2,r3,r4,r5) := by first|(rw [hji42] at H;exact H)|(simp only [hji42] at H ⊢;exact H)
                   have hji42w : (IntKind.i64.wrap (x10_3 + 3)) = ji42 := (i64_w _).trans hji42
                   by_cases c43 : 0 ≤ (ji42)
                   ·rw [if_pos c43] at H
                    have c43b0 : decide (0 ≤ (ji42)) = true := decide_eq_true c43
                    clear c43
                    by_cases c44 : (ji42) < (x5_1.length : Int)
                    ·rw [if_pos c44] at H
                     have c44b0 : decide ((ji42) < (x5_1.length : Int)) = true := decide_eq_true c44
                     clear c44
                     by_cases c45 : x439003_3.length < 3518437208883
                     ·rw [if_pos c45] at H
                      have LMc45 := Aside0.mk c45
                      clear c45
                      obtain ⟨y444,hy444⟩ : ∃ y_ : List (S47),y_ = (x439003_3 ++ [(⟨rd x5_1 2,rd x5_1 x10_3,rd x5_1 (ji36),((rd x5_1 (ji39)) == 1),rd x5_1 (ji42)⟩ : S47)]) := ⟨_,rfl⟩
                      replace H : (spec_ReadRecord.l1 k3 a0 x5_1 (wrap64 (x10_3 + 4)) (rd x5_1 0) (rd x5_1 1) (rd x5_1 2) y444) = some (r1,r2,r3,r4,r5) := by first|(rw [hy444];with_reducible exact H)|(have H2_ := (Option.bind_some _ _).symm.trans H;rw [hy444];with_reducible exact H2_)|(have H2_ := (Option.bind_some _ _).symm.trans H;with_reducible exact H2_)|with_reducible exact H|(rw [hy444];exact H)|exact H
                      have Ny444 := Aside0.mk hy444
                      clear hy444
                      have H' := Aside0.mk H
                      clear H
                      try go_wp2
                      replace HO_5 := Aside0.mk (Kd.R_drew HO_5.out)
                      replace HO_439003 := Aside0.mk (Kd.R_drew HO_439003.out)
                      replace BK422 := Aside0.mk (blk_drew BK422.out)
                      replace BK438 := Aside0.mk (blk_drew BK438.out)
                      replace HB := Aside0.mk (below_drew1 HB.out)
                      have p439 : 0 ≤ (2 : Int) := (by omega)
                      have q439 : 2 < (x5_1.length : Int) := od_
                      obtain ⟨ad439,e439,hx439_0⟩ := Kd.at_int (Kd.R_reads' HO_5.out).2.2 2 p439 q439
                      obtain rfl : ad435 = ad439 := (by injection e439)
                      (try simp only [show (2 : Int).toNat = 2 from rfl,Nat.reduceMul,Nat.reduceEqDiff,Go.Addr.add,↓reduceIte] at hx439_0)
                      have qi439 : (2 < x5_1.length) = True := eq_true (by omega)
                      (try rw [show ((2 : Int)).toNat = 2 from rfl] at hx439_0)
                      replace p439 := eq_true p439
                      replace q439 := eq_true q439
                      have p440 : 0 ≤ (x10_3 : Int) := od_
                      have q440 : x10_3 < (x5_1.length : Int) := od_
                      obtain ⟨ad440,e440,hx440_0⟩ := Kd.at_int (Kd.R_reads' HO_5.out).2.2 x10_3 p440 q440
                      obtain rfl : ad435 = ad440 := (by injection e440)
                      replace p440 := eq_true p440
                      replace q440 := eq_true q440
                      have p441 : 0 ≤ ((ji36) : Int) := od_
                      have q441 : (ji36) < (x5_1.length : Int) := od_
                      obtain ⟨ad441,e441,hx441_0⟩ := Kd.at_int (Kd.R_reads' HO_5.out).2.2 (ji36) p441 q441
                      obtain rfl : ad435 = ad441 := (by injection e441)
                      replace p441 := eq_true p441
                      replace q441 := eq_true q441
                      have p442 : 0 ≤ ((ji39) : Int) := od_
                      have q442 : (ji39) < (x5_1.length : Int) := od_
                      obtain ⟨ad442,e442,hx442_0⟩ := Kd.at_int (Kd.R_reads' HO_5.out).2.2 (ji39) p442 q442
                      obtain rfl : ad435 = ad442 := (by injection e442)
                      replace p442 := eq_true p442
                      replace q442 := eq_true q442
                      have p443 : 0 ≤ ((ji42) : Int) := od_
                      have q443 : (ji42) < (x5_1.length : Int) := od_
                      obtain ⟨ad443,e443,hx443_0⟩ := Kd.at_int (Kd.R_reads' HO_5.out).2.2 (ji42) p443 q443
                      obtain rfl : ad435 = ad443 := (by injection e443)
                      replace p443 := eq_true p443
                      replace q443 := eq_true q443
                      refine std_ 30 (S := fun w' => hc4 w' gb438 (.int .i64 (rd x5_1 0)) (.int .i64 (rd x5_1 1)) (.int .i64 (rd x5_1 2)) (u439003) ((w'.cell? ⟨ad435.block,ad435.off + 2,none⟩ = some (.int .i64 (rd x5_1 2))) ∧ (w'.cell? (ad435.add (x10_3).toNat) = some (.int .i64 (rd x5_1 x10_3))) ∧ (w'.cell? (ad435.add ((ji36)).toNat) = some (.int .i64 (rd x5_1 (ji36)))) ∧ (w'.cell? (ad435.add ((ji39)).toNat) = some (.int .i64 (rd x5_1 (ji39)))) ∧ w'.cell? (ad435.add ((ji42)).toNat) = some (.int .i64 (rd x5_1 (ji42))))) (ds := [27,29]) hh_ (fun hHeld => ?_);refine with_tabW spec_ReadRecord.tab16 spec_ReadRecord.bits16 (fun HT_ HW_ => ?_)
                      generalize wr.drew = w46 at HO_5 HO_439003 BK422 BK438 HB hx439_0 hx440_0 hx441_0 hx442_0 hx443_0 hHeld ⊢
                      refine pv_ 0 61 ?_
                      refine pv_ 2 63 ?_
                      refine pv_ 3 64 ?_
                      refine pv_ 5 66 ?_
                      refine pv_ 6 67 ?_
                      refine pv_ 7 68 ?_
                      refine pv_ 9 70 ?_
                      refine pv_ 10 71 ?_
                      refine pv_ 11 72 ?_
                      refine pv_ 12 73 ?_
                      refine pv_ 14 75 ?_
                      refine pv_ 15 76 ?_
                      refine pv_ 16 77 ?_
                      refine pv_ 17 78 ?_
                      refine pv_ 20 81 ?_
                      refine pv_ 21 82 ?_
                      refine pv_ 22 83 ?_
                      refine pv_ 23 84 ?_
                      refine tx_ 1 62 hHeld ?_
                      refine tx_ 4 65 hHeld ?_
                      refine tx_ 8 69 hHeld ?_
                      refine tx_ 13 74 hHeld ?_
                      refine tx_ 18 79 hHeld ?_
                      refine pv_ 19 80 ?_
                      refine tx_ 24 85 hHeld ?_
                      refine pv_ 25 86 ?_
                      refine oy_ 26 87 (fun K hK => ?_)
                      refine value_ (w1 := ?_) (v := ?_) (by rfl) rfl ?_ ?_
                      rotate_left 2
                      ·go_simp
                       constructor
                       ·rfl
                       ·rfl
                      refine hK.out _ _ ⟨(blk_cell (blk_alloc BK438.out _) 0).trans rfl,(blk_cell (blk_alloc BK438.out _) 1).trans rfl,(blk_cell (blk_alloc BK438.out _) 2).trans rfl,(blk_cell (blk_alloc BK438.out _) 3).trans rfl,(World.cell?_alloc_lt _ _ _ (World.block_lt_of_cell? _ _ (hHeld.2.2.2.2.1))).trans (hHeld.2.2.2.2.1),(World.cell?_alloc_lt _ _ _ (World.block_lt_of_cell? _ _ (hHeld.2.2.2.2.2.1))).trans (hHeld.2.2.2.2.2.1),(World.cell?_alloc_lt _ _ _ (World.block_lt_of_cell? _ _ (hHeld.2.2.2.2.2.2.1))).trans (hHeld.2.2.2.2.2.2.1),(World.cell?_alloc_lt _ _ _ (World.block_lt_of_cell? _ _ (hHeld.2.2.2.2.2.2.2.1))).trans (hHeld.2.2.2.2.2.2.2.1),(World.cell?_alloc_lt _ _ _ (World.block_lt_of_cell? _ _ (hHeld.2.2.2.2.2.2.2.2))).trans (hHeld.2.2.2.2.2.2.2.2)⟩ (fun hHeld => ?_)
                      clear hK K
                      refine nr_ (some 87) _ ?_
                      refine last_ (i := 27) (N := some 88) #[true,true,true,true,true,true,true,true,true,true,true,true,true,true,true,true,true,true,true,true,true,true,true,true,true,true,true,true,false,false] rfl rfl (one_of HT_.out (by kernel_rfl)) (by decide) (fun K hK => ?_)
                      refine Kd.R_append_step k47 (w0 := w) w.heap.size (by rfl) (.tmp 62) (.tmp 87) 24 47 (.agg #[(.int .i64 0),(.int .i64 0),(.int .i64 0),(.bool false),(.int .i64 0)]) 40 rfl Tryz.underlying24 info47 rfl (by decide) (by omega) u439003 x439003_3 (⟨rd x5_1 2,rd x5_1 x10_3,rd x5_1 (ji36),((rd x5_1 (ji39)) == 1),rd x5_1 (ji42)⟩ : S47) [.int .i64 (rd x5_1 2),.int .i64 (rd x5_1 x10_3),.int .i64 (rd x5_1 (ji36)),.bool ((rd x5_1 (ji39)) == 1),.int .i64 (rd x5_1 (ji42))] (fun _ => True) (fun _ => False) rfl rfl ?aP (fun _ hk => hk.elim) ?aF ?aO ?aB ?aS ?aL ?_
                      (case aP => exact k47_mkM _ _ _ (⟨rd x5_1 2,rd x5_1 x10_3,rd x5_1 (ji36),((rd x5_1 (ji39)) == 1),rd x5_1 (ji42)⟩ : S47))
                      (case aB => exact b_)
                      (case aF => exact (fun _ _ => trivial))
                      (case aO => exact (by (with_reducible repeat (first|apply Kd.R_alloc|apply Kd.R_drewN|apply Kd.R_drew));exact HO_439003.out))
                      (case aS => exact (below_size b_))
                      (case aL => have := LMc45.out;omega)
                      intro v445 w47 ho hb hg hat
                      rw [← Ny444.out] at ho
                      replace HO_5 := Aside0.mk (Kd.R_over' (by (with_reducible repeat (first|apply Kd.R_alloc|apply Kd.R_drewN|apply Kd.R_drew));exact HO_5.out) (Kd.R_typed (by (with_reducible repeat (first|apply Kd.R_alloc|apply Kd.R_drewN|apply Kd.R_drew));exact HO_439003.out)) (by decide) hg)
                      replace BK422 := Aside0.mk (blk_grown (kb_ BK422) hg (Kd.R_ne HO_439003.out BK422.out (by decide)))
                      replace BK438 := Aside0.mk (blk_grown (kb_ BK438) hg (Kd.R_ne HO_439003.out BK438.out (by decide)))
                      replace HB := Aside0.mk (hb)
                      have HO446 := Aside0.mk (ho)
                      clear HO_439003
                      clear ho hb hg hat
                      obtain ⟨Ao48,co48,eo48⟩ := Kd.R_slice HO446.out
                      (first|subst eo48|(injection eo48 with f1_ f2_ f3_;have f4_ := f1_.symm;have f5_ := f3_.symm;clear f1_ f2_ f3_;subst f4_;subst f5_))
                      refine hK.out _ _ ?_
                      clear hK K
                      refine nr_ (some 88) _ ?_
                      refine pv_ 28 89 ?_
                      refine last_ (i := 29) (N := none) #[true,true,true,true,true,true,true,true,true,true,true,true,true,true,true,true,true,true,true,true,true,true,true,true,true,true,true,true,true,true] rfl rfl (one_of HT_.out (by kernel_rfl)) (by decide) (fun K hK => ?_)
                      have hs49 : w47.cell? ⟨gb438,3,none⟩ = some (u439003) := (blk_cell BK438.out 3).trans rfl
                      have hfs49 := blk_frozen BK438.out 3
                      have hns49_0 := NB422_438.out
                      have hms49_0 := NB438_422.out
                      refine skip_ (w1 := ?_) (by rfl) rfl ?_ ?_
                      rotate_left
                      ·go_simp
                       rfl
                      refine hK.out _ _ ?_
                      clear hK K
                      refine done_ (done_of HT_.out (by kernel_rfl)) ?_
                      try go_wp2
                      go_roundg k3
                      case measure => have := HK1.out;have := HJ15.out;have := HK3.out;omega
                      case rel => exact ⟨(wrap64 (x10_3 + 4)),(y444),(.slice Ao48 y444.length co48),rs_,H',⟨by have := HK1.out;have := HJ15.out;have := HK3.out;omega⟩,⟨by (with_reducible repeat (first|apply Kd.R_alloc|apply Kd.R_drewN|apply Kd.R_drew));exact Kd.R_mono (Kd.R_far (p := ⟨gb438,3,none⟩) (Kd.R_types HO_5.out BK438.out (by decide)) (fun _ hk => hk.2) (.slice Ao48 y444.length co48)) (fun _ hk => trivial)⟩,⟨by (with_reducible repeat (first|apply Kd.R_alloc|apply Kd.R_drewN|apply Kd.R_drew));exact Kd.R_mono (Kd.R_far (p := ⟨gb438,3,none⟩) (Kd.R_types HO446.out BK438.out (by decide)) (fun _ hk => hk.2) (.slice Ao48 y444.length co48)) (fun _ hk => trivial)⟩,⟨kf_ BK422⟩,⟨by (with_reducible repeat (first|refine blk_drewN ?_ _|refine blk_drew ?_|refine blk_alloc ?_ _));refine blk_put (cs := #[.int .i64 (rd x5_1 0),.int .i64 (rd x5_1 1),.int .i64 (rd x5_1 2),u439003]) ?_ 3 _ rfl;(with_reducible repeat (first|refine blk_drewN ?_ _|refine blk_drew ?_|refine blk_alloc ?_ _));exact BK438.out⟩,⟨b_⟩⟩
                     ·rw [if_neg c45] at H
                      exact absurd H (by simp)
                    ·rw [if_neg c44] at H
                     exact absurd H (by simp)
                   ·rw [if_neg c43] at H
                    exact absurd H (by simp)
                  ·rw [if_neg c41] at H
                   exact absurd H (by simp)
                 ·rw [if_neg c40] at H
                  exact absurd H (by simp)
                ·rw [if_neg c38] at H
                 exact absurd H (by simp)
               ·rw [if_neg c37] at H
                exact absurd H (by simp)
              ·rw [if_neg c35] at H
               exact absurd H (by simp)
             ·rw [if_neg c34] at H
              exact absurd H (by simp)
            ·rw [if_neg c33] at H
             have c33b0 : decide (x10_3 < (x5_1.length : Int)) = false := decide_eq_false c33
             clear c33
             replace H := bs_ H
             obtain ⟨t447,A50,H⟩ := H
             by_cases c51 : t447.toList = a0.toList
             ·rw [if_pos c51] at H
              have c51b0 : (t447.toList == a0.toList) = true := beq_iff_eq.mpr c51
              have c51b1 : (t447.toList != a0.toList) = false := bne_eq_false_iff_eq.mpr c51
              clear c51
              simp only [Option.some.injEq,Prod.mk.injEq] at H
              obtain ⟨rfl,rfl,rfl,rfl,rfl⟩ := H
              have hnb52 := NB438_422.out
              have hnc52 := NB422_438.out
              obtain ⟨⟨hcz53_0,hcz53_1,hcz53_2,hcz53_3⟩,hfz53_0,hfz53_1,hfz53_2,hfz53_3⟩ := cl4_ BK438.out
              obtain ⟨Ao54,co54,eo54⟩ := Kd.R_slice HO_439003.out
              subst eo54
              go_wp2_with (first|((with_reducible refine gcal_ (f := 7) rfl ?_);refine gl_ (some 91) Tryz.func7 #[.agg #[.int .i64 (rd x5_1 0),.int .i64 (rd x5_1 1),.int .i64 (rd x5_1 2),.slice Ao54 x439003_3.length co54]] ?_;(with_reducible refine (spec_ShowRecord.calls k3 (rd x5_1 0) (rd x5_1 1) (rd x5_1 2) _ _ x439003_3 t447 _ ?side1 ?side2 A50.out).mono ?_);(case side1 => repeat (first|exact (Kd.R_reads' HO_439003.out).2.2|(with_reducible refine Kd.C_alloc ?_ _)|(with_reducible refine Kd.C_drewN ?_ _)|(with_reducible refine Kd.C_drew ?_)));(case side2 => exact (Kd.R_reads' HO_439003.out).2.1);rintro e w55 ⟨rfl,hb⟩;refine ⟨_,rfl,?_⟩;replace HO_5 := Aside0.mk (Kd.R_below (by (with_reducible repeat (first|apply Kd.R_alloc|apply Kd.R_drewN|apply Kd.R_drew));exact HO_5.out) hb);replace HO_439003 := Aside0.mk (Kd.R_below (by (with_reducible repeat (first|apply Kd.R_alloc|apply Kd.R_drewN|apply Kd.R_drew));exact HO_439003.out) hb);replace BK422 := Aside0.mk (blk_below (kb_ BK422) hb);replace BK438 := Aside0.mk (blk_below (kb_ BK438) hb);replace HB := Aside0.mk (below_step b_ hb);(try clear hb);(try clear hb2);(try clear hk);(try clear hi);obtain ⟨⟨hcz56_0,hcz56_1,hcz56_2,hcz56_3⟩,hfz56_0,hfz56_1,hfz56_2,hfz56_3⟩ := cl4_ BK438.out;obtain ⟨⟨hcz57_0,hcz57_1,hcz57_2,hcz57_3⟩,hfz57_0,hfz57_1,hfz57_2,hfz57_3⟩ := cl4_ BK422.out))
              refine bodyPost_ret (results_ct rfl _ _ gb422 26 #[.int .i64 (rd x5_1 0),.int .i64 (rd x5_1 1),.int .i64 (rd x5_1 2),.slice Ao54 x439003_3.length co54] (0,0) _ rfl (by (with_reducible repeat (first|refine blk_drewN ?_ _|refine blk_drew ?_|refine blk_alloc ?_ _));refine blk_put (cs := #[.int .i64 (rd x5_1 0),.int .i64 (rd x5_1 1),.int .i64 (rd x5_1 2),.slice none 0 0]) ?_ 3 _ rfl;(with_reducible repeat (first|refine blk_drewN ?_ _|refine blk_drew ?_|refine blk_alloc ?_ _));refine blk_put (cs := #[.int .i64 (rd x5_1 0),.int .i64 (rd x5_1 1),.int .i64 x423002_1,.slice none 0 0]) ?_ 2 _ rfl;(with_reducible repeat (first|refine blk_drewN ?_ _|refine blk_drew ?_|refine blk_alloc ?_ _));refine blk_put (cs := #[.int .i64 (rd x5_1 0),.int .i64 x423001_1,.int .i64 x423002_1,.slice none 0 0]) ?_ 1 _ rfl;(with_reducible repeat (first|refine blk_drewN ?_ _|refine blk_drew ?_|refine blk_alloc ?_ _));refine blk_put (cs := #[.int .i64 x423000_1,.int .i64 x423001_1,.int .i64 x423002_1,.slice none 0 0]) ?_ 0 _ rfl;(with_reducible repeat (first|refine blk_drewN ?_ _|refine blk_drew ?_|refine blk_alloc ?_ _));exact BK422.out) Tryz.underlying26 rfl (by kernel_rfl)) rfl ?_
              exact ⟨_,rf_,by (with_reducible repeat (first|apply Kd.R_alloc|apply Kd.R_drewN|apply Kd.R_drew));exact Kd.R_mono (Kd.R_far (p := ⟨gb422,3,none⟩) (Kd.R_far (p := ⟨gb422,2,none⟩) (Kd.R_far (p := ⟨gb422,1,none⟩) (Kd.R_far (p := ⟨gb422,0,none⟩) (Kd.R_types HO_439003.out BK422.out (by decide)) (fun _ hk => hk.2) (.int .i64 (rd x5_1 0))) (fun _ hk => hk.2) (.int .i64 (rd x5_1 1))) (fun _ hk => hk.2) (.int .i64 (rd x5_1 2))) (fun _ hk => hk.2) (.slice Ao54 x439003_3.length co54)) (fun _ hk => trivial),b_⟩
             ·rw [if_neg c51] at H
              have c51b0 : (t447.toList == a0.toList) = false := beq_eq_false_iff_ne.mpr c51
              have c51b1 : (t447.toList != a0.toList) = true := bne_iff_ne.mpr c51
              simp only [Option.some.injEq,Prod.mk.injEq] at H
              obtain ⟨rfl,rfl,rfl,rfl,rfl⟩ := H
              have hnb58 := NB438_422.out
              have hnc58 := NB422_438.out
              obtain ⟨⟨hcz59_0,hcz59_1,hcz59_2,hcz59_3⟩,hfz59_0,hfz59_1,hfz59_2,hfz59_3⟩ := cl4_ BK438.out
              obtain ⟨Ao60,co60,eo60⟩ := Kd.R_slice HO_439003.out
              subst eo60
              go_wp2_with (first|((with_reducible refine gcal_ (f := 7) rfl ?_);refine gl_ (some 91) Tryz.func7 #[.agg #[.int .i64 (rd x5_1 0),.int .i64 (rd x5_1 1),.int .i64 (rd x5_1 2),.slice Ao60 x439003_3.length co60]] ?_;(with_reducible refine (spec_ShowRecord.calls k3 (rd x5_1 0) (rd x5_1 1) (rd x5_1 2) _ _ x439003_3 t447 _ ?side1 ?side2 A50.out).mono ?_);(case side1 => repeat (first|exact (Kd.R_reads' HO_439003.out).2.2|(with_reducible refine Kd.C_alloc ?_ _)|(with_reducible refine Kd.C_drewN ?_ _)|(with_reducible refine Kd.C_drew ?_)));(case side2 => exact (Kd.R_reads' HO_439003.out).2.1);rintro e w61 ⟨rfl,hb⟩;refine ⟨_,rfl,?_⟩;replace HO_5 := Aside0.mk (Kd.R_below (by (with_reducible repeat (first|apply Kd.R_alloc|apply Kd.R_drewN|apply Kd.R_drew));exact HO_5.out) hb);replace HO_439003 := Aside0.mk (Kd.R_below (by (with_reducible repeat (first|apply Kd.R_alloc|apply Kd.R_drewN|apply Kd.R_drew));exact HO_439003.out) hb);replace BK422 := Aside0.mk (blk_below (kb_ BK422) hb);replace BK438 := Aside0.mk (blk_below (kb_ BK438) hb);replace HB := Aside0.mk (below_step b_ hb);(try clear hb);(try clear hb2);(try clear hk);(try clear hi);obtain ⟨⟨hcz62_0,hcz62_1,hcz62_2,hcz62_3⟩,hfz62_0,hfz62_1,hfz62_2,hfz62_3⟩ := cl4_ BK422.out))
              refine bodyPost_ret (results_ct rfl _ _ gb422 26 #[.int .i64 0,.int .i64 0,.int .i64 0,.slice none 0 0] (0,0) _ rfl (by (with_reducible repeat (first|refine blk_drewN ?_ _|refine blk_drew ?_|refine blk_alloc ?_ _));refine blk_put (cs := #[.int .i64 0,.int .i64 0,.int .i64 0,.slice none 0 0]) ?_ 3 _ rfl;(with_reducible repeat (first|refine blk_drewN ?_ _|refine blk_drew ?_|refine blk_alloc ?_ _));refine blk_put (cs := #[.int .i64 0,.int .i64 0,.int .i64 x423002_1,.slice none 0 0]) ?_ 2 _ rfl;(with_reducible repeat (first|refine blk_drewN ?_ _|refine blk_drew ?_|refine blk_alloc ?_ _));refine blk_put (cs := #[.int .i64 0,.int .i64 x423001_1,.int .i64 x423002_1,.slice none 0 0]) ?_ 1 _ rfl;(with_reducible repeat (first|refine blk_drewN ?_ _|refine blk_drew ?_|refine blk_alloc ?_ _));refine blk_put (cs := #[.int .i64 x423000_1,.int .i64 x423001_1,.int .i64 x423002_1,.slice none 0 0]) ?_ 0 _ rfl;(with_reducible repeat (first|refine blk_drewN ?_ _|refine blk_drew ?_|refine blk_alloc ?_ _));exact BK422.out) Tryz.underlying26 rfl (by kernel_rfl)) rfl ?_
              exact ⟨_,rf_,by first|exact Kd.R_nil _ _ _ _ _|exact Kd.N_nil _ _ _ _ _|exact Kd.V_nil _ _ _ _ _|exact Kd.Q_nil _ _ _ _ _|exact Kd.S_nil _ _ _ _ _,b_⟩
         ·rw [if_neg c25] at H
          exact absurd H (by simp)
        ·rw [if_neg c24] at H
         exact absurd H (by simp)
       ·rw [if_neg c23] at H
        exact absurd H (by simp)

end Go.Proofs.YtnilfnkdgdfnnaaGreatDoor.XRe
