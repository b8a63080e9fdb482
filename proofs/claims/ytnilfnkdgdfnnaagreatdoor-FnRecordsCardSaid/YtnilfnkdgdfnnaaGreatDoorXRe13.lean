/- Proved: of each Go function here that a call comes to what the Lean function of its name tells. Written by a program of this session over the translation. No conditions beyond each theorem's own. -/
import Derived.Test.YtnilfnkdgdfnnaaGreatDoorXRe0
import Derived.Test.YtnilfnkdgdfnnaaGreatDoorXRe5
import Derived.Test.YtnilfnkdgdfnnaaGreatDoorXRe12
namespace Go.Proofs.YtnilfnkdgdfnnaaGreatDoor.XRe
open Go.RowKit Go.Proofs.YtnilfnkdgdfnnaaGreatDoor.Aid Go.Proofs.YtnilfnkdgdfnnaaGreatDoorW.PrintWords Go.Proofs.YtnilfnkdgdfnnaaGreatDoorW.PrintLast Go.Proofs.YtnilfnkdgdfnnaaGreatDoorW.PrintMore
set_option linter.unusedVariables false
set_option linter.unusedSimpArgs false

/-! ### impl_readRecord: function 18 -/
mutual
def impl_readRecord.j0 : Nat → List ByteArray → Bool → Option (Int × Int × Int × (List (S47)) × Bool)
  | 0, _, _ => none
  | k + 1, x0, x19 => if x19 = true then (some (0, 0, 0, ([] : List (S47)), false)) else (impl_readRecord.l0 k ([] : List Int) x0 (x0.length : Int) 0)
def impl_readRecord.l0 : Nat → List Int → List ByteArray → Int → Int → Option (Int × Int × Int × (List (S47)) × Bool)
  | 0, _, _, _, _ => none
  | k + 1, x4, x21, x22, x23 => if x23 < x22 then (if 0 ≤ x23 then (if x23 < (x21.length : Int) then ((impl_number.f (rdOf ByteArray.empty x21 x23)).bind fun bt372 => (if bt372.2 = true then (if x4.length < 17592186044416 then (impl_readRecord.l0 k (x4 ++ [bt372.1]) x21 x22 (wrap64 (x23 + 1))) else (none)) else (some (0, 0, 0, ([] : List (S47)), false)))) else (none)) else (none)) else (if 0 < (x4.length : Int) then (if 1 < (x4.length : Int) then (if 2 < (x4.length : Int) then (if 4 ≤ (x4.length : Int) then (impl_readRecord.l1 k (x4.drop (4 : Int).toNat) (rd x4 0) (rd x4 1) (rd x4 2) ([] : List (S47))) else (none)) else (none)) else (none)) else (none))
def impl_readRecord.l1 : Nat → List Int → Int → Int → Int → List (S47) → Option (Int × Int × Int × (List (S47)) × Bool)
  | 0, _, _, _, _, _ => none
  | k + 1, x10, x381000, x381001, x381002, x381003 => if (x10.length : Int) > 0 then (if 0 < (x10.length : Int) then (if 1 < (x10.length : Int) then (if 2 < (x10.length : Int) then (if 3 < (x10.length : Int) then (if x381003.length < 3518437208883 then (if 4 ≤ (x10.length : Int) then (impl_readRecord.l1 k (x10.drop (4 : Int).toNat) x381000 x381001 x381002 (x381003 ++ [(⟨x381002, rd x10 0, rd x10 1, ((rd x10 2) == 1), rd x10 3⟩ : S47)])) else (none)) else (none)) else (none)) else (none)) else (none)) else (none)) else (some (x381000, x381001, x381002, x381003, true))
end
def impl_readRecord.f (k : Nat) (l0 : List ByteArray) : Option (Int × Int × Int × (List (S47)) × Bool) := if (l0.length : Int) > 52 then (impl_readRecord.j0 k l0 true) else (impl_readRecord.j0 k l0 (((l0.length : Int) % 4) != 0))

def impl_readRecord.T12 : Bool × List (List Nat × List Nat) := (true, [([], []), ([0], [0]), ([1], [1]), ([], []), ([3], [3]), ([4], [4]), ([], []), ([6], [6]), ([7], [7]), ([2, 5, 8], [2, 5, 8]), ([], []), ([10, 9, 0, 1, 2, 3, 4, 5, 6, 7, 8, 9, 10], [9, 10])])
def impl_readRecord.B12 : List Nat := [0, 1, 3, 0, 8, 24, 0, 64, 192, 511, 0, 2047]
theorem impl_readRecord.tab12 : rtab .any (opsOf Tryz.f18 12) = impl_readRecord.T12 := by kernel_rfl
theorem impl_readRecord.bits12 : waitsOk impl_readRecord.T12.2 impl_readRecord.B12 = true := by kernel_rfl
def impl_readRecord.T16 : Bool × List (List Nat × List Nat) := (true, [([], []), ([0], [0]), ([], []), ([2], [2]), ([], []), ([4], [4]), ([5], [5]), ([], []), ([7], [7]), ([8], [8]), ([], []), ([10], [10]), ([11], [11]), ([12], [12]), ([], []), ([14], [14]), ([15], [15]), ([3, 6, 9, 13, 16], [3, 6, 9, 13, 16]), ([17], [17]), ([1, 18], [1, 18]), ([0, 1, 2, 3, 4, 5, 6, 7, 8, 9, 10, 11, 12, 13, 14, 15, 16, 17, 18, 19], []), ([20, 19, 19, 0, 1, 2, 3, 4, 5, 6, 7, 8, 9, 10, 11, 12, 13, 14, 15, 16, 17, 18, 19], [19, 20])])
def impl_readRecord.B16 : List Nat := [0, 1, 0, 4, 0, 16, 48, 0, 128, 384, 0, 1024, 3072, 7168, 0, 16384, 49152, 131068, 262140, 524287, 1048575, 2097151]
theorem impl_readRecord.tab16 : rtab .any (opsOf Tryz.f18 16) = impl_readRecord.T16 := by kernel_rfl
theorem impl_readRecord.bits16 : waitsOk impl_readRecord.T16.2 impl_readRecord.B16 = true := by kernel_rfl
set_option maxHeartbeats 8000000 in
set_option maxRecDepth 100000 in
theorem impl_readRecord.calls (k : Nat) (A0 : Option Addr) (c0 : Nat) (l0 : List ByteArray) (r1 : Int) (r2 : Int) (r3 : Int) (r4 : List (S47)) (r5 : Bool) (w : World) (htb : Aside0 (Tb w)) (hr0 : Kd.C Kd.string w A0 l0.length l0) (hc0 : l0.length ≤ c0) (h : impl_readRecord.f k l0 = some (r1, r2, r3, r4, r5)) :
    Calls Tryz.prog 18 #[.slice A0 l0.length c0] w fun e w' => ∃ v3_ : Value, e = .returned (.tuple #[.agg #[.int .i64 r1, .int .i64 r2, .int .i64 r3, v3_], .bool r5]) ∧ Kd.R k47 47 w' w.heap.size (fun _ => True) v3_ r4 ∧ Below w.heap.size w w' := by
 have hu26 := Tryz.underlying26
 have hu47 := Tryz.underlying47
 have HR0 := Aside0.mk hr0
 have HC0 := Aside0.mk hc0
 clear hr0 hc0
 have HB := Aside0.mk (Below.refl w.heap.size w)
 have H : (if (l0.length : Int) > 52 then (impl_readRecord.j0 k l0 true) else (impl_readRecord.j0 k l0 (((l0.length : Int) % 4) != 0))) = some (r1,r2,r3,r4,r5) := h
 clear h
 have HC2 := Aside0.mk H
 clear H
 go_enter Tryz.func18,Tryz.ntmps18
 go_upto_region 1 with (first|((with_reducible refine gate_dst (N := 2) rfl ?_);(try (refine gate_guard (by rfl) ?_;dsimp only));refine bx_ 2 #[.int .i64 0,.int .i64 0,.int .i64 0,.slice none 0 0] 26 ?_;intro gb370 hg w3 hbox hb;have n0_ := Aside0.mk (below_step b_ hb);have n1_ := Aside0.mk (hbox);have n2_ := Aside0.mk ((gw_ (w := w) hg));have n3_ := Aside0.mk ((gw_ (w := w) hg));clear HB;have HB := n0_;have BK370 := n1_;have GW370 := n2_;have GE370 := n3_;clear n0_ n1_ n2_ n3_;clear hb hbox hg))
 (try simp only [Act.put,List.setIfInBounds_toArray,List.set_cons_zero,List.set_cons_succ])
 go_cut [19] (fun v19 wc => ∃ (kq : Nat) (x19_1 : Bool),v19 = .bool x19_1 ∧ Aside0 (impl_readRecord.j0 kq l0 x19_1 = some (r1,r2,r3,r4,r5)) ∧ Aside0 (kq ≤ k) ∧ Aside0 (wc.heap[gb370]? = some (.cells #[.int .i64 0,.int .i64 0,.int .i64 0,(.slice none 0 0)] 26 (0,0))) ∧ Aside0 (Below w.heap.size w wc))
 case first =>
  have H := HC2.out
  clear HC2
  by_cases c4 : (l0.length : Int) > 52
  ·rw [if_pos c4] at H
   have c4b0 : decide (52 < (l0.length : Int)) = true := decide_eq_true c4
   have c4b1 : decide (52 < l0.length) = true := decide_eq_true (by omega)
   clear c4
   (first|rw [c4b0]|(simp only [i64_w,i32_w];rw [c4b0])|skip)
   have H' := Aside0.mk H
   clear H
   go_wp2
   go_meet
   case rel => exact ⟨_,(true),rs_,H',⟨by first|omega|exact Nat.le_refl _⟩,⟨kb_ BK370⟩,⟨b_⟩⟩
  ·rw [if_neg c4] at H
   have c4b0 : decide (52 < (l0.length : Int)) = false := decide_eq_false c4
   have c4b1 : decide (52 < l0.length) = false := decide_eq_false (by omega)
   clear c4
   (first|rw [c4b0]|(simp only [i64_w,i32_w];rw [c4b0])|skip)
   have H' := Aside0.mk H
   clear H
   go_wp2
   go_meet
   case rel => exact ⟨_,((((l0.length : Int) % 4) != 0)),rs_,H',⟨by first|omega|exact Nat.le_refl _⟩,⟨kb_ BK370⟩,⟨b_⟩⟩
 case rest =>
  clear HC2
  try clear c1
  try clear p2
  try clear c4
  try clear c4b0
  try clear c4b1
  obtain ⟨kq,x19_1,rfl,HA,HJ1,BK370,HB⟩ := hcut
  cases kq with
    | zero => exact absurd HA.out (by simp [impl_readRecord.j0])
    | succ kj1 =>
   have H := HA.out
   clear HA
   simp only [impl_readRecord.j0] at H
   by_cases c5 : x19_1 = true
   ·subst c5
    replace H := it_ H
    simp only [Option.some.injEq,Prod.mk.injEq] at H
    obtain ⟨rfl,rfl,rfl,rfl,rfl⟩ := H
    obtain ⟨⟨hcz6_0,hcz6_1,hcz6_2,hcz6_3⟩,hfz6_0,hfz6_1,hfz6_2,hfz6_3⟩ := cl4_ BK370.out
    go_wp2
    refine bodyPost_ret (results_ct rfl _ _ gb370 26 #[.int .i64 0,.int .i64 0,.int .i64 0,.slice none 0 0] (0,0) _ rfl (by (with_reducible repeat (first|refine blk_drewN ?_ _|refine blk_drew ?_|refine blk_alloc ?_ _));refine blk_put (cs := #[.int .i64 0,.int .i64 0,.int .i64 0,.slice none 0 0]) ?_ 3 _ rfl;(with_reducible repeat (first|refine blk_drewN ?_ _|refine blk_drew ?_|refine blk_alloc ?_ _));refine blk_put (cs := #[.int .i64 0,.int .i64 0,.int .i64 0,.slice none 0 0]) ?_ 2 _ rfl;(with_reducible repeat (first|refine blk_drewN ?_ _|refine blk_drew ?_|refine blk_alloc ?_ _));refine blk_put (cs := #[.int .i64 0,.int .i64 0,.int .i64 0,.slice none 0 0]) ?_ 1 _ rfl;(with_reducible repeat (first|refine blk_drewN ?_ _|refine blk_drew ?_|refine blk_alloc ?_ _));refine blk_put (cs := #[.int .i64 0,.int .i64 0,.int .i64 0,.slice none 0 0]) ?_ 0 _ rfl;(with_reducible repeat (first|refine blk_drewN ?_ _|refine blk_drew ?_|refine blk_alloc ?_ _));exact BK370.out) Tryz.underlying26 rfl (by kernel_rfl)) rfl ?_
    exact ⟨_,rf_,by first|exact Kd.R_nil _ _ _ _ _|exact Kd.N_nil _ _ _ _ _|exact Kd.V_nil _ _ _ _ _|exact Kd.Q_nil _ _ _ _ _|exact Kd.S_nil _ _ _ _ _,b_⟩
   ·replace c5 := Bool.eq_false_iff.mpr c5
    subst c5
    replace H := ie_ H
    have H' := Aside0.mk H
    clear H
    go_wp2
    go_loopg [4,23] kj1 (fun kq v4 v23 w' => ∃ (x4_2 : List Int) (x23_2 : Int) (x371000_2 : Int) (x371001_2 : Int) (x371002_2 : Int),v23 = .int .i64 x23_2 ∧ Aside0 (impl_readRecord.l0 kq x4_2 l0 (l0.length : Int) x23_2 = some (r1,r2,r3,r4,r5)) ∧ Aside0 (kq ≤ kj1) ∧ Aside0 (Kd.R (Kd.int .i64) 2 w' w.heap.size (fun _ => True) v4 x4_2) ∧ Aside0 (w'.heap[gb370]? = some (.cells #[.int .i64 x371000_2,.int .i64 x371001_2,.int .i64 x371002_2,(.slice none 0 0)] 26 (0,0))) ∧ Aside0 (Below w.heap.size w w'))
    case atStart => exact ⟨(([] : List Int)),(0),(0),(0),(0),rs_,H',⟨Nat.le_refl _⟩,⟨by first|exact Kd.R_nil _ _ _ _ _|exact Kd.N_nil _ _ _ _ _|exact Kd.V_nil _ _ _ _ _|exact Kd.Q_nil _ _ _ _ _|exact Kd.S_nil _ _ _ _ _⟩,⟨kb_ BK370⟩,⟨b_⟩⟩
    case round =>
     clear H'
     try clear c1
     try clear p2
     try clear c4
     try clear c4b0
     try clear c4b1
     try clear c5
     try clear hcz6_0
     try clear hcz6_1
     try clear hcz6_2
     try clear hcz6_3
     try clear hfz6_0
     try clear hfz6_1
     try clear hfz6_2
     try clear hfz6_3
     try clear p2
     obtain ⟨x4_2,x23_2,x371000_2,x371001_2,x371002_2,rfl,HA,HK2,HO_4,BK370,HB⟩ := hrel
     cases gk with
     | zero => exact absurd HA.out (by simp [impl_readRecord.l0])
     | succ k2 =>
      have H := HA.out
      clear HA
      simp only [impl_readRecord.l0] at H
      by_cases c7 : x23_2 < (l0.length : Int)
      ·rw [if_pos c7] at H
       have c7b0 : decide (x23_2 < (l0.length : Int)) = true := decide_eq_true c7
       clear c7
       by_cases c8 : 0 ≤ x23_2
       ·rw [if_pos c8] at H
        have c8b0 : decide (0 ≤ x23_2) = true := decide_eq_true c8
        clear c8
        by_cases c9 : x23_2 < (l0.length : Int)
        ·rw [if_pos c9] at H
         have c9b0 : decide (x23_2 < (l0.length : Int)) = true := decide_eq_true c9
         clear c9
         replace H := Option.bind_eq_some_iff.mp H
         obtain ⟨⟨t372,t373⟩,A100,H⟩ := H
         replace H : (if t373 = true then (if x4_2.length < 17592186044416 then (impl_readRecord.l0 k2 (x4_2 ++ [t372]) l0 (l0.length : Int) (wrap64 (x23_2 + 1))) else (none)) else (some (0,0,0,([] : List (S47)),false))) = some (r1,r2,r3,r4,r5) := H
         have A10 := Aside0.mk A100
         clear A100
         by_cases c11 : t373 = true
         ·subst c11
          replace H := it_ H
          by_cases c12 : x4_2.length < 17592186044416
          ·rw [if_pos c12] at H
           have LMc12 := Aside0.mk c12
           clear c12
           obtain ⟨y374,hy374⟩ : ∃ y_ : List Int,y_ = (x4_2 ++ [t372]) := ⟨_,rfl⟩
           replace H : (impl_readRecord.l0 k2 y374 l0 (l0.length : Int) (wrap64 (x23_2 + 1))) = some (r1,r2,r3,r4,r5) := by first|(rw [hy374];with_reducible exact H)|(have H2_ := (Option.bind_some _ _).symm.trans H;rw [hy374];with_reducible exact H2_)|(have H2_ := (Option.bind_some _ _).symm.trans H;with_reducible exact H2_)|with_reducible exact H|(rw [hy374];exact H)|exact H
           have Ny374 := Aside0.mk hy374
           clear hy374
           have H' := Aside0.mk H
           clear H
           have p371 : 0 ≤ (x23_2 : Int) := od_
           have q371 : x23_2 < (l0.length : Int) := od_
           obtain ⟨ad371,e371,hx371_0⟩ := Kd.at_string HR0.out x23_2 p371 q371
           cases e371
           replace hx371_0 := hx_ HB hx371_0
           replace p371 := eq_true p371
           replace q371 := eq_true q371
           go_wp2_with (first|((with_reducible refine gcal_ (f := 40) rfl ?_);refine gl_ (some 29) Tryz.func40 #[.string (rdOf ByteArray.empty l0 x23_2)] ?_;(with_reducible refine (impl_number.calls (rdOf ByteArray.empty l0 x23_2) t372 true _ ?sideT A10.out).mono ?_);(case sideT => exact tb_ htb);rintro e w13 ⟨rfl,hb⟩;refine ⟨_,rfl,?_⟩;replace HO_4 := Aside0.mk (Kd.R_below (by (with_reducible repeat (first|apply Kd.R_alloc|apply Kd.R_drewN|apply Kd.R_drew));exact HO_4.out) hb);replace BK370 := Aside0.mk (blk_below (kb_ BK370) hb);replace HB := Aside0.mk (below_step b_ hb);(try clear hb);(try clear hb2);(try clear hk);(try clear hi))|((with_reducible refine gblt_ (b := .append) (xs := #[.tmp 35,.tmp 37]) rfl ?_);(try (refine gate_guard (by rfl) ?_;dsimp only));at_builtin;refine Kd.R_append (Kd.int .i64) (w0 := w) w.heap.size rfl (.tmp 35) (.tmp 37) 43 2 (.int .i64 0) 8 rfl Tryz.underlying43 info2 rfl (by decide) (by omega) u4 x4_2 t372 [.int .i64 t372] (fun _ => True) (fun _ => False) rfl rfl ?aP (fun _ hk => hk.elim) ?aF ?aO ?aB ?aS ?aL ?_;(case aP => exact rfl);(case aB => exact b_);(case aF => exact (fun _ _ => trivial));(case aO => exact (by (with_reducible repeat (first|apply Kd.R_alloc|apply Kd.R_drewN|apply Kd.R_drew));exact HO_4.out));(case aS => exact (below_size b_));(case aL => have := LMc12.out;omega);intro v375 w14 ho hb hg hat;rw [← Ny374.out] at ho;replace BK370 := Aside0.mk (blk_grown (kb_ BK370) hg (Kd.R_ne HO_4.out BK370.out (by decide)));replace HB := Aside0.mk (hb);have HO376 := Aside0.mk (ho);clear HO_4;clear ho hb hg hat))
           go_roundg k2
           case measure => have := HJ1.out;have := HK2.out;omega
           case rel => exact ⟨(y374),(wrap64 (x23_2 + 1)),(x371000_2),(x371001_2),(x371002_2),rs_,H',⟨by have := HJ1.out;have := HK2.out;omega⟩,⟨by (with_reducible repeat (first|apply Kd.R_alloc|apply Kd.R_drewN|apply Kd.R_drew));exact HO376.out⟩,⟨kb_ BK370⟩,⟨b_⟩⟩
          ·rw [if_neg c12] at H
           exact absurd H (by simp)
         ·replace c11 := Bool.eq_false_iff.mpr c11
          subst c11
          replace H := ie_ H
          simp only [Option.some.injEq,Prod.mk.injEq] at H
          obtain ⟨rfl,rfl,rfl,rfl,rfl⟩ := H
          have p371 : 0 ≤ (x23_2 : Int) := od_
          have q371 : x23_2 < (l0.length : Int) := od_
          obtain ⟨ad371,e371,hx371_0⟩ := Kd.at_string HR0.out x23_2 p371 q371
          cases e371
          replace hx371_0 := hx_ HB hx371_0
          replace p371 := eq_true p371
          replace q371 := eq_true q371
          go_wp2_with (first|((with_reducible refine gcal_ (f := 40) rfl ?_);refine gl_ (some 29) Tryz.func40 #[.string (rdOf ByteArray.empty l0 x23_2)] ?_;(with_reducible refine (impl_number.calls (rdOf ByteArray.empty l0 x23_2) t372 false _ ?sideT A10.out).mono ?_);(case sideT => exact tb_ htb);rintro e w15 ⟨rfl,hb⟩;refine ⟨_,rfl,?_⟩;replace HO_4 := Aside0.mk (Kd.R_below (by (with_reducible repeat (first|apply Kd.R_alloc|apply Kd.R_drewN|apply Kd.R_drew));exact HO_4.out) hb);replace BK370 := Aside0.mk (blk_below (kb_ BK370) hb);replace HB := Aside0.mk (below_step b_ hb);(try clear hb);(try clear hb2);(try clear hk);(try clear hi);obtain ⟨⟨hcz16_0,hcz16_1,hcz16_2,hcz16_3⟩,hfz16_0,hfz16_1,hfz16_2,hfz16_3⟩ := cl4_ BK370.out))
          refine bodyPost_ret (results_ct rfl _ _ gb370 26 #[.int .i64 0,.int .i64 0,.int .i64 0,.slice none 0 0] (0,0) _ rfl (by (with_reducible repeat (first|refine blk_drewN ?_ _|refine blk_drew ?_|refine blk_alloc ?_ _));refine blk_put (cs := #[.int .i64 0,.int .i64 0,.int .i64 0,.slice none 0 0]) ?_ 3 _ rfl;(with_reducible repeat (first|refine blk_drewN ?_ _|refine blk_drew ?_|refine blk_alloc ?_ _));refine blk_put (cs := #[.int .i64 0,.int .i64 0,.int .i64 x371002_2,.slice none 0 0]) ?_ 2 _ rfl;(with_reducible repeat (first|refine blk_drewN ?_ _|refine blk_drew ?_|refine blk_alloc ?_ _));refine blk_put (cs := #[.int .i64 0,.int .i64 x371001_2,.int .i64 x371002_2,.slice none 0 0]) ?_ 1 _ rfl;(with_reducible repeat (first|refine blk_drewN ?_ _|refine blk_drew ?_|refine blk_alloc ?_ _));refine blk_put (cs := #[.int .i64 x371000_2,.int .i64 x371001_2,.int .i64 x371002_2,.slice none 0 0]) ?_ 0 _ rfl;(with_reducible repeat (first|refine blk_drewN ?_ _|refine blk_drew ?_|refine blk_alloc ?_ _));exact BK370.out) Tryz.underlying26 rfl (by kernel_rfl)) rfl ?_
          exact ⟨_,rf_,by first|exact Kd.R_nil _ _ _ _ _|exact Kd.N_nil _ _ _ _ _|exact Kd.V_nil _ _ _ _ _|exact Kd.Q_nil _ _ _ _ _|exact Kd.S_nil _ _ _ _ _,b_⟩
        ·rw [if_neg c9] at H
         exact absurd H (by simp)
       ·rw [if_neg c8] at H
        exact absurd H (by simp)
      ·rw [if_neg c7] at H
       have c7b0 : decide (x23_2 < (l0.length : Int)) = false := decide_eq_false c7
       clear c7
       by_cases c17 : 0 < (x4_2.length : Int)
       ·rw [if_pos c17] at H
        have c17b0 : decide (0 < (x4_2.length : Int)) = true := decide_eq_true c17
        have c17b1 : decide (0 < x4_2.length) = true := decide_eq_true (by omega)
        clear c17
        by_cases c18 : 1 < (x4_2.length : Int)
        ·rw [if_pos c18] at H
         have c18b0 : decide (1 < (x4_2.length : Int)) = true := decide_eq_true c18
         have c18b1 : decide (1 < x4_2.length) = true := decide_eq_true (by omega)
         clear c18
         by_cases c19 : 2 < (x4_2.length : Int)
         ·rw [if_pos c19] at H
          have c19b0 : decide (2 < (x4_2.length : Int)) = true := decide_eq_true c19
          have c19b1 : decide (2 < x4_2.length) = true := decide_eq_true (by omega)
          clear c19
          by_cases c20 : 4 ≤ (x4_2.length : Int)
          ·rw [if_pos c20] at H
           have c20b0 := eq_true c20
           have c20b1 : decide (4 ≤ (x4_2.length : Int)) = true := decide_eq_true c20
           clear c20
           obtain ⟨y381,hy381⟩ : ∃ y_ : List Int,y_ = (x4_2.drop (4 : Int).toNat) := ⟨_,rfl⟩
           replace H : (impl_readRecord.l1 k2 y381 (rd x4_2 0) (rd x4_2 1) (rd x4_2 2) ([] : List (S47))) = some (r1,r2,r3,r4,r5) := by first|(rw [hy381];with_reducible exact H)|(have H2_ := (Option.bind_some _ _).symm.trans H;rw [hy381];with_reducible exact H2_)|(have H2_ := (Option.bind_some _ _).symm.trans H;with_reducible exact H2_)|with_reducible exact H|(rw [hy381];exact H)|exact H
           have Ny381 := Aside0.mk hy381
           clear hy381
           have H' := Aside0.mk H
           clear H
           try go_wp2
           replace HO_4 := Aside0.mk (Kd.R_drew HO_4.out)
           replace BK370 := Aside0.mk (blk_drew BK370.out)
           replace HB := Aside0.mk (below_drew1 HB.out)
           obtain ⟨Ao22,co22,eo22⟩ := Kd.R_slice HO_4.out
           (first|subst eo22|(injection eo22 with f1_ f2_ f3_;have f4_ := f1_.symm;have f5_ := f3_.symm;clear f1_ f2_ f3_;subst f4_;subst f5_))
           have p377 : 0 ≤ (0 : Int) := (by omega)
           have q377 : 0 < (x4_2.length : Int) := od_
           obtain ⟨ad377,e377,hx377_0⟩ := Kd.at_int (Kd.R_reads' HO_4.out).2.2 0 p377 q377
           cases e377
           have qi377 : (0 < x4_2.length) = True := eq_true (by omega)
           (try rw [show ((0 : Int)).toNat = 0 from rfl] at hx377_0)
           (try rw [Addr.add_zero'] at hx377_0)
           replace p377 := eq_true p377
           replace q377 := eq_true q377
           have p378 : 0 ≤ (1 : Int) := (by omega)
           have q378 : 1 < (x4_2.length : Int) := od_
           obtain ⟨ad378,e378,hx378_0⟩ := Kd.at_int (Kd.R_reads' HO_4.out).2.2 1 p378 q378
           obtain rfl : ad377 = ad378 := (by injection e378)
           (try simp only [show (1 : Int).toNat = 1 from rfl,Nat.reduceMul,Nat.reduceEqDiff,Go.Addr.add,↓reduceIte] at hx378_0)
           have qi378 : (1 < x4_2.length) = True := eq_true (by omega)
           (try rw [show ((1 : Int)).toNat = 1 from rfl] at hx378_0)
           replace p378 := eq_true p378
           replace q378 := eq_true q378
           have p379 : 0 ≤ (2 : Int) := (by omega)
           have q379 : 2 < (x4_2.length : Int) := od_
           obtain ⟨ad379,e379,hx379_0⟩ := Kd.at_int (Kd.R_reads' HO_4.out).2.2 2 p379 q379
           obtain rfl : ad377 = ad379 := (by injection e379)
           (try simp only [show (2 : Int).toNat = 2 from rfl,Nat.reduceMul,Nat.reduceEqDiff,Go.Addr.add,↓reduceIte] at hx379_0)
           have qi379 : (2 < x4_2.length) = True := eq_true (by omega)
           (try rw [show ((2 : Int)).toNat = 2 from rfl] at hx379_0)
           replace p379 := eq_true p379
           replace q379 := eq_true q379
           refine st_ 12 (S := fun w' => (w'.cell? ad377 = some (.int .i64 (rd x4_2 0))) ∧ (w'.cell? ⟨ad377.block,ad377.off + 1,none⟩ = some (.int .i64 (rd x4_2 1))) ∧ w'.cell? ⟨ad377.block,ad377.off + 2,none⟩ = some (.int .i64 (rd x4_2 2))) hh_ (fun hHeld => ?_);refine with_tabW impl_readRecord.tab12 impl_readRecord.bits12 (fun HT_ HW_ => ?_)
           generalize wr.drew = w21 at HO_4 BK370 HB hx377_0 hx378_0 hx379_0 hHeld ⊢
           refine pv_ 0 40 ?_
           refine pv_ 1 41 ?_
           refine pv_ 3 43 ?_
           refine pv_ 4 44 ?_
           refine pv_ 6 46 ?_
           refine pv_ 7 47 ?_
           refine tx_ 2 42 hHeld ?_
           refine tx_ 5 45 hHeld ?_
           refine tx_ 8 48 hHeld ?_
           refine pv_ 9 49 ?_
           refine oy_ 10 9 (fun K hK => ?_)
           refine box_step ?hg (N := 9) ?hd (cs := #[.int .i64 0,.int .i64 0,.int .i64 0,.slice none 0 0]) (t := 26) ?hr ?_;(case hd => rfl);(case hg => rfl);(case hr => first|(go_simp;done)|(go_simp;rfl))
           intro gb380 hg w23 hbox hb
           have HS0_ := (hb.cell (World.block_lt_of_cell? _ _ (hHeld.1))).trans (hHeld.1)
           have HS1_ := (hb.cell (World.block_lt_of_cell? _ _ (hHeld.2.1))).trans (hHeld.2.1)
           have HS2_ := (hb.cell (World.block_lt_of_cell? _ _ (hHeld.2.2))).trans (hHeld.2.2)
           replace HO_4 := Aside0.mk (Kd.R_below (by (with_reducible repeat (first|apply Kd.R_alloc|apply Kd.R_drewN|apply Kd.R_drew));exact HO_4.out) hb)
           have BK380 := Aside0.mk (hbox)
           have GW380 := Aside0.mk ((gw_ (w := w) hg))
           have GE380 := Aside0.mk ((gw_ (w := w) hg))
           replace HB := Aside0.mk (below_step b_ hb)
           have NB370_380 := Aside0.mk ((nl_ BK370 hg))
           have NB380_370 := Aside0.mk ((ng_ BK370 hg))
           replace BK370 := Aside0.mk (blk_below (kb_ BK370) hb)
           clear hb hbox hg
           refine hK.out _ _ ⟨HS0_,HS1_,HS2_⟩ (fun hHeld => ?_)
           clear hK K
           refine nr_ (some 9) _ ?_
           refine oz_ (i := 11) (N := none) HT_.out rfl rfl (by kernel_rfl) (by decide) (fun K hK => ?_)
           have hs24 : w23.cell? ⟨gb380,0,none⟩ = some (.int .i64 0) := (blk_cell BK380.out 0).trans rfl
           have hfs24 := blk_frozen BK380.out 0
           have hns24_0 := NB370_380.out
           have hms24_0 := NB380_370.out
           have hs25 : w23.cell? ⟨gb380,1,none⟩ = some (.int .i64 0) := (blk_cell BK380.out 1).trans rfl
           have hfs25 := blk_frozen BK380.out 1
           have hns25_0 := NB370_380.out
           have hms25_0 := NB380_370.out
           have hs26 : w23.cell? ⟨gb380,2,none⟩ = some (.int .i64 0) := (blk_cell BK380.out 2).trans rfl
           have hfs26 := blk_frozen BK380.out 2
           have hns26_0 := NB370_380.out
           have hms26_0 := NB380_370.out
           have hs27 : w23.cell? ⟨gb380,3,none⟩ = some (.slice none 0 0) := (blk_cell BK380.out 3).trans rfl
           have hfs27 := blk_frozen BK380.out 3
           have hns27_0 := NB370_380.out
           have hms27_0 := NB380_370.out
           refine skip_ (w1 := ?_) (by rfl) rfl ?_ ?_
           rotate_left
           ·go_simp
            rfl
           refine hK.out _ _ ⟨((cell_far (p := ⟨gb380,_,none⟩) (by first|exact Kd.own_blk (Kd.R_ne HO_4.out BK380.out (by decide))|(rw [add_block];exact Kd.own_blk (Kd.R_ne HO_4.out BK380.out (by decide)))|(show (Addr.add _ _).block ≠ _;rw [add_block];exact Kd.own_blk (Kd.R_ne HO_4.out BK380.out (by decide)))|(dsimp only;exact Kd.own_blk (Kd.R_ne HO_4.out BK380.out (by decide)))) _).trans (((cell_far (p := ⟨gb380,_,none⟩) (by first|exact Kd.own_blk (Kd.R_ne HO_4.out BK380.out (by decide))|(rw [add_block];exact Kd.own_blk (Kd.R_ne HO_4.out BK380.out (by decide)))|(show (Addr.add _ _).block ≠ _;rw [add_block];exact Kd.own_blk (Kd.R_ne HO_4.out BK380.out (by decide)))|(dsimp only;exact Kd.own_blk (Kd.R_ne HO_4.out BK380.out (by decide)))) _).trans (((cell_far (p := ⟨gb380,_,none⟩) (by first|exact Kd.own_blk (Kd.R_ne HO_4.out BK380.out (by decide))|(rw [add_block];exact Kd.own_blk (Kd.R_ne HO_4.out BK380.out (by decide)))|(show (Addr.add _ _).block ≠ _;rw [add_block];exact Kd.own_blk (Kd.R_ne HO_4.out BK380.out (by decide)))|(dsimp only;exact Kd.own_blk (Kd.R_ne HO_4.out BK380.out (by decide)))) _).trans (((cell_far (p := ⟨gb380,_,none⟩) (by first|exact Kd.own_blk (Kd.R_ne HO_4.out BK380.out (by decide))|(rw [add_block];exact Kd.own_blk (Kd.R_ne HO_4.out BK380.out (by decide)))|(show (Addr.add _ _).block ≠ _;rw [add_block];exact Kd.own_blk (Kd.R_ne HO_4.out BK380.out (by decide)))|(dsimp only;exact Kd.own_blk (Kd.R_ne HO_4.out BK380.out (by decide)))) _).trans (hHeld.1)))))))),((cell_far (p := ⟨gb380,_,none⟩) (by first|exact Kd.own_blk (Kd.R_ne HO_4.out BK380.out (by decide))|(rw [add_block];exact Kd.own_blk (Kd.R_ne HO_4.out BK380.out (by decide)))|(show (Addr.add _ _).block ≠ _;rw [add_block];exact Kd.own_blk (Kd.R_ne HO_4.out BK380.out (by decide)))|(dsimp only;exact Kd.own_blk (Kd.R_ne HO_4.out BK380.out (by decide)))) _).trans (((cell_far (p := ⟨gb380,_,none⟩) (by first|exact Kd.own_blk (Kd.R_ne HO_4.out BK380.out (by decide))|(rw [add_block];exact Kd.own_blk (Kd.R_ne HO_4.out BK380.out (by decide)))|(show (Addr.add _ _).block ≠ _;rw [add_block];exact Kd.own_blk (Kd.R_ne HO_4.out BK380.out (by decide)))|(dsimp only;exact Kd.own_blk (Kd.R_ne HO_4.out BK380.out (by decide)))) _).trans (((cell_far (p := ⟨gb380,_,none⟩) (by first|exact Kd.own_blk (Kd.R_ne HO_4.out BK380.out (by decide))|(rw [add_block];exact Kd.own_blk (Kd.R_ne HO_4.out BK380.out (by decide)))|(show (Addr.add _ _).block ≠ _;rw [add_block];exact Kd.own_blk (Kd.R_ne HO_4.out BK380.out (by decide)))|(dsimp only;exact Kd.own_blk (Kd.R_ne HO_4.out BK380.out (by decide)))) _).trans (((cell_far (p := ⟨gb380,_,none⟩) (by first|exact Kd.own_blk (Kd.R_ne HO_4.out BK380.out (by decide))|(rw [add_block];exact Kd.own_blk (Kd.R_ne HO_4.out BK380.out (by decide)))|(show (Addr.add _ _).block ≠ _;rw [add_block];exact Kd.own_blk (Kd.R_ne HO_4.out BK380.out (by decide)))|(dsimp only;exact Kd.own_blk (Kd.R_ne HO_4.out BK380.out (by decide)))) _).trans (hHeld.2.1)))))))),((cell_far (p := ⟨gb380,_,none⟩) (by first|exact Kd.own_blk (Kd.R_ne HO_4.out BK380.out (by decide))|(rw [add_block];exact Kd.own_blk (Kd.R_ne HO_4.out BK380.out (by decide)))|(show (Addr.add _ _).block ≠ _;rw [add_block];exact Kd.own_blk (Kd.R_ne HO_4.out BK380.out (by decide)))|(dsimp only;exact Kd.own_blk (Kd.R_ne HO_4.out BK380.out (by decide)))) _).trans (((cell_far (p := ⟨gb380,_,none⟩) (by first|exact Kd.own_blk (Kd.R_ne HO_4.out BK380.out (by decide))|(rw [add_block];exact Kd.own_blk (Kd.R_ne HO_4.out BK380.out (by decide)))|(show (Addr.add _ _).block ≠ _;rw [add_block];exact Kd.own_blk (Kd.R_ne HO_4.out BK380.out (by decide)))|(dsimp only;exact Kd.own_blk (Kd.R_ne HO_4.out BK380.out (by decide)))) _).trans (((cell_far (p := ⟨gb380,_,none⟩) (by first|exact Kd.own_blk (Kd.R_ne HO_4.out BK380.out (by decide))|(rw [add_block];exact Kd.own_blk (Kd.R_ne HO_4.out BK380.out (by decide)))|(show (Addr.add _ _).block ≠ _;rw [add_block];exact Kd.own_blk (Kd.R_ne HO_4.out BK380.out (by decide)))|(dsimp only;exact Kd.own_blk (Kd.R_ne HO_4.out BK380.out (by decide)))) _).trans (((cell_far (p := ⟨gb380,_,none⟩) (by first|exact Kd.own_blk (Kd.R_ne HO_4.out BK380.out (by decide))|(rw [add_block];exact Kd.own_blk (Kd.R_ne HO_4.out BK380.out (by decide)))|(show (Addr.add _ _).block ≠ _;rw [add_block];exact Kd.own_blk (Kd.R_ne HO_4.out BK380.out (by decide)))|(dsimp only;exact Kd.own_blk (Kd.R_ne HO_4.out BK380.out (by decide)))) _).trans (hHeld.2.2))))))))⟩ (fun hHeld => ?_)
           clear hK K
           refine done_ (done_of HT_.out (by kernel_rfl)) ?_
           have n0_ : Aside0 (Kd.R (Kd.int .i64) 2 ((((w23.setCell ⟨gb380,0,none⟩ (.int .i64 (rd x4_2 0))).setCell ⟨gb380,1,none⟩ (.int .i64 (rd x4_2 1))).setCell ⟨gb380,2,none⟩ (.int .i64 (rd x4_2 2))).setCell ⟨gb380,3,none⟩ (.slice none 0 0)) w.heap.size (fun _ => True) (.slice (some ad377) x4_2.length co22) x4_2) := ⟨by (with_reducible repeat (first|apply Kd.R_alloc|apply Kd.R_drewN|apply Kd.R_drew));exact Kd.R_mono (Kd.R_far (p := ⟨gb380,3,none⟩) (Kd.R_far (p := ⟨gb380,2,none⟩) (Kd.R_far (p := ⟨gb380,1,none⟩) (Kd.R_far (p := ⟨gb380,0,none⟩) (Kd.R_types HO_4.out BK380.out (by decide)) (fun _ hk => hk.2) (.int .i64 (rd x4_2 0))) (fun _ hk => hk.2) (.int .i64 (rd x4_2 1))) (fun _ hk => hk.2) (.int .i64 (rd x4_2 2))) (fun _ hk => hk.2) (.slice none 0 0)) (fun _ hk => trivial)⟩
           have n1_ : Aside0 (((((w23.setCell ⟨gb380,0,none⟩ (.int .i64 (rd x4_2 0))).setCell ⟨gb380,1,none⟩ (.int .i64 (rd x4_2 1))).setCell ⟨gb380,2,none⟩ (.int .i64 (rd x4_2 2))).setCell ⟨gb380,3,none⟩ (.slice none 0 0)).heap[gb370]? = some (.cells #[.int .i64 x371000_2,.int .i64 x371001_2,.int .i64 x371002_2,.slice none 0 0] 26 (0,0))) := ⟨kf_ BK370⟩
           have n2_ : Aside0 (((((w23.setCell ⟨gb380,0,none⟩ (.int .i64 (rd x4_2 0))).setCell ⟨gb380,1,none⟩ (.int .i64 (rd x4_2 1))).setCell ⟨gb380,2,none⟩ (.int .i64 (rd x4_2 2))).setCell ⟨gb380,3,none⟩ (.slice none 0 0)).heap[gb380]? = some (.cells #[.int .i64 (rd x4_2 0),.int .i64 (rd x4_2 1),.int .i64 (rd x4_2 2),.slice none 0 0] 26 (0,0))) := ⟨by (with_reducible repeat (first|refine blk_drewN ?_ _|refine blk_drew ?_|refine blk_alloc ?_ _));refine blk_put (cs := #[.int .i64 (rd x4_2 0),.int .i64 (rd x4_2 1),.int .i64 (rd x4_2 2),.slice none 0 0]) ?_ 3 _ rfl;(with_reducible repeat (first|refine blk_drewN ?_ _|refine blk_drew ?_|refine blk_alloc ?_ _));refine blk_put (cs := #[.int .i64 (rd x4_2 0),.int .i64 (rd x4_2 1),.int .i64 0,.slice none 0 0]) ?_ 2 _ rfl;(with_reducible repeat (first|refine blk_drewN ?_ _|refine blk_drew ?_|refine blk_alloc ?_ _));refine blk_put (cs := #[.int .i64 (rd x4_2 0),.int .i64 0,.int .i64 0,.slice none 0 0]) ?_ 1 _ rfl;(with_reducible repeat (first|refine blk_drewN ?_ _|refine blk_drew ?_|refine blk_alloc ?_ _));refine blk_put (cs := #[.int .i64 0,.int .i64 0,.int .i64 0,.slice none 0 0]) ?_ 0 _ rfl;(with_reducible repeat (first|refine blk_drewN ?_ _|refine blk_drew ?_|refine blk_alloc ?_ _));exact BK380.out⟩
           have n3_ : Aside0 (Below w.heap.size w ((((w23.setCell ⟨gb380,0,none⟩ (.int .i64 (rd x4_2 0))).setCell ⟨gb380,1,none⟩ (.int .i64 (rd x4_2 1))).setCell ⟨gb380,2,none⟩ (.int .i64 (rd x4_2 2))).setCell ⟨gb380,3,none⟩ (.slice none 0 0))) := ⟨b_⟩
           (try clear HO_4)
           (try clear BK370)
           (try clear BK380)
           (try clear HB)
           generalize ((((w23.setCell ⟨gb380,0,none⟩ (.int .i64 (rd x4_2 0))).setCell ⟨gb380,1,none⟩ (.int .i64 (rd x4_2 1))).setCell ⟨gb380,2,none⟩ (.int .i64 (rd x4_2 2))).setCell ⟨gb380,3,none⟩ (.slice none 0 0)) = w28 at n0_ n1_ n2_ n3_ ⊢
           have HO_4 := n0_
           have BK370 := n1_
           have BK380 := n2_
           have HB := n3_
           clear n0_ n1_ n2_ n3_
           have q29 : (4 : Int) ≤ ((x4_2.length : Int) : Int) := od_
           obtain ⟨i029,hi029,_,hsz29,_⟩ := info_parts info2
           have hcut29 := cut_from (P := Tryz.prog) 43 2 .i64 Tryz.underlying43 hi029 1 hsz29 (some ad377) x4_2.length co22 4 (by omega) q29
           have hr29 := Kd.Q_drop (k := (4 : Int).toNat) (Kd.Q_of_R HO_4.out) (by omega)
           obtain ⟨A29,hA29⟩ : ∃ A1,A1 = (if co22 = (4 : Int).toNat then (some ad377) else ((some ad377) : Option Addr).map (·.add ((4 : Int).toNat * 1))) := ⟨_,rfl⟩
           obtain ⟨c29,hc29⟩ : ∃ c1,c1 = co22 - (4 : Int).toNat := ⟨_,rfl⟩
           have hy29 : y381.length = x4_2.length - (4 : Int).toNat := (by rw [Ny381.out,List.length_drop])
           rw [← Ny381.out] at hr29
           rw [← hy29,← hA29,← hc29] at hcut29
           replace hr29 : Kd.Q (Kd.int .i64) 2 w28 w.heap.size (fun _ => True) (.slice A29 y381.length c29) y381 := (by rw [hA29,hc29,hy29];exact hr29)
           have HE29 : Aside0 ((Value.slice A29 y381.length c29).ownBlock = (.slice (some ad377) x4_2.length co22 : Value).ownBlock) := ⟨by rw [hA29];split <;> (cases ((some ad377) : Option Addr) <;> rfl)⟩
           clear hy29 hi029 hsz29 HO_4 hA29 hc29
           have HO383 := Aside0.mk hr29
           clear hr29
           replace q29 := eq_true q29
           try go_wp2
           go_loopg [10] k2 (fun kq v10 w' => ∃ (x10_3 : List Int) (x381003_3 : List (S47)) (u381003 : Value),Aside0 (impl_readRecord.l1 kq x10_3 (rd x4_2 0) (rd x4_2 1) (rd x4_2 2) x381003_3 = some (r1,r2,r3,r4,r5)) ∧ Aside0 (kq ≤ k2) ∧ Aside0 (Kd.Q (Kd.int .i64) 2 w' w.heap.size (fun _ => True) v10 x10_3) ∧ Aside0 (Kd.R k47 47 w' w.heap.size (fun _ => True) u381003 x381003_3) ∧ Aside0 (w'.heap[gb370]? = some (.cells #[.int .i64 x371000_2,.int .i64 x371001_2,.int .i64 x371002_2,(.slice none 0 0)] 26 (0,0))) ∧ Aside0 (w'.heap[gb380]? = some (.cells #[.int .i64 (rd x4_2 0),.int .i64 (rd x4_2 1),.int .i64 (rd x4_2 2),u381003] 26 (0,0))) ∧ Aside0 (Below w.heap.size w w'))
           case atStart => exact ⟨(y381),(([] : List (S47))),(.slice none 0 0),H',⟨Nat.le_refl _⟩,⟨by (with_reducible repeat (first|apply Kd.Q_alloc|apply Kd.Q_drewN|apply Kd.Q_drew));exact HO383.out⟩,⟨by first|exact Kd.R_nil _ _ _ _ _|exact Kd.N_nil _ _ _ _ _|exact Kd.V_nil _ _ _ _ _|exact Kd.Q_nil _ _ _ _ _|exact Kd.S_nil _ _ _ _ _⟩,⟨kb_ BK370⟩,⟨kb_ BK380⟩,⟨b_⟩⟩
           case round =>
            clear H'
            try clear c1
            try clear c2
            try clear p2
            try clear q2
            try clear p3
            try clear q3
            try clear hx3
            try clear qi3
            try clear c4
            try clear c4b0
            try clear c4b1
            try clear c5
            try clear p6
            try clear c7
            try clear c7b0
            try clear c8
            try clear c8b0
            try clear c9
            try clear c9b0
            try clear c11
            try clear c12
            try clear c17
            try clear c17b0
            try clear c17b1
            try clear c18
            try clear c18b0
            try clear c18b1
            try clear c19
            try clear c19b0
            try clear c19b1
            try clear c20
            try clear c20b0
            try clear c20b1
            try clear c29
            try clear q29
            try clear hcz16_0
            try clear hcz16_1
            try clear hcz16_2
            try clear hcz16_3
            try clear hcz6_0
            try clear hcz6_1
            try clear hcz6_2
            try clear hcz6_3
            try clear hfz16_0
            try clear hfz16_1
            try clear hfz16_2
            try clear hfz16_3
            try clear hfz6_0
            try clear hfz6_1
            try clear hfz6_2
            try clear hfz6_3
            try clear hx371_0
            try clear hx377_0
            try clear hx378_0
            try clear hx379_0
            try clear p2
            try clear p371
            try clear p377
            try clear p378
            try clear p379
            try clear q29
            try clear q371
            try clear q377
            try clear q378
            try clear q379
            obtain ⟨x10_3,x381003_3,u381003,HA,HK3,HO_10,HO_381003,BK370,BK380,HB⟩ := hrel
            cases gk with
            | zero => exact absurd HA.out (by simp [impl_readRecord.l1])
            | succ k3 =>
             have H := HA.out
             clear HA
             simp only [impl_readRecord.l1] at H
             by_cases c30 : (x10_3.length : Int) > 0
             ·rw [if_pos c30] at H
              have c30b0 : decide (0 < (x10_3.length : Int)) = true := decide_eq_true c30
              have c30b1 : decide (0 < x10_3.length) = true := decide_eq_true (by omega)
              clear c30
              by_cases c31 : 0 < (x10_3.length : Int)
              ·rw [if_pos c31] at H
               have c31b0 : decide (0 < (x10_3.length : Int)) = true := decide_eq_true c31
               have c31b1 : decide (0 < x10_3.length) = true := decide_eq_true (by omega)
               clear c31
               by_cases c32 : 1 < (x10_3.length : Int)
               ·rw [if_pos c32] at H
                have c32b0 : decide (1 < (x10_3.length : Int)) = true := decide_eq_true c32
                have c32b1 : decide (1 < x10_3.length) = true := decide_eq_true (by omega)
                clear c32
                by_cases c33 : 2 < (x10_3.length : Int)
                ·rw [if_pos c33] at H
                 have c33b0 : decide (2 < (x10_3.length : Int)) = true := decide_eq_true c33
                 have c33b1 : decide (2 < x10_3.length) = true := decide_eq_true (by omega)
                 clear c33
                 by_cases c34 : 3 < (x10_3.length : Int)
                 ·rw [if_pos c34] at H
                  have c34b0 : decide (3 < (x10_3.length : Int)) = true := decide_eq_true c34
                  have c34b1 : decide (3 < x10_3.length) = true := decide_eq_true (by omega)
                  clear c34
                  by_cases c35 : x381003_3.length < 3518437208883
                  ·rw [if_pos c35] at H
                   have LMc35 := Aside0.mk c35
                   clear c35
                   obtain ⟨y388,hy388⟩ : ∃ y_ : List (S47),y_ = (x381003_3 ++ [(⟨(rd x4_2 2),rd x10_3 0,rd x10_3 1,((rd x10_3 2) == 1),rd x10_3 3⟩ : S47)]) := ⟨_,rfl⟩
                   replace H : (if 4 ≤ (x10_3.length : Int) then (impl_readRecord.l1 k3 (x10_3.drop (4 : Int).toNat) (rd x4_2 0) (rd x4_2 1) (rd x4_2 2) y388) else (none)) = some (r1,r2,r3,r4,r5) := by first|(rw [hy388];with_reducible exact H)|(have H2_ := (Option.bind_some _ _).symm.trans H;rw [hy388];with_reducible exact H2_)|(have H2_ := (Option.bind_some _ _).symm.trans H;with_reducible exact H2_)|with_reducible exact H|(rw [hy388];exact H)|exact H
                   have Ny388 := Aside0.mk hy388
                   clear hy388
                   by_cases c36 : 4 ≤ (x10_3.length : Int)
                   ·rw [if_pos c36] at H
                    have c36b0 := eq_true c36
                    have c36b1 : decide (4 ≤ (x10_3.length : Int)) = true := decide_eq_true c36
                    clear c36
                    obtain ⟨y391,hy391⟩ : ∃ y_ : List Int,y_ = (x10_3.drop (4 : Int).toNat) := ⟨_,rfl⟩
                    replace H : (impl_readRecord.l1 k3 y391 (rd x4_2 0) (rd x4_2 1) (rd x4_2 2) y388) = some (r1,r2,r3,r4,r5) := by first|(rw [hy391];with_reducible exact H)|(have H2_ := (Option.bind_some _ _).symm.trans H;rw [hy391];with_reducible exact H2_)|(have H2_ := (Option.bind_some _ _).symm.trans H;with_reducible exact H2_)|with_reducible exact H|(rw [hy391];exact H)|exact H
                    have Ny391 := Aside0.mk hy391
                    clear hy391
                    have H' := Aside0.mk H
                    clear H
                    obtain ⟨Ao37,co37,eo37,_⟩ := Kd.Q_slice HO_10.out
                    subst eo37
                    try go_wp2
                    replace HO_10 := Aside0.mk (Kd.Q_drew HO_10.out)
                    replace HO_381003 := Aside0.mk (Kd.R_drew HO_381003.out)
                    replace BK370 := Aside0.mk (blk_drew BK370.out)
                    replace BK380 := Aside0.mk (blk_drew BK380.out)
                    replace HB := Aside0.mk (below_drew1 HB.out)
                    have p384 : 0 ≤ (0 : Int) := (by omega)
                    have q384 : 0 < (x10_3.length : Int) := od_
                    obtain ⟨ad384,e384,hx384_0⟩ := Kd.at_int (Kd.Q_reads' HO_10.out).2.2 0 p384 q384
                    cases e384
                    have qi384 : (0 < x10_3.length) = True := eq_true (by omega)
                    (try rw [show ((0 : Int)).toNat = 0 from rfl] at hx384_0)
                    (try rw [Addr.add_zero'] at hx384_0)
                    replace p384 := eq_true p384
                    replace q384 := eq_true q384
                    have p385 : 0 ≤ (1 : Int) := (by omega)
                    have q385 : 1 < (x10_3.length : Int) := od_
                    obtain ⟨ad385,e385,hx385_0⟩ := Kd.at_int (Kd.Q_reads' HO_10.out).2.2 1 p385 q385
                    obtain rfl : ad384 = ad385 := (by injection e385)
                    (try simp only [show (1 : Int).toNat = 1 from rfl,Nat.reduceMul,Nat.reduceEqDiff,Go.Addr.add,↓reduceIte] at hx385_0)
                    have qi385 : (1 < x10_3.length) = True := eq_true (by omega)
                    (try rw [show ((1 : Int)).toNat = 1 from rfl] at hx385_0)
                    replace p385 := eq_true p385
                    replace q385 := eq_true q385
                    have p386 : 0 ≤ (2 : Int) := (by omega)
                    have q386 : 2 < (x10_3.length : Int) := od_
                    obtain ⟨ad386,e386,hx386_0⟩ := Kd.at_int (Kd.Q_reads' HO_10.out).2.2 2 p386 q386
                    obtain rfl : ad384 = ad386 := (by injection e386)
                    (try simp only [show (2 : Int).toNat = 2 from rfl,Nat.reduceMul,Nat.reduceEqDiff,Go.Addr.add,↓reduceIte] at hx386_0)
                    have qi386 : (2 < x10_3.length) = True := eq_true (by omega)
                    (try rw [show ((2 : Int)).toNat = 2 from rfl] at hx386_0)
                    replace p386 := eq_true p386
                    replace q386 := eq_true q386
                    have p387 : 0 ≤ (3 : Int) := (by omega)
                    have q387 : 3 < (x10_3.length : Int) := od_
                    obtain ⟨ad387,e387,hx387_0⟩ := Kd.at_int (Kd.Q_reads' HO_10.out).2.2 3 p387 q387
                    obtain rfl : ad384 = ad387 := (by injection e387)
                    (try simp only [show (3 : Int).toNat = 3 from rfl,Nat.reduceMul,Nat.reduceEqDiff,Go.Addr.add,↓reduceIte] at hx387_0)
                    have qi387 : (3 < x10_3.length) = True := eq_true (by omega)
                    (try rw [show ((3 : Int)).toNat = 3 from rfl] at hx387_0)
                    replace p387 := eq_true p387
                    replace q387 := eq_true q387
                    refine std_ 22 (S := fun w' => hc4 w' gb380 (.int .i64 (rd x4_2 0)) (.int .i64 (rd x4_2 1)) (.int .i64 (rd x4_2 2)) (u381003) ((w'.cell? ad384 = some (.int .i64 (rd x10_3 0))) ∧ (w'.cell? ⟨ad384.block,ad384.off + 1,none⟩ = some (.int .i64 (rd x10_3 1))) ∧ (w'.cell? ⟨ad384.block,ad384.off + 2,none⟩ = some (.int .i64 (rd x10_3 2))) ∧ w'.cell? ⟨ad384.block,ad384.off + 3,none⟩ = some (.int .i64 (rd x10_3 3)))) (ds := [19,21]) hh_ (fun hHeld => ?_);refine with_tabW impl_readRecord.tab16 impl_readRecord.bits16 (fun HT_ HW_ => ?_)
                    generalize wr.drew = w38 at HO_10 HO_381003 BK370 BK380 HB hx384_0 hx385_0 hx386_0 hx387_0 hHeld ⊢
                    refine pv_ 0 57 ?_
                    refine pv_ 2 59 ?_
                    refine pv_ 4 61 ?_
                    refine pv_ 5 62 ?_
                    refine pv_ 7 64 ?_
                    refine pv_ 8 65 ?_
                    refine pv_ 10 67 ?_
                    refine pv_ 11 68 ?_
                    refine pv_ 14 71 ?_
                    refine pv_ 15 72 ?_
                    refine tx_ 1 58 hHeld ?_
                    refine tx_ 3 60 hHeld ?_
                    refine tx_ 6 63 hHeld ?_
                    refine tx_ 9 66 hHeld ?_
                    refine tx_ 12 69 hHeld ?_
                    refine pv_ 13 70 ?_
                    refine tx_ 16 73 hHeld ?_
                    refine pv_ 17 74 ?_
                    refine oy_ 18 75 (fun K hK => ?_)
                    refine value_ (w1 := ?_) (v := ?_) (by rfl) rfl ?_ ?_
                    rotate_left 2
                    ·go_simp
                     constructor
                     ·rfl
                     ·rfl
                    refine hK.out _ _ ⟨(blk_cell (blk_alloc BK380.out _) 0).trans rfl,(blk_cell (blk_alloc BK380.out _) 1).trans rfl,(blk_cell (blk_alloc BK380.out _) 2).trans rfl,(blk_cell (blk_alloc BK380.out _) 3).trans rfl,(World.cell?_alloc_lt _ _ _ (World.block_lt_of_cell? _ _ (hHeld.2.2.2.2.1))).trans (hHeld.2.2.2.2.1),(World.cell?_alloc_lt _ _ _ (World.block_lt_of_cell? _ _ (hHeld.2.2.2.2.2.1))).trans (hHeld.2.2.2.2.2.1),(World.cell?_alloc_lt _ _ _ (World.block_lt_of_cell? _ _ (hHeld.2.2.2.2.2.2.1))).trans (hHeld.2.2.2.2.2.2.1),(World.cell?_alloc_lt _ _ _ (World.block_lt_of_cell? _ _ (hHeld.2.2.2.2.2.2.2))).trans (hHeld.2.2.2.2.2.2.2)⟩ (fun hHeld => ?_)
                    clear hK K
                    refine nr_ (some 75) _ ?_
                    refine last_ (i := 19) (N := some 76) #[true,true,true,true,true,true,true,true,true,true,true,true,true,true,true,true,true,true,true,true,false,false] rfl rfl (one_of HT_.out (by kernel_rfl)) (by decide) (fun K hK => ?_)
                    refine Kd.R_append_step k47 (w0 := w) w.heap.size (by rfl) (.tmp 58) (.tmp 75) 24 47 (.agg #[(.int .i64 0),(.int .i64 0),(.int .i64 0),(.bool false),(.int .i64 0)]) 40 rfl Tryz.underlying24 info47 rfl (by decide) (by omega) u381003 x381003_3 (⟨(rd x4_2 2),rd x10_3 0,rd x10_3 1,((rd x10_3 2) == 1),rd x10_3 3⟩ : S47) [.int .i64 (rd x4_2 2),.int .i64 (rd x10_3 0),.int .i64 (rd x10_3 1),.bool ((rd x10_3 2) == 1),.int .i64 (rd x10_3 3)] (fun _ => True) (fun _ => False) rfl rfl ?aP (fun _ hk => hk.elim) ?aF ?aO ?aB ?aS ?aL ?_
                    (case aP => exact k47_mkM _ _ _ (⟨(rd x4_2 2),rd x10_3 0,rd x10_3 1,((rd x10_3 2) == 1),rd x10_3 3⟩ : S47))
                    (case aB => exact b_)
                    (case aF => exact (fun _ _ => trivial))
                    (case aO => exact (by (with_reducible repeat (first|apply Kd.R_alloc|apply Kd.R_drewN|apply Kd.R_drew));exact HO_381003.out))
                    (case aS => exact (below_size b_))
                    (case aL => have := LMc35.out;omega)
                    intro v389 w39 ho hb hg hat
                    rw [← Ny388.out] at ho
                    replace HO_10 := Aside0.mk (Kd.Q_over' (by (with_reducible repeat (first|apply Kd.Q_alloc|apply Kd.Q_drewN|apply Kd.Q_drew));exact HO_10.out) (Kd.R_typed (by (with_reducible repeat (first|apply Kd.R_alloc|apply Kd.R_drewN|apply Kd.R_drew));exact HO_381003.out)) (by decide) hg)
                    replace BK370 := Aside0.mk (blk_grown (kb_ BK370) hg (Kd.R_ne HO_381003.out BK370.out (by decide)))
                    replace BK380 := Aside0.mk (blk_grown (kb_ BK380) hg (Kd.R_ne HO_381003.out BK380.out (by decide)))
                    replace HB := Aside0.mk (hb)
                    have HO390 := Aside0.mk (ho)
                    clear HO_381003
                    clear ho hb hg hat
                    obtain ⟨Ao40,co40,eo40⟩ := Kd.R_slice HO390.out
                    (first|subst eo40|(injection eo40 with f1_ f2_ f3_;have f4_ := f1_.symm;have f5_ := f3_.symm;clear f1_ f2_ f3_;subst f4_;subst f5_))
                    refine hK.out _ _ ?_
                    clear hK K
                    refine nr_ (some 76) _ ?_
                    refine pv_ 20 77 ?_
                    refine last_ (i := 21) (N := none) #[true,true,true,true,true,true,true,true,true,true,true,true,true,true,true,true,true,true,true,true,true,true] rfl rfl (one_of HT_.out (by kernel_rfl)) (by decide) (fun K hK => ?_)
                    have hs41 : w39.cell? ⟨gb380,3,none⟩ = some (u381003) := (blk_cell BK380.out 3).trans rfl
                    have hfs41 := blk_frozen BK380.out 3
                    have hns41_0 := NB370_380.out
                    have hms41_0 := NB380_370.out
                    refine skip_ (w1 := ?_) (by rfl) rfl ?_ ?_
                    rotate_left
                    ·go_simp
                     rfl
                    refine hK.out _ _ ?_
                    clear hK K
                    refine done_ (done_of HT_.out (by kernel_rfl)) ?_
                    have n0_ : Aside0 (Kd.Q (Kd.int .i64) 2 (w39.setCell ⟨gb380,3,none⟩ (.slice Ao40 y388.length co40)) w.heap.size (fun _ => True) (.slice (some ad384) x10_3.length co37) x10_3) := ⟨by (with_reducible repeat (first|apply Kd.Q_alloc|apply Kd.Q_drewN|apply Kd.Q_drew));exact Kd.Q_mono (Kd.Q_far (p := ⟨gb380,3,none⟩) (Kd.Q_types HO_10.out BK380.out (by decide)) (fun _ hk => hk.2) (.slice Ao40 y388.length co40)) (fun _ hk => trivial)⟩
                    have n1_ : Aside0 (Kd.R k47 47 (w39.setCell ⟨gb380,3,none⟩ (.slice Ao40 y388.length co40)) w.heap.size (fun _ => True) (.slice Ao40 y388.length co40) y388) := ⟨by (with_reducible repeat (first|apply Kd.R_alloc|apply Kd.R_drewN|apply Kd.R_drew));exact Kd.R_mono (Kd.R_far (p := ⟨gb380,3,none⟩) (Kd.R_types HO390.out BK380.out (by decide)) (fun _ hk => hk.2) (.slice Ao40 y388.length co40)) (fun _ hk => trivial)⟩
                    have n2_ : Aside0 ((w39.setCell ⟨gb380,3,none⟩ (.slice Ao40 y388.length co40)).heap[gb370]? = some (.cells #[.int .i64 x371000_2,.int .i64 x371001_2,.int .i64 x371002_2,.slice none 0 0] 26 (0,0))) := ⟨kf_ BK370⟩
                    have n3_ : Aside0 ((w39.setCell ⟨gb380,3,none⟩ (.slice Ao40 y388.length co40)).heap[gb380]? = some (.cells #[.int .i64 (rd x4_2 0),.int .i64 (rd x4_2 1),.int .i64 (rd x4_2 2),.slice Ao40 y388.length co40] 26 (0,0))) := ⟨by (with_reducible repeat (first|refine blk_drewN ?_ _|refine blk_drew ?_|refine blk_alloc ?_ _));refine blk_put (cs := #[.int .i64 (rd x4_2 0),.int .i64 (rd x4_2 1),.int .i64 (rd x4_2 2),u381003]) ?_ 3 _ rfl;(with_reducible repeat (first|refine blk_drewN ?_ _|refine blk_drew ?_|refine blk_alloc ?_ _));exact BK380.out⟩
                    have n4_ : Aside0 (Below w.heap.size w (w39.setCell ⟨gb380,3,none⟩ (.slice Ao40 y388.length co40))) := ⟨b_⟩
                    (try clear HO_10)
                    (try clear HO390)
                    (try clear BK370)
                    (try clear BK380)
                    (try clear HB)
                    generalize (w39.setCell ⟨gb380,3,none⟩ (.slice Ao40 y388.length co40)) = w42 at n0_ n1_ n2_ n3_ n4_ ⊢
                    have HO_10 := n0_
                    have HO390 := n1_
                    have BK370 := n2_
                    have BK380 := n3_
                    have HB := n4_
                    clear n0_ n1_ n2_ n3_ n4_
                    have q43 : (4 : Int) ≤ ((x10_3.length : Int) : Int) := od_
                    obtain ⟨i043,hi043,_,hsz43,_⟩ := info_parts info2
                    have hcut43 := cut_from (P := Tryz.prog) 43 2 .i64 Tryz.underlying43 hi043 1 hsz43 (some ad384) x10_3.length co37 4 (by omega) q43
                    have hr43 := Kd.Q_drop (k := (4 : Int).toNat) HO_10.out (by omega)
                    obtain ⟨A43,hA43⟩ : ∃ A1,A1 = (if co37 = (4 : Int).toNat then (some ad384) else ((some ad384) : Option Addr).map (·.add ((4 : Int).toNat * 1))) := ⟨_,rfl⟩
                    obtain ⟨c43,hc43⟩ : ∃ c1,c1 = co37 - (4 : Int).toNat := ⟨_,rfl⟩
                    have hy43 : y391.length = x10_3.length - (4 : Int).toNat := (by rw [Ny391.out,List.length_drop])
                    rw [← Ny391.out] at hr43
                    rw [← hy43,← hA43,← hc43] at hcut43
                    replace hr43 : Kd.Q (Kd.int .i64) 2 w42 w.heap.size (fun _ => True) (.slice A43 y391.length c43) y391 := (by rw [hA43,hc43,hy43];exact hr43)
                    have HE43 : Aside0 ((Value.slice A43 y391.length c43).ownBlock = (.slice (some ad384) x10_3.length co37 : Value).ownBlock) := ⟨by rw [hA43];split <;> (cases ((some ad384) : Option Addr) <;> rfl)⟩
                    clear hy43 hi043 hsz43 HO_10 hA43 hc43
                    have HO393 := Aside0.mk hr43
                    clear hr43
                    replace q43 := eq_true q43
                    try go_wp2
                    go_roundg k3
                    case measure => have := HJ1.out;have := HK2.out;have := HK3.out;omega
                    case rel => exact ⟨(y391),(y388),(.slice Ao40 y388.length co40),H',⟨by have := HJ1.out;have := HK2.out;have := HK3.out;omega⟩,⟨by (with_reducible repeat (first|apply Kd.Q_alloc|apply Kd.Q_drewN|apply Kd.Q_drew));exact HO393.out⟩,⟨by (with_reducible repeat (first|apply Kd.R_alloc|apply Kd.R_drewN|apply Kd.R_drew));exact HO390.out⟩,⟨kb_ BK370⟩,⟨kb_ BK380⟩,⟨b_⟩⟩
                   ·rw [if_neg c36] at H
                    exact absurd H (by simp)
                  ·rw [if_neg c35] at H
                   exact absurd H (by simp)
                 ·rw [if_neg c34] at H
                  exact absurd H (by simp)
                ·rw [if_neg c33] at H
                 exact absurd H (by simp)
               ·rw [if_neg c32] at H
                exact absurd H (by simp)
              ·rw [if_neg c31] at H
               exact absurd H (by simp)
             ·rw [if_neg c30] at H
              have c30b0 : decide (0 < (x10_3.length : Int)) = false := decide_eq_false c30
              have c30b1 : decide (0 < x10_3.length) = false := decide_eq_false (by omega)
              clear c30
              simp only [Option.some.injEq,Prod.mk.injEq] at H
              obtain ⟨rfl,rfl,rfl,rfl,rfl⟩ := H
              obtain ⟨Ao44,co44,eo44,_⟩ := Kd.Q_slice HO_10.out
              subst eo44
              have hnb45 := NB380_370.out
              have hnc45 := NB370_380.out
              obtain ⟨⟨hcz46_0,hcz46_1,hcz46_2,hcz46_3⟩,hfz46_0,hfz46_1,hfz46_2,hfz46_3⟩ := cl4_ BK380.out
              obtain ⟨⟨hcz47_0,hcz47_1,hcz47_2,hcz47_3⟩,hfz47_0,hfz47_1,hfz47_2,hfz47_3⟩ := cl4_ BK370.out
              obtain ⟨Ao48,co48,eo48⟩ := Kd.R_slice HO_381003.out
              subst eo48
              go_wp2
              refine bodyPost_ret (results_ct rfl _ _ gb370 26 #[.int .i64 (rd x4_2 0),.int .i64 (rd x4_2 1),.int .i64 (rd x4_2 2),.slice Ao48 x381003_3.length co48] (0,0) _ rfl (by (with_reducible repeat (first|refine blk_drewN ?_ _|refine blk_drew ?_|refine blk_alloc ?_ _));refine blk_put (cs := #[.int .i64 (rd x4_2 0),.int .i64 (rd x4_2 1),.int .i64 (rd x4_2 2),.slice none 0 0]) ?_ 3 _ rfl;(with_reducible repeat (first|refine blk_drewN ?_ _|refine blk_drew ?_|refine blk_alloc ?_ _));refine blk_put (cs := #[.int .i64 (rd x4_2 0),.int .i64 (rd x4_2 1),.int .i64 x371002_2,.slice none 0 0]) ?_ 2 _ rfl;(with_reducible repeat (first|refine blk_drewN ?_ _|refine blk_drew ?_|refine blk_alloc ?_ _));refine blk_put (cs := #[.int .i64 (rd x4_2 0),.int .i64 x371001_2,.int .i64 x371002_2,.slice none 0 0]) ?_ 1 _ rfl;(with_reducible repeat (first|refine blk_drewN ?_ _|refine blk_drew ?_|refine blk_alloc ?_ _));refine blk_put (cs := #[.int .i64 x371000_2,.int .i64 x371001_2,.int .i64 x371002_2,.slice none 0 0]) ?_ 0 _ rfl;(with_reducible repeat (first|refine blk_drewN ?_ _|refine blk_drew ?_|refine blk_alloc ?_ _));exact BK370.out) Tryz.underlying26 rfl (by kernel_rfl)) rfl ?_
              exact ⟨_,rf_,by (with_reducible repeat (first|apply Kd.R_alloc|apply Kd.R_drewN|apply Kd.R_drew));exact Kd.R_mono (Kd.R_far (p := ⟨gb370,3,none⟩) (Kd.R_far (p := ⟨gb370,2,none⟩) (Kd.R_far (p := ⟨gb370,1,none⟩) (Kd.R_far (p := ⟨gb370,0,none⟩) (Kd.R_types HO_381003.out BK370.out (by decide)) (fun _ hk => hk.2) (.int .i64 (rd x4_2 0))) (fun _ hk => hk.2) (.int .i64 (rd x4_2 1))) (fun _ hk => hk.2) (.int .i64 (rd x4_2 2))) (fun _ hk => hk.2) (.slice Ao48 x381003_3.length co48)) (fun _ hk => trivial),b_⟩
          ·rw [if_neg c20] at H
           exact absurd H (by simp)
         ·rw [if_neg c19] at H
          exact absurd H (by simp)
        ·rw [if_neg c18] at H
         exact absurd H (by simp)
       ·rw [if_neg c17] at H
        exact absurd H (by simp)

end Go.Proofs.YtnilfnkdgdfnnaaGreatDoor.XRe
