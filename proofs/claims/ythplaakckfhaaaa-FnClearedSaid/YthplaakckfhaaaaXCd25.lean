/- Proved: of each Go function here that a call comes to what the Lean function of its name tells. Written by a program of this session over the translation. No conditions beyond each theorem's own. -/
import Derived.Test.YthplaakckfhaaaaXCd0
import Derived.Test.YthplaakckfhaaaaXCd22
import Derived.Test.YthplaakckfhaaaaXCd24
namespace Go.Proofs.Ythplaakckfhaaaa.XCd
open Go.RowKit Go.Proofs.Ythplaakckfhaaaa.Aid Go.Proofs.YthplaakckfhaaaaW.PrintWords Go.Proofs.YthplaakckfhaaaaW.PrintLast Go.Proofs.YthplaakckfhaaaaW.PrintMore
set_option linter.unusedVariables false
set_option linter.unusedSimpArgs false

/-! ### spec_l6Put: function 138 -/
def spec_l6Put.l0 : Nat → List Int → Int → List Int → Int → Option (List Int)
  | 0, _, _, _, _ => none
  | k + 1, x0, x1, x5, x6 => if x6 < (x0.length : Int) then (if 0 ≤ x6 then (if (rd x0 x6) < x1 then (if x5.length < 17592186044416 then (spec_l6Put.l0 k x0 x1 (x5 ++ [rd x0 x6]) (wrap64 (x6 + 1))) else (none)) else (if x5.length < 17592186044416 then ((some (x5 ++ [x1] : List Int)).bind fun y328 => (if 0 ≤ (x5.length : Int) then (if (x5.length : Int) ≤ (x0.length : Int) then ((some (x0.drop ((x5.length : Int) : Int).toNat : List Int)).bind fun y331 => (if y328.length + y331.length < 17592186044416 then (some (y328 ++ y331)) else (none))) else (none)) else (none))) else (none))) else (none)) else (if x5.length < 17592186044416 then ((some (x5 ++ [x1] : List Int)).bind fun y338 => (if 0 ≤ (x5.length : Int) then (if (x5.length : Int) ≤ (x0.length : Int) then ((some (x0.drop ((x5.length : Int) : Int).toNat : List Int)).bind fun y341 => (if y338.length + y341.length < 17592186044416 then (some (y338 ++ y341)) else (none))) else (none)) else (none))) else (none))
def spec_l6Put.f (k : Nat) (l0 : List Int) (a1 : Int) : Option (List Int) := (spec_l3Has.f k l0 a1).bind fun t319 => (if t319 = true then (some l0) else (spec_l6Put.l0 k l0 a1 (([] : List Int)) 0))

def spec_l6Put.T8 : Bool × List (List Nat × List Nat) := (true, [([], []), ([], []), ([1], [1]), ([0, 2], [0, 2]), ([], []), ([], []), ([5], [5]), ([4, 6], [4, 6]), ([3, 7, 3], [3, 7]), ([8, 8, 0, 1, 2, 3, 4, 5, 6, 7, 8], [8])])
def spec_l6Put.B8 : List Nat := [0, 0, 2, 7, 0, 0, 32, 112, 255, 511]
theorem spec_l6Put.tab8 : rtab .any (opsOf Try.f138 8) = spec_l6Put.T8 := by kernel_rfl
theorem spec_l6Put.bits8 : waitsOk spec_l6Put.T8.2 spec_l6Put.B8 = true := by kernel_rfl
set_option maxHeartbeats 8000000 in
set_option maxRecDepth 100000 in
theorem spec_l6Put.calls (k : Nat) (P0_ : Nat → Prop) (u9000_ : Value) (l0 : List Int) (a1 : Int) (r : List Int) (w0 w : World) (hB : Below w0.heap.size w0 w) (ho0 : Kd.R (Kd.int .i64) 2 w w0.heap.size P0_ u9000_ l0) (h : spec_l6Put.f k l0 a1 = some r) :
    Calls Try.prog 138 #[u9000_, .int .i64 a1] w fun e w' => ∃ v0_ : Value, e = .returned (v0_) ∧ Kd.R (Kd.int .i64) 2 w' w0.heap.size (fun k_ => (P0_ k_ ∨ w.heap.size ≤ k_)) v0_ r ∧ Below w0.heap.size w0 w' ∧ Kept w w' (fun k_ => P0_ k_) := by
 have HO0 := ak (show Kd.R (Kd.int .i64) 2 w w0.heap.size (fun k_ => (P0_ k_ ∨ w.heap.size ≤ k_)) u9000_ l0 from Kd.R_mono ho0 (fun k_ hk => (.inl hk)))
 have HK := ak (Kept.refl w (fun k_ => P0_ k_))
 have HW0 := ak hB.size
 have HB := ak hB
 clear hB
 have H : ((spec_l3Has.f k l0 a1).bind fun t319 => (if t319 = true then (some l0) else (spec_l6Put.l0 k l0 a1 (([] : List Int)) 0))) = some r := h
 clear h
 replace H := bs_ H
 obtain ⟨t319,A3,H⟩ := H
 by_cases c4 : t319 = true
 ·subst c4
  replace H := it_ H
  obtain rfl := Option.some.inj H
  obtain ⟨Ao5,co5,eo5⟩ := Kd.R_slice HO0.out
  subst eo5
  go_enter Try.func138,Try.ntmps138
  go_wp2_with (first|((with_reducible refine gcal_ (f := 96) rfl ?_);refine gl_ (some 9) Try.func96 #[.slice Ao5 l0.length co5,.int .i64 a1] ?_;(with_reducible refine (spec_l3Has.calls k _ _ l0 a1 true _ ?side1 ?side2 A3.out).mono ?_);(case side1 => repeat (first|exact (Kd.R_reads' HO0.out).2.2|(with_reducible refine Kd.C_alloc ?_ _)|(with_reducible refine Kd.C_drewN ?_ _)|(with_reducible refine Kd.C_drew ?_)));(case side2 => exact (Kd.R_reads' HO0.out).2.1);rintro e w' ⟨rfl,⟨nd,rfl⟩⟩;refine ⟨_,rfl,?_⟩))
  go_ret
  exact ⟨_,rf_,by (with_reducible repeat (first|apply Kd.R_alloc|apply Kd.R_drewN|apply Kd.R_drew));exact HO0.out,b_,by repeat (first|(with_reducible first|exact HK.out|apply Kept.alloc|apply Kept.drewN|apply Kept.drew)|exact HK.out)⟩
 ·replace c4 := Bool.eq_false_iff.mpr c4
  subst c4
  replace H := ie_ H
  obtain ⟨y320,hy320⟩ : ∃ y_ : List Int,y_ = (([] : List Int)) := ⟨_,rfl⟩
  replace H : (spec_l6Put.l0 k l0 a1 y320 0) = some r := by first|(rw [hy320];with_reducible exact H)|(have H2_ := (Option.bind_some _ _).symm.trans H;rw [hy320];with_reducible exact H2_)|(have H2_ := (Option.bind_some _ _).symm.trans H;with_reducible exact H2_)|with_reducible exact H|(rw [hy320];exact H)|exact H
  have Ny320 := ak hy320
  clear hy320
  have H' := ak H
  clear H
  obtain ⟨Ao6,co6,eo6⟩ := Kd.R_slice HO0.out
  subst eo6
  go_enter Try.func138,Try.ntmps138
  go_wp2_with (first|((with_reducible refine gcal_ (f := 96) rfl ?_);refine gl_ (some 9) Try.func96 #[.slice Ao6 l0.length co6,.int .i64 a1] ?_;(with_reducible refine (spec_l3Has.calls k _ _ l0 a1 false _ ?side1 ?side2 A3.out).mono ?_);(case side1 => repeat (first|exact (Kd.R_reads' HO0.out).2.2|(with_reducible refine Kd.C_alloc ?_ _)|(with_reducible refine Kd.C_drewN ?_ _)|(with_reducible refine Kd.C_drew ?_)));(case side2 => exact (Kd.R_reads' HO0.out).2.1);rintro e w' ⟨rfl,⟨nd,rfl⟩⟩;refine ⟨_,rfl,?_⟩)|((with_reducible refine gate_dst (N := 11) rfl ?_);refine Kd.R_lit (Kd.int .i64) _ 2 ?hg (N := 11) ?hd (xs := ([] : List Int)) (inner := []) (ok := fun _ => True) (okp := fun _ => True) ?hr ?hp (fun _ hk => hk) trivial (Below.refl _ _) (Nat.le_refl _) (by simp) ?_;(case hd => rfl);(case hg => rfl);(case hr => first|(go_simp;done)|(go_simp;rfl));(case hp => exact (Reps.none _ _));intro v321 w7 ho8 hb hg_ hnew_;clear hg_ hnew_;(first|rw [← Ny320.out] at ho8|(simp only [Int.reduceToNat] at ho8;rw [← Ny320.out] at ho8));have HO322 := ak (Kd.R_lower (Kd.R_new' (Kd.R_newM (M := fun k_ => (P0_ k_ ∨ w.heap.size ≤ k_)) ho8 (by first|exact HK.out.1|exact (show Kept w _ (fun k_ => P0_ k_) from by repeat (first|(with_reducible first|exact HK.out|apply Kept.alloc|apply Kept.drewN|apply Kept.drew)|exact HK.out)).1) (fun k_ h_ => .inr h_)) (Kd.R_lt (by (with_reducible repeat (first|apply Kd.R_alloc|apply Kd.R_drewN|apply Kd.R_drew));exact HO0.out))) (below_size b_));replace HO0 := ak (Kd.R_elder' (by (with_reducible repeat (first|apply Kd.R_alloc|apply Kd.R_drewN|apply Kd.R_drew));exact HO0.out) (Kd.R_base ho8) hb);replace HK := ak (Kept.below (S := (fun k_ => P0_ k_)) (by repeat (first|(with_reducible first|exact HK.out|apply Kept.alloc|apply Kept.drewN|apply Kept.drew)|exact HK.out)) hb);replace HB := ak (below_step b_ hb);clear hb ho8))
  go_loopg [5,6] k (fun kq v5 v6 w' => ∃ (x5_1 : List Int) (x6_1 : Int),v6 = .int .i64 x6_1 ∧ Aside0 (spec_l6Put.l0 kq l0 a1 x5_1 x6_1 = some r) ∧ Aside0 (kq ≤ k) ∧ Aside0 (Kd.R (Kd.int .i64) 2 w' w0.heap.size (fun k_ => (P0_ k_ ∨ w.heap.size ≤ k_) ∧ some k_ ≠ (v5 : Value).ownBlock) (.slice Ao6 l0.length co6) l0) ∧ Aside0 (Kd.R (Kd.int .i64) 2 w' w0.heap.size (fun k_ => (P0_ k_ ∨ w.heap.size ≤ k_) ∧ some k_ ≠ ((.slice Ao6 l0.length co6) : Value).ownBlock) v5 x5_1) ∧ Aside0 (Kept w w' (fun k_ => P0_ k_)) ∧ Aside0 (Below w0.heap.size w0 w'))
  case atStart => exact ⟨(y320),(0),rs_,H',⟨Nat.le_refl _⟩,⟨by (with_reducible repeat (first|apply Kd.R_alloc|apply Kd.R_drewN|apply Kd.R_drew));exact HO0.out⟩,⟨by (with_reducible repeat (first|apply Kd.R_alloc|apply Kd.R_drewN|apply Kd.R_drew));exact Kd.R_mono HO322.out (fun _ hk => ⟨hk.1.1,hk.2⟩)⟩,⟨by repeat (first|(with_reducible first|exact HK.out|apply Kept.alloc|apply Kept.drewN|apply Kept.drew)|exact HK.out)⟩,⟨b_⟩⟩
  case round =>
   clear H'
   try clear c1
   try clear p2
   try clear c4
   obtain ⟨x5_1,x6_1,rfl,HA,HK1,HO_0,HO_5,HK,HB⟩ := hrel
   cases gk with
   | zero => exact absurd HA.out (by simp [spec_l6Put.l0])
   | succ k1 =>
    have H := HA.out
    clear HA
    simp only [spec_l6Put.l0] at H
    by_cases c9 : x6_1 < (l0.length : Int)
    ·rw [if_pos c9] at H
     have c9b0 : decide (x6_1 < (l0.length : Int)) = true := decide_eq_true c9
     clear c9
     by_cases c10 : 0 ≤ x6_1
     ·rw [if_pos c10] at H
      have c10b0 : decide (0 ≤ x6_1) = true := decide_eq_true c10
      clear c10
      by_cases c11 : (rd l0 x6_1) < a1
      ·rw [if_pos c11] at H
       have c11b0 : decide ((rd l0 x6_1) < a1) = true := decide_eq_true c11
       clear c11
       by_cases c12 : x5_1.length < 17592186044416
       ·rw [if_pos c12] at H
        have LMc12 := ak c12
        clear c12
        obtain ⟨y325,hy325⟩ : ∃ y_ : List Int,y_ = (x5_1 ++ [rd l0 x6_1]) := ⟨_,rfl⟩
        replace H : (spec_l6Put.l0 k1 l0 a1 y325 (wrap64 (x6_1 + 1))) = some r := by first|(rw [hy325];with_reducible exact H)|(have H2_ := (Option.bind_some _ _).symm.trans H;rw [hy325];with_reducible exact H2_)|(have H2_ := (Option.bind_some _ _).symm.trans H;with_reducible exact H2_)|with_reducible exact H|(rw [hy325];exact H)|exact H
        have Ny325 := ak hy325
        clear hy325
        have H' := ak H
        clear H
        have p323 : 0 ≤ (x6_1 : Int) := od_
        have q323 : x6_1 < (l0.length : Int) := od_
        obtain ⟨ad323,e323,hx323_0⟩ := Kd.at_int (Kd.R_reads' HO_0.out).2.2 x6_1 p323 q323
        cases e323
        replace p323 := eq_true p323
        replace q323 := eq_true q323
        have p324 : 0 ≤ (x6_1 : Int) := od_
        have q324 : x6_1 < (l0.length : Int) := od_
        obtain ⟨ad324,e324,hx324_0⟩ := Kd.at_int (Kd.R_reads' HO_0.out).2.2 x6_1 p324 q324
        obtain rfl : ad323 = ad324 := (by injection e324)
        replace p324 := eq_true p324
        replace q324 := eq_true q324
        go_wp2_with (first|((with_reducible refine gblt_ (b := .append) (xs := #[.tmp 26,.tmp 31]) rfl ?_);at_builtin;refine Kd.R_append (Kd.int .i64) (w0 := w0) w0.heap.size rfl (.tmp 26) (.tmp 31) 24 2 (.int .i64 0) 8 rfl Try.underlying24 info2 rfl (by decide) (by omega) u5 x5_1 (rd l0 x6_1) [.int .i64 (rd l0 x6_1)] (fun k_ => (P0_ k_ ∨ w.heap.size ≤ k_) ∧ some k_ ≠ (.slice (some ad323) l0.length co6 : Value).ownBlock) (fun _ => False) rfl rfl ?aP (fun _ hk => hk.elim) ?aF ?aO ?aB ?aS ?aL ?_;(case aP => exact rfl);(case aB => exact b_);(case aF => exact (fun k_ hk => ⟨(.inr (Nat.le_trans (by first|exact HK.out.1|exact (show Kept w _ (fun k_ => P0_ k_) from by repeat (first|(with_reducible first|exact HK.out|apply Kept.alloc|apply Kept.drewN|apply Kept.drew)|exact HK.out)).1) hk)),Kd.fresh' (Kd.R_lt (by (with_reducible repeat (first|apply Kd.R_alloc|apply Kd.R_drewN|apply Kd.R_drew));exact HO_0.out)) k_ hk⟩));(case aO => exact (by (with_reducible repeat (first|apply Kd.R_alloc|apply Kd.R_drewN|apply Kd.R_drew));exact HO_5.out));(case aS => exact (below_size b_));(case aL => have := LMc12.out;omega);intro v326 w13 ho hb hg hat;rw [← Ny325.out] at ho;replace HO_0 := ak (Kd.R_after (ok := (fun k_ => (P0_ k_ ∨ w.heap.size ≤ k_))) (by (with_reducible repeat (first|apply Kd.R_alloc|apply Kd.R_drewN|apply Kd.R_drew));exact HO_0.out) hg hat);replace HB := ak (hb);replace HK := ak (Kept.of_grown (S := (fun k_ => P0_ k_)) hg (by repeat (first|(with_reducible first|exact HK.out|apply Kept.alloc|apply Kept.drewN|apply Kept.drew)|exact HK.out)) (fun k_ e_ => (HO_5.out.1 k_ e_).1));have HO327 := ak (ho);clear HO_5;clear ho hb hg hat))
        go_roundg k1
        case measure => have := HK1.out;omega
        case rel => exact ⟨(y325),(wrap64 (x6_1 + 1)),rs_,H',⟨by have := HK1.out;omega⟩,⟨by (with_reducible repeat (first|apply Kd.R_alloc|apply Kd.R_drewN|apply Kd.R_drew));exact HO_0.out⟩,⟨by (with_reducible repeat (first|apply Kd.R_alloc|apply Kd.R_drewN|apply Kd.R_drew));exact HO327.out⟩,⟨by repeat (first|(with_reducible first|exact HK.out|apply Kept.alloc|apply Kept.drewN|apply Kept.drew)|exact HK.out)⟩,⟨b_⟩⟩
       ·rw [if_neg c12] at H
        exact absurd H (by simp)
      ·rw [if_neg c11] at H
       have c11b0 : decide ((rd l0 x6_1) < a1) = false := decide_eq_false c11
       clear c11
       by_cases c14 : x5_1.length < 17592186044416
       ·rw [if_pos c14] at H
        have LMc14 := ak c14
        clear c14
        obtain ⟨y328,hy328⟩ : ∃ y_ : List Int,y_ = (x5_1 ++ [a1]) := ⟨_,rfl⟩
        replace H : (if 0 ≤ (x5_1.length : Int) then (if (x5_1.length : Int) ≤ (l0.length : Int) then ((some (l0.drop ((x5_1.length : Int) : Int).toNat : List Int)).bind fun y331 => (if y328.length + y331.length < 17592186044416 then (some (y328 ++ y331)) else (none))) else (none)) else (none)) = some r := by first|(rw [hy328];with_reducible exact H)|(have H2_ := (Option.bind_some _ _).symm.trans H;rw [hy328];with_reducible exact H2_)|(have H2_ := (Option.bind_some _ _).symm.trans H;with_reducible exact H2_)|with_reducible exact H|(rw [hy328];exact H)|exact H
        have Ny328 := ak hy328
        clear hy328
        by_cases c15 : 0 ≤ (x5_1.length : Int)
        ·rw [if_pos c15] at H
         have c15b0 := eq_true c15
         have c15b1 : decide (0 ≤ (x5_1.length : Int)) = true := decide_eq_true c15
         clear c15
         by_cases c16 : (x5_1.length : Int) ≤ (l0.length : Int)
         ·rw [if_pos c16] at H
          have c16b0 := eq_true c16
          have c16b1 : decide ((x5_1.length : Int) ≤ (l0.length : Int)) = true := decide_eq_true c16
          clear c16
          obtain ⟨y331,hy331⟩ : ∃ y_ : List Int,y_ = (l0.drop ((x5_1.length : Int) : Int).toNat) := ⟨_,rfl⟩
          replace H : (if y328.length + y331.length < 17592186044416 then (some (y328 ++ y331)) else (none)) = some r := by first|(rw [hy331];with_reducible exact H)|(have H2_ := (Option.bind_some _ _).symm.trans H;rw [hy331];with_reducible exact H2_)|(have H2_ := (Option.bind_some _ _).symm.trans H;with_reducible exact H2_)|with_reducible exact H|(rw [hy331];exact H)|exact H
          have Ny331 := ak hy331
          clear hy331
          by_cases c17 : y328.length + y331.length < 17592186044416
          ·rw [if_pos c17] at H
           have LMc17 := ak c17
           clear c17
           obtain ⟨y335,hy335⟩ : ∃ y_ : List Int,y_ = (y328 ++ y331) := ⟨_,rfl⟩
           replace H : (some y335) = some r := by first|(rw [hy335];with_reducible exact H)|(have H2_ := (Option.bind_some _ _).symm.trans H;rw [hy335];with_reducible exact H2_)|(have H2_ := (Option.bind_some _ _).symm.trans H;with_reducible exact H2_)|with_reducible exact H|(rw [hy335];exact H)|exact H
           have Ny335 := ak hy335
           clear hy335
           obtain rfl := Option.some.inj H
           have p323 : 0 ≤ (x6_1 : Int) := od_
           have q323 : x6_1 < (l0.length : Int) := od_
           obtain ⟨ad323,e323,hx323_0⟩ := Kd.at_int (Kd.R_reads' HO_0.out).2.2 x6_1 p323 q323
           cases e323
           replace p323 := eq_true p323
           replace q323 := eq_true q323
           try go_wp2
           replace HO_0 := ak (Kd.R_drew HO_0.out)
           replace HO_5 := ak (Kd.R_drew HO_5.out)
           replace HK := ak (Kept.drew HK.out)
           replace HB := ak (below_drew1 HB.out)
           obtain ⟨Ao19,co19,eo19⟩ := Kd.R_slice HO_5.out
           (first|subst eo19|(injection eo19 with f1_ f2_ f3_;have f4_ := f1_.symm;have f5_ := f3_.symm;clear f1_ f2_ f3_;subst f4_;subst f5_))
           have q20 : ((x5_1.length : Int) : Int) ≤ ((l0.length : Int) : Int) := od_
           obtain ⟨i020,hi020,_,hsz20,_⟩ := info_parts info2
           have hroom20 : l0.length ≤ co6 := (Kd.R_reads' HO_0.out).2.1
           have hC20 : Kd.C (Kd.int .i64) _ (some ad323) l0.length l0 := (Kd.R_reads' HO_0.out).2.2
           have q020 : (0 : Int) ≤ ((x5_1.length : Int) : Int) := od_
           have hcut20 := cut_from (P := Try.prog) 24 2 .i64 Try.underlying24 hi020 1 hsz20 (some ad323) l0.length co6 (x5_1.length : Int) q020 q20
           have hr20 := Kd.C_drop (m := ((x5_1.length : Int) : Int).toNat) (c := co6) hC20 (by omega) hroom20
           obtain ⟨A20,hA20⟩ : ∃ A1,A1 = (if co6 = ((x5_1.length : Int) : Int).toNat then (some ad323) else ((some ad323) : Option Addr).map (·.add (((x5_1.length : Int) : Int).toNat * 1))) := ⟨_,rfl⟩
           obtain ⟨c20,hc20⟩ : ∃ c1,c1 = co6 - ((x5_1.length : Int) : Int).toNat := ⟨_,rfl⟩
           have hy20 : y331.length = l0.length - ((x5_1.length : Int) : Int).toNat := (by rw [Ny331.out,List.length_drop] <;> omega)
           rw [show (l0).drop ((x5_1.length : Int) : Int).toNat = y331 from Ny331.out.symm] at hr20
           replace hr20 : Kd.C (Kd.int .i64) _ A20 y331.length y331 := (by rw [hA20];exact hr20)
           rw [← hy20,← hA20,← hc20] at hcut20
           have HR334 := ak hr20
           have HC334 := ak (show y331.length ≤ c20 from by rw [hy20,hc20];exact Nat.sub_le_sub_right hroom20 _)
           clear hr20 hC20 hroom20 hi020 hsz20 hc20
           have KY20 := ak hy20
           have KA20 := ak hA20
           clear hy20 hA20
           have KL20 := ak (show ((x5_1.length : Int) : Int).toNat ≤ l0.length from by omega)
           replace q20 := eq_true q20
           refine start_ (n := 10) (S := fun w' => True) (ds := []) #[false,false,false,false,false,false,false,false,false,false] (by kernel_rfl) rfl rfl trivial (fun hHeld => ?_);refine with_tabW spec_l6Put.tab8 spec_l6Put.bits8 (fun HT_ HW_ => ?_)
           generalize wr.drew = w18 at HO_0 HO_5 HK HB HR334 hHeld ⊢
           refine pv_ 0 33 ?_
           refine pv_ 1 34 ?_
           refine pv_ 4 37 ?_
           refine pv_ 5 38 ?_
           refine pv_ 6 39 ?_
           refine pv_ 7 40 ?_
           refine oy_ 2 35 (fun K hK => ?_)
           refine value_ (w1 := ?_) (v := ?_) (by rfl) rfl ?_ ?_
           rotate_left 2
           ·go_simp
            constructor
            ·rfl
            ·rfl
           refine hK.out _ _ trivial (fun hHeld => ?_)
           clear hK K
           refine nr_ (some 35) _ ?_
           refine oy_ 3 36 (fun K hK => ?_)
           refine Kd.R_append_step (Kd.int .i64) (w0 := w0) w0.heap.size (by rfl) (.tmp 33) (.tmp 35) 24 2 (.int .i64 0) 8 rfl Try.underlying24 info2 rfl (by decide) (by omega) (.slice Ao19 x5_1.length co19) x5_1 a1 [.int .i64 a1] (fun k_ => (P0_ k_ ∨ w.heap.size ≤ k_) ∧ some k_ ≠ (.slice (some ad323) l0.length co6 : Value).ownBlock) (fun _ => False) rfl rfl ?aP (fun _ hk => hk.elim) ?aF ?aO ?aB ?aS ?aL ?_
           (case aP => exact rfl)
           (case aB => exact b_)
           (case aF => exact (fun k_ hk => ⟨(.inr (Nat.le_trans (by first|exact HK.out.1|exact (show Kept w _ (fun k_ => P0_ k_) from by repeat (first|(with_reducible first|exact HK.out|apply Kept.alloc|apply Kept.drewN|apply Kept.drew)|exact HK.out)).1) hk)),Kd.fresh' (Kd.R_lt (by (with_reducible repeat (first|apply Kd.R_alloc|apply Kd.R_drewN|apply Kd.R_drew));exact HO_0.out)) k_ hk⟩))
           (case aO => exact (by (with_reducible repeat (first|apply Kd.R_alloc|apply Kd.R_drewN|apply Kd.R_drew));exact HO_5.out))
           (case aS => exact (below_size b_))
           (case aL => have := LMc14.out;omega)
           intro v329 w21 ho hb hg hat
           rw [← Ny328.out] at ho
           replace HB := ak (hb)
           replace HK := ak (Kept.of_grown (S := (fun k_ => P0_ k_)) hg (by repeat (first|(with_reducible first|exact HK.out|apply Kept.alloc|apply Kept.drewN|apply Kept.drew)|exact HK.out)) (fun k_ e_ => (HO_5.out.1 k_ e_).1))
           replace HR334 := ak ((show Kd.C (Kd.int .i64) w21 A20 y331.length y331 from by rw [Ny331.out,KA20.out];exact Kd.C_drop (m := ((x5_1.length : Int) : Int).toNat) (c := co6) ((Kd.R_reads' (Kd.R_after (ok := (fun k_ => (P0_ k_ ∨ w.heap.size ≤ k_))) (by (with_reducible repeat (first|apply Kd.R_alloc|apply Kd.R_drewN|apply Kd.R_drew));exact HO_0.out) hg hat)).2.2) KL20.out ((Kd.R_reads' (Kd.R_after (ok := (fun k_ => (P0_ k_ ∨ w.heap.size ≤ k_))) (by (with_reducible repeat (first|apply Kd.R_alloc|apply Kd.R_drewN|apply Kd.R_drew));exact HO_0.out) hg hat)).2.1)))
           replace HO_0 := ak (Kd.R_after (ok := (fun k_ => (P0_ k_ ∨ w.heap.size ≤ k_))) (by (with_reducible repeat (first|apply Kd.R_alloc|apply Kd.R_drewN|apply Kd.R_drew));exact HO_0.out) hg hat)
           have HO330 := ak (ho)
           clear HO_5
           clear ho hb hg hat
           refine hK.out _ _ trivial (fun hHeld => ?_)
           clear hK K
           refine nr_ (some 36) _ ?_
           refine oy_ 8 41 (fun K hK => ?_)
           refine Kd.R_append_rows_step (Kd.int .i64) (w0 := w0) w0.heap.size (by rfl) (.tmp 36) (.tmp 40) 24 2 (.int .i64 0) 8 rfl Try.underlying24 info2 rfl (by decide) (by omega) v329 y328 y331 _ _ _ (fun k_ => (P0_ k_ ∨ w.heap.size ≤ k_) ∧ some k_ ≠ (.slice (some ad323) l0.length co6 : Value).ownBlock) (fun _ => False) rfl rfl ?aO ?aR (fun _ _ h => h) (fun _ h => h.elim) ?aF ?aB ?aS ?aL ?_
           (case aR => repeat (first|exact (by repeat (first|(with_reducible exact HR334.out)|(with_reducible refine Kd.C_alloc ?_ _)|(with_reducible refine Kd.C_drewN ?_ _)|(with_reducible refine Kd.C_drew ?_)|exact HR334.out))|(with_reducible refine Kd.C_alloc ?_ _)|(with_reducible refine Kd.C_drewN ?_ _)|(with_reducible refine Kd.C_drew ?_)))
           (case aB => exact b_)
           (case aF => exact (fun k_ hk => ⟨(.inr (Nat.le_trans (by first|exact HK.out.1|exact (show Kept w _ (fun k_ => P0_ k_) from by repeat (first|(with_reducible first|exact HK.out|apply Kept.alloc|apply Kept.drewN|apply Kept.drew)|exact HK.out)).1) hk)),Kd.fresh' (Kd.R_lt (by (with_reducible repeat (first|apply Kd.R_alloc|apply Kd.R_drewN|apply Kd.R_drew));exact HO_0.out)) k_ hk⟩))
           (case aO => exact (by (with_reducible repeat (first|apply Kd.R_alloc|apply Kd.R_drewN|apply Kd.R_drew));exact HO330.out))
           (case aS => exact (below_size b_))
           (case aL => have := LMc17.out;omega)
           intro v336 w22 ho hb hg hat
           rw [← Ny335.out] at ho
           replace HB := ak (hb)
           replace HK := ak (Kept.of_grown (S := (fun k_ => P0_ k_)) hg (by repeat (first|(with_reducible first|exact HK.out|apply Kept.alloc|apply Kept.drewN|apply Kept.drew)|exact HK.out)) (fun k_ e_ => (HO330.out.1 k_ e_).1))
           replace HR334 := ak ((show Kd.C (Kd.int .i64) w22 A20 y331.length y331 from by rw [Ny331.out,KA20.out];exact Kd.C_drop (m := ((x5_1.length : Int) : Int).toNat) (c := co6) ((Kd.R_reads' (Kd.R_after (ok := (fun k_ => (P0_ k_ ∨ w.heap.size ≤ k_))) (by (with_reducible repeat (first|apply Kd.R_alloc|apply Kd.R_drewN|apply Kd.R_drew));exact HO_0.out) hg hat)).2.2) KL20.out ((Kd.R_reads' (Kd.R_after (ok := (fun k_ => (P0_ k_ ∨ w.heap.size ≤ k_))) (by (with_reducible repeat (first|apply Kd.R_alloc|apply Kd.R_drewN|apply Kd.R_drew));exact HO_0.out) hg hat)).2.1)))
           replace HO_0 := ak (Kd.R_after (ok := (fun k_ => (P0_ k_ ∨ w.heap.size ≤ k_))) (by (with_reducible repeat (first|apply Kd.R_alloc|apply Kd.R_drewN|apply Kd.R_drew));exact HO_0.out) hg hat)
           have HO337 := ak (ho)
           clear HO330
           clear ho hb hg hat
           refine hK.out _ _ trivial (fun hHeld => ?_)
           clear hK K
           refine nr_ (some 41) _ ?_
           refine pv_ 9 4 ?_
           refine done_ (done_of HT_.out (by kernel_rfl)) ?_
           try go_wp2
           go_ret
           exact ⟨_,rf_,by (with_reducible repeat (first|apply Kd.R_alloc|apply Kd.R_drewN|apply Kd.R_drew));exact Kd.R_mono HO337.out (fun _ hk => hk.1),b_,by repeat (first|(with_reducible first|exact HK.out|apply Kept.alloc|apply Kept.drewN|apply Kept.drew)|exact HK.out)⟩
          ·rw [if_neg c17] at H
           exact absurd H (by simp)
         ·rw [if_neg c16] at H
          exact absurd H (by simp)
        ·rw [if_neg c15] at H
         exact absurd H (by simp)
       ·rw [if_neg c14] at H
        exact absurd H (by simp)
     ·rw [if_neg c10] at H
      exact absurd H (by simp)
    ·rw [if_neg c9] at H
     have c9b0 : decide (x6_1 < (l0.length : Int)) = false := decide_eq_false c9
     clear c9
     by_cases c23 : x5_1.length < 17592186044416
     ·rw [if_pos c23] at H
      have LMc23 := ak c23
      clear c23
      obtain ⟨y338,hy338⟩ : ∃ y_ : List Int,y_ = (x5_1 ++ [a1]) := ⟨_,rfl⟩
      replace H : (if 0 ≤ (x5_1.length : Int) then (if (x5_1.length : Int) ≤ (l0.length : Int) then ((some (l0.drop ((x5_1.length : Int) : Int).toNat : List Int)).bind fun y341 => (if y338.length + y341.length < 17592186044416 then (some (y338 ++ y341)) else (none))) else (none)) else (none)) = some r := by first|(rw [hy338];with_reducible exact H)|(have H2_ := (Option.bind_some _ _).symm.trans H;rw [hy338];with_reducible exact H2_)|(have H2_ := (Option.bind_some _ _).symm.trans H;with_reducible exact H2_)|with_reducible exact H|(rw [hy338];exact H)|exact H
      have Ny338 := ak hy338
      clear hy338
      by_cases c24 : 0 ≤ (x5_1.length : Int)
      ·rw [if_pos c24] at H
       have c24b0 := eq_true c24
       have c24b1 : decide (0 ≤ (x5_1.length : Int)) = true := decide_eq_true c24
       clear c24
       by_cases c25 : (x5_1.length : Int) ≤ (l0.length : Int)
       ·rw [if_pos c25] at H
        have c25b0 := eq_true c25
        have c25b1 : decide ((x5_1.length : Int) ≤ (l0.length : Int)) = true := decide_eq_true c25
        clear c25
        obtain ⟨y341,hy341⟩ : ∃ y_ : List Int,y_ = (l0.drop ((x5_1.length : Int) : Int).toNat) := ⟨_,rfl⟩
        replace H : (if y338.length + y341.length < 17592186044416 then (some (y338 ++ y341)) else (none)) = some r := by first|(rw [hy341];with_reducible exact H)|(have H2_ := (Option.bind_some _ _).symm.trans H;rw [hy341];with_reducible exact H2_)|(have H2_ := (Option.bind_some _ _).symm.trans H;with_reducible exact H2_)|with_reducible exact H|(rw [hy341];exact H)|exact H
        have Ny341 := ak hy341
        clear hy341
        by_cases c26 : y338.length + y341.length < 17592186044416
        ·rw [if_pos c26] at H
         have LMc26 := ak c26
         clear c26
         obtain ⟨y345,hy345⟩ : ∃ y_ : List Int,y_ = (y338 ++ y341) := ⟨_,rfl⟩
         replace H : (some y345) = some r := by first|(rw [hy345];with_reducible exact H)|(have H2_ := (Option.bind_some _ _).symm.trans H;rw [hy345];with_reducible exact H2_)|(have H2_ := (Option.bind_some _ _).symm.trans H;with_reducible exact H2_)|with_reducible exact H|(rw [hy345];exact H)|exact H
         have Ny345 := ak hy345
         clear hy345
         obtain rfl := Option.some.inj H
         try go_wp2
         replace HO_0 := ak (Kd.R_drew HO_0.out)
         replace HO_5 := ak (Kd.R_drew HO_5.out)
         replace HK := ak (Kept.drew HK.out)
         replace HB := ak (below_drew1 HB.out)
         obtain ⟨Ao28,co28,eo28⟩ := Kd.R_slice HO_5.out
         (first|subst eo28|(injection eo28 with f1_ f2_ f3_;have f4_ := f1_.symm;have f5_ := f3_.symm;clear f1_ f2_ f3_;subst f4_;subst f5_))
         have q29 : ((x5_1.length : Int) : Int) ≤ ((l0.length : Int) : Int) := od_
         obtain ⟨i029,hi029,_,hsz29,_⟩ := info_parts info2
         have hroom29 : l0.length ≤ co6 := (Kd.R_reads' HO_0.out).2.1
         have hC29 : Kd.C (Kd.int .i64) _ Ao6 l0.length l0 := (Kd.R_reads' HO_0.out).2.2
         have q029 : (0 : Int) ≤ ((x5_1.length : Int) : Int) := od_
         have hcut29 := cut_from (P := Try.prog) 24 2 .i64 Try.underlying24 hi029 1 hsz29 Ao6 l0.length co6 (x5_1.length : Int) q029 q29
         have hr29 := Kd.C_drop (m := ((x5_1.length : Int) : Int).toNat) (c := co6) hC29 (by omega) hroom29
         obtain ⟨A29,hA29⟩ : ∃ A1,A1 = (if co6 = ((x5_1.length : Int) : Int).toNat then Ao6 else (Ao6 : Option Addr).map (·.add (((x5_1.length : Int) : Int).toNat * 1))) := ⟨_,rfl⟩
         obtain ⟨c29,hc29⟩ : ∃ c1,c1 = co6 - ((x5_1.length : Int) : Int).toNat := ⟨_,rfl⟩
         have hy29 : y341.length = l0.length - ((x5_1.length : Int) : Int).toNat := (by rw [Ny341.out,List.length_drop] <;> omega)
         rw [show (l0).drop ((x5_1.length : Int) : Int).toNat = y341 from Ny341.out.symm] at hr29
         replace hr29 : Kd.C (Kd.int .i64) _ A29 y341.length y341 := (by rw [hA29];exact hr29)
         rw [← hy29,← hA29,← hc29] at hcut29
         have HR344 := ak hr29
         have HC344 := ak (show y341.length ≤ c29 from by rw [hy29,hc29];exact Nat.sub_le_sub_right hroom29 _)
         clear hr29 hC29 hroom29 hi029 hsz29 hc29
         have KY29 := ak hy29
         have KA29 := ak hA29
         clear hy29 hA29
         have KL29 := ak (show ((x5_1.length : Int) : Int).toNat ≤ l0.length from by omega)
         replace q29 := eq_true q29
         refine start_ (n := 10) (S := fun w' => True) (ds := []) #[false,false,false,false,false,false,false,false,false,false] (by kernel_rfl) rfl rfl trivial (fun hHeld => ?_);refine with_tabW spec_l6Put.tab8 spec_l6Put.bits8 (fun HT_ HW_ => ?_)
         generalize wr.drew = w27 at HO_0 HO_5 HK HB HR344 hHeld ⊢
         refine pv_ 0 33 ?_
         refine pv_ 1 34 ?_
         refine pv_ 4 37 ?_
         refine pv_ 5 38 ?_
         refine pv_ 6 39 ?_
         refine pv_ 7 40 ?_
         refine oy_ 2 35 (fun K hK => ?_)
         refine value_ (w1 := ?_) (v := ?_) (by rfl) rfl ?_ ?_
         rotate_left 2
         ·go_simp
          constructor
          ·rfl
          ·rfl
         refine hK.out _ _ trivial (fun hHeld => ?_)
         clear hK K
         refine nr_ (some 35) _ ?_
         refine oy_ 3 36 (fun K hK => ?_)
         refine Kd.R_append_step (Kd.int .i64) (w0 := w0) w0.heap.size (by rfl) (.tmp 33) (.tmp 35) 24 2 (.int .i64 0) 8 rfl Try.underlying24 info2 rfl (by decide) (by omega) (.slice Ao28 x5_1.length co28) x5_1 a1 [.int .i64 a1] (fun k_ => (P0_ k_ ∨ w.heap.size ≤ k_) ∧ some k_ ≠ (.slice Ao6 l0.length co6 : Value).ownBlock) (fun _ => False) rfl rfl ?aP (fun _ hk => hk.elim) ?aF ?aO ?aB ?aS ?aL ?_
         (case aP => exact rfl)
         (case aB => exact b_)
         (case aF => exact (fun k_ hk => ⟨(.inr (Nat.le_trans (by first|exact HK.out.1|exact (show Kept w _ (fun k_ => P0_ k_) from by repeat (first|(with_reducible first|exact HK.out|apply Kept.alloc|apply Kept.drewN|apply Kept.drew)|exact HK.out)).1) hk)),Kd.fresh' (Kd.R_lt (by (with_reducible repeat (first|apply Kd.R_alloc|apply Kd.R_drewN|apply Kd.R_drew));exact HO_0.out)) k_ hk⟩))
         (case aO => exact (by (with_reducible repeat (first|apply Kd.R_alloc|apply Kd.R_drewN|apply Kd.R_drew));exact HO_5.out))
         (case aS => exact (below_size b_))
         (case aL => have := LMc23.out;omega)
         intro v339 w30 ho hb hg hat
         rw [← Ny338.out] at ho
         replace HB := ak (hb)
         replace HK := ak (Kept.of_grown (S := (fun k_ => P0_ k_)) hg (by repeat (first|(with_reducible first|exact HK.out|apply Kept.alloc|apply Kept.drewN|apply Kept.drew)|exact HK.out)) (fun k_ e_ => (HO_5.out.1 k_ e_).1))
         replace HR344 := ak ((show Kd.C (Kd.int .i64) w30 A29 y341.length y341 from by rw [Ny341.out,KA29.out];exact Kd.C_drop (m := ((x5_1.length : Int) : Int).toNat) (c := co6) ((Kd.R_reads' (Kd.R_after (ok := (fun k_ => (P0_ k_ ∨ w.heap.size ≤ k_))) (by (with_reducible repeat (first|apply Kd.R_alloc|apply Kd.R_drewN|apply Kd.R_drew));exact HO_0.out) hg hat)).2.2) KL29.out ((Kd.R_reads' (Kd.R_after (ok := (fun k_ => (P0_ k_ ∨ w.heap.size ≤ k_))) (by (with_reducible repeat (first|apply Kd.R_alloc|apply Kd.R_drewN|apply Kd.R_drew));exact HO_0.out) hg hat)).2.1)))
         replace HO_0 := ak (Kd.R_after (ok := (fun k_ => (P0_ k_ ∨ w.heap.size ≤ k_))) (by (with_reducible repeat (first|apply Kd.R_alloc|apply Kd.R_drewN|apply Kd.R_drew));exact HO_0.out) hg hat)
         have HO340 := ak (ho)
         clear HO_5
         clear ho hb hg hat
         refine hK.out _ _ trivial (fun hHeld => ?_)
         clear hK K
         refine nr_ (some 36) _ ?_
         refine oy_ 8 41 (fun K hK => ?_)
         refine Kd.R_append_rows_step (Kd.int .i64) (w0 := w0) w0.heap.size (by rfl) (.tmp 36) (.tmp 40) 24 2 (.int .i64 0) 8 rfl Try.underlying24 info2 rfl (by decide) (by omega) v339 y338 y341 _ _ _ (fun k_ => (P0_ k_ ∨ w.heap.size ≤ k_) ∧ some k_ ≠ (.slice Ao6 l0.length co6 : Value).ownBlock) (fun _ => False) rfl rfl ?aO ?aR (fun _ _ h => h) (fun _ h => h.elim) ?aF ?aB ?aS ?aL ?_
         (case aR => repeat (first|exact (by repeat (first|(with_reducible exact HR344.out)|(with_reducible refine Kd.C_alloc ?_ _)|(with_reducible refine Kd.C_drewN ?_ _)|(with_reducible refine Kd.C_drew ?_)|exact HR344.out))|(with_reducible refine Kd.C_alloc ?_ _)|(with_reducible refine Kd.C_drewN ?_ _)|(with_reducible refine Kd.C_drew ?_)))
         (case aB => exact b_)
         (case aF => exact (fun k_ hk => ⟨(.inr (Nat.le_trans (by first|exact HK.out.1|exact (show Kept w _ (fun k_ => P0_ k_) from by repeat (first|(with_reducible first|exact HK.out|apply Kept.alloc|apply Kept.drewN|apply Kept.drew)|exact HK.out)).1) hk)),Kd.fresh' (Kd.R_lt (by (with_reducible repeat (first|apply Kd.R_alloc|apply Kd.R_drewN|apply Kd.R_drew));exact HO_0.out)) k_ hk⟩))
         (case aO => exact (by (with_reducible repeat (first|apply Kd.R_alloc|apply Kd.R_drewN|apply Kd.R_drew));exact HO340.out))
         (case aS => exact (below_size b_))
         (case aL => have := LMc26.out;omega)
         intro v346 w31 ho hb hg hat
         rw [← Ny345.out] at ho
         replace HB := ak (hb)
         replace HK := ak (Kept.of_grown (S := (fun k_ => P0_ k_)) hg (by repeat (first|(with_reducible first|exact HK.out|apply Kept.alloc|apply Kept.drewN|apply Kept.drew)|exact HK.out)) (fun k_ e_ => (HO340.out.1 k_ e_).1))
         replace HR344 := ak ((show Kd.C (Kd.int .i64) w31 A29 y341.length y341 from by rw [Ny341.out,KA29.out];exact Kd.C_drop (m := ((x5_1.length : Int) : Int).toNat) (c := co6) ((Kd.R_reads' (Kd.R_after (ok := (fun k_ => (P0_ k_ ∨ w.heap.size ≤ k_))) (by (with_reducible repeat (first|apply Kd.R_alloc|apply Kd.R_drewN|apply Kd.R_drew));exact HO_0.out) hg hat)).2.2) KL29.out ((Kd.R_reads' (Kd.R_after (ok := (fun k_ => (P0_ k_ ∨ w.heap.size ≤ k_))) (by (with_reducible repeat (first|apply Kd.R_alloc|apply Kd.R_drewN|apply Kd.R_drew));exact HO_0.out) hg hat)).2.1)))
         replace HO_0 := ak (Kd.R_after (ok := (fun k_ => (P0_ k_ ∨ w.heap.size ≤ k_))) (by (with_reducible repeat (first|apply Kd.R_alloc|apply Kd.R_drewN|apply Kd.R_drew));exact HO_0.out) hg hat)
         have HO347 := ak (ho)
         clear HO340
         clear ho hb hg hat
         refine hK.out _ _ trivial (fun hHeld => ?_)
         clear hK K
         refine nr_ (some 41) _ ?_
         refine pv_ 9 4 ?_
         refine done_ (done_of HT_.out (by kernel_rfl)) ?_
         try go_wp2
         go_ret
         exact ⟨_,rf_,by (with_reducible repeat (first|apply Kd.R_alloc|apply Kd.R_drewN|apply Kd.R_drew));exact Kd.R_mono HO347.out (fun _ hk => hk.1),b_,by repeat (first|(with_reducible first|exact HK.out|apply Kept.alloc|apply Kept.drewN|apply Kept.drew)|exact HK.out)⟩
        ·rw [if_neg c26] at H
         exact absurd H (by simp)
       ·rw [if_neg c25] at H
        exact absurd H (by simp)
      ·rw [if_neg c24] at H
       exact absurd H (by simp)
     ·rw [if_neg c23] at H
      exact absurd H (by simp)

/-! ### spec_l6Clear: function 97 -/
theorem hold_97 {p : Prop} (h : Aside0 p) : p := h.out
/-- A row's elements, told apart: each one's cells and blocks. -/
theorem elems_ {w : World} {base : Nat} {ok : Nat → Prop} {A : Option Addr} {n cap : Nat} {xs : List S45} (h : Kd.S k45 45 w base ok (.slice A n cap) xs) :
  ∃ (f : Nat → Nat),∀ (j : Nat) (x : S45),xs[j]? = some x → ∃ (g : Nat) (c : List Value),A = some ⟨g,0,none⟩ ∧ (∀ i v,c[i]? = some v → w.cell? ⟨g,j * 4 + i,none⟩ = some v) ∧ k45.M w base (fun k => ok k ∧ f k = j) x c := by
 by_cases hx : xs = []
 ·subst hx
  exact ⟨fun _ => 0,fun j x hj => by simp at hj⟩
 ·have hn := (Kd.S_reads' h).1
  obtain ⟨g,c0,e1,_⟩ := Kd.S_form h (by have := hn;have := List.length_pos_iff.2 hx;omega)
  obtain rfl : A = some ⟨g,0,none⟩ := (by injection e1)
  obtain ⟨f,rows,h1,h2,h3,h4⟩ := S_rows_ h
  refine ⟨f,fun j x hj => ?_⟩
  have hjl := (List.getElem?_eq_some_iff.1 hj).1
  have hc : rows[j]? = some rows[j] := List.getElem?_eq_getElem (by omega)
  obtain ⟨hs,_,_⟩ := raw_at_ h3 j (by omega)
  have er : rows.getD j [] = rows[j] := by rw [List.getD_eq_getElem?_getD,hc];rfl
  rw [er] at hs
  exact ⟨g,rows[j],rfl,hs,k45.M_mono (fun k hk => ⟨hk.1.1,hk.2⟩) (h4 j x _ hj hc)⟩
theorem kept_cell0_ {w W : World} (h : Kept w W (fun _ => False)) {a : Addr} {v : Value} (hc : w.cell? a = some v) : W.cell? a = some v := by
 have := h.2 a.block (World.block_lt_of_cell? w a hc) (fun h => h)
 simpa [World.cell?,this] using hc
theorem S_empty_ {W : World} {g base : Nat} {ok : Nat → Prop} (h : W.heap[g]? = some (.cells #[] 45 (0, 0))) (hb : base ≤ g) (hg : ok g) : Kd.S k45 45 W base ok (.slice (some ⟨g, 0, none⟩) 0 0) [] :=
 ⟨fun _ => 0,fun k hk => by
  have : g = k := by simpa [Value.ownBlock] using hk
  subst this;exact hg,[],⟨rfl,.inr ⟨g,0,#[],rfl,hb,h,Nat.le_refl _,by decide,rfl,rfl⟩⟩,rfl,fun j p hj => by simp at hj⟩
def spec_l6Clear.f (k : Nat) (p2 : List S45) (p3 : List Int) (a1 a2 : Int) (d : Bool) : Option (List S45 × List Int) := if p2.length < 2932031007402 then (if d = true then (spec_l6Put.f k p3 a1).bind fun q => some ((p2.filter fun x => !hits a1 a2 x), q) else some ((p2.filter fun x => !hits a1 a2 x), p3)) else none
set_option maxHeartbeats 8000000 in
set_option maxRecDepth 100000 in
theorem spec_l6Clear.calls (k : Nat) (P2_ P3_ : Nat → Prop) (gb : Nat) (b : Bool) (s1 : Value) (A2 : Option Addr) (c2 : Nat) (p2 : List S45) (A3 : Option Addr) (c3 : Nat) (p3 : List Int) (a1 a2 : Int) (d : Bool) (r2 : List S45) (r3 : List Int) (w0 w : World) (hB : Below w0.heap.size w0 w) (hg0 : w0.heap.size ≤ gb) (hx : w.heap[gb]? = some (.cells #[.bool b, s1, .slice A2 p2.length c2, .slice A3 p3.length c3] 32 (0, 0))) (hP2 : ¬ P2_ gb) (hP3 : ¬ P3_ gb) (h23 : ∀ k, P2_ k → P3_ k → False) (ho2 : Kd.S k45 45 w w0.heap.size P2_ (.slice A2 p2.length c2) p2) (ho3 : (Kd.int .i64).R 2 w w0.heap.size P3_ (.slice A3 p3.length c3) p3) (h : spec_l6Clear.f k p2 p3 a1 a2 d = some (r2, r3)) :
    Calls Try.prog 97 #[.pointer (some ⟨gb, 0, none⟩), .int .i64 a1, .int .i64 a2, .bool d] w fun e w' => e = .returned (.tuple #[]) ∧ ∃ (A4 : Option Addr) (c4 : Nat) (A5 : Option Addr) (c5 : Nat), w'.heap[gb]? = some (.cells #[.bool b, s1, .slice A4 r2.length c4, .slice A5 r3.length c5] 32 (0, 0)) ∧ Kd.S k45 45 w' w0.heap.size (fun k_ => P2_ k_ ∨ w.heap.size ≤ k_) (.slice A4 r2.length c4) r2 ∧ (Kd.int .i64).R 2 w' w0.heap.size (fun k_ => P3_ k_ ∨ w.heap.size ≤ k_) (.slice A5 r3.length c5) r3 ∧ Below w0.heap.size w0 w' ∧ Kept w w' (fun k_ => P3_ k_ ∨ k_ = gb) := by
 have hu := Try.underlying32
 have hu2 := Try.underlying45
 unfold spec_l6Clear.f at h
 by_cases hL : p2.length < 2932031007402
 rotate_left
 ·rw [if_neg hL] at h;cases h
 rw [if_pos hL] at h
 have H1 := ak h
 have HLL := ak hL
 have BG0 := ak hx
 have GG := ak hg0
 have LG := ak (blk_lt hx)
 have HB := ak hB
 have P2 := ak hP2
 have P3 := ak hP3
 have PD := ak h23
 have T3 := ak (Kd.R_mono (ok' := fun k_ => P3_ k_ ∧ k_ < w.heap.size) (Kd.R_bound ho3) (fun _ h_ => ⟨h_.1,h_.2.2.1⟩))
 have T2 := Kd.S_mono (ok' := fun k_ => P2_ k_ ∧ k_ < w.heap.size) (Kd.S_bound ho2) (fun _ h_ => ⟨h_.1,h_.2.2.1⟩)
 have hc2 := ak (Kd.S_reads' T2).2.1
 obtain ⟨f,hf⟩ := elems_ T2
 have HF := ak hf
 clear h hx hg0 hB hP2 hP3 h23 ho2 ho3 T2 hf
 have W0 := ak HB.out.size
 go_enter Try.func97,Try.ntmps97
 go_wp2
 have hS0 : Kd.S k45 45 (w.alloc (.cells #[] 45)) w0.heap.size (fun k_ => ((P2_ k_ ∧ k_ < w.heap.size) ∧ f k_ < 0) ∨ w.heap.size ≤ k_) (.slice (some ⟨w.heap.size,0,none⟩) 0 0) [] := S_empty_ (blk_new _ _) W0.out (.inr (Nat.le_refl _))
 have HS0 := ak hS0
 clear hS0
 go_loopg [8,9] p2.length (fun gg v8 v9 wr => ∃ (j : Nat),v9 = .int .i64 j ∧ j ≤ p2.length ∧ p2.length - j ≤ gg ∧ Aside0 (Kd.S k45 45 wr w0.heap.size (fun k_ => ((P2_ k_ ∧ k_ < w.heap.size) ∧ f k_ < j) ∨ w.heap.size ≤ k_) v8 ((p2.take j).filter fun x => !hits a1 a2 x)) ∧ Aside0 (∀ k,v8.ownBlock = some k → w.heap.size ≤ k) ∧ Aside0 (Kept w wr (fun _ => False)) ∧ Aside0 (Below w0.heap.size w0 wr))
 case atStart => exact ⟨0,rfl,by omega,by omega,HS0,⟨fun k hk => by injection hk with hk;exact Nat.le_of_eq hk⟩,⟨(Kept.refl _ _).alloc _⟩,⟨below_alloc HB.out _⟩⟩
 case round =>
  clear HS0 HB
  obtain ⟨j,rfl,hjl,hgg,HS,HV,HK,HB⟩ := hrel
  have hcz_2 : wr.cell? ⟨gb,2,none⟩ = some (.slice A2 p2.length c2) := (blk_cell (blk_kept BG0.out HK.out (fun h => h)) 2).trans rfl
  by_cases hlt : j < p2.length
  ·have hltz : (j : Int) < (p2.length : Int) := by omega
   have hx : p2[j]? = some p2[j] := List.getElem?_eq_getElem hlt
   obtain ⟨g,c,rfl,hcc,hM⟩ := HF.out j _ hx
   obtain ⟨Ae,ce,rfl⟩ := row_cells_ (d := k45) hM
   have hx0 := (kept_cell0_ HK.out (hcc 0 _ rfl))
   have hx1 := (kept_cell0_ HK.out (hcc 1 _ rfl))
   have hx2 := (kept_cell0_ HK.out (hcc 2 _ rfl))
   have hx3 := (kept_cell0_ HK.out (hcc 3 _ rfl))
   rw [Nat.add_zero] at hx0
   have hM2 := ak (Kd.M_step hM (fun k_ hk_ hlt_ => HK.out.2 k_ hlt_ (fun h => h)))
   have htk : p2.take (j + 1) = p2.take j ++ [p2[j]] := List.take_succ_eq_append_getElem hlt
   have HTK := ak htk
   generalize p2[j] = x at *
   clear hx hcc hM htk
   have hci : (j : Int) < (p2.length : Int) := hltz
   have hj0 : (0 : Int) ≤ (j : Int) := by omega
   cases hv : hits a1 a2 x with
   | true =>
    have e1 : (x.f1 != a1) = false := by unfold hits at hv;rw [Bool.and_eq_true] at hv;simpa using hv.1
    have e2 : (x.f2 != a2) = false := by unfold hits at hv;rw [Bool.and_eq_true] at hv;simpa using hv.2
    have HH := ak hv
    clear hv
    go_wp2
    go_roundg (p2.length - (j + 1))
    case measure => omega
    case rel => exact ⟨j + 1,by go_num,by omega,by omega,⟨by rw [HTK.out,List.filter_append];simp only [List.filter_cons,HH.out,List.filter_nil];simp;exact Kd.S_mono HS.out (fun k_ h_ => h_.elim (fun h1 => .inl ⟨h1.1,by omega⟩) .inr)⟩,HV,HK,HB⟩
   | false =>
    have hone : ([x] : List S45).filter (fun x => !hits a1 a2 x) = [x] := by simp [hv]
    by_cases q1 : x.f1 = a1
    ·have e1 : (x.f1 != a1) = false := by simpa using q1
     have e2 : (x.f2 != a2) = true := by unfold hits at hv;rw [beq_iff_eq.2 q1,Bool.true_and] at hv;simpa using hv
     clear hv q1
     go_wp2_with (first|((with_reducible refine gblt_ (b := .append) (xs := #[.tmp 42,.tmp 50]) rfl ?_);at_builtin;refine Kd.S_append k45 (w0 := w0) w0.heap.size rfl (.tmp 42) (.tmp 50) 30 45 (.agg #[.int .i64 0,.int .i64 0,.int .i64 0,.slice none 0 0]) 48 rfl Try.underlying30 info45 rfl (by decide) (by omega) u8 ((p2.take j).filter fun x => !hits a1 a2 x) x [.int .i64 x.f0,.int .i64 x.f1,.int .i64 x.f2,.slice Ae x.f3.length ce] (fun k_ => ((P2_ k_ ∧ k_ < w.heap.size) ∧ f k_ < j + 1) ∨ w.heap.size ≤ k_) (fun k_ => (P2_ k_ ∧ k_ < w.heap.size) ∧ f k_ = j) rfl rfl hM2.out ?ap ?aF ?aO HB.out (Nat.le_trans W0.out HK.out.1) ?aL ?_;(case ap => exact fun k_ h_ => ⟨.inl ⟨h_.1,by have := h_.2;omega⟩,fun e_ => absurd (HV.out k_ e_.symm) (Nat.not_le.2 h_.1.2)⟩);(case aF => exact fun k_ h_ => .inr (Nat.le_trans HK.out.1 h_));(case aO => exact Kd.S_mono HS.out (fun k_ h_ => h_.elim (fun h1 => ⟨.inl ⟨h1.1,Nat.lt_succ_of_lt h1.2⟩,fun h2 => absurd h2.2 (Nat.ne_of_lt h1.2)⟩) (fun h1 => ⟨.inr h1,fun h2 => absurd h2.1.2 (Nat.not_lt.2 h1)⟩)));(case aL => have h1 := List.length_filter_le (fun x => !hits a1 a2 x) (p2.take j);have h2 := List.length_take_le j p2;have := HLL.out;omega);intro v1 w1 ho hb hg hat))
     go_roundg (p2.length - (j + 1))
     case measure => omega
     case rel => exact ⟨j + 1,by go_num,by omega,by omega,⟨by rw [HTK.out,List.filter_append,hone];exact ho⟩,⟨fun k_ hk_ => hat.elim (fun h1 => HV.out k_ (h1 ▸ hk_)) (fun ⟨b_,h1,h2⟩ => by rw [h1] at hk_;injection hk_ with hk_;subst hk_;exact Nat.le_trans HK.out.1 h2)⟩,⟨Kept.of_grown hg HK.out (fun k_ e_ => .inr (HV.out k_ e_))⟩,⟨hb⟩⟩
    ·have e1 : (x.f1 != a1) = true := by simpa using q1
     clear hv q1
     go_wp2_with (first|((with_reducible refine gblt_ (b := .append) (xs := #[.tmp 42,.tmp 50]) rfl ?_);at_builtin;refine Kd.S_append k45 (w0 := w0) w0.heap.size rfl (.tmp 42) (.tmp 50) 30 45 (.agg #[.int .i64 0,.int .i64 0,.int .i64 0,.slice none 0 0]) 48 rfl Try.underlying30 info45 rfl (by decide) (by omega) u8 ((p2.take j).filter fun x => !hits a1 a2 x) x [.int .i64 x.f0,.int .i64 x.f1,.int .i64 x.f2,.slice Ae x.f3.length ce] (fun k_ => ((P2_ k_ ∧ k_ < w.heap.size) ∧ f k_ < j + 1) ∨ w.heap.size ≤ k_) (fun k_ => (P2_ k_ ∧ k_ < w.heap.size) ∧ f k_ = j) rfl rfl hM2.out ?ap ?aF ?aO HB.out (Nat.le_trans W0.out HK.out.1) ?aL ?_;(case ap => exact fun k_ h_ => ⟨.inl ⟨h_.1,by have := h_.2;omega⟩,fun e_ => absurd (HV.out k_ e_.symm) (Nat.not_le.2 h_.1.2)⟩);(case aF => exact fun k_ h_ => .inr (Nat.le_trans HK.out.1 h_));(case aO => exact Kd.S_mono HS.out (fun k_ h_ => h_.elim (fun h1 => ⟨.inl ⟨h1.1,Nat.lt_succ_of_lt h1.2⟩,fun h2 => absurd h2.2 (Nat.ne_of_lt h1.2)⟩) (fun h1 => ⟨.inr h1,fun h2 => absurd h2.1.2 (Nat.not_lt.2 h1)⟩)));(case aL => have h1 := List.length_filter_le (fun x => !hits a1 a2 x) (p2.take j);have h2 := List.length_take_le j p2;have := HLL.out;omega);intro v1 w1 ho hb hg hat))
     go_roundg (p2.length - (j + 1))
     case measure => omega
     case rel => exact ⟨j + 1,by go_num,by omega,by omega,⟨by rw [HTK.out,List.filter_append,hone];exact ho⟩,⟨fun k_ hk_ => hat.elim (fun h1 => HV.out k_ (h1 ▸ hk_)) (fun ⟨b_,h1,h2⟩ => by rw [h1] at hk_;injection hk_ with hk_;subst hk_;exact Nat.le_trans HK.out.1 h2)⟩,⟨Kept.of_grown hg HK.out (fun k_ e_ => .inr (HV.out k_ e_))⟩,⟨hb⟩⟩
  ·have hj : j = p2.length := by omega
   subst hj
   have hltz : ¬ (p2.length : Int) < (p2.length : Int) := by omega
   rw [List.take_length] at HS
   obtain ⟨A8,c8,e8⟩ := Kd.S_slice HS.out
   subst e8
   have BG := ak (blk_kept BG0.out HK.out (fun h => h))
   have T3 := ak (Kd.R_kept T3.out HK.out (fun _ _ h => h))
   clear hjl hgg hlt HF hcz_2 HV
   have hcgb3_0 : wr.cell? ⟨gb,0,none⟩ = some (.bool b) := (blk_cell BG.out 0).trans rfl
   have hcgb3_1 : wr.cell? ⟨gb,1,none⟩ = some (s1) := (blk_cell BG.out 1).trans rfl
   have hcgb3_2 : wr.cell? ⟨gb,2,none⟩ = some (.slice A2 p2.length c2) := (blk_cell BG.out 2).trans rfl
   have hcgb3_3 : wr.cell? ⟨gb,3,none⟩ = some (.slice A3 p3.length c3) := (blk_cell BG.out 3).trans rfl
   have hfgb3_2 := blk_frozen BG.out 2
   go_upto_region 7 with (fail)
   have n0_ : Aside0 ((wr.setCell ⟨gb,2,none⟩ (.slice A8 (p2.filter fun x => !hits a1 a2 x).length c8)).heap[gb]? = some (.cells #[.bool b,s1,.slice A8 (p2.filter fun x => !hits a1 a2 x).length c8,.slice A3 p3.length c3] 32 (0,0))) := ⟨by refine blk_put (cs := #[.bool b,s1,.slice A2 p2.length c2,.slice A3 p3.length c3]) ?_ 2 _ rfl;exact BG.out⟩
   have n1_ := ak (Kd.S_far (p := ⟨gb,2,none⟩) (Kd.S_mono (ok' := fun k_ => (P2_ k_ ∨ w.heap.size ≤ k_) ∧ k_ ≠ gb) HS.out (fun k_ h_ => h_.elim (fun h1 => ⟨.inl h1.1.1,fun e_ => P2.out (e_ ▸ h1.1.1)⟩) (fun h1 => ⟨.inr h1,fun e_ => absurd LG.out (Nat.not_lt.2 (e_ ▸ h1))⟩))) (fun _ h_ => h_.2) (.slice A8 (p2.filter fun x => !hits a1 a2 x).length c8))
   have n2_ := ak (Kd.R_far (p := ⟨gb,2,none⟩) T3.out (fun k_ h_ e_ => P3.out (show P3_ gb from (show k_ = gb from e_) ▸ h_.1)) (.slice A8 (p2.filter fun x => !hits a1 a2 x).length c8))
   have n3_ : Aside0 (Below w0.heap.size w0 (wr.setCell ⟨gb,2,none⟩ (.slice A8 (p2.filter fun x => !hits a1 a2 x).length c8))) := ⟨below_set HB.out GG.out⟩
   have n4_ : Aside0 (Kept w (wr.setCell ⟨gb,2,none⟩ (.slice A8 (p2.filter fun x => !hits a1 a2 x).length c8)) (fun k_ => P3_ k_ ∨ k_ = gb)) := ⟨(HK.out.mono (fun _ h_ => h_.elim)).setCell (p := ⟨gb,2,none⟩) (.inl (.inr rfl)) _⟩
   clear BG T3 HS HB HK hcgb3_0 hcgb3_1 hcgb3_2 hcgb3_3 hfgb3_2
   generalize (wr.setCell ⟨gb,2,none⟩ (.slice A8 (p2.filter fun x => !hits a1 a2 x).length c8)) = w4 at n0_ n1_ n2_ n3_ n4_ ⊢
   have BG := n0_
   have T2 := n1_
   have T3 := n2_
   have HB := n3_
   have HK := n4_
   clear n0_ n1_ n2_ n3_ n4_
   cases d with
   | false =>
    have h1 := H1.out
    simp only [Bool.false_eq_true,if_false,Option.some.injEq,Prod.mk.injEq] at h1
    obtain ⟨rfl,rfl⟩ := h1
    go_wp2
    go_end0
    exact ⟨rfl,A8,c8,A3,c3,BG.out,Kd.S_mono T2.out (fun _ h_ => h_.1),Kd.R_mono T3.out (fun _ h_ => .inl h_.1),HB.out,HK.out⟩
   | true =>
   have h1 := H1.out
   rw [if_pos rfl] at h1
   clear H1
   obtain ⟨q,E0,h2⟩ := Option.bind_eq_some_iff.1 h1
   clear h1
   simp only [Option.some.injEq,Prod.mk.injEq] at h2
   obtain ⟨rfl,rfl⟩ := h2
   have F0 := ak E0
   clear E0
   have hcgb4_0 : w4.cell? ⟨gb,0,none⟩ = some (.bool b) := (blk_cell BG.out 0).trans rfl
   have hcgb4_1 : w4.cell? ⟨gb,1,none⟩ = some (s1) := (blk_cell BG.out 1).trans rfl
   have hcgb4_2 : w4.cell? ⟨gb,2,none⟩ = some (.slice A8 (p2.filter fun x => !hits a1 a2 x).length c8) := (blk_cell BG.out 2).trans rfl
   have hcgb4_3 : w4.cell? ⟨gb,3,none⟩ = some (.slice A3 p3.length c3) := (blk_cell BG.out 3).trans rfl
   go_wp2_with ((with_reducible refine gcal_ (f := 138) rfl ?_);refine goesL_ (some 63) rfl rfl Try.func138 (by kernel_rfl) rfl #[.slice A3 p3.length c3,.int .i64 a1] rfl (by (try simp only [List.map_toArray,List.map_cons,List.map_nil]);first|done|rfl) ?_;refine (spec_l6Put.calls k (fun k_ => P3_ k_ ∧ k_ < w.heap.size) (.slice A3 p3.length c3) p3 a1 q w0 _ HB.out T3.out F0.out).mono ?_;rintro e w5 ⟨v5,rfl,S,B,K⟩;refine ⟨_,rfl,?_⟩;refine hold_97 ?_)
   refine ⟨?_⟩
   have T2 := ak (Kd.S_kept T2.out K (fun k_ hk_ hs_ => hk_.1.elim (fun h1 => PD.out k_ h1 hs_.1) (fun h1 => absurd hs_.2 (Nat.not_lt.2 h1))))
   have BG := ak (blk_kept BG.out K (fun h_ => P3.out h_.1))
   obtain ⟨A5,c5,e5⟩ := Kd.R_slice S
   subst e5
   have T3 := ak (Kd.R_mono (ok' := fun k_ => (P3_ k_ ∨ w.heap.size ≤ k_) ∧ k_ ≠ gb) S (fun k_ h_ => h_.elim (fun h1_ => ⟨.inl h1_.1,fun e_ => P3.out (e_ ▸ h1_.1)⟩) (fun h1_ => ⟨.inr (Nat.le_trans HK.out.1 h1_),fun e_ => absurd LG.out (Nat.not_lt.2 (e_ ▸ Nat.le_trans HK.out.1 h1_))⟩)))
   have HB := ak B
   have HK := ak (HK.out.then_ K (fun _ h_ => .inl (.inl h_.1)))
   clear S B K hcgb4_0 hcgb4_1 hcgb4_2 hcgb4_3
   have hcgb5_0 : w5.cell? ⟨gb,0,none⟩ = some (.bool b) := (blk_cell BG.out 0).trans rfl
   have hcgb5_1 : w5.cell? ⟨gb,1,none⟩ = some (s1) := (blk_cell BG.out 1).trans rfl
   have hcgb5_2 : w5.cell? ⟨gb,2,none⟩ = some (.slice A8 (p2.filter fun x => !hits a1 a2 x).length c8) := (blk_cell BG.out 2).trans rfl
   have hcgb5_3 : w5.cell? ⟨gb,3,none⟩ = some (.slice A3 p3.length c3) := (blk_cell BG.out 3).trans rfl
   have hfgb5_3 := blk_frozen BG.out 3
   go_wp2
   go_end0
   exact ⟨rfl,A8,c8,A5,c5,(by refine blk_put (cs := #[.bool b,s1,.slice A8 (p2.filter fun x => !hits a1 a2 x).length c8,.slice A3 p3.length c3]) ?_ 3 _ rfl;exact BG.out),Kd.S_mono (Kd.S_far (p := ⟨gb,3,none⟩) T2.out (fun _ h_ => h_.2) _) (fun _ h_ => h_.1),Kd.R_mono (Kd.R_far (p := ⟨gb,3,none⟩) T3.out (fun _ h_ => h_.2) _) (fun _ h_ => h_.1),below_set HB.out GG.out,HK.out.setCell (p := ⟨gb,3,none⟩) (.inl (.inr rfl)) _⟩

end Go.Proofs.Ythplaakckfhaaaa.XCd
