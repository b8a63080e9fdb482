/- Proved: of each Go function here that a call comes to what the Lean function of its name tells. Written by a program of this session over the translation. No conditions beyond each theorem's own. -/
import Derived.Test.YthplaakckfhaaaaGreatXCr0
import Derived.Test.YthplaakckfhaaaaGreatXCr6
namespace Go.Proofs.YthplaakckfhaaaaGreat.XCr
open Go.RowKit Go.Proofs.YthplaakckfhaaaaGreat.Aid Go.Proofs.YthplaakckfhaaaaGreatW.PrintWords Go.Proofs.YthplaakckfhaaaaGreatW.PrintLast Go.Proofs.YthplaakckfhaaaaGreatW.PrintMore
set_option linter.unusedVariables false
set_option linter.unusedSimpArgs false

/-! ### spec_l6Put: function 75 -/
def spec_l6Put.l0 : Nat → List Int → Int → List Int → Int → Option (List Int)
  | 0, _, _, _, _ => none
  | k + 1, x0, x1, x5, x6 => if x6 < (x0.length : Int) then (if 0 ≤ x6 then (if (rd x0 x6) < x1 then (if x5.length < 17592186044416 then (spec_l6Put.l0 k x0 x1 (x5 ++ [rd x0 x6]) (wrap64 (x6 + 1))) else (none)) else (if x5.length < 17592186044416 then ((some (x5 ++ [x1] : List Int)).bind fun y206 => (if 0 ≤ (x5.length : Int) then (if (x5.length : Int) ≤ (x0.length : Int) then ((some (x0.drop ((x5.length : Int) : Int).toNat : List Int)).bind fun y209 => (if y206.length + y209.length < 17592186044416 then (some (y206 ++ y209)) else (none))) else (none)) else (none))) else (none))) else (none)) else (if x5.length < 17592186044416 then ((some (x5 ++ [x1] : List Int)).bind fun y216 => (if 0 ≤ (x5.length : Int) then (if (x5.length : Int) ≤ (x0.length : Int) then ((some (x0.drop ((x5.length : Int) : Int).toNat : List Int)).bind fun y219 => (if y216.length + y219.length < 17592186044416 then (some (y216 ++ y219)) else (none))) else (none)) else (none))) else (none))
def spec_l6Put.f (k : Nat) (l0 : List Int) (a1 : Int) : Option (List Int) := (spec_l3Has.f k l0 a1).bind fun t197 => (if t197 = true then (some l0) else (spec_l6Put.l0 k l0 a1 (([] : List Int)) 0))

def spec_l6Put.T8 : Bool × List (List Nat × List Nat) := (true, [([], []), ([], []), ([1], [1]), ([0, 2], [0, 2]), ([], []), ([], []), ([5], [5]), ([4, 6], [4, 6]), ([3, 7, 3], [3, 7]), ([8, 8, 0, 1, 2, 3, 4, 5, 6, 7, 8], [8])])
def spec_l6Put.B8 : List Nat := [0, 0, 2, 7, 0, 0, 32, 112, 255, 511]
theorem spec_l6Put.tab8 : rtab .any (opsOf Tryz.f75 8) = spec_l6Put.T8 := by kernel_rfl
theorem spec_l6Put.bits8 : waitsOk spec_l6Put.T8.2 spec_l6Put.B8 = true := by kernel_rfl
set_option maxHeartbeats 8000000 in
set_option maxRecDepth 100000 in
theorem spec_l6Put.calls (k : Nat) (P0_ : Nat → Prop) (u9000_ : Value) (l0 : List Int) (a1 : Int) (r : List Int) (w0 w : World) (hB : Below w0.heap.size w0 w) (ho0 : Kd.R (Kd.int .i64) 2 w w0.heap.size P0_ u9000_ l0) (h : spec_l6Put.f k l0 a1 = some r) :
    Calls Tryz.prog 75 #[u9000_, .int .i64 a1] w fun e w' => ∃ v0_ : Value, e = .returned (v0_) ∧ Kd.R (Kd.int .i64) 2 w' w0.heap.size (fun k_ => (P0_ k_ ∨ w.heap.size ≤ k_)) v0_ r ∧ Below w0.heap.size w0 w' ∧ Kept w w' (fun k_ => P0_ k_) := by
 have HO0 := Aside0.mk (show Kd.R (Kd.int .i64) 2 w w0.heap.size (fun k_ => (P0_ k_ ∨ w.heap.size ≤ k_)) u9000_ l0 from Kd.R_mono ho0 (fun k_ hk => (.inl hk)))
 have HK := Aside0.mk (Kept.refl w (fun k_ => P0_ k_))
 have HW0 := Aside0.mk hB.size
 have HB := Aside0.mk hB
 clear hB
 have H : ((spec_l3Has.f k l0 a1).bind fun t197 => (if t197 = true then (some l0) else (spec_l6Put.l0 k l0 a1 (([] : List Int)) 0))) = some r := h
 clear h
 replace H := bs_ H
 obtain ⟨t197,A3,H⟩ := H
 by_cases c4 : t197 = true
 ·subst c4
  replace H := it_ H
  obtain rfl := Option.some.inj H
  obtain ⟨Ao5,co5,eo5⟩ := Kd.R_slice HO0.out
  subst eo5
  go_enter Tryz.func75,Tryz.ntmps75
  go_wp2_with (first|((with_reducible refine gcal_ (f := 30) rfl ?_);refine gl_ (some 9) Tryz.func30 #[.slice Ao5 l0.length co5,.int .i64 a1] ?_;(with_reducible refine (spec_l3Has.calls k _ _ l0 a1 true _ ?side1 ?side2 A3.out).mono ?_);(case side1 => repeat (first|exact (Kd.R_reads' HO0.out).2.2|(with_reducible refine Kd.C_alloc ?_ _)|(with_reducible refine Kd.C_drewN ?_ _)|(with_reducible refine Kd.C_drew ?_)));(case side2 => exact (Kd.R_reads' HO0.out).2.1);rintro e w' ⟨rfl,⟨nd,rfl⟩⟩;refine ⟨_,rfl,?_⟩))
  go_ret
  exact ⟨_,rf_,by (with_reducible repeat (first|apply Kd.R_alloc|apply Kd.R_drewN|apply Kd.R_drew));exact HO0.out,b_,by repeat (first|(with_reducible first|exact HK.out|apply Kept.alloc|apply Kept.drewN|apply Kept.drew)|exact HK.out)⟩
 ·replace c4 := Bool.eq_false_iff.mpr c4
  subst c4
  replace H := ie_ H
  obtain ⟨y198,hy198⟩ : ∃ y_ : List Int,y_ = (([] : List Int)) := ⟨_,rfl⟩
  replace H : (spec_l6Put.l0 k l0 a1 y198 0) = some r := by first|(rw [hy198];with_reducible exact H)|(have H2_ := (Option.bind_some _ _).symm.trans H;rw [hy198];with_reducible exact H2_)|(have H2_ := (Option.bind_some _ _).symm.trans H;with_reducible exact H2_)|with_reducible exact H|(rw [hy198];exact H)|exact H
  have Ny198 := Aside0.mk hy198
  clear hy198
  have H' := Aside0.mk H
  clear H
  obtain ⟨Ao6,co6,eo6⟩ := Kd.R_slice HO0.out
  subst eo6
  go_enter Tryz.func75,Tryz.ntmps75
  go_wp2_with (first|((with_reducible refine gcal_ (f := 30) rfl ?_);refine gl_ (some 9) Tryz.func30 #[.slice Ao6 l0.length co6,.int .i64 a1] ?_;(with_reducible refine (spec_l3Has.calls k _ _ l0 a1 false _ ?side1 ?side2 A3.out).mono ?_);(case side1 => repeat (first|exact (Kd.R_reads' HO0.out).2.2|(with_reducible refine Kd.C_alloc ?_ _)|(with_reducible refine Kd.C_drewN ?_ _)|(with_reducible refine Kd.C_drew ?_)));(case side2 => exact (Kd.R_reads' HO0.out).2.1);rintro e w' ⟨rfl,⟨nd,rfl⟩⟩;refine ⟨_,rfl,?_⟩)|((with_reducible refine gate_dst (N := 11) rfl ?_);refine Kd.R_lit (Kd.int .i64) _ 2 ?hg (N := 11) ?hd (xs := ([] : List Int)) (inner := []) (ok := fun _ => True) (okp := fun _ => True) ?hr ?hp (fun _ hk => hk) trivial (Below.refl _ _) (Nat.le_refl _) (by simp) ?_;(case hd => rfl);(case hg => rfl);(case hr => first|(go_simp;done)|(go_simp;rfl));(case hp => exact (Reps.none _ _));intro v199 w7 ho8 hb hg_ hnew_;clear hg_ hnew_;(first|rw [← Ny198.out] at ho8|(simp only [Int.reduceToNat] at ho8;rw [← Ny198.out] at ho8));have HO200 := Aside0.mk (Kd.R_lower (Kd.R_new' (Kd.R_newM (M := fun k_ => (P0_ k_ ∨ w.heap.size ≤ k_)) ho8 (by first|exact HK.out.1|exact (show Kept w _ (fun k_ => P0_ k_) from by repeat (first|(with_reducible first|exact HK.out|apply Kept.alloc|apply Kept.drewN|apply Kept.drew)|exact HK.out)).1) (fun k_ h_ => .inr h_)) (Kd.R_lt (by (with_reducible repeat (first|apply Kd.R_alloc|apply Kd.R_drewN|apply Kd.R_drew));exact HO0.out))) (below_size b_));replace HO0 := Aside0.mk (Kd.R_elder' (by (with_reducible repeat (first|apply Kd.R_alloc|apply Kd.R_drewN|apply Kd.R_drew));exact HO0.out) (Kd.R_base ho8) hb);replace HK := Aside0.mk (Kept.below (S := (fun k_ => P0_ k_)) (by repeat (first|(with_reducible first|exact HK.out|apply Kept.alloc|apply Kept.drewN|apply Kept.drew)|exact HK.out)) hb);replace HB := Aside0.mk (below_step b_ hb);clear hb ho8))
  go_loopg [5,6] k (fun kq v5 v6 w' => ∃ (x5_1 : List Int) (x6_1 : Int),v6 = .int .i64 x6_1 ∧ Aside0 (spec_l6Put.l0 kq l0 a1 x5_1 x6_1 = some r) ∧ Aside0 (kq ≤ k) ∧ Aside0 (Kd.R (Kd.int .i64) 2 w' w0.heap.size (fun k_ => (P0_ k_ ∨ w.heap.size ≤ k_) ∧ some k_ ≠ (v5 : Value).ownBlock) (.slice Ao6 l0.length co6) l0) ∧ Aside0 (Kd.R (Kd.int .i64) 2 w' w0.heap.size (fun k_ => (P0_ k_ ∨ w.heap.size ≤ k_) ∧ some k_ ≠ ((.slice Ao6 l0.length co6) : Value).ownBlock) v5 x5_1) ∧ Aside0 (Kept w w' (fun k_ => P0_ k_)) ∧ Aside0 (Below w0.heap.size w0 w'))
  case atStart => exact ⟨(y198),(0),rs_,H',⟨Nat.le_refl _⟩,⟨by (with_reducible repeat (first|apply Kd.R_alloc|apply Kd.R_drewN|apply Kd.R_drew));exact HO0.out⟩,⟨by (with_reducible repeat (first|apply Kd.R_alloc|apply Kd.R_drewN|apply Kd.R_drew));exact Kd.R_mono HO200.out (fun _ hk => ⟨hk.1.1,hk.2⟩)⟩,⟨by repeat (first|(with_reducible first|exact HK.out|apply Kept.alloc|apply Kept.drewN|apply Kept.drew)|exact HK.out)⟩,⟨b_⟩⟩
  case round =>
   clear H'
   try clear p2
   try clear c3
   try clear c4
   try clear c7
   obtain ⟨x5_1,x6_1,rfl,HA,HK1,HO_0,HO_5,HK,HB⟩ := hrel
   cases gk with
   | zero => exact absurd HA.out (by simp [spec_l6Put.l0])
   | succ k1 =>
    have H := HA.out
    clear HA
    simp only [spec_l6Put.l0] at H
    by_cases c9 : x6_1 < (l0.length : Int)
    ·rw [if_pos c9] at H
     have c9b0 : decide (x6_1 < (l0.length : Int)) = true := decide_eq_true c9
     clear c9
     by_cases c10 : 0 ≤ x6_1
     ·rw [if_pos c10] at H
      have c10b0 : decide (0 ≤ x6_1) = true := decide_eq_true c10
      clear c10
      by_cases c11 : (rd l0 x6_1) < a1
      ·rw [if_pos c11] at H
       have c11b0 : decide ((rd l0 x6_1) < a1) = true := decide_eq_true c11
       clear c11
       by_cases c12 : x5_1.length < 17592186044416
       ·rw [if_pos c12] at H
        have LMc12 := Aside0.mk c12
        clear c12
        obtain ⟨y203,hy203⟩ : ∃ y_ : List Int,y_ = (x5_1 ++ [rd l0 x6_1]) := ⟨_,rfl⟩
        replace H : (spec_l6Put.l0 k1 l0 a1 y203 (wrap64 (x6_1 + 1))) = some r := by first|(rw [hy203];with_reducible exact H)|(have H2_ := (Option.bind_some _ _).symm.trans H;rw [hy203];with_reducible exact H2_)|(have H2_ := (Option.bind_some _ _).symm.trans H;with_reducible exact H2_)|with_reducible exact H|(rw [hy203];exact H)|exact H
        have Ny203 := Aside0.mk hy203
        clear hy203
        have H' := Aside0.mk H
        clear H
        have p201 : 0 ≤ (x6_1 : Int) := od_
        have q201 : x6_1 < (l0.length : Int) := od_
        obtain ⟨ad201,e201,hx201_0⟩ := Kd.at_int (Kd.R_reads' HO_0.out).2.2 x6_1 p201 q201
        cases e201
        replace p201 := eq_true p201
        replace q201 := eq_true q201
        have p202 : 0 ≤ (x6_1 : Int) := od_
        have q202 : x6_1 < (l0.length : Int) := od_
        obtain ⟨ad202,e202,hx202_0⟩ := Kd.at_int (Kd.R_reads' HO_0.out).2.2 x6_1 p202 q202
        obtain rfl : ad201 = ad202 := (by injection e202)
        replace p202 := eq_true p202
        replace q202 := eq_true q202
        go_wp2_with (first|((with_reducible refine gblt_ (b := .append) (xs := #[.tmp 26,.tmp 31]) rfl ?_);at_builtin;refine Kd.R_append (Kd.int .i64) (w0 := w0) w0.heap.size rfl (.tmp 26) (.tmp 31) 24 2 (.int .i64 0) 8 rfl Tryz.underlying24 info2 rfl (by decide) (by omega) u5 x5_1 (rd l0 x6_1) [.int .i64 (rd l0 x6_1)] (fun k_ => (P0_ k_ ∨ w.heap.size ≤ k_) ∧ some k_ ≠ (.slice (some ad201) l0.length co6 : Value).ownBlock) (fun _ => False) rfl rfl ?aP (fun _ hk => hk.elim) ?aF ?aO ?aB ?aS ?aL ?_;(case aP => exact rfl);(case aB => exact b_);(case aF => exact (fun k_ hk => ⟨(.inr (Nat.le_trans (by first|exact HK.out.1|exact (show Kept w _ (fun k_ => P0_ k_) from by repeat (first|(with_reducible first|exact HK.out|apply Kept.alloc|apply Kept.drewN|apply Kept.drew)|exact HK.out)).1) hk)),Kd.fresh' (Kd.R_lt (by (with_reducible repeat (first|apply Kd.R_alloc|apply Kd.R_drewN|apply Kd.R_drew));exact HO_0.out)) k_ hk⟩));(case aO => exact (by (with_reducible repeat (first|apply Kd.R_alloc|apply Kd.R_drewN|apply Kd.R_drew));exact HO_5.out));(case aS => exact (below_size b_));(case aL => have := LMc12.out;omega);intro v204 w13 ho hb hg hat;rw [← Ny203.out] at ho;replace HO_0 := Aside0.mk (Kd.R_after (ok := (fun k_ => (P0_ k_ ∨ w.heap.size ≤ k_))) (by (with_reducible repeat (first|apply Kd.R_alloc|apply Kd.R_drewN|apply Kd.R_drew));exact HO_0.out) hg hat);replace HB := Aside0.mk (hb);replace HK := Aside0.mk (Kept.of_grown (S := (fun k_ => P0_ k_)) hg (by repeat (first|(with_reducible first|exact HK.out|apply Kept.alloc|apply Kept.drewN|apply Kept.drew)|exact HK.out)) (fun k_ e_ => (HO_5.out.1 k_ e_).1));have HO205 := Aside0.mk (ho);clear HO_5;clear ho hb hg hat))
        go_roundg k1
        case measure => have := HK1.out;omega
        case rel => exact ⟨(y203),(wrap64 (x6_1 + 1)),rs_,H',⟨by have := HK1.out;omega⟩,⟨by (with_reducible repeat (first|apply Kd.R_alloc|apply Kd.R_drewN|apply Kd.R_drew));exact HO_0.out⟩,⟨by (with_reducible repeat (first|apply Kd.R_alloc|apply Kd.R_drewN|apply Kd.R_drew));exact HO205.out⟩,⟨by repeat (first|(with_reducible first|exact HK.out|apply Kept.alloc|apply Kept.drewN|apply Kept.drew)|exact HK.out)⟩,⟨b_⟩⟩
       ·rw [if_neg c12] at H
        exact absurd H (by simp)
      ·rw [if_neg c11] at H
       have c11b0 : decide ((rd l0 x6_1) < a1) = false := decide_eq_false c11
       clear c11
       by_cases c14 : x5_1.length < 17592186044416
       ·rw [if_pos c14] at H
        have LMc14 := Aside0.mk c14
        clear c14
        obtain ⟨y206,hy206⟩ : ∃ y_ : List Int,y_ = (x5_1 ++ [a1]) := ⟨_,rfl⟩
        replace H : (if 0 ≤ (x5_1.length : Int) then (if (x5_1.length : Int) ≤ (l0.length : Int) then ((some (l0.drop ((x5_1.length : Int) : Int).toNat : List Int)).bind fun y209 => (if y206.length + y209.length < 17592186044416 then (some (y206 ++ y209)) else (none))) else (none)) else (none)) = some r := by first|(rw [hy206];with_reducible exact H)|(have H2_ := (Option.bind_some _ _).symm.trans H;rw [hy206];with_reducible exact H2_)|(have H2_ := (Option.bind_some _ _).symm.trans H;with_reducible exact H2_)|with_reducible exact H|(rw [hy206];exact H)|exact H
        have Ny206 := Aside0.mk hy206
        clear hy206
        by_cases c15 : 0 ≤ (x5_1.length : Int)
        ·rw [if_pos c15] at H
         have c15b0 := eq_true c15
         have c15b1 : decide (0 ≤ (x5_1.length : Int)) = true := decide_eq_true c15
         clear c15
         by_cases c16 : (x5_1.length : Int) ≤ (l0.length : Int)
         ·rw [if_pos c16] at H
          have c16b0 := eq_true c16
          have c16b1 : decide ((x5_1.length : Int) ≤ (l0.length : Int)) = true := decide_eq_true c16
          clear c16
          obtain ⟨y209,hy209⟩ : ∃ y_ : List Int,y_ = (l0.drop ((x5_1.length : Int) : Int).toNat) := ⟨_,rfl⟩
          replace H : (if y206.length + y209.length < 17592186044416 then (some (y206 ++ y209)) else (none)) = some r := by first|(rw [hy209];with_reducible exact H)|(have H2_ := (Option.bind_some _ _).symm.trans H;rw [hy209];with_reducible exact H2_)|(have H2_ := (Option.bind_some _ _).symm.trans H;with_reducible exact H2_)|with_reducible exact H|(rw [hy209];exact H)|exact H
          have Ny209 := Aside0.mk hy209
          clear hy209
          by_cases c17 : y206.length + y209.length < 17592186044416
          ·rw [if_pos c17] at H
           have LMc17 := Aside0.mk c17
           clear c17
           obtain ⟨y213,hy213⟩ : ∃ y_ : List Int,y_ = (y206 ++ y209) := ⟨_,rfl⟩
           replace H : (some y213) = some r := by first|(rw [hy213];with_reducible exact H)|(have H2_ := (Option.bind_some _ _).symm.trans H;rw [hy213];with_reducible exact H2_)|(have H2_ := (Option.bind_some _ _).symm.trans H;with_reducible exact H2_)|with_reducible exact H|(rw [hy213];exact H)|exact H
           have Ny213 := Aside0.mk hy213
           clear hy213
           obtain rfl := Option.some.inj H
           have p201 : 0 ≤ (x6_1 : Int) := od_
           have q201 : x6_1 < (l0.length : Int) := od_
           obtain ⟨ad201,e201,hx201_0⟩ := Kd.at_int (Kd.R_reads' HO_0.out).2.2 x6_1 p201 q201
           cases e201
           replace p201 := eq_true p201
           replace q201 := eq_true q201
           try go_wp2
           replace HO_0 := Aside0.mk (Kd.R_drew HO_0.out)
           replace HO_5 := Aside0.mk (Kd.R_drew HO_5.out)
           replace HK := Aside0.mk (Kept.drew HK.out)
           replace HB := Aside0.mk (below_drew1 HB.out)
           obtain ⟨Ao19,co19,eo19⟩ := Kd.R_slice HO_5.out
           (first|subst eo19|(injection eo19 with f1_ f2_ f3_;have f4_ := f1_.symm;have f5_ := f3_.symm;clear f1_ f2_ f3_;subst f4_;subst f5_))
           have q20 : ((x5_1.length : Int) : Int) ≤ ((l0.length : Int) : Int) := od_
           obtain ⟨i020,hi020,_,hsz20,_⟩ := info_parts info2
           have hroom20 : l0.length ≤ co6 := (Kd.R_reads' HO_0.out).2.1
           have hC20 : Kd.C (Kd.int .i64) _ (some ad201) l0.length l0 := (Kd.R_reads' HO_0.out).2.2
           have q020 : (0 : Int) ≤ ((x5_1.length : Int) : Int) := od_
           have hcut20 := cut_from (P := Tryz.prog) 24 2 .i64 Tryz.underlying24 hi020 1 hsz20 (some ad201) l0.length co6 (x5_1.length : Int) q020 q20
           have hr20 := Kd.C_drop (m := ((x5_1.length : Int) : Int).toNat) (c := co6) hC20 (by omega) hroom20
           obtain ⟨A20,hA20⟩ : ∃ A1,A1 = (if co6 = ((x5_1.length : Int) : Int).toNat then (some ad201) else ((some ad201) : Option Addr).map (·.add (((x5_1.length : Int) : Int).toNat * 1))) := ⟨_,rfl⟩
           obtain ⟨c20,hc20⟩ : ∃ c1,c1 = co6 - ((x5_1.length : Int) : Int).toNat := ⟨_,rfl⟩
           have hy20 : y209.length = l0.length - ((x5_1.length : Int) : Int).toNat := (by rw [Ny209.out,List.length_drop] <;> omega)
           rw [show (l0).drop ((x5_1.length : Int) : Int).toNat = y209 from Ny209.out.symm] at hr20
           replace hr20 : Kd.C (Kd.int .i64) _ A20 y209.length y209 := (by rw [hA20];exact hr20)
           rw [← hy20,← hA20,← hc20] at hcut20
           have HR212 := Aside0.mk hr20
           have HC212 := Aside0.mk (show y209.length ≤ c20 from by rw [hy20,hc20];exact Nat.sub_le_sub_right hroom20 _)
           clear hr20 hC20 hroom20 hi020 hsz20 hc20
           have KY20 := Aside0.mk hy20
           have KA20 := Aside0.mk hA20
           clear hy20 hA20
           have KL20 := Aside0.mk (show ((x5_1.length : Int) : Int).toNat ≤ l0.length from by omega)
           replace q20 := eq_true q20
           refine start_ (n := 10) (S := fun w' => True) (ds := []) #[false,false,false,false,false,false,false,false,false,false] (by kernel_rfl) rfl rfl trivial (fun hHeld => ?_);refine with_tabW spec_l6Put.tab8 spec_l6Put.bits8 (fun HT_ HW_ => ?_)
           generalize wr.drew = w18 at HO_0 HO_5 HK HB HR212 hHeld ⊢
           refine pv_ 0 33 ?_
           refine pv_ 1 34 ?_
           refine pv_ 4 37 ?_
           refine pv_ 5 38 ?_
           refine pv_ 6 39 ?_
           refine pv_ 7 40 ?_
           refine oy_ 2 35 (fun K hK => ?_)
           refine value_ (w1 := ?_) (v := ?_) (by rfl) rfl ?_ ?_
           rotate_left 2
           ·go_simp
            constructor
            ·rfl
            ·rfl
           refine hK.out _ _ trivial (fun hHeld => ?_)
           clear hK K
           refine nr_ (some 35) _ ?_
           refine oy_ 3 36 (fun K hK => ?_)
           refine Kd.R_append_step (Kd.int .i64) (w0 := w0) w0.heap.size (by rfl) (.tmp 33) (.tmp 35) 24 2 (.int .i64 0) 8 rfl Tryz.underlying24 info2 rfl (by decide) (by omega) (.slice Ao19 x5_1.length co19) x5_1 a1 [.int .i64 a1] (fun k_ => (P0_ k_ ∨ w.heap.size ≤ k_) ∧ some k_ ≠ (.slice (some ad201) l0.length co6 : Value).ownBlock) (fun _ => False) rfl rfl ?aP (fun _ hk => hk.elim) ?aF ?aO ?aB ?aS ?aL ?_
           (case aP => exact rfl)
           (case aB => exact b_)
           (case aF => exact (fun k_ hk => ⟨(.inr (Nat.le_trans (by first|exact HK.out.1|exact (show Kept w _ (fun k_ => P0_ k_) from by repeat (first|(with_reducible first|exact HK.out|apply Kept.alloc|apply Kept.drewN|apply Kept.drew)|exact HK.out)).1) hk)),Kd.fresh' (Kd.R_lt (by (with_reducible repeat (first|apply Kd.R_alloc|apply Kd.R_drewN|apply Kd.R_drew));exact HO_0.out)) k_ hk⟩))
           (case aO => exact (by (with_reducible repeat (first|apply Kd.R_alloc|apply Kd.R_drewN|apply Kd.R_drew));exact HO_5.out))
           (case aS => exact (below_size b_))
           (case aL => have := LMc14.out;omega)
           intro v207 w21 ho hb hg hat
           rw [← Ny206.out] at ho
           replace HB := Aside0.mk (hb)
           replace HK := Aside0.mk (Kept.of_grown (S := (fun k_ => P0_ k_)) hg (by repeat (first|(with_reducible first|exact HK.out|apply Kept.alloc|apply Kept.drewN|apply Kept.drew)|exact HK.out)) (fun k_ e_ => (HO_5.out.1 k_ e_).1))
           replace HR212 := Aside0.mk ((show Kd.C (Kd.int .i64) w21 A20 y209.length y209 from by rw [Ny209.out,KA20.out];exact Kd.C_drop (m := ((x5_1.length : Int) : Int).toNat) (c := co6) ((Kd.R_reads' (Kd.R_after (ok := (fun k_ => (P0_ k_ ∨ w.heap.size ≤ k_))) (by (with_reducible repeat (first|apply Kd.R_alloc|apply Kd.R_drewN|apply Kd.R_drew));exact HO_0.out) hg hat)).2.2) KL20.out ((Kd.R_reads' (Kd.R_after (ok := (fun k_ => (P0_ k_ ∨ w.heap.size ≤ k_))) (by (with_reducible repeat (first|apply Kd.R_alloc|apply Kd.R_drewN|apply Kd.R_drew));exact HO_0.out) hg hat)).2.1)))
           replace HO_0 := Aside0.mk (Kd.R_after (ok := (fun k_ => (P0_ k_ ∨ w.heap.size ≤ k_))) (by (with_reducible repeat (first|apply Kd.R_alloc|apply Kd.R_drewN|apply Kd.R_drew));exact HO_0.out) hg hat)
           have HO208 := Aside0.mk (ho)
           clear HO_5
           clear ho hb hg hat
           refine hK.out _ _ trivial (fun hHeld => ?_)
           clear hK K
           refine nr_ (some 36) _ ?_
           refine oy_ 8 41 (fun K hK => ?_)
           refine Kd.R_append_rows_step (Kd.int .i64) (w0 := w0) w0.heap.size (by rfl) (.tmp 36) (.tmp 40) 24 2 (.int .i64 0) 8 rfl Tryz.underlying24 info2 rfl (by decide) (by omega) v207 y206 y209 _ _ _ (fun k_ => (P0_ k_ ∨ w.heap.size ≤ k_) ∧ some k_ ≠ (.slice (some ad201) l0.length co6 : Value).ownBlock) (fun _ => False) rfl rfl ?aO ?aR (fun _ _ h => h) (fun _ h => h.elim) ?aF ?aB ?aS ?aL ?_
           (case aR => repeat (first|exact (by repeat (first|(with_reducible exact HR212.out)|(with_reducible refine Kd.C_alloc ?_ _)|(with_reducible refine Kd.C_drewN ?_ _)|(with_reducible refine Kd.C_drew ?_)|exact HR212.out))|(with_reducible refine Kd.C_alloc ?_ _)|(with_reducible refine Kd.C_drewN ?_ _)|(with_reducible refine Kd.C_drew ?_)))
           (case aB => exact b_)
           (case aF => exact (fun k_ hk => ⟨(.inr (Nat.le_trans (by first|exact HK.out.1|exact (show Kept w _ (fun k_ => P0_ k_) from by repeat (first|(with_reducible first|exact HK.out|apply Kept.alloc|apply Kept.drewN|apply Kept.drew)|exact HK.out)).1) hk)),Kd.fresh' (Kd.R_lt (by (with_reducible repeat (first|apply Kd.R_alloc|apply Kd.R_drewN|apply Kd.R_drew));exact HO_0.out)) k_ hk⟩))
           (case aO => exact (by (with_reducible repeat (first|apply Kd.R_alloc|apply Kd.R_drewN|apply Kd.R_drew));exact HO208.out))
           (case aS => exact (below_size b_))
           (case aL => have := LMc17.out;omega)
           intro v214 w22 ho hb hg hat
           rw [← Ny213.out] at ho
           replace HB := Aside0.mk (hb)
           replace HK := Aside0.mk (Kept.of_grown (S := (fun k_ => P0_ k_)) hg (by repeat (first|(with_reducible first|exact HK.out|apply Kept.alloc|apply Kept.drewN|apply Kept.drew)|exact HK.out)) (fun k_ e_ => (HO208.out.1 k_ e_).1))
           replace HR212 := Aside0.mk ((show Kd.C (Kd.int .i64) w22 A20 y209.length y209 from by rw [Ny209.out,KA20.out];exact Kd.C_drop (m := ((x5_1.length : Int) : Int).toNat) (c := co6) ((Kd.R_reads' (Kd.R_after (ok := (fun k_ => (P0_ k_ ∨ w.heap.size ≤ k_))) (by (with_reducible repeat (first|apply Kd.R_alloc|apply Kd.R_drewN|apply Kd.R_drew));exact HO_0.out) hg hat)).2.2) KL20.out ((Kd.R_reads' (Kd.R_after (ok := (fun k_ => (P0_ k_ ∨ w.heap.size ≤ k_))) (by (with_reducible repeat (first|apply Kd.R_alloc|apply Kd.R_drewN|apply Kd.R_drew));exact HO_0.out) hg hat)).2.1)))
           replace HO_0 := Aside0.mk (Kd.R_after (ok := (fun k_ => (P0_ k_ ∨ w.heap.size ≤ k_))) (by (with_reducible repeat (first|apply Kd.R_alloc|apply Kd.R_drewN|apply Kd.R_drew));exact HO_0.out) hg hat)
           have HO215 := Aside0.mk (ho)
           clear HO208
           clear ho hb hg hat
           refine hK.out _ _ trivial (fun hHeld => ?_)
           clear hK K
           refine nr_ (some 41) _ ?_
           refine pv_ 9 4 ?_
           refine done_ (done_of HT_.out (by kernel_rfl)) ?_
           try go_wp2
           go_ret
           exact ⟨_,rf_,by (with_reducible repeat (first|apply Kd.R_alloc|apply Kd.R_drewN|apply Kd.R_drew));exact Kd.R_mono HO215.out (fun _ hk => hk.1),b_,by repeat (first|(with_reducible first|exact HK.out|apply Kept.alloc|apply Kept.drewN|apply Kept.drew)|exact HK.out)⟩
          ·rw [if_neg c17] at H
           exact absurd H (by simp)
         ·rw [if_neg c16] at H
          exact absurd H (by simp)
        ·rw [if_neg c15] at H
         exact absurd H (by simp)
       ·rw [if_neg c14] at H
        exact absurd H (by simp)
     ·rw [if_neg c10] at H
      exact absurd H (by simp)
    ·rw [if_neg c9] at H
     have c9b0 : decide (x6_1 < (l0.length : Int)) = false := decide_eq_false c9
     clear c9
     by_cases c23 : x5_1.length < 17592186044416
     ·rw [if_pos c23] at H
      have LMc23 := Aside0.mk c23
      clear c23
      obtain ⟨y216,hy216⟩ : ∃ y_ : List Int,y_ = (x5_1 ++ [a1]) := ⟨_,rfl⟩
      replace H : (if 0 ≤ (x5_1.length : Int) then (if (x5_1.length : Int) ≤ (l0.length : Int) then ((some (l0.drop ((x5_1.length : Int) : Int).toNat : List Int)).bind fun y219 => (if y216.length + y219.length < 17592186044416 then (some (y216 ++ y219)) else (none))) else (none)) else (none)) = some r := by first|(rw [hy216];with_reducible exact H)|(have H2_ := (Option.bind_some _ _).symm.trans H;rw [hy216];with_reducible exact H2_)|(have H2_ := (Option.bind_some _ _).symm.trans H;with_reducible exact H2_)|with_reducible exact H|(rw [hy216];exact H)|exact H
      have Ny216 := Aside0.mk hy216
      clear hy216
      by_cases c24 : 0 ≤ (x5_1.length : Int)
      ·rw [if_pos c24] at H
       have c24b0 := eq_true c24
       have c24b1 : decide (0 ≤ (x5_1.length : Int)) = true := decide_eq_true c24
       clear c24
       by_cases c25 : (x5_1.length : Int) ≤ (l0.length : Int)
       ·rw [if_pos c25] at H
        have c25b0 := eq_true c25
        have c25b1 : decide ((x5_1.length : Int) ≤ (l0.length : Int)) = true := decide_eq_true c25
        clear c25
        obtain ⟨y219,hy219⟩ : ∃ y_ : List Int,y_ = (l0.drop ((x5_1.length : Int) : Int).toNat) := ⟨_,rfl⟩
        replace H : (if y216.length + y219.length < 17592186044416 then (some (y216 ++ y219)) else (none)) = some r := by first|(rw [hy219];with_reducible exact H)|(have H2_ := (Option.bind_some _ _).symm.trans H;rw [hy219];with_reducible exact H2_)|(have H2_ := (Option.bind_some _ _).symm.trans H;with_reducible exact H2_)|with_reducible exact H|(rw [hy219];exact H)|exact H
        have Ny219 := Aside0.mk hy219
        clear hy219
        by_cases c26 : y216.length + y219.length < 17592186044416
        ·rw [if_pos c26] at H
         have LMc26 := Aside0.mk c26
         clear c26
         obtain ⟨y223,hy223⟩ : ∃ y_ : List Int,y_ = (y216 ++ y219) := ⟨_,rfl⟩
         replace H : (some y223) = some r := by first|(rw [hy223];with_reducible exact H)|(have H2_ := (Option.bind_some _ _).symm.trans H;rw [hy223];with_reducible exact H2_)|(have H2_ := (Option.bind_some _ _).symm.trans H;with_reducible exact H2_)|with_reducible exact H|(rw [hy223];exact H)|exact H
         have Ny223 := Aside0.mk hy223
         clear hy223
         obtain rfl := Option.some.inj H
         try go_wp2
         replace HO_0 := Aside0.mk (Kd.R_drew HO_0.out)
         replace HO_5 := Aside0.mk (Kd.R_drew HO_5.out)
         replace HK := Aside0.mk (Kept.drew HK.out)
         replace HB := Aside0.mk (below_drew1 HB.out)
         obtain ⟨Ao28,co28,eo28⟩ := Kd.R_slice HO_5.out
         (first|subst eo28|(injection eo28 with f1_ f2_ f3_;have f4_ := f1_.symm;have f5_ := f3_.symm;clear f1_ f2_ f3_;subst f4_;subst f5_))
         have q29 : ((x5_1.length : Int) : Int) ≤ ((l0.length : Int) : Int) := od_
         obtain ⟨i029,hi029,_,hsz29,_⟩ := info_parts info2
         have hroom29 : l0.length ≤ co6 := (Kd.R_reads' HO_0.out).2.1
         have hC29 : Kd.C (Kd.int .i64) _ Ao6 l0.length l0 := (Kd.R_reads' HO_0.out).2.2
         have q029 : (0 : Int) ≤ ((x5_1.length : Int) : Int) := od_
         have hcut29 := cut_from (P := Tryz.prog) 24 2 .i64 Tryz.underlying24 hi029 1 hsz29 Ao6 l0.length co6 (x5_1.length : Int) q029 q29
         have hr29 := Kd.C_drop (m := ((x5_1.length : Int) : Int).toNat) (c := co6) hC29 (by omega) hroom29
         obtain ⟨A29,hA29⟩ : ∃ A1,A1 = (if co6 = ((x5_1.length : Int) : Int).toNat then Ao6 else (Ao6 : Option Addr).map (·.add (((x5_1.length : Int) : Int).toNat * 1))) := ⟨_,rfl⟩
         obtain ⟨c29,hc29⟩ : ∃ c1,c1 = co6 - ((x5_1.length : Int) : Int).toNat := ⟨_,rfl⟩
         have hy29 : y219.length = l0.length - ((x5_1.length : Int) : Int).toNat := (by rw [Ny219.out,List.length_drop] <;> omega)
         rw [show (l0).drop ((x5_1.length : Int) : Int).toNat = y219 from Ny219.out.symm] at hr29
         replace hr29 : Kd.C (Kd.int .i64) _ A29 y219.length y219 := (by rw [hA29];exact hr29)
         rw [← hy29,← hA29,← hc29] at hcut29
         have HR222 := Aside0.mk hr29
         have HC222 := Aside0.mk (show y219.length ≤ c29 from by rw [hy29,hc29];exact Nat.sub_le_sub_right hroom29 _)
         clear hr29 hC29 hroom29 hi029 hsz29 hc29
         have KY29 := Aside0.mk hy29
         have KA29 := Aside0.mk hA29
         clear hy29 hA29
         have KL29 := Aside0.mk (show ((x5_1.length : Int) : Int).toNat ≤ l0.length from by omega)
         replace q29 := eq_true q29
         refine start_ (n := 10) (S := fun w' => True) (ds := []) #[false,false,false,false,false,false,false,false,false,false] (by kernel_rfl) rfl rfl trivial (fun hHeld => ?_);refine with_tabW spec_l6Put.tab8 spec_l6Put.bits8 (fun HT_ HW_ => ?_)
         generalize wr.drew = w27 at HO_0 HO_5 HK HB HR222 hHeld ⊢
         refine pv_ 0 33 ?_
         refine pv_ 1 34 ?_
         refine pv_ 4 37 ?_
         refine pv_ 5 38 ?_
         refine pv_ 6 39 ?_
         refine pv_ 7 40 ?_
         refine oy_ 2 35 (fun K hK => ?_)
         refine value_ (w1 := ?_) (v := ?_) (by rfl) rfl ?_ ?_
         rotate_left 2
         ·go_simp
          constructor
          ·rfl
          ·rfl
         refine hK.out _ _ trivial (fun hHeld => ?_)
         clear hK K
         refine nr_ (some 35) _ ?_
         refine oy_ 3 36 (fun K hK => ?_)
         refine Kd.R_append_step (Kd.int .i64) (w0 := w0) w0.heap.size (by rfl) (.tmp 33) (.tmp 35) 24 2 (.int .i64 0) 8 rfl Tryz.underlying24 info2 rfl (by decide) (by omega) (.slice Ao28 x5_1.length co28) x5_1 a1 [.int .i64 a1] (fun k_ => (P0_ k_ ∨ w.heap.size ≤ k_) ∧ some k_ ≠ (.slice Ao6 l0.length co6 : Value).ownBlock) (fun _ => False) rfl rfl ?aP (fun _ hk => hk.elim) ?aF ?aO ?aB ?aS ?aL ?_
         (case aP => exact rfl)
         (case aB => exact b_)
         (case aF => exact (fun k_ hk => ⟨(.inr (Nat.le_trans (by first|exact HK.out.1|exact (show Kept w _ (fun k_ => P0_ k_) from by repeat (first|(with_reducible first|exact HK.out|apply Kept.alloc|apply Kept.drewN|apply Kept.drew)|exact HK.out)).1) hk)),Kd.fresh' (Kd.R_lt (by (with_reducible repeat (first|apply Kd.R_alloc|apply Kd.R_drewN|apply Kd.R_drew));exact HO_0.out)) k_ hk⟩))
         (case aO => exact (by (with_reducible repeat (first|apply Kd.R_alloc|apply Kd.R_drewN|apply Kd.R_drew));exact HO_5.out))
         (case aS => exact (below_size b_))
         (case aL => have := LMc23.out;omega)
         intro v217 w30 ho hb hg hat
         rw [← Ny216.out] at ho
         replace HB := Aside0.mk (hb)
         replace HK := Aside0.mk (Kept.of_grown (S := (fun k_ => P0_ k_)) hg (by repeat (first|(with_reducible first|exact HK.out|apply Kept.alloc|apply Kept.drewN|apply Kept.drew)|exact HK.out)) (fun k_ e_ => (HO_5.out.1 k_ e_).1))
         replace HR222 := Aside0.mk ((show Kd.C (Kd.int .i64) w30 A29 y219.length y219 from by rw [Ny219.out,KA29.out];exact Kd.C_drop (m := ((x5_1.length : Int) : Int).toNat) (c := co6) ((Kd.R_reads' (Kd.R_after (ok := (fun k_ => (P0_ k_ ∨ w.heap.size ≤ k_))) (by (with_reducible repeat (first|apply Kd.R_alloc|apply Kd.R_drewN|apply Kd.R_drew));exact HO_0.out) hg hat)).2.2) KL29.out ((Kd.R_reads' (Kd.R_after (ok := (fun k_ => (P0_ k_ ∨ w.heap.size ≤ k_))) (by (with_reducible repeat (first|apply Kd.R_alloc|apply Kd.R_drewN|apply Kd.R_drew));exact HO_0.out) hg hat)).2.1)))
         replace HO_0 := Aside0.mk (Kd.R_after (ok := (fun k_ => (P0_ k_ ∨ w.heap.size ≤ k_))) (by (with_reducible repeat (first|apply Kd.R_alloc|apply Kd.R_drewN|apply Kd.R_drew));exact HO_0.out) hg hat)
         have HO218 := Aside0.mk (ho)
         clear HO_5
         clear ho hb hg hat
         refine hK.out _ _ trivial (fun hHeld => ?_)
         clear hK K
         refine nr_ (some 36) _ ?_
         refine oy_ 8 41 (fun K hK => ?_)
         refine Kd.R_append_rows_step (Kd.int .i64) (w0 := w0) w0.heap.size (by rfl) (.tmp 36) (.tmp 40) 24 2 (.int .i64 0) 8 rfl Tryz.underlying24 info2 rfl (by decide) (by omega) v217 y216 y219 _ _ _ (fun k_ => (P0_ k_ ∨ w.heap.size ≤ k_) ∧ some k_ ≠ (.slice Ao6 l0.length co6 : Value).ownBlock) (fun _ => False) rfl rfl ?aO ?aR (fun _ _ h => h) (fun _ h => h.elim) ?aF ?aB ?aS ?aL ?_
         (case aR => repeat (first|exact (by repeat (first|(with_reducible exact HR222.out)|(with_reducible refine Kd.C_alloc ?_ _)|(with_reducible refine Kd.C_drewN ?_ _)|(with_reducible refine Kd.C_drew ?_)|exact HR222.out))|(with_reducible refine Kd.C_alloc ?_ _)|(with_reducible refine Kd.C_drewN ?_ _)|(with_reducible refine Kd.C_drew ?_)))
         (case aB => exact b_)
         (case aF => exact (fun k_ hk => ⟨(.inr (Nat.le_trans (by first|exact HK.out.1|exact (show Kept w _ (fun k_ => P0_ k_) from by repeat (first|(with_reducible first|exact HK.out|apply Kept.alloc|apply Kept.drewN|apply Kept.drew)|exact HK.out)).1) hk)),Kd.fresh' (Kd.R_lt (by (with_reducible repeat (first|apply Kd.R_alloc|apply Kd.R_drewN|apply Kd.R_drew));exact HO_0.out)) k_ hk⟩))
         (case aO => exact (by (with_reducible repeat (first|apply Kd.R_alloc|apply Kd.R_drewN|apply Kd.R_drew));exact HO218.out))
         (case aS => exact (below_size b_))
         (case aL => have := LMc26.out;omega)
         intro v224 w31 ho hb hg hat
         rw [← Ny223.out] at ho
         replace HB := Aside0.mk (hb)
         replace HK := Aside0.mk (Kept.of_grown (S := (fun k_ => P0_ k_)) hg (by repeat (first|(with_reducible first|exact HK.out|apply Kept.alloc|apply Kept.drewN|apply Kept.drew)|exact HK.out)) (fun k_ e_ => (HO218.out.1 k_ e_).1))
         replace HR222 := Aside0.mk ((show Kd.C (Kd.int .i64) w31 A29 y219.length y219 from by rw [Ny219.out,KA29.out];exact Kd.C_drop (m := ((x5_1.length : Int) : Int).toNat) (c := co6) ((Kd.R_reads' (Kd.R_after (ok := (fun k_ => (P0_ k_ ∨ w.heap.size ≤ k_))) (by (with_reducible repeat (first|apply Kd.R_alloc|apply Kd.R_drewN|apply Kd.R_drew));exact HO_0.out) hg hat)).2.2) KL29.out ((Kd.R_reads' (Kd.R_after (ok := (fun k_ => (P0_ k_ ∨ w.heap.size ≤ k_))) (by (with_reducible repeat (first|apply Kd.R_alloc|apply Kd.R_drewN|apply Kd.R_drew));exact HO_0.out) hg hat)).2.1)))
         replace HO_0 := Aside0.mk (Kd.R_after (ok := (fun k_ => (P0_ k_ ∨ w.heap.size ≤ k_))) (by (with_reducible repeat (first|apply Kd.R_alloc|apply Kd.R_drewN|apply Kd.R_drew));exact HO_0.out) hg hat)
         have HO225 := Aside0.mk (ho)
         clear HO218
         clear ho hb hg hat
         refine hK.out _ _ trivial (fun hHeld => ?_)
         clear hK K
         refine nr_ (some 41) _ ?_
         refine pv_ 9 4 ?_
         refine done_ (done_of HT_.out (by kernel_rfl)) ?_
         try go_wp2
         go_ret
         exact ⟨_,rf_,by (with_reducible repeat (first|apply Kd.R_alloc|apply Kd.R_drewN|apply Kd.R_drew));exact Kd.R_mono HO225.out (fun _ hk => hk.1),b_,by repeat (first|(with_reducible first|exact HK.out|apply Kept.alloc|apply Kept.drewN|apply Kept.drew)|exact HK.out)⟩
        ·rw [if_neg c26] at H
         exact absurd H (by simp)
       ·rw [if_neg c25] at H
        exact absurd H (by simp)
      ·rw [if_neg c24] at H
       exact absurd H (by simp)
     ·rw [if_neg c23] at H
      exact absurd H (by simp)

/-! ### words for slices.DeleteFunc at a struct: a row's cells and its elements' blocks, told apart; a row told anew out of some of its elements -/
theorem S_rows_ {α : Type} {d : Kd α} {e : Nat} {w : World} {base : Nat} {ok : Nat → Prop} {g n cap : Nat} {xs : List α} (h : Kd.S d e w base ok (.slice (some ⟨g, 0, none⟩) n cap) xs) :
  ∃ (f : Nat → Nat) (rows : List (List Value)),rows.length = xs.length ∧ ok g ∧ (Kd.raw d.sz).R e w base (fun _ => True) (.slice (some ⟨g,0,none⟩) n cap) rows ∧ ∀ (j : Nat) (x : α) (c : List Value),xs[j]? = some x → rows[j]? = some c → d.M w base (fun k => (ok k ∧ k ≠ g) ∧ f k = j) x c := by
 obtain ⟨f,h0,inner,ho,hr⟩ := h
 have hl : (Kd.chunks d.sz xs.zipIdx.length inner).length = xs.zipIdx.length := Kd.chunks_length _ _ _
 refine ⟨f,Kd.chunks d.sz xs.zipIdx.length inner,by rw [hl,List.length_zipIdx],h0 g (by simp [Value.ownBlock]),⟨fun _ _ => trivial,inner,by rw [hl];exact ho,Kd.reps_raw hr (fun x c hp => ⟨(Kd.tag f d).K_len ((Kd.tag f d).K_of_M hp),(Kd.tag f d).K_one ((Kd.tag f d).K_of_M hp)⟩)⟩,fun j x c hx hc => ?_⟩
 rw [Kd.chunks_get hc]
 have hm : d.M w base (fun k => (ok k ∧ some k ≠ (Value.slice (some ⟨g,0,none⟩) n cap).ownBlock) ∧ f k = j) x ((inner.drop (j * d.sz)).take d.sz) := hr.2 j (x,j) (Kd.zip_at hx)
 exact d.M_mono (fun k hk => ⟨⟨hk.1.1,fun he => hk.1.2 (by rw [he];simp [Value.ownBlock])⟩,hk.2⟩) hm
theorem S_of_rows_ {α : Type} {d : Kd α} {e : Nat} {w : World} {base : Nat} {ok : Nat → Prop} {g n cap : Nat} {ys : List α} {rows : List (List Value)} (f : Nat → Nat) (hl : rows.length = ys.length) (hg : ok g) (hR : (Kd.raw d.sz).R e w base (fun _ => True) (.slice (some ⟨g, 0, none⟩) n cap) rows)
  (hM : ∀ (j : Nat) (x : α) (c : List Value),ys[j]? = some x → rows[j]? = some c → d.M w base (fun k => (ok k ∧ k ≠ g) ∧ f k = j) x c) : Kd.S d e w base ok (.slice (some ⟨g,0,none⟩) n cap) ys := by
 obtain ⟨_,inner,ho,hr⟩ := hR
 refine ⟨f,fun k hk => ?_,inner,by rw [List.length_zipIdx,← hl];exact ho,by rw [List.length_zipIdx,← hl];exact hr.1,fun j p hj => ?_⟩
 ·have : g = k := by simpa [Value.ownBlock] using hk
  subst this;exact hg
 ·rw [List.getElem?_zipIdx,Nat.zero_add] at hj
  obtain ⟨x,hx,rfl⟩ := Option.map_eq_some_iff.1 hj
  have hjl : j < rows.length := by rw [hl];exact (List.getElem?_eq_some_iff.1 hx).1
  have h1 := hr.2 j _ (List.getElem?_eq_getElem hjl)
  have hm := hM j x _ hx (List.getElem?_eq_getElem hjl)
  show d.M w base (fun k => (ok k ∧ some k ≠ (Value.slice (some ⟨g,0,none⟩) n cap).ownBlock) ∧ f k = j) x ((inner.drop (j * d.sz)).take d.sz)
  rw [show (inner.drop (j * d.sz)).take d.sz = rows[j] from h1.1]
  exact d.M_mono (fun k hk => ⟨⟨hk.1.1,fun he => hk.1.2 (by simpa [Value.ownBlock] using he)⟩,hk.2⟩) hm
/-- Where index i stands in a list of indices. -/
noncomputable def posIn (ix : List Nat) (i : Nat) : Nat := open Classical in if h : ∃ j,ix[j]? = some i then Classical.choose h else 0
theorem posIn_at {ix : List Nat} (hn : ix.Nodup) {j i : Nat} (h : ix[j]? = some i) : posIn ix i = j := by
 have hex : ∃ j,ix[j]? = some i := ⟨j,h⟩
 unfold posIn
 rw [dif_pos hex]
 have hc := Classical.choose_spec hex
 have hlt := (List.getElem?_eq_some_iff.1 hc).1
 exact (List.getElem?_inj hlt hn).1 (hc.trans h.symm)
/-- The indices below j that stay. -/
def stays {α : Type} (p : α → Bool) (z : α) (xs : List α) (j : Nat) : List Nat := (List.range j).filter fun t => !p (xs.getD t z)
theorem stays_succ {α : Type} (p : α → Bool) (z : α) (xs : List α) (j : Nat) : stays p z xs (j + 1) = stays p z xs j ++ (if p (xs.getD j z) = true then [] else [j]) := by
 unfold stays
 rw [List.range_succ,List.filter_append]
 congr 1
 cases h : p (xs.getD j z)
 ·simp only [List.filter_cons,List.filter_nil,h];rfl
 ·simp only [List.filter_cons,List.filter_nil,h];rfl
theorem stays_nodup {α : Type} (p : α → Bool) (z : α) (xs : List α) (j : Nat) : (stays p z xs j).Nodup := List.nodup_range.filter _
theorem stays_lt {α : Type} (p : α → Bool) (z : α) (xs : List α) (j : Nat) {t : Nat} (h : t ∈ stays p z xs j) : t < j := List.mem_range.1 (List.mem_filter.1 h).1
theorem stays_len {α : Type} (p : α → Bool) (z : α) (xs : List α) : ∀ j, (stays p z xs j).length ≤ j
  | 0 => by simp [stays]
  | j + 1 => by
    have := stays_len p z xs j
    rw [stays_succ,List.length_append]
    split <;> simp <;> omega
theorem stays_map {α : Type} (p : α → Bool) (z : α) (xs : List α) : ∀ j, j ≤ xs.length → (stays p z xs j).map (xs.getD · z) = (xs.take j).filter fun x => !p x
  | 0, _ => by simp [stays]
  | j + 1, h => by
    have ih := stays_map p z xs j (by omega)
    have hj : xs.getD j z = xs[j] := by rw [List.getD_eq_getElem?_getD,List.getElem?_eq_getElem (by omega)];rfl
    rw [stays_succ,List.map_append,ih,List.take_succ_eq_append_getElem (by omega),List.filter_append,hj]
    congr 1
    cases hp : p xs[j] with
    | true =>
     rw [if_pos rfl]
     simp only [List.map_nil,List.filter_cons,hp,List.filter_nil]
     rfl
    | false =>
     rw [if_neg (by simp)]
     simp only [List.map_cons,List.map_nil,List.filter_cons,hp,hj,List.filter_nil]
     rfl
theorem stays_all {α : Type} (p : α → Bool) (z : α) (xs : List α) : ∀ j, (∀ t, t < j → p (xs.getD t z) = false) → stays p z xs j = List.range j
  | 0, _ => by simp [stays]
  | j + 1, h => by
    rw [stays_succ,stays_all p z xs j (fun t ht => h t (by omega)),List.range_succ,if_neg (by rw [h j (by omega)];simp)]
theorem idx_first {α : Type} (p : α → Bool) : ∀ (l : List α) (i : Nat), (idxFrom (fun x => some (p x)) l i = some (-1) ∧ ∀ x ∈ l, p x = false) ∨ ∃ j, ∃ h : j < l.length, idxFrom (fun x => some (p x)) l i = some ((i + j : Nat) : Int) ∧ p l[j] = true ∧ ∀ t (ht : t < j), p l[t] = false
  | [], i => .inl ⟨rfl, fun _ h => by cases h⟩
  | x :: l, i => by
    simp only [idxFrom,Option.bind_some]
    cases hx : p x with
    | true => exact .inr ⟨0, by simp, by simp, hx, fun t ht => by omega⟩
    | false =>
     rw [if_neg (by simp)]
     rcases idx_first p l (i + 1) with ⟨h1,h2⟩ | ⟨j,hj,h1,h2,h3⟩
     ·exact .inl ⟨h1,fun y hy => by
       rcases List.mem_cons.1 hy with e | e
       ·rw [e];exact hx
       ·exact h2 y e⟩
     ·refine .inr ⟨j + 1,by simpa using hj,by rw [h1];congr 2;omega,h2,fun t ht => ?_⟩
      cases t with
      | zero => exact hx
      | succ t => exact h3 t (by omega)
/-- Where the deleting of elements stands: element m is written next, element j read. -/
def Del {α : Type} (p : α → Bool) (z : α) (xs : List α) (rows0 rows : List (List Value)) (m j : Nat) : Prop :=
 m = (stays p z xs j).length ∧ rows.length = rows0.length ∧ rows.take m = (stays p z xs j).map (rows0.getD · []) ∧ rows.drop j = rows0.drop j
theorem del_skip {α : Type} {p : α → Bool} {z : α} {xs : List α} {rows0 rows : List (List Value)} {m j : Nat} (h : Del p z xs rows0 rows m j) (hp : p (xs.getD j z) = true) : Del p z xs rows0 rows m (j + 1) := by
 obtain ⟨h1,h2,h3,h4⟩ := h
 have e := stays_succ p z xs j
 rw [if_pos hp,List.append_nil] at e
 refine ⟨by rw [e];exact h1,h2,by rw [e];exact h3,?_⟩
 rw [← List.drop_drop,← List.drop_drop,h4]
theorem del_at {α : Type} {p : α → Bool} {z : α} {xs : List α} {rows0 rows : List (List Value)} {m j : Nat} (h : Del p z xs rows0 rows m j) (hj : j < rows0.length) : rows.getD j [] = rows0.getD j [] := by
 obtain ⟨h1,h2,h3,h4⟩ := h
 have := congrArg (fun l => l[0]?) h4
 simp only [List.getElem?_drop,Nat.add_zero] at this
 rw [List.getD_eq_getElem?_getD,List.getD_eq_getElem?_getD,this]
theorem del_move {α : Type} {p : α → Bool} {z : α} {xs : List α} {rows0 rows : List (List Value)} {m j : Nat} (h : Del p z xs rows0 rows m j) (hp : p (xs.getD j z) = false) (hm : m ≤ j) (hj : j < rows0.length) : Del p z xs rows0 (rows.set m (rows0.getD j [])) (m + 1) (j + 1) := by
 obtain ⟨h1,h2,h3,h4⟩ := h
 have e := stays_succ p z xs j
 rw [if_neg (by rw [hp];simp)] at e
 refine ⟨by rw [e,List.length_append,← h1];rfl,by rw [List.length_set,h2],?_,?_⟩
 ·rw [e,List.map_append,← h3]
  rw [List.take_succ_eq_append_getElem (by rw [List.length_set];omega),List.getElem_set_self,List.take_set_of_le (Nat.le_refl _)]
  rfl
 ·rw [List.drop_set_of_lt (by omega),← List.drop_drop,← List.drop_drop,h4]
/-- The row of what stays. -/
theorem S_kept_ {α : Type} {d : Kd α} {e : Nat} {w w1 : World} {base : Nat} {ok : Nat → Prop} {g m cap : Nat} {p : α → Bool} {z : α} {xs : List α} {rows0 : List (List Value)} {f : Nat → Nat} (hg : ok g) (hl : rows0.length = xs.length)
  (hM : ∀ (j : Nat) (x : α) (c : List Value),xs[j]? = some x → rows0[j]? = some c → d.M w base (fun k => (ok k ∧ k ≠ g) ∧ f k = j) x c) (hk : ∀ k,k ≠ g → k < w.heap.size → w1.heap[k]? = w.heap[k]?)
  (hR : (Kd.raw d.sz).R e w1 base (fun _ => True) (.slice (some ⟨g,0,none⟩) m cap) ((stays p z xs xs.length).map (rows0.getD · []))) : Kd.S d e w1 base ok (.slice (some ⟨g,0,none⟩) m cap) (xs.filter fun x => !p x) := by
 have hys : (xs.filter fun x => !p x) = (stays p z xs xs.length).map (xs.getD · z) := by rw [stays_map p z xs xs.length (Nat.le_refl _),List.take_length]
 rw [hys]
 refine S_of_rows_ (fun k => posIn (stays p z xs xs.length) (f k)) (by rw [List.length_map,List.length_map]) hg hR (fun j x c hx hc => ?_)
 rw [List.getElem?_map] at hx hc
 obtain ⟨t,ht,rfl⟩ := Option.map_eq_some_iff.1 hx
 obtain ⟨t2,ht2,rfl⟩ := Option.map_eq_some_iff.1 hc
 have : t2 = t := Option.some.inj (ht2.symm.trans ht)
 subst this
 have hlt := stays_lt p z xs xs.length (List.mem_of_getElem? ht)
 have hx0 : xs[t2]? = some (xs.getD t2 z) := by rw [List.getD_eq_getElem?_getD,List.getElem?_eq_getElem hlt];rfl
 have hr0 : rows0[t2]? = some (rows0.getD t2 []) := by rw [List.getD_eq_getElem?_getD,List.getElem?_eq_getElem (by omega)];rfl
 have hm := hM t2 _ _ hx0 hr0
 exact d.M_mono (fun k hk => ⟨hk.1,by show posIn _ (f k) = j;rw [hk.2];exact posIn_at (stays_nodup p z xs _) ht⟩) (Kd.M_step hm (fun k hk2 hlt => hk k hk2.1.2 hlt))
theorem run_clear_row {P : Program} (w : World) (t e ty : TypeId) (z : Value) (ht : P.underlying t = some (.slice e)) (hv : ∀ w, (zeroValue e).run P w = .ok z w) (h1 : ∀ v ∈ z.cells.toList, v.oneCell' = true) (hz : 0 < z.cells.size) (b o n c : Nat) (hn : 0 < n)
  (hc : ∀ j,j < n * z.cells.size → (w.cell? ⟨b,o + j,none⟩).isSome = true) (hf : ∀ j,j < n * z.cells.size → w.frozen? ⟨b,o + j,none⟩ = false) :
  (Builtin.clear_ #[t] ty #[.slice (some ⟨b,o,none⟩) n c]).run P w = .ok (.tuple #[]) (w.setCells b o (Builtin.zeroCells z.cells n).toList) := by
 have hl : (Builtin.zeroCells z.cells n).toList.length = n * z.cells.size := by simp [Builtin.zeroCells]
 have hst := run_storeCells_cells (P := P) b o (Builtin.zeroCells z.cells n).toList 0 w (by rw [hl];simpa using hc) (by rw [hl];simpa using hf) (by
  intro v hv'
  simp only [Builtin.zeroCells,Array.toList_map,List.mem_map,Array.mem_toList_iff,Array.mem_range] at hv'
  obtain ⟨i,_,rfl⟩ := hv'
  have : i % z.cells.size < z.cells.size := Nat.mod_lt _ hz
  rw [getElem!_pos z.cells _ this]
  exact h1 _ (by simp))
 simp only [Nat.add_zero] at hst
 obtain ⟨m,rfl⟩ : ∃ m,n = m + 1 := ⟨n - 1,by omega⟩
 simp [Builtin.clear_,run_underlying ht,hv,hst]
theorem keep_set_ {w w1 : World} {g : Nat} (h : KeepBut w w1 g none) (j : Nat) (u : Value) : KeepBut w (w1.setCell ⟨g, j, none⟩ u) g none :=
 ⟨by simpa [World.setCell] using h.1,fun i hi hg hr => (Below.heap_setCell w1 ⟨g,j,none⟩ u i hg).trans (h.2 i hi hg hr)⟩
theorem zero_cells4_ (a b c d : Value) : ∀ n, (Builtin.zeroCells #[a, b, c, d] n).toList = (List.replicate n [a, b, c, d]).flatten
  | 0 => by simp [Builtin.zeroCells]
  | n + 1 => by
    have ih := zero_cells4_ a b c d n
    have e : (Builtin.zeroCells #[a,b,c,d] (n + 1)).toList = (Builtin.zeroCells #[a,b,c,d] n).toList ++ [a,b,c,d] := by
     simp only [Builtin.zeroCells,Array.toList_map,Array.toList_range]
     show (List.range ((n + 1) * 4)).map _ = (List.range (n * 4)).map _ ++ _
     rw [show (n + 1) * 4 = n * 4 + 4 from by omega,List.range_add,List.map_append]
     congr 1
     have h0 : (n * 4 + 0) % 4 = 0 := by omega
     have h1 : (n * 4 + 1) % 4 = 1 := by omega
     have h2 : (n * 4 + 2) % 4 = 2 := by omega
     have h3 : (n * 4 + 3) % 4 = 3 := by omega
     show [(#[a,b,c,d] : Array Value)[(n * 4 + 0) % 4]!,(#[a,b,c,d] : Array Value)[(n * 4 + 1) % 4]!,(#[a,b,c,d] : Array Value)[(n * 4 + 2) % 4]!,(#[a,b,c,d] : Array Value)[(n * 4 + 3) % 4]!] = _
     rw [h0,h1,h2,h3]
     rfl
    rw [e,ih,List.replicate_succ',List.flatten_append]
    simp
theorem blk_put_ {w : World} {g : Nat} {e : TypeId} {cur c2 : Array Value} (h : w.heap[g]? = some (.cells cur e (0, 0))) (j : Nat) (v : Value) (hj : j < cur.size) (h2 : c2 = cur.set j v hj) : (w.setCell ⟨g, j, none⟩ v).heap[g]? = some (.cells c2 e (0, 0)) := by
 subst h2
 exact blk_put (cs := cur) h j v (by simp [Array.set!,Array.setIfInBounds,hj])
theorem addr_at_ (g j : Nat) : (⟨g, 0, none⟩ : Addr).add j = ⟨g, j, none⟩ := by unfold Addr.add; split <;> simp_all
theorem addr_off_ (g o j : Nat) : (⟨g, o, none⟩ : Addr).add j = ⟨g, o + j, none⟩ := by unfold Addr.add; split <;> simp_all
/-! ### impl_Machine_clear_1: function 84 -/
set_option maxHeartbeats 8000000 in
set_option maxRecDepth 100000 in
theorem impl_Machine_clear_1.calls (a0_0 a0_1 a0_2 : Int) (A0_3 : Option Addr) (c0_3 : Nat) (l0_3 : List (S119)) (g1 g2 : Nat) (q1 q2 : Int) (w : World) (h1 : w.cell? ⟨g1, 0, none⟩ = some (.int .i64 q1)) (h2 : w.cell? ⟨g2, 0, none⟩ = some (.int .i64 q2)) :
    Calls Tryz.prog 84 (#[.agg #[.int .i64 a0_0, .int .i64 a0_1, .int .i64 a0_2, .slice A0_3 l0_3.length c0_3]] ++ #[.pointer (some ⟨g1, 0, none⟩), .pointer (some ⟨g2, 0, none⟩)]) w fun e w' => e = .returned (.bool ((a0_1 == q1) && (a0_2 == q2))) ∧ Below w.heap.size w w' := by
 have hu := Tryz.underlying50
 have l1 : g1 < w.heap.size := World.block_lt_of_cell? w _ h1
 have l2 : g2 < w.heap.size := World.block_lt_of_cell? w _ h2
 have n1 : g1 ≠ w.heap.size := Nat.ne_of_lt l1
 have n2 : g2 ≠ w.heap.size := Nat.ne_of_lt l2
 show Calls Tryz.prog 84 #[.agg #[.int .i64 a0_0,.int .i64 a0_1,.int .i64 a0_2,.slice A0_3 l0_3.length c0_3],.pointer (some ⟨g1,0,none⟩),.pointer (some ⟨g2,0,none⟩)] w _
 by_cases e1 : a0_1 = q1
 ·subst e1
  by_cases e2 : a0_2 = q2
  ·subst e2
   go_enter Tryz.func84,Tryz.ntmps84
   go_wp2
   go_ret
   exact ⟨by simp,(Below.refl _ _).alloc (Nat.le_refl _) _⟩
  ·have f2 : (a0_2 == q2) = false := by simpa using e2
   go_enter Tryz.func84,Tryz.ntmps84
   go_wp2
   go_ret
   exact ⟨by simp [e2],(Below.refl _ _).alloc (Nat.le_refl _) _⟩
 ·have f1 : (a0_1 == q1) = false := by simpa using e1
  go_enter Tryz.func84,Tryz.ntmps84
  go_wp2
  go_ret
  exact ⟨by simp [e1],(Below.refl _ _).alloc (Nat.le_refl _) _⟩

/-! ### impl_Record_116: function 116 -/
set_option maxHeartbeats 8000000 in
set_option maxRecDepth 100000 in
theorem impl_Record_116.idx (pf : S50 → Option Bool) (g : Nat) (lb : Array Value) (eg : ∀ args w, (callFunc g args).run Tryz.prog w = .ok (.enter g args) w) (A : Option Addr) (c : Nat) (l : List S50) (w : World)
  (hp : ∀ (x : S50) (A3 : Option Addr) (c3 : Nat) (b : Bool) (W : World),pf x = some b → Below w.heap.size w W → x.f3.length ≤ c3 → k119.C W A3 x.f3.length x.f3 → Calls Tryz.prog g (#[.agg #[.int .i64 x.f0,.int .i64 x.f1,.int .i64 x.f2,.slice A3 x.f3.length c3]] ++ lb) W fun e w' => e = .returned (.bool b) ∧ Below w.heap.size w w')
  (hr : Kd.C k50 w A l.length l) (hc : l.length ≤ c) (r : Int) (h : idxFrom pf l 0 = some r) :
    Calls Tryz.prog 116 #[.slice A l.length c, .func (.func g) #[] lb] w fun e w' => e = .returned (.int .i64 r) ∧ Below w.heap.size w w' := by
 have hu50 := Tryz.underlying50
 have hlen := hr.2.1
 have HR := Aside0.mk hr
 clear hr
 go_enter Tryz.func116,Tryz.ntmps116
 go_wp2
 go_loopg [5,8] l.length (fun gg s5 s8 wr => ∃ kk : Nat,kk ≤ l.length ∧ l.length - kk ≤ gg ∧ s8 = .int .i64 kk ∧ Aside0 (Below w.heap.size w wr) ∧ Aside0 (idxFrom pf (l.drop kk) kk = some r))
 case atStart => exact ⟨0,Nat.zero_le _,by omega,rfl,⟨Below.refl _ w⟩,⟨by simpa using h⟩⟩
 case round =>
  obtain ⟨kk,hkk,hg,rfl,BW,A1⟩ := hrel
  by_cases hlt : kk < l.length
  ·have hltz : (kk : Int) < (l.length : Int) := by omega
   obtain ⟨ad,A3,c3,e0,hx0,hx1,hx2,hx3,hl3,hi3⟩ := at_T50 HR.out (kk : Int) (by omega) (by omega)
   cases e0
   replace hx0 := (BW.out.cell (World.block_lt_of_cell? w _ hx0)).trans hx0
   rw [Int.toNat_natCast] at hx0
   replace hx1 := (BW.out.cell (World.block_lt_of_cell? w _ hx1)).trans hx1
   rw [Int.toNat_natCast] at hx1
   replace hx2 := (BW.out.cell (World.block_lt_of_cell? w _ hx2)).trans hx2
   rw [Int.toNat_natCast] at hx2
   replace hx3 := (BW.out.cell (World.block_lt_of_cell? w _ hx3)).trans hx3
   rw [Int.toNat_natCast] at hx3
   have ex : rd_T50 l (kk : Int) = l[kk] := by
    unfold rd_T50
    rw [Int.toNat_natCast,List.getD_eq_getElem?_getD,List.getElem?_eq_getElem hlt];rfl
   have H := A1.out
   rw [List.drop_eq_getElem_cons hlt,← ex] at H
   obtain ⟨b,hb,H2⟩ := Option.bind_eq_some_iff.1 H
   have hcall := hp _ A3 c3 b wr hb BW.out hl3 (Kd.C_below hi3 BW.out)
   have HH := Aside0.mk H2
   have EX := Aside0.mk ex
   clear H H2 ex hb A1 h
   cases b with
   | true =>
    go_wp2_with (go_at_fn g;refine hcall.mono ?_;rintro e w' ⟨rfl,hb'⟩)
    go_ret
    have e1 := HH.out
    simp only [if_true] at e1
    exact ⟨by rw [← Option.some.inj e1];rfl,hb'⟩
   | false =>
    go_wp2_with (go_at_fn g;refine hcall.mono ?_;rintro e w' ⟨rfl,hb'⟩)
    go_roundg (l.length - (kk + 1))
    case measure => omega
    case rel => exact ⟨kk + 1,by omega,by omega,by go_num,⟨hb'⟩,⟨by have e1 := HH.out;simpa using e1⟩⟩
  ·have hltz : ¬ (kk : Int) < (l.length : Int) := by omega
   have : kk = l.length := by omega
   subst this
   go_wp2
   go_ret
   have e1 := A1.out
   rw [List.drop_of_length_le (Nat.le_refl _)] at e1
   have e2 := Option.some.inj e1
   exact ⟨by rw [← e2];rfl,BW.out⟩

end Go.Proofs.YthplaakckfhaaaaGreat.XCr
