/- Proved: of each Go function here that a call comes to what the Lean function of its name tells. Written by a program of this session over the translation. No conditions beyond each theorem's own. -/
import Derived.Test.YthplaakckfhaaaaGreatXCr0
namespace Go.Proofs.YthplaakckfhaaaaGreat.XCr
open Go.RowKit Go.Proofs.YthplaakckfhaaaaGreat.Aid Go.Proofs.YthplaakckfhaaaaGreatW.PrintWords Go.Proofs.YthplaakckfhaaaaGreatW.PrintLast Go.Proofs.YthplaakckfhaaaaGreatW.PrintMore
set_option linter.unusedVariables false
set_option linter.unusedSimpArgs false

/-! ### spec_l3Has: function 30 -/
def spec_l3Has.l0 : Nat → List Int → Int → Int → Option (Bool)
  | 0, _, _, _ => none
  | k + 1, x0, x1, x5 => if x5 < (x0.length : Int) then (if 0 ≤ x5 then (if (rd x0 x5) = x1 then (some true) else (spec_l3Has.l0 k x0 x1 (wrap64 (x5 + 1)))) else (none)) else (some false)
def spec_l3Has.f (k : Nat) (l0 : List Int) (a1 : Int) : Option (Bool) := spec_l3Has.l0 k l0 a1 0

set_option maxHeartbeats 8000000 in
set_option maxRecDepth 100000 in
theorem spec_l3Has.calls (k : Nat) (A0 : Option Addr) (c0 : Nat) (l0 : List Int) (a1 : Int) (r : Bool) (w : World) (hr0 : Kd.C (Kd.int .i64) w A0 l0.length l0) (hc0 : l0.length ≤ c0) (h : spec_l3Has.f k l0 a1 = some r) :
    Calls Tryz.prog 30 #[.slice A0 l0.length c0, .int .i64 a1] w fun e w' => e = .returned (.bool r) ∧ Drawn0 w w' := by
 have HR0 := Aside0.mk hr0
 have HC0 := Aside0.mk hc0
 clear hr0 hc0
 have H : (spec_l3Has.l0 k l0 a1 0) = some r := h
 clear h
 have H' := Aside0.mk H
 clear H
 go_enter Tryz.func30,Tryz.ntmps30
 go_wp2
 go_loopg [5] k (fun kq v5 w' => ∃ (x5_1 : Int),v5 = .int .i64 x5_1 ∧ Aside0 (spec_l3Has.l0 kq l0 a1 x5_1 = some r) ∧ Aside0 (kq ≤ k) ∧ Drawn0 w w')
 case atStart => exact ⟨(0),rs_,H',⟨Nat.le_refl _⟩,by repeat (first|exact Drawn0.refl _|apply Drawn0.step)⟩
 case round =>
  clear H'
  try clear p2
  obtain ⟨x5_1,rfl,HA,HK1,⟨m1,rfl⟩⟩ := hrel
  cases gk with
    | zero => exact absurd HA.out (by simp [spec_l3Has.l0])
    | succ k1 =>
   have H := HA.out
   clear HA
   simp only [spec_l3Has.l0] at H
   by_cases c3 : x5_1 < (l0.length : Int)
   ·rw [if_pos c3] at H
    have c3b0 : decide (x5_1 < (l0.length : Int)) = true := decide_eq_true c3
    clear c3
    by_cases c4 : 0 ≤ x5_1
    ·rw [if_pos c4] at H
     have c4b0 : decide (0 ≤ x5_1) = true := decide_eq_true c4
     clear c4
     by_cases c5 : (rd l0 x5_1) = a1
     ·rw [if_pos c5] at H
      have c5b0 : ((rd l0 x5_1) == a1) = true := beq_iff_eq.mpr c5
      have c5b1 : ((rd l0 x5_1) != a1) = false := bne_eq_false_iff_eq.mpr c5
      clear c5
      obtain rfl := Option.some.inj H
      have p155 : 0 ≤ (x5_1 : Int) := od_
      have q155 : x5_1 < (l0.length : Int) := od_
      obtain ⟨ad155,e155,hx155_0⟩ := Kd.at_int HR0.out x5_1 p155 q155
      cases e155
      replace p155 := eq_true p155
      replace q155 := eq_true q155
      go_wp2
      go_ret
      exact ⟨rs_,by repeat (first|exact Drawn0.refl _|apply Drawn0.step)⟩
     ·rw [if_neg c5] at H
      have c5b0 : ((rd l0 x5_1) == a1) = false := beq_eq_false_iff_ne.mpr c5
      have c5b1 : ((rd l0 x5_1) != a1) = true := bne_iff_ne.mpr c5
      have H' := Aside0.mk H
      clear H
      have p155 : 0 ≤ (x5_1 : Int) := od_
      have q155 : x5_1 < (l0.length : Int) := od_
      obtain ⟨ad155,e155,hx155_0⟩ := Kd.at_int HR0.out x5_1 p155 q155
      cases e155
      replace p155 := eq_true p155
      replace q155 := eq_true q155
      go_wp2
      go_roundg k1
      case measure => have := HK1.out;omega
      case rel => exact ⟨(wrap64 (x5_1 + 1)),rs_,H',⟨by have := HK1.out;omega⟩,by repeat (first|exact Drawn0.refl _|apply Drawn0.step)⟩
    ·rw [if_neg c4] at H
     exact absurd H (by simp)
   ·rw [if_neg c3] at H
    have c3b0 : decide (x5_1 < (l0.length : Int)) = false := decide_eq_false c3
    clear c3
    obtain rfl := Option.some.inj H
    go_wp2
    go_ret
    exact ⟨rs_,by repeat (first|exact Drawn0.refl _|apply Drawn0.step)⟩

/-! ### spec_l3Copy: function 60 -/
def spec_l3Copy.f (l0 : List (S87)) : Option ((List (S87))) := (some (([] : List (S87)) : List (S87))).bind fun y156 => (if y156.length + l0.length < 8796093022208 then (some (y156 ++ l0)) else (none))
set_option maxHeartbeats 8000000 in
set_option maxRecDepth 100000 in
theorem spec_l3Copy.calls (A0 : Option Addr) (c0 : Nat) (l0 : List (S87)) (r : List (S87)) (w : World) (hr0 : Kd.C k87 w A0 l0.length l0) (hc0 : l0.length ≤ c0) (h : spec_l3Copy.f l0 = some r) :
    Calls Tryz.prog 60 #[.slice A0 l0.length c0] w fun e w' => ∃ v0_ : Value, e = .returned (v0_) ∧ Kd.R k87 87 w' w.heap.size (fun _ => True) v0_ r ∧ Below w.heap.size w w' := by
 have HR0 := Aside0.mk hr0
 have HC0 := Aside0.mk hc0
 clear hr0 hc0
 have HB := Aside0.mk (Below.refl w.heap.size w)
 have H : ((some (([] : List (S87)) : List (S87))).bind fun y156 => (if y156.length + l0.length < 8796093022208 then (some (y156 ++ l0)) else (none))) = some r := h
 clear h
 obtain ⟨y156,hy156⟩ : ∃ y_ : List (S87),y_ = (([] : List (S87))) := ⟨_,rfl⟩
 replace H : (if y156.length + l0.length < 8796093022208 then (some (y156 ++ l0)) else (none)) = some r := by first|(rw [hy156];with_reducible exact H)|(have H2_ := (Option.bind_some _ _).symm.trans H;rw [hy156];with_reducible exact H2_)|(have H2_ := (Option.bind_some _ _).symm.trans H;with_reducible exact H2_)|with_reducible exact H|(rw [hy156];exact H)|exact H
 have Ny156 := Aside0.mk hy156
 clear hy156
 by_cases c2 : y156.length + l0.length < 8796093022208
 ·rw [if_pos c2] at H
  have LMc2 := Aside0.mk c2
  clear c2
  obtain ⟨y159,hy159⟩ : ∃ y_ : List (S87),y_ = (y156 ++ l0) := ⟨_,rfl⟩
  replace H : (some y159) = some r := by first|(rw [hy159];with_reducible exact H)|(have H2_ := (Option.bind_some _ _).symm.trans H;rw [hy159];with_reducible exact H2_)|(have H2_ := (Option.bind_some _ _).symm.trans H;with_reducible exact H2_)|with_reducible exact H|(rw [hy159];exact H)|exact H
  have Ny159 := Aside0.mk hy159
  clear hy159
  obtain rfl := Option.some.inj H
  go_enter Tryz.func60,Tryz.ntmps60
  go_wp2_with (first|((with_reducible refine gate_dst (N := 3) rfl ?_);refine Kd.R_lit k87 _ 87 ?hg (N := 3) ?hd (xs := ([] : List (S87))) (inner := []) (ok := fun _ => True) (okp := fun _ => True) ?hr ?hp (fun _ hk => hk) trivial (Below.refl _ _) (Nat.le_refl _) (by simp) ?_;(case hd => rfl);(case hg => rfl);(case hr => first|(go_simp;done)|(go_simp;rfl));(case hp => exact (Reps.none _ _));intro v157 w3 ho4 hb hg_ hnew_;clear hg_ hnew_;(first|rw [← Ny156.out] at ho4|(simp only [Int.reduceToNat] at ho4;rw [← Ny156.out] at ho4));have HO158 := Aside0.mk (Kd.R_lower ho4 (below_size b_));replace HB := Aside0.mk (below_step b_ hb);clear hb ho4)|((with_reducible refine gblt_ (b := .append) (xs := #[.tmp 3,.tmp 4]) rfl ?_);at_builtin;refine Kd.R_append_rows k87 (w0 := w) w.heap.size rfl (.tmp 3) (.tmp 4) 40 87 (.agg #[(.int .i64 0),(.int .i64 0)]) 16 rfl Tryz.underlying40 info87 rfl (by decide) (by omega) v157 y156 l0 _ _ _ (fun _ => True) (fun _ => False) rfl rfl ?aO ?aR (fun _ _ h => h) (fun _ h => h.elim) ?aF ?aB ?aS ?aL ?_;(case aR => repeat (first|exact (Kd.C_below HR0.out HB.out)|(with_reducible refine Kd.C_alloc ?_ _)|(with_reducible refine Kd.C_drewN ?_ _)|(with_reducible refine Kd.C_drew ?_)));(case aB => exact b_);(case aF => exact (fun _ _ => trivial));(case aO => exact (by (with_reducible repeat (first|apply Kd.R_alloc|apply Kd.R_drewN|apply Kd.R_drew));exact HO158.out));(case aS => exact (below_size b_));(case aL => have := LMc2.out;omega);intro v160 w5 ho hb hg hat;rw [← Ny159.out] at ho;replace HB := Aside0.mk (hb);have HO161 := Aside0.mk (ho);clear HO158;clear ho hb hg hat))
  go_ret
  exact ⟨_,rf_,by (with_reducible repeat (first|apply Kd.R_alloc|apply Kd.R_drewN|apply Kd.R_drew));exact HO161.out,b_⟩
 ·rw [if_neg c2] at H
  exact absurd H (by simp)

/-! ### spec_l6Record: function 68 -/
def spec_l6Record.f (a0_0 : Int) (a0_1 : Int) (a0_2 : Int) (l0_3 : List (S119)) : Option (Int × Int × Int × (List (S119))) := (some (([] : List (S119)) : List (S119))).bind fun y164 => (if y164.length + l0_3.length < 3518437208883 then (some (a0_0, a0_1, a0_2, (y164 ++ l0_3))) else (none))
set_option maxHeartbeats 8000000 in
set_option maxRecDepth 100000 in
theorem spec_l6Record.calls (a0_0 : Int) (a0_1 : Int) (a0_2 : Int) (A0_3 : Option Addr) (c0_3 : Nat) (l0_3 : List (S119)) (r1 : Int) (r2 : Int) (r3 : Int) (r4 : List (S119)) (w : World) (hr0_3 : Kd.C k119 w A0_3 l0_3.length l0_3) (hc0_3 : l0_3.length ≤ c0_3) (h : spec_l6Record.f a0_0 a0_1 a0_2 l0_3 = some (r1, r2, r3, r4)) :
    Calls Tryz.prog 68 #[.agg #[.int .i64 a0_0, .int .i64 a0_1, .int .i64 a0_2, .slice A0_3 l0_3.length c0_3]] w fun e w' => ∃ v3_ : Value, e = .returned (.agg #[.int .i64 r1, .int .i64 r2, .int .i64 r3, v3_]) ∧ Kd.R k119 119 w' w.heap.size (fun _ => True) v3_ r4 ∧ Below w.heap.size w w' := by
 have hu50 := Tryz.underlying50
 have HR0_3 := Aside0.mk hr0_3
 have HC0_3 := Aside0.mk hc0_3
 clear hr0_3 hc0_3
 have HB := Aside0.mk (Below.refl w.heap.size w)
 have H : ((some (([] : List (S119)) : List (S119))).bind fun y164 => (if y164.length + l0_3.length < 3518437208883 then (some (a0_0,a0_1,a0_2,(y164 ++ l0_3))) else (none))) = some (r1,r2,r3,r4) := h
 clear h
 obtain ⟨y164,hy164⟩ : ∃ y_ : List (S119),y_ = (([] : List (S119))) := ⟨_,rfl⟩
 replace H : (if y164.length + l0_3.length < 3518437208883 then (some (a0_0,a0_1,a0_2,(y164 ++ l0_3))) else (none)) = some (r1,r2,r3,r4) := by first|(rw [hy164];with_reducible exact H)|(have H2_ := (Option.bind_some _ _).symm.trans H;rw [hy164];with_reducible exact H2_)|(have H2_ := (Option.bind_some _ _).symm.trans H;with_reducible exact H2_)|with_reducible exact H|(rw [hy164];exact H)|exact H
 have Ny164 := Aside0.mk hy164
 clear hy164
 by_cases c2 : y164.length + l0_3.length < 3518437208883
 ·rw [if_pos c2] at H
  have LMc2 := Aside0.mk c2
  clear c2
  obtain ⟨y167,hy167⟩ : ∃ y_ : List (S119),y_ = (y164 ++ l0_3) := ⟨_,rfl⟩
  replace H : (some (a0_0,a0_1,a0_2,y167)) = some (r1,r2,r3,r4) := by first|(rw [hy167];with_reducible exact H)|(have H2_ := (Option.bind_some _ _).symm.trans H;rw [hy167];with_reducible exact H2_)|(have H2_ := (Option.bind_some _ _).symm.trans H;with_reducible exact H2_)|with_reducible exact H|(rw [hy167];exact H)|exact H
  have Ny167 := Aside0.mk hy167
  clear hy167
  simp only [Option.some.injEq,Prod.mk.injEq] at H
  obtain ⟨rfl,rfl,rfl,rfl⟩ := H
  go_enter Tryz.func68,Tryz.ntmps68
  go_wp2_with (first|((with_reducible refine gate_dst (N := 1) rfl ?_);refine bx_ 1 #[.int .i64 a0_0,.int .i64 a0_1,.int .i64 a0_2,.slice A0_3 l0_3.length c0_3] 50 ?_;intro gb162 hg w3 hbox hb;replace HB := nb_ hg hbox hb;obtain ⟨BK162,GW162,GE162,HB⟩ := HB;clear hb hbox hg)|((with_reducible refine gate_dst (N := 2) rfl ?_);refine bx_ 2 #[.int .i64 0,.int .i64 0,.int .i64 0,.slice none 0 0] 50 ?_;intro gb163 hg w4 hbox hb;replace HB := nb_ hg hbox hb;obtain ⟨BK163,GW163,GE163,HB⟩ := HB;have NB162_163 := Aside0.mk ((nl_ BK162 hg));have NB163_162 := Aside0.mk ((ng_ BK162 hg));replace BK162 := Aside0.mk (blk_below (kb_ BK162) hb);clear hb hbox hg)|((with_reducible refine gate_dst (N := 3) rfl ?_);refine Kd.R_lit k119 _ 119 ?hg (N := 3) ?hd (xs := ([] : List (S119))) (inner := []) (ok := fun _ => True) (okp := fun _ => True) ?hr ?hp (fun _ hk => hk) trivial (Below.refl _ _) (Nat.le_refl _) (by simp) ?_;(case hd => rfl);(case hg => rfl);(case hr => first|(go_simp;done)|(go_simp;rfl));(case hp => exact (Reps.none _ _));intro v165 w5 ho6 hb hg_ hnew_;clear hg_ hnew_;(first|rw [← Ny164.out] at ho6|(simp only [Int.reduceToNat] at ho6;rw [← Ny164.out] at ho6));replace BK162 := Aside0.mk (blk_below (kb_ BK162) hb);replace BK163 := Aside0.mk (blk_below (kb_ BK163) hb);have HO166 := Aside0.mk (Kd.R_lower ho6 (below_size b_));replace HB := Aside0.mk (below_step b_ hb);clear hb ho6;have hnb7 := NB162_163.out;have hnc7 := NB163_162.out;obtain ⟨⟨hcz8_0,hcz8_1,hcz8_2,hcz8_3⟩,hfz8_0,hfz8_1,hfz8_2,hfz8_3⟩ := cl4_ BK162.out)|((with_reducible refine gblt_ (b := .append) (xs := #[.tmp 3,.tmp 5]) rfl ?_);at_builtin;refine Kd.R_append_rows k119 (w0 := w) w.heap.size rfl (.tmp 3) (.tmp 5) 48 119 (.agg #[(.int .i64 0),(.int .i64 0),(.int .i64 0),(.bool false),(.int .i64 0)]) 40 rfl Tryz.underlying48 info119 rfl (by decide) (by omega) v165 y164 l0_3 _ _ _ (fun _ => True) (fun _ => False) rfl rfl ?aO ?aR (fun _ _ h => h) (fun _ h => h.elim) ?aF ?aB ?aS ?aL ?_;(case aR => repeat (first|exact (Kd.C_below HR0_3.out HB.out)|(with_reducible refine Kd.C_alloc ?_ _)|(with_reducible refine Kd.C_drewN ?_ _)|(with_reducible refine Kd.C_drew ?_)));(case aB => exact b_);(case aF => exact (fun _ _ => trivial));(case aO => exact (by (with_reducible repeat (first|apply Kd.R_alloc|apply Kd.R_drewN|apply Kd.R_drew));exact HO166.out));(case aS => exact (below_size b_));(case aL => have := LMc2.out;omega);intro v168 w9 ho hb hg hat;rw [← Ny167.out] at ho;replace BK162 := Aside0.mk (blk_grown (kb_ BK162) hg (Kd.R_ne HO166.out BK162.out (by decide)));replace BK163 := Aside0.mk (blk_grown (kb_ BK163) hg (Kd.R_ne HO166.out BK163.out (by decide)));replace HB := Aside0.mk (hb);have HO169 := Aside0.mk (ho);clear HO166;clear ho hb hg hat;obtain ⟨Ao10,co10,eo10⟩ := Kd.R_slice HO169.out;subst eo10;obtain ⟨⟨hcz11_0,hcz11_1,hcz11_2,hcz11_3⟩,hfz11_0,hfz11_1,hfz11_2,hfz11_3⟩ := cl4_ BK162.out;obtain ⟨⟨hcz12_0,hcz12_1,hcz12_2,hcz12_3⟩,hfz12_0,hfz12_1,hfz12_2,hfz12_3⟩ := cl4_ BK163.out))
  refine bodyPost_ret (results_cell_row rfl _ _ gb163 50 #[.int .i64 a0_0,.int .i64 a0_1,.int .i64 a0_2,.slice Ao10 y167.length co10] (0,0) _ rfl (by (with_reducible repeat (first|refine blk_drewN ?_ _|refine blk_drew ?_|refine blk_alloc ?_ _));refine blk_put (cs := #[.int .i64 a0_0,.int .i64 a0_1,.int .i64 a0_2,.slice none 0 0]) ?_ 3 _ rfl;(with_reducible repeat (first|refine blk_drewN ?_ _|refine blk_drew ?_|refine blk_alloc ?_ _));refine blk_put (cs := #[.int .i64 a0_0,.int .i64 a0_1,.int .i64 0,.slice none 0 0]) ?_ 2 _ rfl;(with_reducible repeat (first|refine blk_drewN ?_ _|refine blk_drew ?_|refine blk_alloc ?_ _));refine blk_put (cs := #[.int .i64 a0_0,.int .i64 0,.int .i64 0,.slice none 0 0]) ?_ 1 _ rfl;(with_reducible repeat (first|refine blk_drewN ?_ _|refine blk_drew ?_|refine blk_alloc ?_ _));refine blk_put (cs := #[.int .i64 0,.int .i64 0,.int .i64 0,.slice none 0 0]) ?_ 0 _ rfl;(with_reducible repeat (first|refine blk_drewN ?_ _|refine blk_drew ?_|refine blk_alloc ?_ _));refine blk_far ?_ NB163_162.out _;(with_reducible repeat (first|refine blk_drewN ?_ _|refine blk_drew ?_|refine blk_alloc ?_ _));exact BK163.out) Tryz.underlying50 rfl (by kernel_rfl)) rfl ?_
  exact ⟨_,rf_,by (with_reducible repeat (first|apply Kd.R_alloc|apply Kd.R_drewN|apply Kd.R_drew));exact Kd.R_mono (Kd.R_far (p := ⟨gb163,3,none⟩) (Kd.R_far (p := ⟨gb163,2,none⟩) (Kd.R_far (p := ⟨gb163,1,none⟩) (Kd.R_far (p := ⟨gb163,0,none⟩) (Kd.R_far (p := ⟨gb162,3,none⟩) (Kd.R_types (Kd.R_types HO169.out BK162.out (by decide)) BK163.out (by decide)) (fun _ hk => hk.1.2) (.slice Ao10 y167.length co10)) (fun _ hk => hk.2) (.int .i64 a0_0)) (fun _ hk => hk.2) (.int .i64 a0_1)) (fun _ hk => hk.2) (.int .i64 a0_2)) (fun _ hk => hk.2) (.slice Ao10 y167.length co10)) (fun _ hk => trivial),b_⟩
 ·rw [if_neg c2] at H
  exact absurd H (by simp)

end Go.Proofs.YthplaakckfhaaaaGreat.XCr
