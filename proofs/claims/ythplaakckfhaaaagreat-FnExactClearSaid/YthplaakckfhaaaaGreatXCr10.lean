/- Proved: of each Go function here that a call comes to what the Lean function of its name tells. Written by a program of this session over the translation. No conditions beyond each theorem's own. -/
import Derived.Test.YthplaakckfhaaaaGreatXCr0
namespace Go.Proofs.YthplaakckfhaaaaGreat.XCr
open Go.RowKit Go.Proofs.YthplaakckfhaaaaGreat.Aid Go.Proofs.YthplaakckfhaaaaGreatW.PrintWords Go.Proofs.YthplaakckfhaaaaGreatW.PrintLast Go.Proofs.YthplaakckfhaaaaGreatW.PrintMore
set_option linter.unusedVariables false
set_option linter.unusedSimpArgs false

/-! ### laws_toCell: function 143 -/
def laws_toCell.f (a0_0 : Int) (a0_1 : Int) : Option (Int × Int) := some (a0_0, a0_1)
set_option maxHeartbeats 8000000 in
set_option maxRecDepth 100000 in
theorem laws_toCell.calls (a0_0 : Int) (a0_1 : Int) (r1 : Int) (r2 : Int) (w : World) (h : laws_toCell.f a0_0 a0_1 = some (r1, r2)) :
    Calls Tryz.prog 143 #[.agg #[.int .i64 a0_0, .int .i64 a0_1]] w fun e w' => e = .returned (.agg #[.int .i64 r1, .int .i64 r2]) ∧ Below w.heap.size w w' := by
 have hu151 := Tryz.underlying151
 have hu87 := Tryz.underlying87
 have HB := Aside0.mk (Below.refl w.heap.size w)
 have H : (some (a0_0,a0_1)) = some (r1,r2) := h
 clear h
 simp only [Option.some.injEq,Prod.mk.injEq] at H
 obtain ⟨rfl,rfl⟩ := H
 go_enter Tryz.func143,Tryz.ntmps143
 go_wp2_with (first|((with_reducible refine gate_dst (N := 1) rfl ?_);refine bx_ 1 #[.int .i64 a0_0,.int .i64 a0_1] 151 ?_;intro gb226 hg w2 hbox hb;replace HB := nb_ hg hbox hb;obtain ⟨BK226,GW226,GE226,HB⟩ := HB;clear hb hbox hg)|((with_reducible refine gate_dst (N := 2) rfl ?_);refine bx_ 2 #[.int .i64 0,.int .i64 0] 87 ?_;intro gb227 hg w3 hbox hb;replace HB := nb_ hg hbox hb;obtain ⟨BK227,GW227,GE227,HB⟩ := HB;have NB226_227 := Aside0.mk ((nl_ BK226 hg));have NB227_226 := Aside0.mk ((ng_ BK226 hg));replace BK226 := Aside0.mk (blk_below (kb_ BK226) hb);clear hb hbox hg)|((with_reducible refine gate_dst (N := 3) rfl ?_);refine bx_ 3 #[.int .i64 0,.int .i64 0] 87 ?_;intro gb228 hg w4 hbox hb;replace HB := nb_ hg hbox hb;obtain ⟨BK228,GW228,GE228,HB⟩ := HB;have NB226_228 := Aside0.mk ((nl_ BK226 hg));have NB228_226 := Aside0.mk ((ng_ BK226 hg));replace BK226 := Aside0.mk (blk_below (kb_ BK226) hb);have NB227_228 := Aside0.mk ((nl_ BK227 hg));have NB228_227 := Aside0.mk ((ng_ BK227 hg));replace BK227 := Aside0.mk (blk_below (kb_ BK227) hb);clear hb hbox hg;have hnb5 := NB226_227.out;have hnc5 := NB227_226.out;have hnb6 := NB226_228.out;have hnc6 := NB228_226.out;obtain ⟨⟨hcz7_0,hcz7_1⟩,hfz7_0,hfz7_1⟩ := cl2_ BK226.out;have hnb8 := NB228_227.out;have hnc8 := NB227_228.out;obtain ⟨⟨hcz9_0,hcz9_1⟩,hfz9_0,hfz9_1⟩ := cl2_ BK228.out;obtain ⟨⟨hcz10_0,hcz10_1⟩,hfz10_0,hfz10_1⟩ := cl2_ BK227.out))
 refine bodyPost_ret (results_cell_row rfl _ _ gb227 87 #[.int .i64 a0_0,.int .i64 a0_1] (0,0) _ rfl (by (with_reducible repeat (first|refine blk_drewN ?_ _|refine blk_drew ?_|refine blk_alloc ?_ _));refine blk_put (cs := #[.int .i64 a0_0,.int .i64 0]) ?_ 1 _ rfl;(with_reducible repeat (first|refine blk_drewN ?_ _|refine blk_drew ?_|refine blk_alloc ?_ _));refine blk_put (cs := #[.int .i64 0,.int .i64 0]) ?_ 0 _ rfl;(with_reducible repeat (first|refine blk_drewN ?_ _|refine blk_drew ?_|refine blk_alloc ?_ _));refine blk_far ?_ NB227_228.out _;(with_reducible repeat (first|refine blk_drewN ?_ _|refine blk_drew ?_|refine blk_alloc ?_ _));refine blk_far ?_ NB227_228.out _;(with_reducible repeat (first|refine blk_drewN ?_ _|refine blk_drew ?_|refine blk_alloc ?_ _));exact BK227.out) Tryz.underlying87 rfl (by kernel_rfl)) rfl ?_
 exact ⟨rf_,b_⟩

/-! ### laws_toCellS: function 121 -/
def laws_toCellS.l0 : Nat → List (S151) → List (S87) → Int → Option ((List (S87)))
  | 0, _, _, _ => none
  | k + 1, x0, x3, x4 => if x4 < (x0.length : Int) then (if 0 ≤ x4 then ((laws_toCell.f ((rd_T151 x0 x4).f0) ((rd_T151 x0 x4).f1)).bind fun bt233 => (if x4 < (x3.length : Int) then (laws_toCellS.l0 k x0 (x3.set (x4 : Int).toNat (⟨bt233.1, bt233.2⟩ : S87)) (wrap64 (x4 + 1))) else (none))) else (none)) else (some x3)
def laws_toCellS.f (k : Nat) (l0 : List (S151)) : Option ((List (S87))) := if 0 ≤ (l0.length : Int) then (if ((l0.length : Int) : Int).toNat ≤ 17592186044416 then (laws_toCellS.l0 k l0 (List.replicate ((l0.length : Int) : Int).toNat z87) 0) else (none)) else (none)

set_option maxHeartbeats 8000000 in
set_option maxRecDepth 100000 in
theorem laws_toCellS.calls (k : Nat) (A0 : Option Addr) (c0 : Nat) (l0 : List (S151)) (r : List (S87)) (w : World) (hr0 : Kd.C k151 w A0 l0.length l0) (hc0 : l0.length ≤ c0) (h : laws_toCellS.f k l0 = some r) :
    Calls Tryz.prog 121 #[.slice A0 l0.length c0] w fun e w' => ∃ v0_ : Value, e = .returned (v0_) ∧ Kd.R k87 87 w' w.heap.size (fun _ => True) v0_ r ∧ Below w.heap.size w w' := by
 have hu151 := Tryz.underlying151
 have hu87 := Tryz.underlying87
 have HR0 := Aside0.mk hr0
 have HC0 := Aside0.mk hc0
 clear hr0 hc0
 have HB := Aside0.mk (Below.refl w.heap.size w)
 have H : (if 0 ≤ (l0.length : Int) then (if ((l0.length : Int) : Int).toNat ≤ 17592186044416 then (laws_toCellS.l0 k l0 (List.replicate ((l0.length : Int) : Int).toNat z87) 0) else (none)) else (none)) = some r := h
 clear h
 by_cases c2 : 0 ≤ (l0.length : Int)
 ·rw [if_pos c2] at H
  have c2b0 := eq_true c2
  have c2b1 : decide (0 ≤ (l0.length : Int)) = true := decide_eq_true c2
  clear c2
  by_cases c3 : ((l0.length : Int) : Int).toNat ≤ 17592186044416
  ·rw [if_pos c3] at H
   have c3b0 := eq_true c3
   have c3b1 : decide (((l0.length : Int) : Int).toNat ≤ 17592186044416) = true := decide_eq_true c3
   clear c3
   obtain ⟨y229,hy229⟩ : ∃ y_ : List (S87),y_ = (List.replicate ((l0.length : Int) : Int).toNat z87) := ⟨_,rfl⟩
   replace H : (laws_toCellS.l0 k l0 y229 0) = some r := by first|(rw [hy229];with_reducible exact H)|(have H2_ := (Option.bind_some _ _).symm.trans H;rw [hy229];with_reducible exact H2_)|(have H2_ := (Option.bind_some _ _).symm.trans H;with_reducible exact H2_)|with_reducible exact H|(rw [hy229];exact H)|exact H
   have Ny229 := Aside0.mk hy229
   clear hy229
   have H' := Aside0.mk H
   clear H
   go_enter Tryz.func121,Tryz.ntmps121
   go_wp2_with (first|((with_reducible refine gate_dst (N := 7) rfl ?_);refine Kd.R_make k87 _ 87 rfl (N := 7) rfl 40 _ _ rfl (l0.length : Int) rfl rfl Tryz.underlying40 (.agg #[(.int .i64 0),(.int .i64 0)]) 16 info87 rfl (by decide) (by omega) z87 (ok := fun _ => True) (okp := fun _ => True) (k87_mkM _ _ _ z87 ) (fun _ hk => hk) trivial (od_) (Nat.le_trans (Nat.mul_le_mul_right _ (od_ : (l0.length : Int).toNat ≤ 17592186044416)) (by omega)) (Below.refl _ _) (Nat.le_refl _) ?_;intro v230 w4 ho5 hb hg_ hnew_;clear hg_ hnew_;(first|rw [← Ny229.out] at ho5|(simp only [Int.reduceToNat] at ho5;rw [← Ny229.out] at ho5));have HO231 := Aside0.mk (Kd.R_lower ho5 (below_size b_));replace HB := Aside0.mk (below_step b_ hb);clear hb ho5))
   go_loopg [4] k (fun kq v4 w' => ∃ (x3_1 : List (S87)) (x4_1 : Int),v4 = .int .i64 x4_1 ∧ Aside0 (laws_toCellS.l0 kq l0 x3_1 x4_1 = some r) ∧ Aside0 (kq ≤ k) ∧ Aside0 (Kd.R k87 87 w' w.heap.size (fun _ => True) v230 x3_1) ∧ Aside0 (Below w.heap.size w w'))
   case atStart => exact ⟨(y229),(0),rs_,H',⟨Nat.le_refl _⟩,⟨by (with_reducible repeat (first|apply Kd.R_alloc|apply Kd.R_drewN|apply Kd.R_drew));exact HO231.out⟩,⟨b_⟩⟩
   case round =>
    clear H'
    try clear c1
    try clear c2
    try clear c2b0
    try clear c2b1
    try clear p2
    try clear c3
    try clear c3b0
    try clear c3b1
    obtain ⟨x3_1,x4_1,rfl,HA,HK1,HO_3,HB⟩ := hrel
    cases gk with
    | zero => exact absurd HA.out (by simp [laws_toCellS.l0])
    | succ k1 =>
     have H := HA.out
     clear HA
     simp only [laws_toCellS.l0] at H
     by_cases c6 : x4_1 < (l0.length : Int)
     ·rw [if_pos c6] at H
      have c6b0 : decide (x4_1 < (l0.length : Int)) = true := decide_eq_true c6
      clear c6
      by_cases c7 : 0 ≤ x4_1
      ·rw [if_pos c7] at H
       have c7b0 : decide (0 ≤ x4_1) = true := decide_eq_true c7
       clear c7
       replace H := Option.bind_eq_some_iff.mp H
       obtain ⟨⟨t233,t234⟩,A80,H⟩ := H
       replace H : (if x4_1 < (x3_1.length : Int) then (laws_toCellS.l0 k1 l0 (x3_1.set (x4_1 : Int).toNat (⟨t233,t234⟩ : S87)) (wrap64 (x4_1 + 1))) else (none)) = some r := H
       have A8 := Aside0.mk A80
       clear A80
       by_cases c9 : x4_1 < (x3_1.length : Int)
       ·rw [if_pos c9] at H
        have c9b0 : decide (x4_1 < (x3_1.length : Int)) = true := decide_eq_true c9
        clear c9
        obtain ⟨y235,hy235⟩ : ∃ y_ : List (S87),y_ = (x3_1.set (x4_1 : Int).toNat (⟨t233,t234⟩ : S87)) := ⟨_,rfl⟩
        replace H : (laws_toCellS.l0 k1 l0 y235 (wrap64 (x4_1 + 1))) = some r := by first|(rw [hy235];with_reducible exact H)|(have H2_ := (Option.bind_some _ _).symm.trans H;rw [hy235];with_reducible exact H2_)|(have H2_ := (Option.bind_some _ _).symm.trans H;with_reducible exact H2_)|with_reducible exact H|(rw [hy235];exact H)|exact H
        have Ny235 := Aside0.mk hy235
        clear hy235
        have H' := Aside0.mk H
        clear H
        have p232 : 0 ≤ (x4_1 : Int) := od_
        have q232 : x4_1 < (l0.length : Int) := od_
        obtain ⟨ad232,e232,hx232_0,hx232_1⟩ := at_T151 HR0.out x4_1 p232 q232
        cases e232
        replace hx232_0 := hx_ HB hx232_0
        replace hx232_1 := hx_ HB hx232_1
        replace p232 := eq_true p232
        replace q232 := eq_true q232
        go_wp2_with (first|((with_reducible refine gcal_ (f := 143) rfl ?_);refine gl_ (some 20) Tryz.func143 #[.agg #[.int .i64 ((rd_T151 l0 x4_1).f0),.int .i64 ((rd_T151 l0 x4_1).f1)]] ?_;(with_reducible refine (laws_toCell.calls ((rd_T151 l0 x4_1).f0) ((rd_T151 l0 x4_1).f1) t233 t234 _ A8.out).mono ?_);rintro e w11 ⟨rfl,hb⟩;refine ⟨_,rfl,?_⟩;replace HO_3 := Aside0.mk (Kd.R_below (by (with_reducible repeat (first|apply Kd.R_alloc|apply Kd.R_drewN|apply Kd.R_drew));exact HO_3.out) hb);replace HB := Aside0.mk (below_step b_ hb);(try clear hb);(try clear hb2);(try clear hk);(try clear hi);have p10 : 0 ≤ (x4_1 : Int) := od_;have q10 : (x4_1 : Int) < ((x3_1.length : Int) : Int) := od_;obtain ⟨go10,co10,eo10,gb10,gl10,cl10,HG10⟩ := Kd.R_form HO_3.out (by omega);(first|cases eo10|(injection eo10 with ea_ en_ ec_;(first|subst ea_|(injection ea_ with ea_;subst ea_));subst ec_;clear en_));have GB10 := Aside0.mk gb10;have GG10 := Aside0.mk HG10;clear gb10 gl10 HG10;obtain ⟨ce10,hcl10,hM10,hcc10,hfr10⟩ := Kd.R_elem HO_3.out z87 (x4_1 : Int) p10 q10;obtain rfl := k87_openM hM10;have hx10_0 : w11.cell? ⟨go10,(x4_1 : Int).toNat * 2,none⟩ = some (.int .i64 ((rd_T87 x3_1 x4_1).f0)) := hcc10 0 _ rfl;have hx10_1 : w11.cell? ⟨go10,(x4_1 : Int).toNat * 2 + 1,none⟩ = some (.int .i64 ((rd_T87 x3_1 x4_1).f1)) := hcc10 1 _ rfl;have hf10_0 : w11.frozen? ⟨go10,(x4_1 : Int).toNat * 2,none⟩ = false := hfr10 0;have hf10_1 : w11.frozen? ⟨go10,(x4_1 : Int).toNat * 2 + 1,none⟩ = false := hfr10 1;clear hcl10 hcc10 hfr10 hM10;replace p10 := eq_true p10;replace q10 := eq_true q10;have HX12 := Aside0.mk (show Kd.R k87 87 w11 w.heap.size (fun _ => True) (.slice (some ⟨go10,0,none⟩) x3_1.length co10) x3_1 from (by (with_reducible repeat (first|apply Kd.R_alloc|apply Kd.R_drewN|apply Kd.R_drew));exact HO_3.out));obtain ⟨ce12,hcl12,hM12,hcc12,hfr12⟩ := Kd.R_elem HX12.out z87 (x4_1 : Int) (od_) (by have h_ : (x4_1 : Int) < ((x3_1.length : Int) : Int) := od_;first|exact h_|(have e_ := (Kd.R_reads' HO_3.out).1;omega)|simpa using h_);obtain rfl := k87_openM hM12;have HP12 := Kd.R_seg HX12.out (x4_1 : Int) (od_) (by have h_ : (x4_1 : Int) < ((x3_1.length : Int) : Int) := od_;first|exact h_|(have e_ := (Kd.R_reads' HO_3.out).1;omega)|simpa using h_) (seg := [.int .i64 t233,.int .i64 t234]) (j := 0) hcl12 hcc12 (show 2 ≤ 2 from by decide) (x' := (⟨t233,t234⟩ : S87)) (k87_mkM _ _ _ (⟨t233,t234⟩ : S87) ) (fun _ hk => hk);have hx12_0 := hcc12 0 _ rfl;(try simp only [show (k87).sz = 2 from rfl,Nat.mul_one,Nat.add_zero] at hx12_0);have hf12_0 := hfr12 0;(try simp only [show (k87).sz = 2 from rfl,Nat.mul_one,Nat.add_zero] at hf12_0);have hx12_1 := hcc12 1 _ rfl;(try simp only [show (k87).sz = 2 from rfl,Nat.mul_one,Nat.add_zero] at hx12_1);have hf12_1 := hfr12 1;(try simp only [show (k87).sz = 2 from rfl,Nat.mul_one,Nat.add_zero] at hf12_1);clear hcl12 hcc12 hfr12 hM12)|((with_reducible refine gate_store (t := 87) (p := 21) rfl ?_);refine store_event (t := 87) (p := 21) (v := ?vo_w13) (w1 := ((w11.setCell ⟨go10,(x4_1 : Int).toNat * 2,none⟩ (.int .i64 t233)).setCell ⟨go10,(x4_1 : Int).toNat * 2 + 1,none⟩ (.int .i64 t234))) ?hg ?ho ?hn ?hr ?_;(case ho => rfl);(case hg => rfl);(case hn => rfl);(case hr => first|(go_simp;done)|(go_simp;rfl)|(obtain ⟨_,_,e_⟩ := Kd.R_slice HO_3.out;subst e_;first|(go_simp;done)|(go_simp;rfl)));intro w13 hw;have hg : w11.grownBy w13 (some go10) := (by rw [hw];exact HP12.2);have hp_ : Kd.R k87 87 w13 w.heap.size (fun _ => True) (.slice (some ⟨go10,0,none⟩) x3_1.length co10) y235 := (by rw [hw,Ny235.out];exact HP12.1);clear HP12;replace HO_3 := Aside0.mk (hp_);replace HB := Aside0.mk ((by rw [hw];exact below_set (below_set (HB.out) GB10.out) GB10.out : Below w.heap.size w w13));clear hg hw hp_))
        go_roundg k1
        case measure => have := HK1.out;omega
        case rel => exact ⟨(y235),(wrap64 (x4_1 + 1)),rs_,H',⟨by have := HK1.out;omega⟩,⟨by (with_reducible repeat (first|apply Kd.R_alloc|apply Kd.R_drewN|apply Kd.R_drew));exact HO_3.out⟩,⟨b_⟩⟩
       ·rw [if_neg c9] at H
        exact absurd H (by simp)
      ·rw [if_neg c7] at H
       exact absurd H (by simp)
     ·rw [if_neg c6] at H
      have c6b0 : decide (x4_1 < (l0.length : Int)) = false := decide_eq_false c6
      clear c6
      obtain rfl := Option.some.inj H
      go_wp2
      go_ret
      exact ⟨_,rf_,by (with_reducible repeat (first|apply Kd.R_alloc|apply Kd.R_drewN|apply Kd.R_drew));exact HO_3.out,b_⟩
  ·rw [if_neg c3] at H
   exact absurd H (by simp)
 ·rw [if_neg c2] at H
  exact absurd H (by simp)

/-! ### laws_toCopy: function 76 -/
def laws_toCopy.f (k : Nat) (a0_0 : Int) (l0_1 : List (S151)) : Option (Int × (List (S87))) := (laws_toCellS.f k l0_1).bind fun t239 => (some (a0_0, t239))

set_option maxHeartbeats 8000000 in
set_option maxRecDepth 100000 in
theorem laws_toCopy.calls (k : Nat) (a0_0 : Int) (A0_1 : Option Addr) (c0_1 : Nat) (l0_1 : List (S151)) (r1 : Int) (r2 : List (S87)) (w : World) (hr0_1 : Kd.C k151 w A0_1 l0_1.length l0_1) (hc0_1 : l0_1.length ≤ c0_1) (h : laws_toCopy.f k a0_0 l0_1 = some (r1, r2)) :
    Calls Tryz.prog 76 #[.agg #[.int .i64 a0_0, .slice A0_1 l0_1.length c0_1]] w fun e w' => ∃ v1_ : Value, e = .returned (.agg #[.int .i64 r1, v1_]) ∧ Kd.R k87 87 w' w.heap.size (fun _ => True) v1_ r2 ∧ Below w.heap.size w w' := by
 have hu96 := Tryz.underlying96
 have hu83 := Tryz.underlying83
 have HR0_1 := Aside0.mk hr0_1
 have HC0_1 := Aside0.mk hc0_1
 clear hr0_1 hc0_1
 have HB := Aside0.mk (Below.refl w.heap.size w)
 have H : ((laws_toCellS.f k l0_1).bind fun t239 => (some (a0_0,t239))) = some (r1,r2) := h
 clear h
 replace H := bs_ H
 obtain ⟨t239,A2,H⟩ := H
 simp only [Option.some.injEq,Prod.mk.injEq] at H
 obtain ⟨rfl,rfl⟩ := H
 go_enter Tryz.func76,Tryz.ntmps76
 go_wp2_with (first|((with_reducible refine gate_dst (N := 1) rfl ?_);refine bx_ 1 #[.int .i64 a0_0,.slice A0_1 l0_1.length c0_1] 96 ?_;intro gb236 hg w3 hbox hb;replace HB := nb_ hg hbox hb;obtain ⟨BK236,GW236,GE236,HB⟩ := HB;clear hb hbox hg)|((with_reducible refine gate_dst (N := 2) rfl ?_);refine bx_ 2 #[.int .i64 0,.slice none 0 0] 83 ?_;intro gb237 hg w4 hbox hb;replace HB := nb_ hg hbox hb;obtain ⟨BK237,GW237,GE237,HB⟩ := HB;have NB236_237 := Aside0.mk ((nl_ BK236 hg));have NB237_236 := Aside0.mk ((ng_ BK236 hg));replace BK236 := Aside0.mk (blk_below (kb_ BK236) hb);clear hb hbox hg)|((with_reducible refine gate_dst (N := 3) rfl ?_);refine bx_ 3 #[.int .i64 0,.slice none 0 0] 83 ?_;intro gb238 hg w5 hbox hb;replace HB := nb_ hg hbox hb;obtain ⟨BK238,GW238,GE238,HB⟩ := HB;have NB236_238 := Aside0.mk ((nl_ BK236 hg));have NB238_236 := Aside0.mk ((ng_ BK236 hg));replace BK236 := Aside0.mk (blk_below (kb_ BK236) hb);have NB237_238 := Aside0.mk ((nl_ BK237 hg));have NB238_237 := Aside0.mk ((ng_ BK237 hg));replace BK237 := Aside0.mk (blk_below (kb_ BK237) hb);clear hb hbox hg;have hnb6 := NB236_237.out;have hnc6 := NB237_236.out;have hnb7 := NB236_238.out;have hnc7 := NB238_236.out;obtain ⟨⟨hcz8_0,hcz8_1⟩,hfz8_0,hfz8_1⟩ := cl2_ BK236.out;have hnb9 := NB238_237.out;have hnc9 := NB237_238.out;obtain ⟨⟨hcz10_0,hcz10_1⟩,hfz10_0,hfz10_1⟩ := cl2_ BK238.out)|((with_reducible refine gcal_ (f := 121) rfl ?_);refine gl_ (some 9) Tryz.func121 #[.slice A0_1 l0_1.length c0_1] ?_;(with_reducible refine (laws_toCellS.calls k _ _ l0_1 t239 _ ?side1 ?side2 A2.out).mono ?_);(case side1 => exact Kd.C_below HR0_1.out b_);(case side2 => exact HC0_1.out);rintro e w11 ⟨v240,rfl,ho0,hb⟩;refine ⟨_,rfl,?_⟩;replace BK236 := Aside0.mk (blk_below (kf_ BK236) hb);replace BK237 := Aside0.mk (blk_below (kf_ BK237) hb);replace BK238 := Aside0.mk (blk_below (g := gb238) (o := .cells #[.int .i64 a0_0,.slice none 0 0] 83 (0,0)) (by (with_reducible repeat (first|refine blk_drewN ?_ _|refine blk_drew ?_|refine blk_alloc ?_ _));refine blk_put (cs := #[.int .i64 0,.slice none 0 0]) ?_ 0 _ rfl;(with_reducible repeat (first|refine blk_drewN ?_ _|refine blk_drew ?_|refine blk_alloc ?_ _));exact BK238.out) hb);have HO241 := Aside0.mk (Kd.R_lower ho0 (below_size b_));replace HB := Aside0.mk (below_step b_ hb);(try clear hb);(try clear hb2);(try clear hk);(try clear hi);(try clear ho0);obtain ⟨Ao12,co12,eo12⟩ := Kd.R_slice HO241.out;subst eo12;obtain ⟨⟨hcz13_0,hcz13_1⟩,hfz13_0,hfz13_1⟩ := cl2_ BK238.out;obtain ⟨⟨hcz14_0,hcz14_1⟩,hfz14_0,hfz14_1⟩ := cl2_ BK237.out))
 refine bodyPost_ret (results_cell_row rfl _ _ gb237 83 #[.int .i64 a0_0,.slice Ao12 t239.length co12] (0,0) _ rfl (by (with_reducible repeat (first|refine blk_drewN ?_ _|refine blk_drew ?_|refine blk_alloc ?_ _));refine blk_put (cs := #[.int .i64 a0_0,.slice none 0 0]) ?_ 1 _ rfl;(with_reducible repeat (first|refine blk_drewN ?_ _|refine blk_drew ?_|refine blk_alloc ?_ _));refine blk_put (cs := #[.int .i64 0,.slice none 0 0]) ?_ 0 _ rfl;(with_reducible repeat (first|refine blk_drewN ?_ _|refine blk_drew ?_|refine blk_alloc ?_ _));refine blk_far ?_ NB237_238.out _;(with_reducible repeat (first|refine blk_drewN ?_ _|refine blk_drew ?_|refine blk_alloc ?_ _));exact BK237.out) Tryz.underlying83 rfl (by kernel_rfl)) rfl ?_
 exact ⟨_,rf_,by (with_reducible repeat (first|apply Kd.R_alloc|apply Kd.R_drewN|apply Kd.R_drew));exact Kd.R_mono (Kd.R_far (p := ⟨gb237,1,none⟩) (Kd.R_far (p := ⟨gb237,0,none⟩) (Kd.R_far (p := ⟨gb238,1,none⟩) (Kd.R_types (Kd.R_types HO241.out BK238.out (by decide)) BK237.out (by decide)) (fun _ hk => hk.1.2) (.slice Ao12 t239.length co12)) (fun _ hk => hk.2) (.int .i64 a0_0)) (fun _ hk => hk.2) (.slice Ao12 t239.length co12)) (fun _ hk => trivial),b_⟩

/-! ### laws_toCopyS: function 33 -/
def laws_toCopyS.l0 : Nat → List (S96) → List (S83) → Int → Option ((List (S83)))
  | 0, _, _, _ => none
  | k + 1, x0, x3, x4 => if x4 < (x0.length : Int) then (if 0 ≤ x4 then ((laws_toCopy.f k ((rd_T96 x0 x4).f0) ((rd_T96 x0 x4).f1)).bind fun bt246 => (if x4 < (x3.length : Int) then (laws_toCopyS.l0 k x0 (x3.set (x4 : Int).toNat (⟨bt246.1, bt246.2⟩ : S83)) (wrap64 (x4 + 1))) else (none))) else (none)) else (some x3)
def laws_toCopyS.f (k : Nat) (l0 : List (S96)) : Option ((List (S83))) := if 0 ≤ (l0.length : Int) then (if ((l0.length : Int) : Int).toNat ≤ 8796093022208 then (laws_toCopyS.l0 k l0 (List.replicate ((l0.length : Int) : Int).toNat z83) 0) else (none)) else (none)

set_option maxHeartbeats 8000000 in
set_option maxRecDepth 100000 in
theorem laws_toCopyS.calls (k : Nat) (A0 : Option Addr) (c0 : Nat) (l0 : List (S96)) (r : List (S83)) (w : World) (hr0 : Kd.C k96 w A0 l0.length l0) (hc0 : l0.length ≤ c0) (h : laws_toCopyS.f k l0 = some r) :
    Calls Tryz.prog 33 #[.slice A0 l0.length c0] w fun e w' => ∃ v0_ : Value, e = .returned (v0_) ∧ Kd.S k83 83 w' w.heap.size (fun _ => True) v0_ r ∧ Below w.heap.size w w' := by
 have hu96 := Tryz.underlying96
 have hu83 := Tryz.underlying83
 have HR0 := Aside0.mk hr0
 have HC0 := Aside0.mk hc0
 clear hr0 hc0
 have HB := Aside0.mk (Below.refl w.heap.size w)
 have H : (if 0 ≤ (l0.length : Int) then (if ((l0.length : Int) : Int).toNat ≤ 8796093022208 then (laws_toCopyS.l0 k l0 (List.replicate ((l0.length : Int) : Int).toNat z83) 0) else (none)) else (none)) = some r := h
 clear h
 by_cases c2 : 0 ≤ (l0.length : Int)
 ·rw [if_pos c2] at H
  have c2b0 := eq_true c2
  have c2b1 : decide (0 ≤ (l0.length : Int)) = true := decide_eq_true c2
  clear c2
  by_cases c3 : ((l0.length : Int) : Int).toNat ≤ 8796093022208
  ·rw [if_pos c3] at H
   have c3b0 := eq_true c3
   have c3b1 : decide (((l0.length : Int) : Int).toNat ≤ 8796093022208) = true := decide_eq_true c3
   clear c3
   obtain ⟨y242,hy242⟩ : ∃ y_ : List (S83),y_ = (List.replicate ((l0.length : Int) : Int).toNat z83) := ⟨_,rfl⟩
   replace H : (laws_toCopyS.l0 k l0 y242 0) = some r := by first|(rw [hy242];with_reducible exact H)|(have H2_ := (Option.bind_some _ _).symm.trans H;rw [hy242];with_reducible exact H2_)|(have H2_ := (Option.bind_some _ _).symm.trans H;with_reducible exact H2_)|with_reducible exact H|(rw [hy242];exact H)|exact H
   have Ny242 := Aside0.mk hy242
   clear hy242
   have H' := Aside0.mk H
   clear H
   go_enter Tryz.func33,Tryz.ntmps33
   go_wp2_with (first|((with_reducible refine gate_dst (N := 7) rfl ?_);refine Kd.S_make k83 _ 83 rfl (N := 7) rfl 28 _ _ rfl (l0.length : Int) rfl rfl Tryz.underlying28 (.agg #[(.int .i64 0),(.slice none 0 0)]) 32 info83 rfl (by decide) (by omega) z83 (ok := fun _ => True) (okp := fun _ => True) (k83_mkM _ _ _ z83 (Kd.R_nil _ _ _ _ _)) (fun _ hk => hk) trivial (od_) (Nat.le_trans (Nat.mul_le_mul_right _ (od_ : (l0.length : Int).toNat ≤ 8796093022208)) (by omega)) (Below.refl _ _) (Nat.le_refl _) ?_;intro v243 w4 ho5 hb hg_ hnew_;clear hg_ hnew_;(first|rw [← Ny242.out] at ho5|(simp only [Int.reduceToNat] at ho5;rw [← Ny242.out] at ho5));have HO244 := Aside0.mk (Kd.S_lower ho5 (below_size b_));replace HB := Aside0.mk (below_step b_ hb);clear hb ho5))
   go_loopg [4] k (fun kq v4 w' => ∃ (x3_1 : List (S83)) (x4_1 : Int),v4 = .int .i64 x4_1 ∧ Aside0 (laws_toCopyS.l0 kq l0 x3_1 x4_1 = some r) ∧ Aside0 (kq ≤ k) ∧ Aside0 (Kd.S k83 83 w' w.heap.size (fun _ => True) v243 x3_1) ∧ Aside0 (Below w.heap.size w w'))
   case atStart => exact ⟨(y242),(0),rs_,H',⟨Nat.le_refl _⟩,⟨by (with_reducible repeat (first|apply Kd.S_alloc|apply Kd.S_drewN|apply Kd.S_drew));exact HO244.out⟩,⟨b_⟩⟩
   case round =>
    clear H'
    try clear c2
    try clear c2b0
    try clear c2b1
    try clear p2
    try clear c3
    try clear c3b0
    try clear c3b1
    obtain ⟨x3_1,x4_1,rfl,HA,HK1,HO_3,HB⟩ := hrel
    cases gk with
    | zero => exact absurd HA.out (by simp [laws_toCopyS.l0])
    | succ k1 =>
     have H := HA.out
     clear HA
     simp only [laws_toCopyS.l0] at H
     by_cases c6 : x4_1 < (l0.length : Int)
     ·rw [if_pos c6] at H
      have c6b0 : decide (x4_1 < (l0.length : Int)) = true := decide_eq_true c6
      clear c6
      by_cases c7 : 0 ≤ x4_1
      ·rw [if_pos c7] at H
       have c7b0 : decide (0 ≤ x4_1) = true := decide_eq_true c7
       clear c7
       replace H := Option.bind_eq_some_iff.mp H
       obtain ⟨⟨t246,t247⟩,A80,H⟩ := H
       replace H : (if x4_1 < (x3_1.length : Int) then (laws_toCopyS.l0 k1 l0 (x3_1.set (x4_1 : Int).toNat (⟨t246,t247⟩ : S83)) (wrap64 (x4_1 + 1))) else (none)) = some r := H
       have A8 := Aside0.mk A80
       clear A80
       by_cases c9 : x4_1 < (x3_1.length : Int)
       ·rw [if_pos c9] at H
        have c9b0 : decide (x4_1 < (x3_1.length : Int)) = true := decide_eq_true c9
        clear c9
        obtain ⟨y250,hy250⟩ : ∃ y_ : List (S83),y_ = (x3_1.set (x4_1 : Int).toNat (⟨t246,t247⟩ : S83)) := ⟨_,rfl⟩
        replace H : (laws_toCopyS.l0 k1 l0 y250 (wrap64 (x4_1 + 1))) = some r := by first|(rw [hy250];with_reducible exact H)|(have H2_ := (Option.bind_some _ _).symm.trans H;rw [hy250];with_reducible exact H2_)|(have H2_ := (Option.bind_some _ _).symm.trans H;with_reducible exact H2_)|with_reducible exact H|(rw [hy250];exact H)|exact H
        have Ny250 := Aside0.mk hy250
        clear hy250
        have H' := Aside0.mk H
        clear H
        have p245 : 0 ≤ (x4_1 : Int) := od_
        have q245 : x4_1 < (l0.length : Int) := od_
        obtain ⟨ad245,A245_1,c245_1,e245,hx245_0,hx245_1,hl245_1,hi245_1⟩ := at_T96 HR0.out x4_1 p245 q245
        cases e245
        replace hx245_0 := hx_ HB hx245_0
        replace hx245_1 := hx_ HB hx245_1
        have HR245_1 := Aside0.mk hi245_1
        have HC245_1 := Aside0.mk hl245_1
        clear hi245_1 hl245_1
        replace p245 := eq_true p245
        replace q245 := eq_true q245
        go_wp2_with (first|((with_reducible refine gcal_ (f := 76) rfl ?_);refine gl_ (some 20) Tryz.func76 #[.agg #[.int .i64 ((rd_T96 l0 x4_1).f0),.slice A245_1 ((rd_T96 l0 x4_1).f1).length c245_1]] ?_;(with_reducible refine (laws_toCopy.calls k1 ((rd_T96 l0 x4_1).f0) _ _ ((rd_T96 l0 x4_1).f1) t246 t247 _ ?side1 ?side2 A8.out).mono ?_);(case side1 => exact cb_ HR245_1);(case side2 => exact HC245_1.out);rintro e w11 ⟨v248,rfl,ho0,hb⟩;refine ⟨_,rfl,?_⟩;replace HO_3 := Aside0.mk (Kd.S_elder' (by (with_reducible repeat (first|apply Kd.S_alloc|apply Kd.S_drewN|apply Kd.S_drew));exact HO_3.out) (Kd.R_base ho0) hb);have HO249 := Aside0.mk (Kd.R_lower ho0 (below_size b_));replace HB := Aside0.mk (below_step b_ hb);(try clear hb);(try clear hb2);(try clear hk);(try clear hi);(try clear ho0);have p10 : 0 ≤ (x4_1 : Int) := od_;have q10 : (x4_1 : Int) < ((x3_1.length : Int) : Int) := od_;obtain ⟨go10,co10,eo10,gb10,gl10,cl10,HG10⟩ := Kd.S_form HO_3.out (by omega);(first|cases eo10|(injection eo10 with ea_ en_ ec_;(first|subst ea_|(injection ea_ with ea_;subst ea_));subst ec_;clear en_));have GB10 := Aside0.mk gb10;have GG10 := Aside0.mk HG10;clear gb10 gl10 HG10;obtain ⟨_,ce10,hcl10,hM10,hcc10,hfr10,_,_⟩ := Kd.S_elem HO_3.out z83 (x4_1 : Int) p10 q10;obtain ⟨ve10_1,rfl,ge10_1⟩ := k83_openM hM10;have hx10_0 : w11.cell? ⟨go10,(x4_1 : Int).toNat * 2,none⟩ = some (.int .i64 ((rd_T83 x3_1 x4_1).f0)) := hcc10 0 _ rfl;have hx10_1 : w11.cell? ⟨go10,(x4_1 : Int).toNat * 2 + 1,none⟩ = some (ve10_1) := hcc10 1 _ rfl;have hf10_0 : w11.frozen? ⟨go10,(x4_1 : Int).toNat * 2,none⟩ = false := hfr10 0;have hf10_1 : w11.frozen? ⟨go10,(x4_1 : Int).toNat * 2 + 1,none⟩ = false := hfr10 1;clear hcl10 hcc10 hfr10 hM10;replace p10 := eq_true p10;replace q10 := eq_true q10;have n_ := Aside0.mk (Kd.S_mono (ok' := (fun k_ => some k_ ≠ (v248 : Value).ownBlock)) HO_3.out (fun k_ hk => hk.2));clear HO_3;have HO_3 := n_;clear n_;have HX12 := Aside0.mk (show Kd.S k83 83 w11 w.heap.size (fun k_ => ((fun _ => True)) k_ ∧ ¬ ((fun k_ => some k_ = (v248 : Value).ownBlock)) k_) (.slice (some ⟨go10,0,none⟩) x3_1.length co10) x3_1 from (by (with_reducible repeat (first|apply Kd.S_alloc|apply Kd.S_drewN|apply Kd.S_drew));exact Kd.S_mono HO_3.out (fun k_ hk => ⟨trivial,fun e_ => hk e_⟩)));obtain ⟨oki12,ce12,hcl12,hM12,hcc12,hfr12,hoki12,hH12⟩ := Kd.S_elem HX12.out z83 (x4_1 : Int) (od_) (by have h_ : (x4_1 : Int) < ((x3_1.length : Int) : Int) := od_;first|exact h_|(have e_ := (Kd.S_reads' HO_3.out).1;omega)|simpa using h_);obtain ⟨ve12_1,rfl,ge12_1⟩ := k83_openM hM12;have HP12 := Kd.S_seg hH12 (od_) (by have h_ : (x4_1 : Int) < ((x3_1.length : Int) : Int) := od_;first|exact h_|(have e_ := (Kd.S_reads' HO_3.out).1;omega)|simpa using h_) (seg := [.int .i64 t246,v248]) (j := 0) (show 2 ≤ 2 from by decide) (x' := (⟨t246,t247⟩ : S83)) (k83_mkM _ _ _ (⟨t246,t247⟩ : S83) (Kd.R_mono (Kd.R_tight rfl (Kd.R_mono (ok' := fun k_ => ((fun _ => True)) k_ ∧ k_ ≠ go10) (Kd.R_apart' (HO249.out) (Kd.S_typed HO_3.out) (by decide)) (fun k_ hk => ⟨trivial,fun e_ => (hk.2) (by rw [e_];rfl)⟩))) (fun _ h_ => Or.inr (h_)))) (fun _ hk => hk) (fun k_ hk_ => ((Kd.R_mono (ok' := fun k_ => ((fun _ => True)) k_ ∧ k_ ≠ go10) (Kd.R_apart' (HO249.out) (Kd.S_typed HO_3.out) (by decide)) (fun k_ hk => ⟨trivial,fun e_ => (hk.2) (by rw [e_];rfl)⟩))).1 k_ hk_.symm);have hx12_0 := hcc12 0 _ rfl;(try simp only [show (k83).sz = 2 from rfl,Nat.mul_one,Nat.add_zero] at hx12_0);have hf12_0 := hfr12 0;(try simp only [show (k83).sz = 2 from rfl,Nat.mul_one,Nat.add_zero] at hf12_0);have hx12_1 := hcc12 1 _ rfl;(try simp only [show (k83).sz = 2 from rfl,Nat.mul_one,Nat.add_zero] at hx12_1);have hf12_1 := hfr12 1;(try simp only [show (k83).sz = 2 from rfl,Nat.mul_one,Nat.add_zero] at hf12_1);clear hcl12 hcc12 hfr12 hM12 hoki12 hH12)|((with_reducible refine gate_store (t := 83) (p := 21) rfl ?_);refine store_event (t := 83) (p := 21) (v := ?vo_w13) (w1 := ((w11.setCell ⟨go10,(x4_1 : Int).toNat * 2,none⟩ (.int .i64 t246)).setCell ⟨go10,(x4_1 : Int).toNat * 2 + 1,none⟩ (v248))) ?hg ?ho ?hn ?hr ?_;(case ho => rfl);(case hg => rfl);(case hn => rfl);(case hr => first|(go_simp;done)|(go_simp;rfl)|(obtain ⟨_,_,e_⟩ := Kd.R_slice HO_3.out;subst e_;first|(go_simp;done)|(go_simp;rfl))|(obtain ⟨_,_,e_⟩ := Kd.R_slice HO249.out;subst e_;first|(go_simp;done)|(go_simp;rfl)));intro w13 hw;have hg : w11.grownBy w13 (some go10) := (by rw [hw];exact HP12.2);have hp_ : Kd.S k83 83 w13 w.heap.size (fun _ => True) (.slice (some ⟨go10,0,none⟩) x3_1.length co10) y250 := (by rw [hw,Ny250.out];exact HP12.1);clear HP12;replace HO_3 := Aside0.mk (hp_);replace HB := Aside0.mk ((by rw [hw];exact below_set (below_set (HB.out) GB10.out) GB10.out : Below w.heap.size w w13));clear HO249;clear hg hw hp_))
        go_roundg k1
        case measure => have := HK1.out;omega
        case rel => exact ⟨(y250),(wrap64 (x4_1 + 1)),rs_,H',⟨by have := HK1.out;omega⟩,⟨by (with_reducible repeat (first|apply Kd.S_alloc|apply Kd.S_drewN|apply Kd.S_drew));exact HO_3.out⟩,⟨b_⟩⟩
       ·rw [if_neg c9] at H
        exact absurd H (by simp)
      ·rw [if_neg c7] at H
       exact absurd H (by simp)
     ·rw [if_neg c6] at H
      have c6b0 : decide (x4_1 < (l0.length : Int)) = false := decide_eq_false c6
      clear c6
      obtain rfl := Option.some.inj H
      go_wp2
      go_ret
      exact ⟨_,rf_,by (with_reducible repeat (first|apply Kd.S_alloc|apply Kd.S_drewN|apply Kd.S_drew));exact HO_3.out,b_⟩
  ·rw [if_neg c3] at H
   exact absurd H (by simp)
 ·rw [if_neg c2] at H
  exact absurd H (by simp)

/-! ### laws_toSet: function 144 -/
def laws_toSet.f (a0_0 : Int) (a0_1 : Int) (a0_2 : Int) (a0_3 : Bool) (a0_4 : Int) : Option (Int × Int × Int × Bool × Int) := some (a0_0, a0_1, a0_2, a0_3, a0_4)
set_option maxHeartbeats 8000000 in
set_option maxRecDepth 100000 in
theorem laws_toSet.calls (a0_0 : Int) (a0_1 : Int) (a0_2 : Int) (a0_3 : Bool) (a0_4 : Int) (r1 : Int) (r2 : Int) (r3 : Int) (r4 : Bool) (r5 : Int) (w : World) (h : laws_toSet.f a0_0 a0_1 a0_2 a0_3 a0_4 = some (r1, r2, r3, r4, r5)) :
    Calls Tryz.prog 144 #[.agg #[.int .i64 a0_0, .int .i64 a0_1, .int .i64 a0_2, .bool a0_3, .int .i64 a0_4]] w fun e w' => e = .returned (.agg #[.int .i64 r1, .int .i64 r2, .int .i64 r3, .bool r4, .int .i64 r5]) ∧ Below w.heap.size w w' := by
 have hu153 := Tryz.underlying153
 have hu119 := Tryz.underlying119
 have HB := Aside0.mk (Below.refl w.heap.size w)
 have H : (some (a0_0,a0_1,a0_2,a0_3,a0_4)) = some (r1,r2,r3,r4,r5) := h
 clear h
 simp only [Option.some.injEq,Prod.mk.injEq] at H
 obtain ⟨rfl,rfl,rfl,rfl,rfl⟩ := H
 go_enter Tryz.func144,Tryz.ntmps144
 go_wp2_with (first|((with_reducible refine gate_dst (N := 1) rfl ?_);refine bx_ 1 #[.int .i64 a0_0,.int .i64 a0_1,.int .i64 a0_2,.bool a0_3,.int .i64 a0_4] 153 ?_;intro gb251 hg w2 hbox hb;replace HB := nb_ hg hbox hb;obtain ⟨BK251,GW251,GE251,HB⟩ := HB;clear hb hbox hg)|((with_reducible refine gate_dst (N := 2) rfl ?_);refine bx_ 2 #[.int .i64 0,.int .i64 0,.int .i64 0,.bool false,.int .i64 0] 119 ?_;intro gb252 hg w3 hbox hb;replace HB := nb_ hg hbox hb;obtain ⟨BK252,GW252,GE252,HB⟩ := HB;have NB251_252 := Aside0.mk ((nl_ BK251 hg));have NB252_251 := Aside0.mk ((ng_ BK251 hg));replace BK251 := Aside0.mk (blk_below (kb_ BK251) hb);clear hb hbox hg)|((with_reducible refine gate_dst (N := 3) rfl ?_);refine bx_ 3 #[.int .i64 0,.int .i64 0,.int .i64 0,.bool false,.int .i64 0] 119 ?_;intro gb253 hg w4 hbox hb;replace HB := nb_ hg hbox hb;obtain ⟨BK253,GW253,GE253,HB⟩ := HB;have NB251_253 := Aside0.mk ((nl_ BK251 hg));have NB253_251 := Aside0.mk ((ng_ BK251 hg));replace BK251 := Aside0.mk (blk_below (kb_ BK251) hb);have NB252_253 := Aside0.mk ((nl_ BK252 hg));have NB253_252 := Aside0.mk ((ng_ BK252 hg));replace BK252 := Aside0.mk (blk_below (kb_ BK252) hb);clear hb hbox hg;have hnb5 := NB251_252.out;have hnc5 := NB252_251.out;have hnb6 := NB251_253.out;have hnc6 := NB253_251.out;obtain ⟨⟨hcz7_0,hcz7_1,hcz7_2,hcz7_3,hcz7_4⟩,hfz7_0,hfz7_1,hfz7_2,hfz7_3,hfz7_4⟩ := cl5_ BK251.out;have hnb8 := NB253_252.out;have hnc8 := NB252_253.out;obtain ⟨⟨hcz9_0,hcz9_1,hcz9_2,hcz9_3,hcz9_4⟩,hfz9_0,hfz9_1,hfz9_2,hfz9_3,hfz9_4⟩ := cl5_ BK253.out;obtain ⟨⟨hcz10_0,hcz10_1,hcz10_2,hcz10_3,hcz10_4⟩,hfz10_0,hfz10_1,hfz10_2,hfz10_3,hfz10_4⟩ := cl5_ BK252.out))
 refine bodyPost_ret (results_cell_row rfl _ _ gb252 119 #[.int .i64 a0_0,.int .i64 a0_1,.int .i64 a0_2,.bool a0_3,.int .i64 a0_4] (0,0) _ rfl (by (with_reducible repeat (first|refine blk_drewN ?_ _|refine blk_drew ?_|refine blk_alloc ?_ _));refine blk_put (cs := #[.int .i64 a0_0,.int .i64 a0_1,.int .i64 a0_2,.bool a0_3,.int .i64 0]) ?_ 4 _ rfl;(with_reducible repeat (first|refine blk_drewN ?_ _|refine blk_drew ?_|refine blk_alloc ?_ _));refine blk_put (cs := #[.int .i64 a0_0,.int .i64 a0_1,.int .i64 a0_2,.bool false,.int .i64 0]) ?_ 3 _ rfl;(with_reducible repeat (first|refine blk_drewN ?_ _|refine blk_drew ?_|refine blk_alloc ?_ _));refine blk_put (cs := #[.int .i64 a0_0,.int .i64 a0_1,.int .i64 0,.bool false,.int .i64 0]) ?_ 2 _ rfl;(with_reducible repeat (first|refine blk_drewN ?_ _|refine blk_drew ?_|refine blk_alloc ?_ _));refine blk_put (cs := #[.int .i64 a0_0,.int .i64 0,.int .i64 0,.bool false,.int .i64 0]) ?_ 1 _ rfl;(with_reducible repeat (first|refine blk_drewN ?_ _|refine blk_drew ?_|refine blk_alloc ?_ _));refine blk_put (cs := #[.int .i64 0,.int .i64 0,.int .i64 0,.bool false,.int .i64 0]) ?_ 0 _ rfl;(with_reducible repeat (first|refine blk_drewN ?_ _|refine blk_drew ?_|refine blk_alloc ?_ _));refine blk_far ?_ NB252_253.out _;(with_reducible repeat (first|refine blk_drewN ?_ _|refine blk_drew ?_|refine blk_alloc ?_ _));refine blk_far ?_ NB252_253.out _;(with_reducible repeat (first|refine blk_drewN ?_ _|refine blk_drew ?_|refine blk_alloc ?_ _));refine blk_far ?_ NB252_253.out _;(with_reducible repeat (first|refine blk_drewN ?_ _|refine blk_drew ?_|refine blk_alloc ?_ _));refine blk_far ?_ NB252_253.out _;(with_reducible repeat (first|refine blk_drewN ?_ _|refine blk_drew ?_|refine blk_alloc ?_ _));refine blk_far ?_ NB252_253.out _;(with_reducible repeat (first|refine blk_drewN ?_ _|refine blk_drew ?_|refine blk_alloc ?_ _));exact BK252.out) Tryz.underlying119 rfl (by kernel_rfl)) rfl ?_
 exact ⟨rf_,b_⟩

/-! ### laws_toSetS: function 122 -/
def laws_toSetS.l0 : Nat → List (S153) → List (S119) → Int → Option ((List (S119)))
  | 0, _, _, _ => none
  | k + 1, x0, x3, x4 => if x4 < (x0.length : Int) then (if 0 ≤ x4 then ((laws_toSet.f ((rd_T153 x0 x4).f0) ((rd_T153 x0 x4).f1) ((rd_T153 x0 x4).f2) ((rd_T153 x0 x4).f3) ((rd_T153 x0 x4).f4)).bind fun bt258 => (if x4 < (x3.length : Int) then (laws_toSetS.l0 k x0 (x3.set (x4 : Int).toNat (⟨bt258.1, bt258.2.1, bt258.2.2.1, bt258.2.2.2.1, bt258.2.2.2.2⟩ : S119)) (wrap64 (x4 + 1))) else (none))) else (none)) else (some x3)
def laws_toSetS.f (k : Nat) (l0 : List (S153)) : Option ((List (S119))) := if 0 ≤ (l0.length : Int) then (if ((l0.length : Int) : Int).toNat ≤ 7036874417766 then (laws_toSetS.l0 k l0 (List.replicate ((l0.length : Int) : Int).toNat z119) 0) else (none)) else (none)

set_option maxHeartbeats 8000000 in
set_option maxRecDepth 100000 in
theorem laws_toSetS.calls (k : Nat) (A0 : Option Addr) (c0 : Nat) (l0 : List (S153)) (r : List (S119)) (w : World) (hr0 : Kd.C k153 w A0 l0.length l0) (hc0 : l0.length ≤ c0) (h : laws_toSetS.f k l0 = some r) :
    Calls Tryz.prog 122 #[.slice A0 l0.length c0] w fun e w' => ∃ v0_ : Value, e = .returned (v0_) ∧ Kd.R k119 119 w' w.heap.size (fun _ => True) v0_ r ∧ Below w.heap.size w w' := by
 have hu153 := Tryz.underlying153
 have hu119 := Tryz.underlying119
 have HR0 := Aside0.mk hr0
 have HC0 := Aside0.mk hc0
 clear hr0 hc0
 have HB := Aside0.mk (Below.refl w.heap.size w)
 have H : (if 0 ≤ (l0.length : Int) then (if ((l0.length : Int) : Int).toNat ≤ 7036874417766 then (laws_toSetS.l0 k l0 (List.replicate ((l0.length : Int) : Int).toNat z119) 0) else (none)) else (none)) = some r := h
 clear h
 by_cases c2 : 0 ≤ (l0.length : Int)
 ·rw [if_pos c2] at H
  have c2b0 := eq_true c2
  have c2b1 : decide (0 ≤ (l0.length : Int)) = true := decide_eq_true c2
  clear c2
  by_cases c3 : ((l0.length : Int) : Int).toNat ≤ 7036874417766
  ·rw [if_pos c3] at H
   have c3b0 := eq_true c3
   have c3b1 : decide (((l0.length : Int) : Int).toNat ≤ 7036874417766) = true := decide_eq_true c3
   clear c3
   obtain ⟨y254,hy254⟩ : ∃ y_ : List (S119),y_ = (List.replicate ((l0.length : Int) : Int).toNat z119) := ⟨_,rfl⟩
   replace H : (laws_toSetS.l0 k l0 y254 0) = some r := by first|(rw [hy254];with_reducible exact H)|(have H2_ := (Option.bind_some _ _).symm.trans H;rw [hy254];with_reducible exact H2_)|(have H2_ := (Option.bind_some _ _).symm.trans H;with_reducible exact H2_)|with_reducible exact H|(rw [hy254];exact H)|exact H
   have Ny254 := Aside0.mk hy254
   clear hy254
   have H' := Aside0.mk H
   clear H
   go_enter Tryz.func122,Tryz.ntmps122
   go_wp2_with (first|((with_reducible refine gate_dst (N := 7) rfl ?_);refine Kd.R_make k119 _ 119 rfl (N := 7) rfl 48 _ _ rfl (l0.length : Int) rfl rfl Tryz.underlying48 (.agg #[(.int .i64 0),(.int .i64 0),(.int .i64 0),(.bool false),(.int .i64 0)]) 40 info119 rfl (by decide) (by omega) z119 (ok := fun _ => True) (okp := fun _ => True) (k119_mkM _ _ _ z119 ) (fun _ hk => hk) trivial (od_) (Nat.le_trans (Nat.mul_le_mul_right _ (od_ : (l0.length : Int).toNat ≤ 7036874417766)) (by omega)) (Below.refl _ _) (Nat.le_refl _) ?_;intro v255 w4 ho5 hb hg_ hnew_;clear hg_ hnew_;(first|rw [← Ny254.out] at ho5|(simp only [Int.reduceToNat] at ho5;rw [← Ny254.out] at ho5));have HO256 := Aside0.mk (Kd.R_lower ho5 (below_size b_));replace HB := Aside0.mk (below_step b_ hb);clear hb ho5))
   go_loopg [4] k (fun kq v4 w' => ∃ (x3_1 : List (S119)) (x4_1 : Int),v4 = .int .i64 x4_1 ∧ Aside0 (laws_toSetS.l0 kq l0 x3_1 x4_1 = some r) ∧ Aside0 (kq ≤ k) ∧ Aside0 (Kd.R k119 119 w' w.heap.size (fun _ => True) v255 x3_1) ∧ Aside0 (Below w.heap.size w w'))
   case atStart => exact ⟨(y254),(0),rs_,H',⟨Nat.le_refl _⟩,⟨by (with_reducible repeat (first|apply Kd.R_alloc|apply Kd.R_drewN|apply Kd.R_drew));exact HO256.out⟩,⟨b_⟩⟩
   case round =>
    clear H'
    try clear c1
    try clear c2
    try clear c2b0
    try clear c2b1
    try clear p2
    try clear c3
    try clear c3b0
    try clear c3b1
    obtain ⟨x3_1,x4_1,rfl,HA,HK1,HO_3,HB⟩ := hrel
    cases gk with
    | zero => exact absurd HA.out (by simp [laws_toSetS.l0])
    | succ k1 =>
     have H := HA.out
     clear HA
     simp only [laws_toSetS.l0] at H
     by_cases c6 : x4_1 < (l0.length : Int)
     ·rw [if_pos c6] at H
      have c6b0 : decide (x4_1 < (l0.length : Int)) = true := decide_eq_true c6
      clear c6
      by_cases c7 : 0 ≤ x4_1
      ·rw [if_pos c7] at H
       have c7b0 : decide (0 ≤ x4_1) = true := decide_eq_true c7
       clear c7
       replace H := Option.bind_eq_some_iff.mp H
       obtain ⟨⟨t258,t259,t260,t261,t262⟩,A80,H⟩ := H
       replace H : (if x4_1 < (x3_1.length : Int) then (laws_toSetS.l0 k1 l0 (x3_1.set (x4_1 : Int).toNat (⟨t258,t259,t260,t261,t262⟩ : S119)) (wrap64 (x4_1 + 1))) else (none)) = some r := H
       have A8 := Aside0.mk A80
       clear A80
       by_cases c9 : x4_1 < (x3_1.length : Int)
       ·rw [if_pos c9] at H
        have c9b0 : decide (x4_1 < (x3_1.length : Int)) = true := decide_eq_true c9
        clear c9
        obtain ⟨y263,hy263⟩ : ∃ y_ : List (S119),y_ = (x3_1.set (x4_1 : Int).toNat (⟨t258,t259,t260,t261,t262⟩ : S119)) := ⟨_,rfl⟩
        replace H : (laws_toSetS.l0 k1 l0 y263 (wrap64 (x4_1 + 1))) = some r := by first|(rw [hy263];with_reducible exact H)|(have H2_ := (Option.bind_some _ _).symm.trans H;rw [hy263];with_reducible exact H2_)|(have H2_ := (Option.bind_some _ _).symm.trans H;with_reducible exact H2_)|with_reducible exact H|(rw [hy263];exact H)|exact H
        have Ny263 := Aside0.mk hy263
        clear hy263
        have H' := Aside0.mk H
        clear H
        have p257 : 0 ≤ (x4_1 : Int) := od_
        have q257 : x4_1 < (l0.length : Int) := od_
        obtain ⟨ad257,e257,hx257_0,hx257_1,hx257_2,hx257_3,hx257_4⟩ := at_T153 HR0.out x4_1 p257 q257
        cases e257
        replace hx257_0 := hx_ HB hx257_0
        replace hx257_1 := hx_ HB hx257_1
        replace hx257_2 := hx_ HB hx257_2
        replace hx257_3 := hx_ HB hx257_3
        replace hx257_4 := hx_ HB hx257_4
        replace p257 := eq_true p257
        replace q257 := eq_true q257
        go_wp2_with (first|((with_reducible refine gcal_ (f := 144) rfl ?_);refine gl_ (some 20) Tryz.func144 #[.agg #[.int .i64 ((rd_T153 l0 x4_1).f0),.int .i64 ((rd_T153 l0 x4_1).f1),.int .i64 ((rd_T153 l0 x4_1).f2),.bool ((rd_T153 l0 x4_1).f3),.int .i64 ((rd_T153 l0 x4_1).f4)]] ?_;(with_reducible refine (laws_toSet.calls ((rd_T153 l0 x4_1).f0) ((rd_T153 l0 x4_1).f1) ((rd_T153 l0 x4_1).f2) ((rd_T153 l0 x4_1).f3) ((rd_T153 l0 x4_1).f4) t258 t259 t260 t261 t262 _ A8.out).mono ?_);rintro e w11 ⟨rfl,hb⟩;refine ⟨_,rfl,?_⟩;replace HO_3 := Aside0.mk (Kd.R_below (by (with_reducible repeat (first|apply Kd.R_alloc|apply Kd.R_drewN|apply Kd.R_drew));exact HO_3.out) hb);replace HB := Aside0.mk (below_step b_ hb);(try clear hb);(try clear hb2);(try clear hk);(try clear hi);have p10 : 0 ≤ (x4_1 : Int) := od_;have q10 : (x4_1 : Int) < ((x3_1.length : Int) : Int) := od_;obtain ⟨go10,co10,eo10,gb10,gl10,cl10,HG10⟩ := Kd.R_form HO_3.out (by omega);(first|cases eo10|(injection eo10 with ea_ en_ ec_;(first|subst ea_|(injection ea_ with ea_;subst ea_));subst ec_;clear en_));have GB10 := Aside0.mk gb10;have GG10 := Aside0.mk HG10;clear gb10 gl10 HG10;obtain ⟨ce10,hcl10,hM10,hcc10,hfr10⟩ := Kd.R_elem HO_3.out z119 (x4_1 : Int) p10 q10;obtain rfl := k119_openM hM10;have hx10_0 : w11.cell? ⟨go10,(x4_1 : Int).toNat * 5,none⟩ = some (.int .i64 ((rd_T119 x3_1 x4_1).f0)) := hcc10 0 _ rfl;have hx10_1 : w11.cell? ⟨go10,(x4_1 : Int).toNat * 5 + 1,none⟩ = some (.int .i64 ((rd_T119 x3_1 x4_1).f1)) := hcc10 1 _ rfl;have hx10_2 : w11.cell? ⟨go10,(x4_1 : Int).toNat * 5 + 2,none⟩ = some (.int .i64 ((rd_T119 x3_1 x4_1).f2)) := hcc10 2 _ rfl;have hx10_3 : w11.cell? ⟨go10,(x4_1 : Int).toNat * 5 + 3,none⟩ = some (.bool ((rd_T119 x3_1 x4_1).f3)) := hcc10 3 _ rfl;have hx10_4 : w11.cell? ⟨go10,(x4_1 : Int).toNat * 5 + 4,none⟩ = some (.int .i64 ((rd_T119 x3_1 x4_1).f4)) := hcc10 4 _ rfl;have hf10_0 : w11.frozen? ⟨go10,(x4_1 : Int).toNat * 5,none⟩ = false := hfr10 0;have hf10_1 : w11.frozen? ⟨go10,(x4_1 : Int).toNat * 5 + 1,none⟩ = false := hfr10 1;have hf10_2 : w11.frozen? ⟨go10,(x4_1 : Int).toNat * 5 + 2,none⟩ = false := hfr10 2;have hf10_3 : w11.frozen? ⟨go10,(x4_1 : Int).toNat * 5 + 3,none⟩ = false := hfr10 3;have hf10_4 : w11.frozen? ⟨go10,(x4_1 : Int).toNat * 5 + 4,none⟩ = false := hfr10 4;clear hcl10 hcc10 hfr10 hM10;replace p10 := eq_true p10;replace q10 := eq_true q10;have HX12 := Aside0.mk (show Kd.R k119 119 w11 w.heap.size (fun _ => True) (.slice (some ⟨go10,0,none⟩) x3_1.length co10) x3_1 from (by (with_reducible repeat (first|apply Kd.R_alloc|apply Kd.R_drewN|apply Kd.R_drew));exact HO_3.out));obtain ⟨ce12,hcl12,hM12,hcc12,hfr12⟩ := Kd.R_elem HX12.out z119 (x4_1 : Int) (od_) (by have h_ : (x4_1 : Int) < ((x3_1.length : Int) : Int) := od_;first|exact h_|(have e_ := (Kd.R_reads' HO_3.out).1;omega)|simpa using h_);obtain rfl := k119_openM hM12;have HP12 := Kd.R_seg HX12.out (x4_1 : Int) (od_) (by have h_ : (x4_1 : Int) < ((x3_1.length : Int) : Int) := od_;first|exact h_|(have e_ := (Kd.R_reads' HO_3.out).1;omega)|simpa using h_) (seg := [.int .i64 t258,.int .i64 t259,.int .i64 t260,.bool t261,.int .i64 t262]) (j := 0) hcl12 hcc12 (show 5 ≤ 5 from by decide) (x' := (⟨t258,t259,t260,t261,t262⟩ : S119)) (k119_mkM _ _ _ (⟨t258,t259,t260,t261,t262⟩ : S119) ) (fun _ hk => hk);have hx12_0 := hcc12 0 _ rfl;(try simp only [show (k119).sz = 5 from rfl,Nat.mul_one,Nat.add_zero] at hx12_0);have hf12_0 := hfr12 0;(try simp only [show (k119).sz = 5 from rfl,Nat.mul_one,Nat.add_zero] at hf12_0);have hx12_1 := hcc12 1 _ rfl;(try simp only [show (k119).sz = 5 from rfl,Nat.mul_one,Nat.add_zero] at hx12_1);have hf12_1 := hfr12 1;(try simp only [show (k119).sz = 5 from rfl,Nat.mul_one,Nat.add_zero] at hf12_1);have hx12_2 := hcc12 2 _ rfl;(try simp only [show (k119).sz = 5 from rfl,Nat.mul_one,Nat.add_zero] at hx12_2);have hf12_2 := hfr12 2;(try simp only [show (k119).sz = 5 from rfl,Nat.mul_one,Nat.add_zero] at hf12_2);have hx12_3 := hcc12 3 _ rfl;(try simp only [show (k119).sz = 5 from rfl,Nat.mul_one,Nat.add_zero] at hx12_3);have hf12_3 := hfr12 3;(try simp only [show (k119).sz = 5 from rfl,Nat.mul_one,Nat.add_zero] at hf12_3);have hx12_4 := hcc12 4 _ rfl;(try simp only [show (k119).sz = 5 from rfl,Nat.mul_one,Nat.add_zero] at hx12_4);have hf12_4 := hfr12 4;(try simp only [show (k119).sz = 5 from rfl,Nat.mul_one,Nat.add_zero] at hf12_4);clear hcl12 hcc12 hfr12 hM12)|((with_reducible refine gate_store (t := 119) (p := 21) rfl ?_);refine store_event (t := 119) (p := 21) (v := ?vo_w13) (w1 := (((((w11.setCell ⟨go10,(x4_1 : Int).toNat * 5,none⟩ (.int .i64 t258)).setCell ⟨go10,(x4_1 : Int).toNat * 5 + 1,none⟩ (.int .i64 t259)).setCell ⟨go10,(x4_1 : Int).toNat * 5 + 2,none⟩ (.int .i64 t260)).setCell ⟨go10,(x4_1 : Int).toNat * 5 + 3,none⟩ (.bool t261)).setCell ⟨go10,(x4_1 : Int).toNat * 5 + 4,none⟩ (.int .i64 t262))) ?hg ?ho ?hn ?hr ?_;(case ho => rfl);(case hg => rfl);(case hn => rfl);(case hr => first|(go_simp;done)|(go_simp;rfl)|(obtain ⟨_,_,e_⟩ := Kd.R_slice HO_3.out;subst e_;first|(go_simp;done)|(go_simp;rfl)));intro w13 hw;have hg : w11.grownBy w13 (some go10) := (by rw [hw];exact HP12.2);have hp_ : Kd.R k119 119 w13 w.heap.size (fun _ => True) (.slice (some ⟨go10,0,none⟩) x3_1.length co10) y263 := (by rw [hw,Ny263.out];exact HP12.1);clear HP12;replace HO_3 := Aside0.mk (hp_);replace HB := Aside0.mk ((by rw [hw];exact below_set (below_set (below_set (below_set (below_set (HB.out) GB10.out) GB10.out) GB10.out) GB10.out) GB10.out : Below w.heap.size w w13));clear hg hw hp_))
        go_roundg k1
        case measure => have := HK1.out;omega
        case rel => exact ⟨(y263),(wrap64 (x4_1 + 1)),rs_,H',⟨by have := HK1.out;omega⟩,⟨by (with_reducible repeat (first|apply Kd.R_alloc|apply Kd.R_drewN|apply Kd.R_drew));exact HO_3.out⟩,⟨b_⟩⟩
       ·rw [if_neg c9] at H
        exact absurd H (by simp)
      ·rw [if_neg c7] at H
       exact absurd H (by simp)
     ·rw [if_neg c6] at H
      have c6b0 : decide (x4_1 < (l0.length : Int)) = false := decide_eq_false c6
      clear c6
      obtain rfl := Option.some.inj H
      go_wp2
      go_ret
      exact ⟨_,rf_,by (with_reducible repeat (first|apply Kd.R_alloc|apply Kd.R_drewN|apply Kd.R_drew));exact HO_3.out,b_⟩
  ·rw [if_neg c3] at H
   exact absurd H (by simp)
 ·rw [if_neg c2] at H
  exact absurd H (by simp)

/-! ### laws_toRecord: function 77 -/
def laws_toRecord.f (k : Nat) (a0_0 : Int) (a0_1 : Int) (a0_2 : Int) (l0_3 : List (S153)) : Option (Int × Int × Int × (List (S119))) := (laws_toSetS.f k l0_3).bind fun t267 => (some (a0_0, a0_1, a0_2, t267))

set_option maxHeartbeats 8000000 in
set_option maxRecDepth 100000 in
theorem laws_toRecord.calls (k : Nat) (a0_0 : Int) (a0_1 : Int) (a0_2 : Int) (A0_3 : Option Addr) (c0_3 : Nat) (l0_3 : List (S153)) (r1 : Int) (r2 : Int) (r3 : Int) (r4 : List (S119)) (w : World) (hr0_3 : Kd.C k153 w A0_3 l0_3.length l0_3) (hc0_3 : l0_3.length ≤ c0_3) (h : laws_toRecord.f k a0_0 a0_1 a0_2 l0_3 = some (r1, r2, r3, r4)) :
    Calls Tryz.prog 77 #[.agg #[.int .i64 a0_0, .int .i64 a0_1, .int .i64 a0_2, .slice A0_3 l0_3.length c0_3]] w fun e w' => ∃ v3_ : Value, e = .returned (.agg #[.int .i64 r1, .int .i64 r2, .int .i64 r3, v3_]) ∧ Kd.R k119 119 w' w.heap.size (fun _ => True) v3_ r4 ∧ Below w.heap.size w w' := by
 have hu100 := Tryz.underlying100
 have hu50 := Tryz.underlying50
 have HR0_3 := Aside0.mk hr0_3
 have HC0_3 := Aside0.mk hc0_3
 clear hr0_3 hc0_3
 have HB := Aside0.mk (Below.refl w.heap.size w)
 have H : ((laws_toSetS.f k l0_3).bind fun t267 => (some (a0_0,a0_1,a0_2,t267))) = some (r1,r2,r3,r4) := h
 clear h
 replace H := bs_ H
 obtain ⟨t267,A2,H⟩ := H
 simp only [Option.some.injEq,Prod.mk.injEq] at H
 obtain ⟨rfl,rfl,rfl,rfl⟩ := H
 go_enter Tryz.func77,Tryz.ntmps77
 go_wp2_with (first|((with_reducible refine gate_dst (N := 1) rfl ?_);refine bx_ 1 #[.int .i64 a0_0,.int .i64 a0_1,.int .i64 a0_2,.slice A0_3 l0_3.length c0_3] 100 ?_;intro gb264 hg w3 hbox hb;replace HB := nb_ hg hbox hb;obtain ⟨BK264,GW264,GE264,HB⟩ := HB;clear hb hbox hg)|((with_reducible refine gate_dst (N := 2) rfl ?_);refine bx_ 2 #[.int .i64 0,.int .i64 0,.int .i64 0,.slice none 0 0] 50 ?_;intro gb265 hg w4 hbox hb;replace HB := nb_ hg hbox hb;obtain ⟨BK265,GW265,GE265,HB⟩ := HB;have NB264_265 := Aside0.mk ((nl_ BK264 hg));have NB265_264 := Aside0.mk ((ng_ BK264 hg));replace BK264 := Aside0.mk (blk_below (kb_ BK264) hb);clear hb hbox hg)|((with_reducible refine gate_dst (N := 3) rfl ?_);refine bx_ 3 #[.int .i64 0,.int .i64 0,.int .i64 0,.slice none 0 0] 50 ?_;intro gb266 hg w5 hbox hb;replace HB := nb_ hg hbox hb;obtain ⟨BK266,GW266,GE266,HB⟩ := HB;have NB264_266 := Aside0.mk ((nl_ BK264 hg));have NB266_264 := Aside0.mk ((ng_ BK264 hg));replace BK264 := Aside0.mk (blk_below (kb_ BK264) hb);have NB265_266 := Aside0.mk ((nl_ BK265 hg));have NB266_265 := Aside0.mk ((ng_ BK265 hg));replace BK265 := Aside0.mk (blk_below (kb_ BK265) hb);clear hb hbox hg;have hnb6 := NB264_265.out;have hnc6 := NB265_264.out;have hnb7 := NB264_266.out;have hnc7 := NB266_264.out;obtain ⟨⟨hcz8_0,hcz8_1,hcz8_2,hcz8_3⟩,hfz8_0,hfz8_1,hfz8_2,hfz8_3⟩ := cl4_ BK264.out;have hnb9 := NB266_265.out;have hnc9 := NB265_266.out;obtain ⟨⟨hcz10_0,hcz10_1,hcz10_2,hcz10_3⟩,hfz10_0,hfz10_1,hfz10_2,hfz10_3⟩ := cl4_ BK266.out)|((with_reducible refine gcal_ (f := 122) rfl ?_);refine gl_ (some 15) Tryz.func122 #[.slice A0_3 l0_3.length c0_3] ?_;(with_reducible refine (laws_toSetS.calls k _ _ l0_3 t267 _ ?side1 ?side2 A2.out).mono ?_);(case side1 => exact Kd.C_below HR0_3.out b_);(case side2 => exact HC0_3.out);rintro e w11 ⟨v268,rfl,ho0,hb⟩;refine ⟨_,rfl,?_⟩;replace BK264 := Aside0.mk (blk_below (kf_ BK264) hb);replace BK265 := Aside0.mk (blk_below (kf_ BK265) hb);replace BK266 := Aside0.mk (blk_below (g := gb266) (o := .cells #[.int .i64 a0_0,.int .i64 a0_1,.int .i64 a0_2,.slice none 0 0] 50 (0,0)) (by (with_reducible repeat (first|refine blk_drewN ?_ _|refine blk_drew ?_|refine blk_alloc ?_ _));refine blk_put (cs := #[.int .i64 a0_0,.int .i64 a0_1,.int .i64 0,.slice none 0 0]) ?_ 2 _ rfl;(with_reducible repeat (first|refine blk_drewN ?_ _|refine blk_drew ?_|refine blk_alloc ?_ _));refine blk_put (cs := #[.int .i64 a0_0,.int .i64 0,.int .i64 0,.slice none 0 0]) ?_ 1 _ rfl;(with_reducible repeat (first|refine blk_drewN ?_ _|refine blk_drew ?_|refine blk_alloc ?_ _));refine blk_put (cs := #[.int .i64 0,.int .i64 0,.int .i64 0,.slice none 0 0]) ?_ 0 _ rfl;(with_reducible repeat (first|refine blk_drewN ?_ _|refine blk_drew ?_|refine blk_alloc ?_ _));exact BK266.out) hb);have HO269 := Aside0.mk (Kd.R_lower ho0 (below_size b_));replace HB := Aside0.mk (below_step b_ hb);(try clear hb);(try clear hb2);(try clear hk);(try clear hi);(try clear ho0);obtain ⟨Ao12,co12,eo12⟩ := Kd.R_slice HO269.out;subst eo12;obtain ⟨⟨hcz13_0,hcz13_1,hcz13_2,hcz13_3⟩,hfz13_0,hfz13_1,hfz13_2,hfz13_3⟩ := cl4_ BK266.out;obtain ⟨⟨hcz14_0,hcz14_1,hcz14_2,hcz14_3⟩,hfz14_0,hfz14_1,hfz14_2,hfz14_3⟩ := cl4_ BK265.out))
 refine bodyPost_ret (results_cell_row rfl _ _ gb265 50 #[.int .i64 a0_0,.int .i64 a0_1,.int .i64 a0_2,.slice Ao12 t267.length co12] (0,0) _ rfl (by (with_reducible repeat (first|refine blk_drewN ?_ _|refine blk_drew ?_|refine blk_alloc ?_ _));refine blk_put (cs := #[.int .i64 a0_0,.int .i64 a0_1,.int .i64 a0_2,.slice none 0 0]) ?_ 3 _ rfl;(with_reducible repeat (first|refine blk_drewN ?_ _|refine blk_drew ?_|refine blk_alloc ?_ _));refine blk_put (cs := #[.int .i64 a0_0,.int .i64 a0_1,.int .i64 0,.slice none 0 0]) ?_ 2 _ rfl;(with_reducible repeat (first|refine blk_drewN ?_ _|refine blk_drew ?_|refine blk_alloc ?_ _));refine blk_put (cs := #[.int .i64 a0_0,.int .i64 0,.int .i64 0,.slice none 0 0]) ?_ 1 _ rfl;(with_reducible repeat (first|refine blk_drewN ?_ _|refine blk_drew ?_|refine blk_alloc ?_ _));refine blk_put (cs := #[.int .i64 0,.int .i64 0,.int .i64 0,.slice none 0 0]) ?_ 0 _ rfl;(with_reducible repeat (first|refine blk_drewN ?_ _|refine blk_drew ?_|refine blk_alloc ?_ _));refine blk_far ?_ NB265_266.out _;(with_reducible repeat (first|refine blk_drewN ?_ _|refine blk_drew ?_|refine blk_alloc ?_ _));exact BK265.out) Tryz.underlying50 rfl (by kernel_rfl)) rfl ?_
 exact ⟨_,rf_,by (with_reducible repeat (first|apply Kd.R_alloc|apply Kd.R_drewN|apply Kd.R_drew));exact Kd.R_mono (Kd.R_far (p := ⟨gb265,3,none⟩) (Kd.R_far (p := ⟨gb265,2,none⟩) (Kd.R_far (p := ⟨gb265,1,none⟩) (Kd.R_far (p := ⟨gb265,0,none⟩) (Kd.R_far (p := ⟨gb266,3,none⟩) (Kd.R_types (Kd.R_types HO269.out BK266.out (by decide)) BK265.out (by decide)) (fun _ hk => hk.1.2) (.slice Ao12 t267.length co12)) (fun _ hk => hk.2) (.int .i64 a0_0)) (fun _ hk => hk.2) (.int .i64 a0_1)) (fun _ hk => hk.2) (.int .i64 a0_2)) (fun _ hk => hk.2) (.slice Ao12 t267.length co12)) (fun _ hk => trivial),b_⟩

/-! ### laws_toRecordS: function 34 -/
def laws_toRecordS.l0 : Nat → List (S100) → List (S50) → Int → Option ((List (S50)))
  | 0, _, _, _ => none
  | k + 1, x0, x3, x4 => if x4 < (x0.length : Int) then (if 0 ≤ x4 then ((laws_toRecord.f k ((rd_T100 x0 x4).f0) ((rd_T100 x0 x4).f1) ((rd_T100 x0 x4).f2) ((rd_T100 x0 x4).f3)).bind fun bt274 => (if x4 < (x3.length : Int) then (laws_toRecordS.l0 k x0 (x3.set (x4 : Int).toNat (⟨bt274.1, bt274.2.1, bt274.2.2.1, bt274.2.2.2⟩ : S50)) (wrap64 (x4 + 1))) else (none))) else (none)) else (some x3)
def laws_toRecordS.f (k : Nat) (l0 : List (S100)) : Option ((List (S50))) := if 0 ≤ (l0.length : Int) then (if ((l0.length : Int) : Int).toNat ≤ 5864062014805 then (laws_toRecordS.l0 k l0 (List.replicate ((l0.length : Int) : Int).toNat z50) 0) else (none)) else (none)

set_option maxHeartbeats 8000000 in
set_option maxRecDepth 100000 in
theorem laws_toRecordS.calls (k : Nat) (A0 : Option Addr) (c0 : Nat) (l0 : List (S100)) (r : List (S50)) (w : World) (hr0 : Kd.C k100 w A0 l0.length l0) (hc0 : l0.length ≤ c0) (h : laws_toRecordS.f k l0 = some r) :
    Calls Tryz.prog 34 #[.slice A0 l0.length c0] w fun e w' => ∃ v0_ : Value, e = .returned (v0_) ∧ Kd.S k50 50 w' w.heap.size (fun _ => True) v0_ r ∧ Below w.heap.size w w' := by
 have hu100 := Tryz.underlying100
 have hu50 := Tryz.underlying50
 have HR0 := Aside0.mk hr0
 have HC0 := Aside0.mk hc0
 clear hr0 hc0
 have HB := Aside0.mk (Below.refl w.heap.size w)
 have H : (if 0 ≤ (l0.length : Int) then (if ((l0.length : Int) : Int).toNat ≤ 5864062014805 then (laws_toRecordS.l0 k l0 (List.replicate ((l0.length : Int) : Int).toNat z50) 0) else (none)) else (none)) = some r := h
 clear h
 by_cases c2 : 0 ≤ (l0.length : Int)
 ·rw [if_pos c2] at H
  have c2b0 := eq_true c2
  have c2b1 : decide (0 ≤ (l0.length : Int)) = true := decide_eq_true c2
  clear c2
  by_cases c3 : ((l0.length : Int) : Int).toNat ≤ 5864062014805
  ·rw [if_pos c3] at H
   have c3b0 := eq_true c3
   have c3b1 : decide (((l0.length : Int) : Int).toNat ≤ 5864062014805) = true := decide_eq_true c3
   clear c3
   obtain ⟨y270,hy270⟩ : ∃ y_ : List (S50),y_ = (List.replicate ((l0.length : Int) : Int).toNat z50) := ⟨_,rfl⟩
   replace H : (laws_toRecordS.l0 k l0 y270 0) = some r := by first|(rw [hy270];with_reducible exact H)|(have H2_ := (Option.bind_some _ _).symm.trans H;rw [hy270];with_reducible exact H2_)|(have H2_ := (Option.bind_some _ _).symm.trans H;with_reducible exact H2_)|with_reducible exact H|(rw [hy270];exact H)|exact H
   have Ny270 := Aside0.mk hy270
   clear hy270
   have H' := Aside0.mk H
   clear H
   go_enter Tryz.func34,Tryz.ntmps34
   go_wp2_with (first|((with_reducible refine gate_dst (N := 7) rfl ?_);refine Kd.S_make k50 _ 50 rfl (N := 7) rfl 29 _ _ rfl (l0.length : Int) rfl rfl Tryz.underlying29 (.agg #[(.int .i64 0),(.int .i64 0),(.int .i64 0),(.slice none 0 0)]) 48 info50 rfl (by decide) (by omega) z50 (ok := fun _ => True) (okp := fun _ => True) (k50_mkM _ _ _ z50 (Kd.R_nil _ _ _ _ _)) (fun _ hk => hk) trivial (od_) (Nat.le_trans (Nat.mul_le_mul_right _ (od_ : (l0.length : Int).toNat ≤ 5864062014805)) (by omega)) (Below.refl _ _) (Nat.le_refl _) ?_;intro v271 w4 ho5 hb hg_ hnew_;clear hg_ hnew_;(first|rw [← Ny270.out] at ho5|(simp only [Int.reduceToNat] at ho5;rw [← Ny270.out] at ho5));have HO272 := Aside0.mk (Kd.S_lower ho5 (below_size b_));replace HB := Aside0.mk (below_step b_ hb);clear hb ho5))
   go_loopg [4] k (fun kq v4 w' => ∃ (x3_1 : List (S50)) (x4_1 : Int),v4 = .int .i64 x4_1 ∧ Aside0 (laws_toRecordS.l0 kq l0 x3_1 x4_1 = some r) ∧ Aside0 (kq ≤ k) ∧ Aside0 (Kd.S k50 50 w' w.heap.size (fun _ => True) v271 x3_1) ∧ Aside0 (Below w.heap.size w w'))
   case atStart => exact ⟨(y270),(0),rs_,H',⟨Nat.le_refl _⟩,⟨by (with_reducible repeat (first|apply Kd.S_alloc|apply Kd.S_drewN|apply Kd.S_drew));exact HO272.out⟩,⟨b_⟩⟩
   case round =>
    clear H'
    try clear c2
    try clear c2b0
    try clear c2b1
    try clear p2
    try clear c3
    try clear c3b0
    try clear c3b1
    obtain ⟨x3_1,x4_1,rfl,HA,HK1,HO_3,HB⟩ := hrel
    cases gk with
    | zero => exact absurd HA.out (by simp [laws_toRecordS.l0])
    | succ k1 =>
     have H := HA.out
     clear HA
     simp only [laws_toRecordS.l0] at H
     by_cases c6 : x4_1 < (l0.length : Int)
     ·rw [if_pos c6] at H
      have c6b0 : decide (x4_1 < (l0.length : Int)) = true := decide_eq_true c6
      clear c6
      by_cases c7 : 0 ≤ x4_1
      ·rw [if_pos c7] at H
       have c7b0 : decide (0 ≤ x4_1) = true := decide_eq_true c7
       clear c7
       replace H := Option.bind_eq_some_iff.mp H
       obtain ⟨⟨t274,t275,t276,t277⟩,A80,H⟩ := H
       replace H : (if x4_1 < (x3_1.length : Int) then (laws_toRecordS.l0 k1 l0 (x3_1.set (x4_1 : Int).toNat (⟨t274,t275,t276,t277⟩ : S50)) (wrap64 (x4_1 + 1))) else (none)) = some r := H
       have A8 := Aside0.mk A80
       clear A80
       by_cases c9 : x4_1 < (x3_1.length : Int)
       ·rw [if_pos c9] at H
        have c9b0 : decide (x4_1 < (x3_1.length : Int)) = true := decide_eq_true c9
        clear c9
        obtain ⟨y280,hy280⟩ : ∃ y_ : List (S50),y_ = (x3_1.set (x4_1 : Int).toNat (⟨t274,t275,t276,t277⟩ : S50)) := ⟨_,rfl⟩
        replace H : (laws_toRecordS.l0 k1 l0 y280 (wrap64 (x4_1 + 1))) = some r := by first|(rw [hy280];with_reducible exact H)|(have H2_ := (Option.bind_some _ _).symm.trans H;rw [hy280];with_reducible exact H2_)|(have H2_ := (Option.bind_some _ _).symm.trans H;with_reducible exact H2_)|with_reducible exact H|(rw [hy280];exact H)|exact H
        have Ny280 := Aside0.mk hy280
        clear hy280
        have H' := Aside0.mk H
        clear H
        have p273 : 0 ≤ (x4_1 : Int) := od_
        have q273 : x4_1 < (l0.length : Int) := od_
        obtain ⟨ad273,A273_3,c273_3,e273,hx273_0,hx273_1,hx273_2,hx273_3,hl273_3,hi273_3⟩ := at_T100 HR0.out x4_1 p273 q273
        cases e273
        replace hx273_0 := hx_ HB hx273_0
        replace hx273_1 := hx_ HB hx273_1
        replace hx273_2 := hx_ HB hx273_2
        replace hx273_3 := hx_ HB hx273_3
        have HR273_3 := Aside0.mk hi273_3
        have HC273_3 := Aside0.mk hl273_3
        clear hi273_3 hl273_3
        replace p273 := eq_true p273
        replace q273 := eq_true q273
        go_wp2_with (first|((with_reducible refine gcal_ (f := 77) rfl ?_);refine gl_ (some 20) Tryz.func77 #[.agg #[.int .i64 ((rd_T100 l0 x4_1).f0),.int .i64 ((rd_T100 l0 x4_1).f1),.int .i64 ((rd_T100 l0 x4_1).f2),.slice A273_3 ((rd_T100 l0 x4_1).f3).length c273_3]] ?_;(with_reducible refine (laws_toRecord.calls k1 ((rd_T100 l0 x4_1).f0) ((rd_T100 l0 x4_1).f1) ((rd_T100 l0 x4_1).f2) _ _ ((rd_T100 l0 x4_1).f3) t274 t275 t276 t277 _ ?side1 ?side2 A8.out).mono ?_);(case side1 => exact cb_ HR273_3);(case side2 => exact HC273_3.out);rintro e w11 ⟨v278,rfl,ho0,hb⟩;refine ⟨_,rfl,?_⟩;replace HO_3 := Aside0.mk (Kd.S_elder' (by (with_reducible repeat (first|apply Kd.S_alloc|apply Kd.S_drewN|apply Kd.S_drew));exact HO_3.out) (Kd.R_base ho0) hb);have HO279 := Aside0.mk (Kd.R_lower ho0 (below_size b_));replace HB := Aside0.mk (below_step b_ hb);(try clear hb);(try clear hb2);(try clear hk);(try clear hi);(try clear ho0);have p10 : 0 ≤ (x4_1 : Int) := od_;have q10 : (x4_1 : Int) < ((x3_1.length : Int) : Int) := od_;obtain ⟨go10,co10,eo10,gb10,gl10,cl10,HG10⟩ := Kd.S_form HO_3.out (by omega);(first|cases eo10|(injection eo10 with ea_ en_ ec_;(first|subst ea_|(injection ea_ with ea_;subst ea_));subst ec_;clear en_));have GB10 := Aside0.mk gb10;have GG10 := Aside0.mk HG10;clear gb10 gl10 HG10;obtain ⟨_,ce10,hcl10,hM10,hcc10,hfr10,_,_⟩ := Kd.S_elem HO_3.out z50 (x4_1 : Int) p10 q10;obtain ⟨ve10_3,rfl,ge10_3⟩ := k50_openM hM10;have hx10_0 : w11.cell? ⟨go10,(x4_1 : Int).toNat * 4,none⟩ = some (.int .i64 ((rd_T50 x3_1 x4_1).f0)) := hcc10 0 _ rfl;have hx10_1 : w11.cell? ⟨go10,(x4_1 : Int).toNat * 4 + 1,none⟩ = some (.int .i64 ((rd_T50 x3_1 x4_1).f1)) := hcc10 1 _ rfl;have hx10_2 : w11.cell? ⟨go10,(x4_1 : Int).toNat * 4 + 2,none⟩ = some (.int .i64 ((rd_T50 x3_1 x4_1).f2)) := hcc10 2 _ rfl;have hx10_3 : w11.cell? ⟨go10,(x4_1 : Int).toNat * 4 + 3,none⟩ = some (ve10_3) := hcc10 3 _ rfl;have hf10_0 : w11.frozen? ⟨go10,(x4_1 : Int).toNat * 4,none⟩ = false := hfr10 0;have hf10_1 : w11.frozen? ⟨go10,(x4_1 : Int).toNat * 4 + 1,none⟩ = false := hfr10 1;have hf10_2 : w11.frozen? ⟨go10,(x4_1 : Int).toNat * 4 + 2,none⟩ = false := hfr10 2;have hf10_3 : w11.frozen? ⟨go10,(x4_1 : Int).toNat * 4 + 3,none⟩ = false := hfr10 3;clear hcl10 hcc10 hfr10 hM10;replace p10 := eq_true p10;replace q10 := eq_true q10;have n_ := Aside0.mk (Kd.S_mono (ok' := (fun k_ => some k_ ≠ (v278 : Value).ownBlock)) HO_3.out (fun k_ hk => hk.2));clear HO_3;have HO_3 := n_;clear n_;have HX12 := Aside0.mk (show Kd.S k50 50 w11 w.heap.size (fun k_ => ((fun _ => True)) k_ ∧ ¬ ((fun k_ => some k_ = (v278 : Value).ownBlock)) k_) (.slice (some ⟨go10,0,none⟩) x3_1.length co10) x3_1 from (by (with_reducible repeat (first|apply Kd.S_alloc|apply Kd.S_drewN|apply Kd.S_drew));exact Kd.S_mono HO_3.out (fun k_ hk => ⟨trivial,fun e_ => hk e_⟩)));obtain ⟨oki12,ce12,hcl12,hM12,hcc12,hfr12,hoki12,hH12⟩ := Kd.S_elem HX12.out z50 (x4_1 : Int) (od_) (by have h_ : (x4_1 : Int) < ((x3_1.length : Int) : Int) := od_;first|exact h_|(have e_ := (Kd.S_reads' HO_3.out).1;omega)|simpa using h_);obtain ⟨ve12_3,rfl,ge12_3⟩ := k50_openM hM12;have HP12 := Kd.S_seg hH12 (od_) (by have h_ : (x4_1 : Int) < ((x3_1.length : Int) : Int) := od_;first|exact h_|(have e_ := (Kd.S_reads' HO_3.out).1;omega)|simpa using h_) (seg := [.int .i64 t274,.int .i64 t275,.int .i64 t276,v278]) (j := 0) (show 4 ≤ 4 from by decide) (x' := (⟨t274,t275,t276,t277⟩ : S50)) (k50_mkM _ _ _ (⟨t274,t275,t276,t277⟩ : S50) (Kd.R_mono (Kd.R_tight rfl (Kd.R_mono (ok' := fun k_ => ((fun _ => True)) k_ ∧ k_ ≠ go10) (Kd.R_apart' (HO279.out) (Kd.S_typed HO_3.out) (by decide)) (fun k_ hk => ⟨trivial,fun e_ => (hk.2) (by rw [e_];rfl)⟩))) (fun _ h_ => Or.inr (h_)))) (fun _ hk => hk) (fun k_ hk_ => ((Kd.R_mono (ok' := fun k_ => ((fun _ => True)) k_ ∧ k_ ≠ go10) (Kd.R_apart' (HO279.out) (Kd.S_typed HO_3.out) (by decide)) (fun k_ hk => ⟨trivial,fun e_ => (hk.2) (by rw [e_];rfl)⟩))).1 k_ hk_.symm);have hx12_0 := hcc12 0 _ rfl;(try simp only [show (k50).sz = 4 from rfl,Nat.mul_one,Nat.add_zero] at hx12_0);have hf12_0 := hfr12 0;(try simp only [show (k50).sz = 4 from rfl,Nat.mul_one,Nat.add_zero] at hf12_0);have hx12_1 := hcc12 1 _ rfl;(try simp only [show (k50).sz = 4 from rfl,Nat.mul_one,Nat.add_zero] at hx12_1);have hf12_1 := hfr12 1;(try simp only [show (k50).sz = 4 from rfl,Nat.mul_one,Nat.add_zero] at hf12_1);have hx12_2 := hcc12 2 _ rfl;(try simp only [show (k50).sz = 4 from rfl,Nat.mul_one,Nat.add_zero] at hx12_2);have hf12_2 := hfr12 2;(try simp only [show (k50).sz = 4 from rfl,Nat.mul_one,Nat.add_zero] at hf12_2);have hx12_3 := hcc12 3 _ rfl;(try simp only [show (k50).sz = 4 from rfl,Nat.mul_one,Nat.add_zero] at hx12_3);have hf12_3 := hfr12 3;(try simp only [show (k50).sz = 4 from rfl,Nat.mul_one,Nat.add_zero] at hf12_3);clear hcl12 hcc12 hfr12 hM12 hoki12 hH12)|((with_reducible refine gate_store (t := 50) (p := 21) rfl ?_);refine store_event (t := 50) (p := 21) (v := ?vo_w13) (w1 := ((((w11.setCell ⟨go10,(x4_1 : Int).toNat * 4,none⟩ (.int .i64 t274)).setCell ⟨go10,(x4_1 : Int).toNat * 4 + 1,none⟩ (.int .i64 t275)).setCell ⟨go10,(x4_1 : Int).toNat * 4 + 2,none⟩ (.int .i64 t276)).setCell ⟨go10,(x4_1 : Int).toNat * 4 + 3,none⟩ (v278))) ?hg ?ho ?hn ?hr ?_;(case ho => rfl);(case hg => rfl);(case hn => rfl);(case hr => first|(go_simp;done)|(go_simp;rfl)|(obtain ⟨_,_,e_⟩ := Kd.R_slice HO_3.out;subst e_;first|(go_simp;done)|(go_simp;rfl))|(obtain ⟨_,_,e_⟩ := Kd.R_slice HO279.out;subst e_;first|(go_simp;done)|(go_simp;rfl)));intro w13 hw;have hg : w11.grownBy w13 (some go10) := (by rw [hw];exact HP12.2);have hp_ : Kd.S k50 50 w13 w.heap.size (fun _ => True) (.slice (some ⟨go10,0,none⟩) x3_1.length co10) y280 := (by rw [hw,Ny280.out];exact HP12.1);clear HP12;replace HO_3 := Aside0.mk (hp_);replace HB := Aside0.mk ((by rw [hw];exact below_set (below_set (below_set (below_set (HB.out) GB10.out) GB10.out) GB10.out) GB10.out : Below w.heap.size w w13));clear HO279;clear hg hw hp_))
        go_roundg k1
        case measure => have := HK1.out;omega
        case rel => exact ⟨(y280),(wrap64 (x4_1 + 1)),rs_,H',⟨by have := HK1.out;omega⟩,⟨by (with_reducible repeat (first|apply Kd.S_alloc|apply Kd.S_drewN|apply Kd.S_drew));exact HO_3.out⟩,⟨b_⟩⟩
       ·rw [if_neg c9] at H
        exact absurd H (by simp)
      ·rw [if_neg c7] at H
       exact absurd H (by simp)
     ·rw [if_neg c6] at H
      have c6b0 : decide (x4_1 < (l0.length : Int)) = false := decide_eq_false c6
      clear c6
      obtain rfl := Option.some.inj H
      go_wp2
      go_ret
      exact ⟨_,rf_,by (with_reducible repeat (first|apply Kd.S_alloc|apply Kd.S_drewN|apply Kd.S_drew));exact HO_3.out,b_⟩
  ·rw [if_neg c3] at H
   exact absurd H (by simp)
 ·rw [if_neg c2] at H
  exact absurd H (by simp)

/-! ### laws_toInt64S: function 35 -/
def laws_toInt64S.l0 : Nat → List Int → List Int → Int → Option (List Int)
  | 0, _, _, _ => none
  | k + 1, x0, x3, x4 => if x4 < (x0.length : Int) then (if 0 ≤ x4 then (if x4 < (x3.length : Int) then (laws_toInt64S.l0 k x0 (x3.set (x4 : Int).toNat (rd x0 x4)) (wrap64 (x4 + 1))) else (none)) else (none)) else (some x3)
def laws_toInt64S.f (k : Nat) (l0 : List Int) : Option (List Int) := if 0 ≤ (l0.length : Int) then (if ((l0.length : Int) : Int).toNat ≤ 35184372088832 then (laws_toInt64S.l0 k l0 (List.replicate ((l0.length : Int) : Int).toNat 0) 0) else (none)) else (none)

set_option maxHeartbeats 8000000 in
set_option maxRecDepth 100000 in
theorem laws_toInt64S.calls (k : Nat) (A0 : Option Addr) (c0 : Nat) (l0 : List Int) (r : List Int) (w : World) (hr0 : Kd.C (Kd.int .i64) w A0 l0.length l0) (hc0 : l0.length ≤ c0) (h : laws_toInt64S.f k l0 = some r) :
    Calls Tryz.prog 35 #[.slice A0 l0.length c0] w fun e w' => ∃ v0_ : Value, e = .returned (v0_) ∧ Kd.R (Kd.int .i64) 2 w' w.heap.size (fun _ => True) v0_ r ∧ Below w.heap.size w w' := by
 have HR0 := Aside0.mk hr0
 have HC0 := Aside0.mk hc0
 clear hr0 hc0
 have HB := Aside0.mk (Below.refl w.heap.size w)
 have H : (if 0 ≤ (l0.length : Int) then (if ((l0.length : Int) : Int).toNat ≤ 35184372088832 then (laws_toInt64S.l0 k l0 (List.replicate ((l0.length : Int) : Int).toNat 0) 0) else (none)) else (none)) = some r := h
 clear h
 by_cases c2 : 0 ≤ (l0.length : Int)
 ·rw [if_pos c2] at H
  have c2b0 := eq_true c2
  have c2b1 : decide (0 ≤ (l0.length : Int)) = true := decide_eq_true c2
  clear c2
  by_cases c3 : ((l0.length : Int) : Int).toNat ≤ 35184372088832
  ·rw [if_pos c3] at H
   have c3b0 := eq_true c3
   have c3b1 : decide (((l0.length : Int) : Int).toNat ≤ 35184372088832) = true := decide_eq_true c3
   clear c3
   obtain ⟨y281,hy281⟩ : ∃ y_ : List Int,y_ = (List.replicate ((l0.length : Int) : Int).toNat 0) := ⟨_,rfl⟩
   replace H : (laws_toInt64S.l0 k l0 y281 0) = some r := by first|(rw [hy281];with_reducible exact H)|(have H2_ := (Option.bind_some _ _).symm.trans H;rw [hy281];with_reducible exact H2_)|(have H2_ := (Option.bind_some _ _).symm.trans H;with_reducible exact H2_)|with_reducible exact H|(rw [hy281];exact H)|exact H
   have Ny281 := Aside0.mk hy281
   clear hy281
   have H' := Aside0.mk H
   clear H
   go_enter Tryz.func35,Tryz.ntmps35
   go_wp2_with (first|((with_reducible refine gate_dst (N := 7) rfl ?_);refine Kd.R_make (Kd.int .i64) _ 2 rfl (N := 7) rfl 24 _ _ rfl (l0.length : Int) rfl rfl Tryz.underlying24 (.int .i64 0) 8 info2 rfl (by decide) (by omega) 0 (ok := fun _ => True) (okp := fun _ => True) rfl (fun _ hk => hk) trivial (od_) (Nat.le_trans (Nat.mul_le_mul_right _ (od_ : (l0.length : Int).toNat ≤ 35184372088832)) (by omega)) (Below.refl _ _) (Nat.le_refl _) ?_;intro v282 w4 ho5 hb hg_ hnew_;clear hg_ hnew_;(first|rw [← Ny281.out] at ho5|(simp only [Int.reduceToNat] at ho5;rw [← Ny281.out] at ho5));have HO283 := Aside0.mk (Kd.R_lower ho5 (below_size b_));replace HB := Aside0.mk (below_step b_ hb);clear hb ho5))
   go_loopg [4] k (fun kq v4 w' => ∃ (x3_1 : List Int) (x4_1 : Int),v4 = .int .i64 x4_1 ∧ Aside0 (laws_toInt64S.l0 kq l0 x3_1 x4_1 = some r) ∧ Aside0 (kq ≤ k) ∧ Aside0 (Kd.R (Kd.int .i64) 2 w' w.heap.size (fun _ => True) v282 x3_1) ∧ Aside0 (Below w.heap.size w w'))
   case atStart => exact ⟨(y281),(0),rs_,H',⟨Nat.le_refl _⟩,⟨by (with_reducible repeat (first|apply Kd.R_alloc|apply Kd.R_drewN|apply Kd.R_drew));exact HO283.out⟩,⟨b_⟩⟩
   case round =>
    clear H'
    try clear c2
    try clear c2b0
    try clear c2b1
    try clear p2
    try clear c3
    try clear c3b0
    try clear c3b1
    obtain ⟨x3_1,x4_1,rfl,HA,HK1,HO_3,HB⟩ := hrel
    cases gk with
    | zero => exact absurd HA.out (by simp [laws_toInt64S.l0])
    | succ k1 =>
     have H := HA.out
     clear HA
     simp only [laws_toInt64S.l0] at H
     by_cases c6 : x4_1 < (l0.length : Int)
     ·rw [if_pos c6] at H
      have c6b0 : decide (x4_1 < (l0.length : Int)) = true := decide_eq_true c6
      clear c6
      by_cases c7 : 0 ≤ x4_1
      ·rw [if_pos c7] at H
       have c7b0 : decide (0 ≤ x4_1) = true := decide_eq_true c7
       clear c7
       by_cases c8 : x4_1 < (x3_1.length : Int)
       ·rw [if_pos c8] at H
        have c8b0 : decide (x4_1 < (x3_1.length : Int)) = true := decide_eq_true c8
        clear c8
        obtain ⟨y285,hy285⟩ : ∃ y_ : List Int,y_ = (x3_1.set (x4_1 : Int).toNat (rd l0 x4_1)) := ⟨_,rfl⟩
        replace H : (laws_toInt64S.l0 k1 l0 y285 (wrap64 (x4_1 + 1))) = some r := by first|(rw [hy285];with_reducible exact H)|(have H2_ := (Option.bind_some _ _).symm.trans H;rw [hy285];with_reducible exact H2_)|(have H2_ := (Option.bind_some _ _).symm.trans H;with_reducible exact H2_)|with_reducible exact H|(rw [hy285];exact H)|exact H
        have Ny285 := Aside0.mk hy285
        clear hy285
        have H' := Aside0.mk H
        clear H
        have p284 : 0 ≤ (x4_1 : Int) := od_
        have q284 : x4_1 < (l0.length : Int) := od_
        obtain ⟨ad284,e284,hx284_0⟩ := Kd.at_int HR0.out x4_1 p284 q284
        cases e284
        replace hx284_0 := hx_ HB hx284_0
        replace p284 := eq_true p284
        replace q284 := eq_true q284
        have p9 : 0 ≤ (x4_1 : Int) := od_
        have q9 : (x4_1 : Int) < ((x3_1.length : Int) : Int) := od_
        obtain ⟨go9,co9,eo9,gb9,gl9,cl9,HG9⟩ := Kd.R_form HO_3.out (by omega)
        (first|cases eo9|(injection eo9 with ea_ en_ ec_;(first|subst ea_|(injection ea_ with ea_;subst ea_));subst ec_;clear en_))
        have GB9 := Aside0.mk gb9
        have GG9 := Aside0.mk HG9
        clear gb9 gl9 HG9
        obtain ⟨hx9_0,hf9_0⟩ := Kd.R_celln 0 HO_3.out (x4_1 : Int) p9 q9
        replace p9 := eq_true p9
        replace q9 := eq_true q9
        have HP10 := Kd.R_putg HO_3.out (x4_1 : Int) (rd l0 x4_1)
        go_wp2_with (first|((with_reducible refine gate_store (t := 2) (p := 20) rfl ?_);refine store_event (t := 2) (p := 20) (v := ?vo_w11) (w1 := (wr.setCell ⟨go9,(x4_1 : Int).toNat,none⟩ (.int .i64 (rd l0 x4_1)))) ?hg ?ho ?hn ?hr ?_;(case ho => rfl);(case hg => rfl);(case hn => rfl);(case hr => first|(go_simp;done)|(go_simp;rfl)|(obtain ⟨_,_,e_⟩ := Kd.R_slice HO_3.out;subst e_;first|(go_simp;done)|(go_simp;rfl)));intro w11 hw;have hg : wr.grownBy w11 (some go9) := (by rw [hw];exact HP10.2);have hp_ : Kd.R (Kd.int .i64) 2 w11 w.heap.size (fun _ => True) (.slice (some ⟨go9,0,none⟩) x3_1.length co9) y285 := (by rw [hw,Ny285.out];exact HP10.1);clear HP10;replace HO_3 := Aside0.mk (hp_);replace HB := Aside0.mk ((by rw [hw];exact below_set (HB.out) GB9.out : Below w.heap.size w w11));clear hg hw hp_))
        go_roundg k1
        case measure => have := HK1.out;omega
        case rel => exact ⟨(y285),(wrap64 (x4_1 + 1)),rs_,H',⟨by have := HK1.out;omega⟩,⟨by (with_reducible repeat (first|apply Kd.R_alloc|apply Kd.R_drewN|apply Kd.R_drew));exact HO_3.out⟩,⟨b_⟩⟩
       ·rw [if_neg c8] at H
        exact absurd H (by simp)
      ·rw [if_neg c7] at H
       exact absurd H (by simp)
     ·rw [if_neg c6] at H
      have c6b0 : decide (x4_1 < (l0.length : Int)) = false := decide_eq_false c6
      clear c6
      obtain rfl := Option.some.inj H
      go_wp2
      go_ret
      exact ⟨_,rf_,by (with_reducible repeat (first|apply Kd.R_alloc|apply Kd.R_drewN|apply Kd.R_drew));exact HO_3.out,b_⟩
  ·rw [if_neg c3] at H
   exact absurd H (by simp)
 ·rw [if_neg c2] at H
  exact absurd H (by simp)

/-! ### laws_toMachine: function 7 -/
def laws_toMachine.f (k : Nat) (a0_0 : Bool) (l0_1 : List (S96)) (l0_2 : List (S100)) (l0_3 : List Int) : Option (Bool × (List (S83)) × (List (S50)) × List Int) := (laws_toCopyS.f k l0_1).bind fun t289 => ((laws_toRecordS.f k l0_2).bind fun t292 => ((laws_toInt64S.f k l0_3).bind fun t295 => (some (a0_0, t289, t292, t295))))

set_option maxHeartbeats 8000000 in
set_option maxRecDepth 100000 in
theorem laws_toMachine.calls (k : Nat) (a0_0 : Bool) (A0_1 : Option Addr) (c0_1 : Nat) (l0_1 : List (S96)) (A0_2 : Option Addr) (c0_2 : Nat) (l0_2 : List (S100)) (A0_3 : Option Addr) (c0_3 : Nat) (l0_3 : List Int) (r1 : Bool) (r2 : List (S83)) (r3 : List (S50)) (r4 : List Int) (w : World) (hr0_1 : Kd.C k96 w A0_1 l0_1.length l0_1) (hc0_1 : l0_1.length ≤ c0_1) (hr0_2 : Kd.C k100 w A0_2 l0_2.length l0_2) (hc0_2 : l0_2.length ≤ c0_2) (hr0_3 : Kd.C (Kd.int .i64) w A0_3 l0_3.length l0_3) (hc0_3 : l0_3.length ≤ c0_3) (h : laws_toMachine.f k a0_0 l0_1 l0_2 l0_3 = some (r1, r2, r3, r4)) :
    Calls Tryz.prog 7 #[.agg #[.bool a0_0, .slice A0_1 l0_1.length c0_1, .slice A0_2 l0_2.length c0_2, .slice A0_3 l0_3.length c0_3]] w fun e w' => ∃ v1_ v2_ v3_ : Value, e = .returned (.agg #[.bool r1, v1_, v2_, v3_]) ∧ Kd.S k83 83 w' w.heap.size (fun _ => True) v1_ r2 ∧ Kd.S k50 50 w' w.heap.size (fun _ => True) v2_ r3 ∧ Kd.R (Kd.int .i64) 2 w' w.heap.size (fun _ => True) v3_ r4 ∧ Below w.heap.size w w' := by
 have hu26 := Tryz.underlying26
 have hu31 := Tryz.underlying31
 have HR0_1 := Aside0.mk hr0_1
 have HC0_1 := Aside0.mk hc0_1
 clear hr0_1 hc0_1
 have HR0_2 := Aside0.mk hr0_2
 have HC0_2 := Aside0.mk hc0_2
 clear hr0_2 hc0_2
 have HR0_3 := Aside0.mk hr0_3
 have HC0_3 := Aside0.mk hc0_3
 clear hr0_3 hc0_3
 have HB := Aside0.mk (Below.refl w.heap.size w)
 have H : ((laws_toCopyS.f k l0_1).bind fun t289 => ((laws_toRecordS.f k l0_2).bind fun t292 => ((laws_toInt64S.f k l0_3).bind fun t295 => (some (a0_0,t289,t292,t295))))) = some (r1,r2,r3,r4) := h
 clear h
 replace H := bs_ H
 obtain ⟨t289,A2,H⟩ := H
 replace H := bs_ H
 obtain ⟨t292,A3,H⟩ := H
 replace H := bs_ H
 obtain ⟨t295,A4,H⟩ := H
 simp only [Option.some.injEq,Prod.mk.injEq] at H
 obtain ⟨rfl,rfl,rfl,rfl⟩ := H
 go_enter Tryz.func7,Tryz.ntmps7
 go_wp2_with (first|((with_reducible refine gate_dst (N := 1) rfl ?_);refine bx_ 1 #[.bool a0_0,.slice A0_1 l0_1.length c0_1,.slice A0_2 l0_2.length c0_2,.slice A0_3 l0_3.length c0_3] 26 ?_;intro gb286 hg w5 hbox hb;replace HB := nb_ hg hbox hb;obtain ⟨BK286,GW286,GE286,HB⟩ := HB;clear hb hbox hg)|((with_reducible refine gate_dst (N := 2) rfl ?_);refine bx_ 2 #[.bool false,.slice none 0 0,.slice none 0 0,.slice none 0 0] 31 ?_;intro gb287 hg w6 hbox hb;replace HB := nb_ hg hbox hb;obtain ⟨BK287,GW287,GE287,HB⟩ := HB;have NB286_287 := Aside0.mk ((nl_ BK286 hg));have NB287_286 := Aside0.mk ((ng_ BK286 hg));replace BK286 := Aside0.mk (blk_below (kb_ BK286) hb);clear hb hbox hg)|((with_reducible refine gate_dst (N := 3) rfl ?_);refine bx_ 3 #[.bool false,.slice none 0 0,.slice none 0 0,.slice none 0 0] 31 ?_;intro gb288 hg w7 hbox hb;replace HB := nb_ hg hbox hb;obtain ⟨BK288,GW288,GE288,HB⟩ := HB;have NB286_288 := Aside0.mk ((nl_ BK286 hg));have NB288_286 := Aside0.mk ((ng_ BK286 hg));replace BK286 := Aside0.mk (blk_below (kb_ BK286) hb);have NB287_288 := Aside0.mk ((nl_ BK287 hg));have NB288_287 := Aside0.mk ((ng_ BK287 hg));replace BK287 := Aside0.mk (blk_below (kb_ BK287) hb);clear hb hbox hg;have hnb8 := NB286_287.out;have hnc8 := NB287_286.out;have hnb9 := NB286_288.out;have hnc9 := NB288_286.out;obtain ⟨⟨hcz10_0,hcz10_1,hcz10_2,hcz10_3⟩,hfz10_0,hfz10_1,hfz10_2,hfz10_3⟩ := cl4_ BK286.out;have hnb11 := NB288_287.out;have hnc11 := NB287_288.out;obtain ⟨⟨hcz12_0,hcz12_1,hcz12_2,hcz12_3⟩,hfz12_0,hfz12_1,hfz12_2,hfz12_3⟩ := cl4_ BK288.out)|((with_reducible refine gcal_ (f := 33) rfl ?_);refine gl_ (some 9) Tryz.func33 #[.slice A0_1 l0_1.length c0_1] ?_;(with_reducible refine (laws_toCopyS.calls k _ _ l0_1 t289 _ ?side1 ?side2 A2.out).mono ?_);(case side1 => exact Kd.C_below HR0_1.out b_);(case side2 => exact HC0_1.out);rintro e w13 ⟨v290,rfl,ho0,hb⟩;refine ⟨_,rfl,?_⟩;replace BK286 := Aside0.mk (blk_below (kf_ BK286) hb);replace BK287 := Aside0.mk (blk_below (kf_ BK287) hb);replace BK288 := Aside0.mk (blk_below (g := gb288) (o := .cells #[.bool a0_0,.slice none 0 0,.slice none 0 0,.slice none 0 0] 31 (0,0)) (by (with_reducible repeat (first|refine blk_drewN ?_ _|refine blk_drew ?_|refine blk_alloc ?_ _));refine blk_put (cs := #[.bool false,.slice none 0 0,.slice none 0 0,.slice none 0 0]) ?_ 0 _ rfl;(with_reducible repeat (first|refine blk_drewN ?_ _|refine blk_drew ?_|refine blk_alloc ?_ _));exact BK288.out) hb);have HO291 := Aside0.mk (Kd.S_lower ho0 (below_size b_));replace HB := Aside0.mk (below_step b_ hb);(try clear hb);(try clear hb2);(try clear hk);(try clear hi);(try clear ho0);obtain ⟨Ao14,co14,eo14⟩ := Kd.S_slice HO291.out;subst eo14;obtain ⟨⟨hcz15_0,hcz15_1,hcz15_2,hcz15_3⟩,hfz15_0,hfz15_1,hfz15_2,hfz15_3⟩ := cl4_ BK288.out;obtain ⟨⟨hcz16_0,hcz16_1,hcz16_2,hcz16_3⟩,hfz16_0,hfz16_1,hfz16_2,hfz16_3⟩ := cl4_ BK286.out)|((with_reducible refine gcal_ (f := 34) rfl ?_);refine gl_ (some 13) Tryz.func34 #[.slice A0_2 l0_2.length c0_2] ?_;(with_reducible refine (laws_toRecordS.calls k _ _ l0_2 t292 _ ?side1 ?side2 A3.out).mono ?_);(case side1 => exact Kd.C_below HR0_2.out b_);(case side2 => exact HC0_2.out);rintro e w17 ⟨v293,rfl,ho0,hb⟩;refine ⟨_,rfl,?_⟩;replace HO291 := Aside0.mk (Kd.S_below (by (with_reducible repeat (first|apply Kd.S_alloc|apply Kd.S_drewN|apply Kd.S_drew));exact (Kd.S_mono (Kd.S_far (p := ⟨gb288,1,none⟩) (Kd.S_types HO291.out BK288.out (by decide)) (fun _ hk => hk.2) (.slice Ao14 t289.length co14)) (fun _ h_ => h_.1))) hb);replace BK286 := Aside0.mk (blk_below (kf_ BK286) hb);replace BK287 := Aside0.mk (blk_below (kf_ BK287) hb);replace BK288 := Aside0.mk (blk_below (g := gb288) (o := .cells #[.bool a0_0,.slice Ao14 t289.length co14,.slice none 0 0,.slice none 0 0] 31 (0,0)) (by (with_reducible repeat (first|refine blk_drewN ?_ _|refine blk_drew ?_|refine blk_alloc ?_ _));refine blk_put (cs := #[.bool a0_0,.slice none 0 0,.slice none 0 0,.slice none 0 0]) ?_ 1 _ rfl;(with_reducible repeat (first|refine blk_drewN ?_ _|refine blk_drew ?_|refine blk_alloc ?_ _));exact BK288.out) hb);have HO294 := Aside0.mk (Kd.S_lower ho0 (below_size b_));replace HB := Aside0.mk (below_step b_ hb);(try clear hb);(try clear hb2);(try clear hk);(try clear hi);(try clear ho0);obtain ⟨Ao18,co18,eo18⟩ := Kd.S_slice HO294.out;subst eo18;obtain ⟨⟨hcz19_0,hcz19_1,hcz19_2,hcz19_3⟩,hfz19_0,hfz19_1,hfz19_2,hfz19_3⟩ := cl4_ BK288.out;obtain ⟨⟨hcz20_0,hcz20_1,hcz20_2,hcz20_3⟩,hfz20_0,hfz20_1,hfz20_2,hfz20_3⟩ := cl4_ BK286.out)|((with_reducible refine gcal_ (f := 35) rfl ?_);refine gl_ (some 17) Tryz.func35 #[.slice A0_3 l0_3.length c0_3] ?_;(with_reducible refine (laws_toInt64S.calls k _ _ l0_3 t295 _ ?side1 ?side2 A4.out).mono ?_);(case side1 => exact Kd.C_below HR0_3.out b_);(case side2 => exact HC0_3.out);rintro e w21 ⟨v296,rfl,ho0,hb⟩;refine ⟨_,rfl,?_⟩;replace HO291 := Aside0.mk (Kd.S_below (by (with_reducible repeat (first|apply Kd.S_alloc|apply Kd.S_drewN|apply Kd.S_drew));exact (Kd.S_mono (Kd.S_far (p := ⟨gb288,2,none⟩) (Kd.S_types HO291.out BK288.out (by decide)) (fun _ hk => hk.2) (.slice Ao18 t292.length co18)) (fun _ h_ => h_.1))) hb);replace HO294 := Aside0.mk (Kd.S_below (by (with_reducible repeat (first|apply Kd.S_alloc|apply Kd.S_drewN|apply Kd.S_drew));exact (Kd.S_mono (Kd.S_far (p := ⟨gb288,2,none⟩) (Kd.S_types HO294.out BK288.out (by decide)) (fun _ hk => hk.2) (.slice Ao18 t292.length co18)) (fun _ h_ => h_.1))) hb);replace BK286 := Aside0.mk (blk_below (kf_ BK286) hb);replace BK287 := Aside0.mk (blk_below (kf_ BK287) hb);replace BK288 := Aside0.mk (blk_below (g := gb288) (o := .cells #[.bool a0_0,.slice Ao14 t289.length co14,.slice Ao18 t292.length co18,.slice none 0 0] 31 (0,0)) (by (with_reducible repeat (first|refine blk_drewN ?_ _|refine blk_drew ?_|refine blk_alloc ?_ _));refine blk_put (cs := #[.bool a0_0,.slice Ao14 t289.length co14,.slice none 0 0,.slice none 0 0]) ?_ 2 _ rfl;(with_reducible repeat (first|refine blk_drewN ?_ _|refine blk_drew ?_|refine blk_alloc ?_ _));exact BK288.out) hb);have HO297 := Aside0.mk (Kd.R_lower ho0 (below_size b_));replace HB := Aside0.mk (below_step b_ hb);(try clear hb);(try clear hb2);(try clear hk);(try clear hi);(try clear ho0);obtain ⟨Ao22,co22,eo22⟩ := Kd.R_slice HO297.out;subst eo22;obtain ⟨⟨hcz23_0,hcz23_1,hcz23_2,hcz23_3⟩,hfz23_0,hfz23_1,hfz23_2,hfz23_3⟩ := cl4_ BK288.out;obtain ⟨⟨hcz24_0,hcz24_1,hcz24_2,hcz24_3⟩,hfz24_0,hfz24_1,hfz24_2,hfz24_3⟩ := cl4_ BK287.out))
 refine bodyPost_ret (results_cell_row rfl _ _ gb287 31 #[.bool a0_0,.slice Ao14 t289.length co14,.slice Ao18 t292.length co18,.slice Ao22 t295.length co22] (0,0) _ rfl (by (with_reducible repeat (first|refine blk_drewN ?_ _|refine blk_drew ?_|refine blk_alloc ?_ _));refine blk_put (cs := #[.bool a0_0,.slice Ao14 t289.length co14,.slice Ao18 t292.length co18,.slice none 0 0]) ?_ 3 _ rfl;(with_reducible repeat (first|refine blk_drewN ?_ _|refine blk_drew ?_|refine blk_alloc ?_ _));refine blk_put (cs := #[.bool a0_0,.slice Ao14 t289.length co14,.slice none 0 0,.slice none 0 0]) ?_ 2 _ rfl;(with_reducible repeat (first|refine blk_drewN ?_ _|refine blk_drew ?_|refine blk_alloc ?_ _));refine blk_put (cs := #[.bool a0_0,.slice none 0 0,.slice none 0 0,.slice none 0 0]) ?_ 1 _ rfl;(with_reducible repeat (first|refine blk_drewN ?_ _|refine blk_drew ?_|refine blk_alloc ?_ _));refine blk_put (cs := #[.bool false,.slice none 0 0,.slice none 0 0,.slice none 0 0]) ?_ 0 _ rfl;(with_reducible repeat (first|refine blk_drewN ?_ _|refine blk_drew ?_|refine blk_alloc ?_ _));refine blk_far ?_ NB287_288.out _;(with_reducible repeat (first|refine blk_drewN ?_ _|refine blk_drew ?_|refine blk_alloc ?_ _));exact BK287.out) Tryz.underlying31 rfl (by kernel_rfl)) rfl ?_
 exact ⟨_,_,_,rf_,by (with_reducible repeat (first|apply Kd.S_alloc|apply Kd.S_drewN|apply Kd.S_drew));exact Kd.S_mono (Kd.S_far (p := ⟨gb287,3,none⟩) (Kd.S_far (p := ⟨gb287,2,none⟩) (Kd.S_far (p := ⟨gb287,1,none⟩) (Kd.S_far (p := ⟨gb287,0,none⟩) (Kd.S_far (p := ⟨gb288,3,none⟩) (Kd.S_types (Kd.S_types HO291.out BK288.out (by decide)) BK287.out (by decide)) (fun _ hk => hk.1.2) (.slice Ao22 t295.length co22)) (fun _ hk => hk.2) (.bool a0_0)) (fun _ hk => hk.2) (.slice Ao14 t289.length co14)) (fun _ hk => hk.2) (.slice Ao18 t292.length co18)) (fun _ hk => hk.2) (.slice Ao22 t295.length co22)) (fun _ hk => trivial),by (with_reducible repeat (first|apply Kd.S_alloc|apply Kd.S_drewN|apply Kd.S_drew));exact Kd.S_mono (Kd.S_far (p := ⟨gb287,3,none⟩) (Kd.S_far (p := ⟨gb287,2,none⟩) (Kd.S_far (p := ⟨gb287,1,none⟩) (Kd.S_far (p := ⟨gb287,0,none⟩) (Kd.S_far (p := ⟨gb288,3,none⟩) (Kd.S_types (Kd.S_types HO294.out BK288.out (by decide)) BK287.out (by decide)) (fun _ hk => hk.1.2) (.slice Ao22 t295.length co22)) (fun _ hk => hk.2) (.bool a0_0)) (fun _ hk => hk.2) (.slice Ao14 t289.length co14)) (fun _ hk => hk.2) (.slice Ao18 t292.length co18)) (fun _ hk => hk.2) (.slice Ao22 t295.length co22)) (fun _ hk => trivial),by (with_reducible repeat (first|apply Kd.R_alloc|apply Kd.R_drewN|apply Kd.R_drew));exact Kd.R_mono (Kd.R_far (p := ⟨gb287,3,none⟩) (Kd.R_far (p := ⟨gb287,2,none⟩) (Kd.R_far (p := ⟨gb287,1,none⟩) (Kd.R_far (p := ⟨gb287,0,none⟩) (Kd.R_far (p := ⟨gb288,3,none⟩) (Kd.R_types (Kd.R_types HO297.out BK288.out (by decide)) BK287.out (by decide)) (fun _ hk => hk.1.2) (.slice Ao22 t295.length co22)) (fun _ hk => hk.2) (.bool a0_0)) (fun _ hk => hk.2) (.slice Ao14 t289.length co14)) (fun _ hk => hk.2) (.slice Ao18 t292.length co18)) (fun _ hk => hk.2) (.slice Ao22 t295.length co22)) (fun _ hk => trivial),b_⟩

/-! ### impl_within: function 80 -/
def impl_within.f (a0 : Int) (a1 : Int) (a2 : Int) : Option (Bool) := if a0 ≥ a1 then (some (decide (a0 ≤ a2))) else (some false)
set_option maxHeartbeats 8000000 in
set_option maxRecDepth 100000 in
theorem impl_within.calls (a0 : Int) (a1 : Int) (a2 : Int) (r : Bool) (w : World) (h : impl_within.f a0 a1 a2 = some r) :
    Calls Tryz.prog 80 #[.int .i64 a0, .int .i64 a1, .int .i64 a2] w fun e w' => e = .returned (.bool r) ∧ Drawn0 w w' := by
 have H : (if a0 ≥ a1 then (some (decide (a0 ≤ a2))) else (some false)) = some r := h
 clear h
 by_cases c4 : a0 ≥ a1
 ·rw [if_pos c4] at H
  have c4b0 : decide (a1 ≤ a0) = true := decide_eq_true c4
  clear c4
  obtain rfl := Option.some.inj H
  go_enter Tryz.func80,Tryz.ntmps80
  go_wp2
  go_ret
  exact ⟨rs_,by repeat (first|exact Drawn0.refl _|apply Drawn0.step)⟩
 ·rw [if_neg c4] at H
  have c4b0 : decide (a1 ≤ a0) = false := decide_eq_false c4
  clear c4
  obtain rfl := Option.some.inj H
  go_enter Tryz.func80,Tryz.ntmps80
  go_wp2
  go_ret
  exact ⟨rs_,by repeat (first|exact Drawn0.refl _|apply Drawn0.step)⟩

/-! ### impl_isId: function 37 -/
def impl_isId.f (a0 : Int) : Option (Bool) := (impl_within.f a0 1 1000000).bind fun t298 => (some t298)
set_option maxHeartbeats 8000000 in
set_option maxRecDepth 100000 in
theorem impl_isId.calls (a0 : Int) (r : Bool) (w : World) (h : impl_isId.f a0 = some r) :
    Calls Tryz.prog 37 #[.int .i64 a0] w fun e w' => e = .returned (.bool r) ∧ Drawn0 w w' := by
 have H : ((impl_within.f a0 1 1000000).bind fun t298 => (some t298)) = some r := h
 clear h
 replace H := bs_ H
 obtain ⟨t298,A2,H⟩ := H
 obtain rfl := Option.some.inj H
 go_enter Tryz.func37,Tryz.ntmps37
 go_wp2_with (first|((with_reducible refine gcal_ (f := 80) rfl ?_);refine gl_ (some 4) Tryz.func80 #[.int .i64 a0,.int .i64 1,.int .i64 1000000] ?_;(with_reducible refine (impl_within.calls a0 1 1000000 t298 _ A2.out).mono ?_);rintro e w' ⟨rfl,⟨nd,rfl⟩⟩;refine ⟨_,rfl,?_⟩))
 go_ret
 exact ⟨rs_,by repeat (first|exact Drawn0.refl _|apply Drawn0.step)⟩

/-! ### impl_isRegion: function 54 -/
def impl_isRegion.f (a0 : Int) : Option (Bool) := (impl_within.f a0 0 5).bind fun t299 => (some t299)
set_option maxHeartbeats 8000000 in
set_option maxRecDepth 100000 in
theorem impl_isRegion.calls (a0 : Int) (r : Bool) (w : World) (h : impl_isRegion.f a0 = some r) :
    Calls Tryz.prog 54 #[.int .i64 a0] w fun e w' => e = .returned (.bool r) ∧ Drawn0 w w' := by
 have H : ((impl_within.f a0 0 5).bind fun t299 => (some t299)) = some r := h
 clear h
 replace H := bs_ H
 obtain ⟨t299,A2,H⟩ := H
 obtain rfl := Option.some.inj H
 go_enter Tryz.func54,Tryz.ntmps54
 go_wp2_with (first|((with_reducible refine gcal_ (f := 80) rfl ?_);refine gl_ (some 4) Tryz.func80 #[.int .i64 a0,.int .i64 0,.int .i64 5] ?_;(with_reducible refine (impl_within.calls a0 0 5 t299 _ A2.out).mono ?_);rintro e w' ⟨rfl,⟨nd,rfl⟩⟩;refine ⟨_,rfl,?_⟩))
 go_ret
 exact ⟨rs_,by repeat (first|exact Drawn0.refl _|apply Drawn0.step)⟩

/-! ### impl_isHead: function 99 -/
def impl_isHead.f (a0 : Int) : Option (Bool) := (impl_within.f a0 0 4000003).bind fun t300 => (some t300)
set_option maxHeartbeats 8000000 in
set_option maxRecDepth 100000 in
theorem impl_isHead.calls (a0 : Int) (r : Bool) (w : World) (h : impl_isHead.f a0 = some r) :
    Calls Tryz.prog 99 #[.int .i64 a0] w fun e w' => e = .returned (.bool r) ∧ Drawn0 w w' := by
 have H : ((impl_within.f a0 0 4000003).bind fun t300 => (some t300)) = some r := h
 clear h
 replace H := bs_ H
 obtain ⟨t300,A2,H⟩ := H
 obtain rfl := Option.some.inj H
 go_enter Tryz.func99,Tryz.ntmps99
 go_wp2_with (first|((with_reducible refine gcal_ (f := 80) rfl ?_);refine gl_ (some 4) Tryz.func80 #[.int .i64 a0,.int .i64 0,.int .i64 4000003] ?_;(with_reducible refine (impl_within.calls a0 0 4000003 t300 _ A2.out).mono ?_);rintro e w' ⟨rfl,⟨nd,rfl⟩⟩;refine ⟨_,rfl,?_⟩))
 go_ret
 exact ⟨rs_,by repeat (first|exact Drawn0.refl _|apply Drawn0.step)⟩

/-! ### impl_isValue: function 100 -/
def impl_isValue.f (a0 : Int) : Option (Bool) := (impl_within.f a0 (-1000000000) 1000000000).bind fun t301 => (some t301)
set_option maxHeartbeats 8000000 in
set_option maxRecDepth 100000 in
theorem impl_isValue.calls (a0 : Int) (r : Bool) (w : World) (h : impl_isValue.f a0 = some r) :
    Calls Tryz.prog 100 #[.int .i64 a0] w fun e w' => e = .returned (.bool r) ∧ Drawn0 w w' := by
 have H : ((impl_within.f a0 (-1000000000) 1000000000).bind fun t301 => (some t301)) = some r := h
 clear h
 replace H := bs_ H
 obtain ⟨t301,A2,H⟩ := H
 obtain rfl := Option.some.inj H
 go_enter Tryz.func100,Tryz.ntmps100
 go_wp2_with (first|((with_reducible refine gcal_ (f := 80) rfl ?_);refine gl_ (some 4) Tryz.func80 #[.int .i64 a0,.int .i64 (-1000000000),.int .i64 1000000000] ?_;(with_reducible refine (impl_within.calls a0 (-1000000000) 1000000000 t301 _ A2.out).mono ?_);rintro e w' ⟨rfl,⟨nd,rfl⟩⟩;refine ⟨_,rfl,?_⟩))
 go_ret
 exact ⟨rs_,by repeat (first|exact Drawn0.refl _|apply Drawn0.step)⟩

/-! ### impl_areCells_1: function 98 -/
def impl_areCells_1.f (a0_0 : Int) (a0_1 : Int) : Option (Bool) := (impl_isHead.f a0_0).bind fun t303 => (if t303 = true then ((impl_isValue.f a0_1).bind fun t304 => (if t304 = true then (if (Go.bits .and .i64 a0_0 2) = 0 then (some (a0_1 != 0)) else (some false)) else (some true))) else (some true))
set_option maxHeartbeats 8000000 in
set_option maxRecDepth 100000 in
theorem impl_areCells_1.calls (a0_0 : Int) (a0_1 : Int) (r : Bool) (w : World) (h : impl_areCells_1.f a0_0 a0_1 = some r) :
    Calls Tryz.prog 98 #[.agg #[.int .i64 a0_0, .int .i64 a0_1]] w fun e w' => e = .returned (.bool r) ∧ Below w.heap.size w w' := by
 have hu87 := Tryz.underlying87
 have HB := Aside0.mk (Below.refl w.heap.size w)
 have H : ((impl_isHead.f a0_0).bind fun t303 => (if t303 = true then ((impl_isValue.f a0_1).bind fun t304 => (if t304 = true then (if (Go.bits .and .i64 a0_0 2) = 0 then (some (a0_1 != 0)) else (some false)) else (some true))) else (some true))) = some r := h
 clear h
 replace H := bs_ H
 obtain ⟨t303,A2,H⟩ := H
 by_cases c3 : t303 = true
 ·subst c3
  replace H := it_ H
  replace H := bs_ H
  obtain ⟨t304,A4,H⟩ := H
  by_cases c5 : t304 = true
  ·subst c5
   replace H := it_ H
   by_cases c6 : (Go.bits .and .i64 a0_0 2) = 0
   ·rw [if_pos c6] at H
    have c6b0 : ((Go.bits .and .i64 a0_0 2) == 0) = true := beq_iff_eq.mpr c6
    have c6b1 : ((Go.bits .and .i64 a0_0 2) != 0) = false := bne_eq_false_iff_eq.mpr c6
    clear c6
    obtain rfl := Option.some.inj H
    go_enter Tryz.func98,Tryz.ntmps98
    go_wp2_with (first|((with_reducible refine gate_dst (N := 1) rfl ?_);refine bx_ 1 #[.int .i64 a0_0,.int .i64 a0_1] 87 ?_;intro gb302 hg w7 hbox hb;replace HB := nb_ hg hbox hb;obtain ⟨BK302,GW302,GE302,HB⟩ := HB;clear hb hbox hg;obtain ⟨⟨hcz8_0,hcz8_1⟩,hfz8_0,hfz8_1⟩ := cl2_ BK302.out)|((with_reducible refine gcal_ (f := 99) rfl ?_);refine gl_ (some 5) Tryz.func99 #[.int .i64 a0_0] ?_;(with_reducible refine (impl_isHead.calls a0_0 true _ A2.out).mono ?_);rintro e w' ⟨rfl,⟨nd,rfl⟩⟩;refine ⟨_,rfl,?_⟩)|(go_at_call 100;(with_reducible refine (impl_isValue.calls a0_1 true _ A4.out).mono ?_);rintro e w' ⟨rfl,⟨nd,rfl⟩⟩))
    go_ret
    exact ⟨rf_,b_⟩
   ·rw [if_neg c6] at H
    have c6b0 : ((Go.bits .and .i64 a0_0 2) == 0) = false := beq_eq_false_iff_ne.mpr c6
    have c6b1 : ((Go.bits .and .i64 a0_0 2) != 0) = true := bne_iff_ne.mpr c6
    obtain rfl := Option.some.inj H
    go_enter Tryz.func98,Tryz.ntmps98
    go_wp2_with (first|((with_reducible refine gate_dst (N := 1) rfl ?_);refine bx_ 1 #[.int .i64 a0_0,.int .i64 a0_1] 87 ?_;intro gb302 hg w9 hbox hb;replace HB := nb_ hg hbox hb;obtain ⟨BK302,GW302,GE302,HB⟩ := HB;clear hb hbox hg;obtain ⟨⟨hcz10_0,hcz10_1⟩,hfz10_0,hfz10_1⟩ := cl2_ BK302.out)|((with_reducible refine gcal_ (f := 99) rfl ?_);refine gl_ (some 5) Tryz.func99 #[.int .i64 a0_0] ?_;(with_reducible refine (impl_isHead.calls a0_0 true _ A2.out).mono ?_);rintro e w' ⟨rfl,⟨nd,rfl⟩⟩;refine ⟨_,rfl,?_⟩)|(go_at_call 100;(with_reducible refine (impl_isValue.calls a0_1 true _ A4.out).mono ?_);rintro e w' ⟨rfl,⟨nd,rfl⟩⟩))
    go_ret
    exact ⟨rf_,b_⟩
  ·replace c5 := Bool.eq_false_iff.mpr c5
   subst c5
   replace H := ie_ H
   obtain rfl := Option.some.inj H
   go_enter Tryz.func98,Tryz.ntmps98
   go_wp2_with (first|((with_reducible refine gate_dst (N := 1) rfl ?_);refine bx_ 1 #[.int .i64 a0_0,.int .i64 a0_1] 87 ?_;intro gb302 hg w11 hbox hb;replace HB := nb_ hg hbox hb;obtain ⟨BK302,GW302,GE302,HB⟩ := HB;clear hb hbox hg;obtain ⟨⟨hcz12_0,hcz12_1⟩,hfz12_0,hfz12_1⟩ := cl2_ BK302.out)|((with_reducible refine gcal_ (f := 99) rfl ?_);refine gl_ (some 5) Tryz.func99 #[.int .i64 a0_0] ?_;(with_reducible refine (impl_isHead.calls a0_0 true _ A2.out).mono ?_);rintro e w' ⟨rfl,⟨nd,rfl⟩⟩;refine ⟨_,rfl,?_⟩)|(go_at_call 100;(with_reducible refine (impl_isValue.calls a0_1 false _ A4.out).mono ?_);rintro e w' ⟨rfl,⟨nd,rfl⟩⟩))
   go_ret
   exact ⟨rf_,b_⟩
 ·replace c3 := Bool.eq_false_iff.mpr c3
  subst c3
  replace H := ie_ H
  obtain rfl := Option.some.inj H
  go_enter Tryz.func98,Tryz.ntmps98
  go_wp2_with (first|((with_reducible refine gate_dst (N := 1) rfl ?_);refine bx_ 1 #[.int .i64 a0_0,.int .i64 a0_1] 87 ?_;intro gb302 hg w13 hbox hb;replace HB := nb_ hg hbox hb;obtain ⟨BK302,GW302,GE302,HB⟩ := HB;clear hb hbox hg;obtain ⟨⟨hcz14_0,hcz14_1⟩,hfz14_0,hfz14_1⟩ := cl2_ BK302.out)|((with_reducible refine gcal_ (f := 99) rfl ?_);refine gl_ (some 5) Tryz.func99 #[.int .i64 a0_0] ?_;(with_reducible refine (impl_isHead.calls a0_0 false _ A2.out).mono ?_);rintro e w' ⟨rfl,⟨nd,rfl⟩⟩;refine ⟨_,rfl,?_⟩))
  go_ret
  exact ⟨rf_,b_⟩

/-! ### impl_Cell_134: function 134 -/
set_option maxHeartbeats 8000000 in
set_option maxRecDepth 100000 in
theorem impl_Cell_134.idx (pf : S87 → Option Bool) (g : Nat) (lb : Array Value) (eg : ∀ args w, (callFunc g args).run Tryz.prog w = .ok (.enter g args) w) (A : Option Addr) (c : Nat) (l : List S87) (w : World)
  (hp : ∀ (x : S87) (b : Bool) (W : World),pf x = some b → Below w.heap.size w W → Calls Tryz.prog g (#[.agg #[.int .i64 x.f0,.int .i64 x.f1]] ++ lb) W fun e w' => e = .returned (.bool b) ∧ Below w.heap.size w w')
  (hr : Kd.C k87 w A l.length l) (hc : l.length ≤ c) (r : Int) (h : idxFrom pf l 0 = some r) :
    Calls Tryz.prog 134 #[.slice A l.length c, .func (.func g) #[] lb] w fun e w' => e = .returned (.int .i64 r) ∧ Below w.heap.size w w' := by
 have hu87 := Tryz.underlying87
 have hlen := hr.2.1
 have HR := Aside0.mk hr
 clear hr
 go_enter Tryz.func134,Tryz.ntmps134
 go_wp2
 go_loopg [5,8] l.length (fun gg s5 s8 wr => ∃ kk : Nat,kk ≤ l.length ∧ l.length - kk ≤ gg ∧ s8 = .int .i64 kk ∧ Aside0 (Below w.heap.size w wr) ∧ Aside0 (idxFrom pf (l.drop kk) kk = some r))
 case atStart => exact ⟨0,Nat.zero_le _,by omega,rfl,⟨Below.refl _ w⟩,⟨by simpa using h⟩⟩
 case round =>
  obtain ⟨kk,hkk,hg,rfl,BW,A1⟩ := hrel
  by_cases hlt : kk < l.length
  ·have hltz : (kk : Int) < (l.length : Int) := by omega
   obtain ⟨ad,e0,hx0,hx1⟩ := at_T87 HR.out (kk : Int) (by omega) (by omega)
   cases e0
   replace hx0 := (BW.out.cell (World.block_lt_of_cell? w _ hx0)).trans hx0
   rw [Int.toNat_natCast] at hx0
   replace hx1 := (BW.out.cell (World.block_lt_of_cell? w _ hx1)).trans hx1
   rw [Int.toNat_natCast] at hx1
   have ex : rd_T87 l (kk : Int) = l[kk] := by
    unfold rd_T87
    rw [Int.toNat_natCast,List.getD_eq_getElem?_getD,List.getElem?_eq_getElem hlt];rfl
   have H := A1.out
   rw [List.drop_eq_getElem_cons hlt,← ex] at H
   obtain ⟨b,hb,H2⟩ := Option.bind_eq_some_iff.1 H
   have hcall := hp _ b wr hb BW.out
   have HH := Aside0.mk H2
   have EX := Aside0.mk ex
   clear H H2 ex hb A1 h
   cases b with
   | true =>
    go_wp2_with (go_at_fn g;refine hcall.mono ?_;rintro e w' ⟨rfl,hb'⟩)
    go_ret
    have e1 := HH.out
    simp only [if_true] at e1
    exact ⟨by rw [← Option.some.inj e1];rfl,hb'⟩
   | false =>
    go_wp2_with (go_at_fn g;refine hcall.mono ?_;rintro e w' ⟨rfl,hb'⟩)
    go_roundg (l.length - (kk + 1))
    case measure => omega
    case rel => exact ⟨kk + 1,by omega,by omega,by go_num,⟨hb'⟩,⟨by have e1 := HH.out;simpa using e1⟩⟩
  ·have hltz : ¬ (kk : Int) < (l.length : Int) := by omega
   have : kk = l.length := by omega
   subst this
   go_wp2
   go_ret
   have e1 := A1.out
   rw [List.drop_of_length_le (Nat.le_refl _)] at e1
   have e2 := Option.some.inj e1
   exact ⟨by rw [← e2];rfl,BW.out⟩

end Go.Proofs.YthplaakckfhaaaaGreat.XCr
