/- Proved: of each Go function here that a call comes to what the Lean function of its name tells. Written by a program of this session over the translation. No conditions beyond each theorem's own. -/
import Derived.Test.YthplaakckfhaaaaXRp0
import Derived.Test.YthplaakckfhaaaaXRp4
namespace Go.Proofs.Ythplaakckfhaaaa.XRp
open Go.RowKit Go.Proofs.Ythplaakckfhaaaa.Aid Go.Proofs.YthplaakckfhaaaaW.PrintWords Go.Proofs.YthplaakckfhaaaaW.PrintLast Go.Proofs.YthplaakckfhaaaaW.PrintMore
set_option linter.unusedVariables false
set_option linter.unusedSimpArgs false

/-! ### laws_markSetS: function 70 -/
def laws_markSetS.l0 : Nat → List (S127) → Int → Int → Option (Int × (List (S127)))
  | 0, _, _, _ => none
  | k + 1, x0, x1, x5 => if x5 < (x0.length : Int) then (if 0 ≤ x5 then ((some (x0.set (x5 : Int).toNat (⟨x1, (rd_T127 x0 x5).f1, (rd_T127 x0 x5).f2, (rd_T127 x0 x5).f3, (rd_T127 x0 x5).f4⟩ : S127) : List (S127))).bind fun y216 => ((some (y216.set (x5 : Int).toNat (⟨(rd_T127 y216 x5).f0, wrap64 (x1 + 1), (rd_T127 y216 x5).f2, (rd_T127 y216 x5).f3, (rd_T127 y216 x5).f4⟩ : S127) : List (S127))).bind fun y217 => ((some (y217.set (x5 : Int).toNat (⟨(rd_T127 y217 x5).f0, (rd_T127 y217 x5).f1, wrap64 ((wrap64 (x1 + 1)) + 1), (rd_T127 y217 x5).f3, (rd_T127 y217 x5).f4⟩ : S127) : List (S127))).bind fun y218 => ((some (y218.set (x5 : Int).toNat (⟨(rd_T127 y218 x5).f0, (rd_T127 y218 x5).f1, (rd_T127 y218 x5).f2, ((Int.tmod (wrap64 ((wrap64 ((wrap64 (x1 + 1)) + 1)) + 1)) 3) == 0), (rd_T127 y218 x5).f4⟩ : S127) : List (S127))).bind fun y219 => (laws_markSetS.l0 k (y219.set (x5 : Int).toNat (⟨(rd_T127 y219 x5).f0, (rd_T127 y219 x5).f1, (rd_T127 y219 x5).f2, (rd_T127 y219 x5).f3, wrap64 ((wrap64 ((wrap64 ((wrap64 (x1 + 1)) + 1)) + 1)) + 1)⟩ : S127)) (wrap64 ((wrap64 ((wrap64 ((wrap64 ((wrap64 (x1 + 1)) + 1)) + 1)) + 1)) + 1)) (wrap64 (x5 + 1))))))) else (none)) else (some (x1, x0))
def laws_markSetS.f (k : Nat) (l0 : List (S127)) (a1 : Int) : Option (Int × (List (S127))) := laws_markSetS.l0 k l0 a1 0

set_option maxHeartbeats 8000000 in
set_option maxRecDepth 100000 in
theorem laws_markSetS.calls (k : Nat) (P0_ : Nat → Prop) (u9000_ : Value) (l0 : List (S127)) (a1 : Int) (r1 : Int) (r2 : List (S127)) (w0 w : World) (hB : Below w0.heap.size w0 w) (ho0 : Kd.R k127 127 w w0.heap.size P0_ u9000_ l0) (h : laws_markSetS.f k l0 a1 = some (r1, r2)) :
    Calls Try.prog 70 #[u9000_, .int .i64 a1] w fun e w' => e = .returned (.int .i64 r1) ∧ Kd.R k127 127 w' w0.heap.size (fun k_ => (P0_ k_ ∨ w.heap.size ≤ k_)) u9000_ r2 ∧ Below w0.heap.size w0 w' ∧ Kept w w' (fun k_ => P0_ k_) := by
 have HO0 := Aside0.mk (show Kd.R k127 127 w w0.heap.size (fun k_ => (P0_ k_ ∨ w.heap.size ≤ k_)) u9000_ l0 from Kd.R_mono ho0 (fun k_ hk => (.inl hk)))
 have HK := Aside0.mk (Kept.refl w (fun k_ => P0_ k_))
 have HW0 := Aside0.mk hB.size
 have HB := Aside0.mk hB
 clear hB
 have H : (laws_markSetS.l0 k l0 a1 0) = some (r1,r2) := h
 clear h
 have H' := Aside0.mk H
 clear H
 go_enter Try.func70,Try.ntmps70
 go_wp2
 go_loopg [1,5] k (fun kq v1 v5 w' => ∃ (x0_1 : List (S127)) (x1_1 : Int) (x5_1 : Int),v1 = .int .i64 x1_1 ∧ v5 = .int .i64 x5_1 ∧ Aside0 (laws_markSetS.l0 kq x0_1 x1_1 x5_1 = some (r1,r2)) ∧ Aside0 (kq ≤ k) ∧ Aside0 (Kd.R k127 127 w' w0.heap.size (fun k_ => (P0_ k_ ∨ w.heap.size ≤ k_)) u9000_ x0_1) ∧ Aside0 (Kept w w' (fun k_ => P0_ k_)) ∧ Aside0 (Below w0.heap.size w0 w'))
 case atStart => exact ⟨(l0),(a1),(0),rs_,rs_,H',⟨Nat.le_refl _⟩,⟨by (with_reducible repeat (first|apply Kd.R_alloc|apply Kd.R_drewN|apply Kd.R_drew));exact HO0.out⟩,⟨by repeat (first|(with_reducible first|exact HK.out|apply Kept.alloc|apply Kept.drewN|apply Kept.drew)|exact HK.out)⟩,⟨b_⟩⟩
 case round =>
  clear H'
  try clear p2
  obtain ⟨x0_1,x1_1,x5_1,rfl,rfl,HA,HK1,HO_0,HK,HB⟩ := hrel
  cases gk with
    | zero => exact absurd HA.out (by simp [laws_markSetS.l0])
    | succ k1 =>
   have H := HA.out
   clear HA
   simp only [laws_markSetS.l0] at H
   by_cases c3 : x5_1 < (x0_1.length : Int)
   ·rw [if_pos c3] at H
    have c3b0 : decide (x5_1 < (x0_1.length : Int)) = true := decide_eq_true c3
    clear c3
    by_cases c4 : 0 ≤ x5_1
    ·rw [if_pos c4] at H
     have c4b0 : decide (0 ≤ x5_1) = true := decide_eq_true c4
     clear c4
     obtain ⟨y216,hy216⟩ : ∃ y_ : List (S127),y_ = (x0_1.set (x5_1 : Int).toNat (⟨x1_1,(rd_T127 x0_1 x5_1).f1,(rd_T127 x0_1 x5_1).f2,(rd_T127 x0_1 x5_1).f3,(rd_T127 x0_1 x5_1).f4⟩ : S127)) := ⟨_,rfl⟩
     replace H : ((some (y216.set (x5_1 : Int).toNat (⟨(rd_T127 y216 x5_1).f0,wrap64 (x1_1 + 1),(rd_T127 y216 x5_1).f2,(rd_T127 y216 x5_1).f3,(rd_T127 y216 x5_1).f4⟩ : S127) : List (S127))).bind fun y217 => ((some (y217.set (x5_1 : Int).toNat (⟨(rd_T127 y217 x5_1).f0,(rd_T127 y217 x5_1).f1,wrap64 ((wrap64 (x1_1 + 1)) + 1),(rd_T127 y217 x5_1).f3,(rd_T127 y217 x5_1).f4⟩ : S127) : List (S127))).bind fun y218 => ((some (y218.set (x5_1 : Int).toNat (⟨(rd_T127 y218 x5_1).f0,(rd_T127 y218 x5_1).f1,(rd_T127 y218 x5_1).f2,((Int.tmod (wrap64 ((wrap64 ((wrap64 (x1_1 + 1)) + 1)) + 1)) 3) == 0),(rd_T127 y218 x5_1).f4⟩ : S127) : List (S127))).bind fun y219 => (laws_markSetS.l0 k1 (y219.set (x5_1 : Int).toNat (⟨(rd_T127 y219 x5_1).f0,(rd_T127 y219 x5_1).f1,(rd_T127 y219 x5_1).f2,(rd_T127 y219 x5_1).f3,wrap64 ((wrap64 ((wrap64 ((wrap64 (x1_1 + 1)) + 1)) + 1)) + 1)⟩ : S127)) (wrap64 ((wrap64 ((wrap64 ((wrap64 ((wrap64 (x1_1 + 1)) + 1)) + 1)) + 1)) + 1)) (wrap64 (x5_1 + 1)))))) = some (r1,r2) := by first|(rw [hy216];with_reducible exact H)|(have H2_ := (Option.bind_some _ _).symm.trans H;rw [hy216];with_reducible exact H2_)|(have H2_ := (Option.bind_some _ _).symm.trans H;with_reducible exact H2_)|with_reducible exact H|(rw [hy216];exact H)|exact H
     have Ny216 := Aside0.mk hy216
     clear hy216
     obtain ⟨y217,hy217⟩ : ∃ y_ : List (S127),y_ = (y216.set (x5_1 : Int).toNat (⟨(rd_T127 y216 x5_1).f0,wrap64 (x1_1 + 1),(rd_T127 y216 x5_1).f2,(rd_T127 y216 x5_1).f3,(rd_T127 y216 x5_1).f4⟩ : S127)) := ⟨_,rfl⟩
     replace H : ((some (y217.set (x5_1 : Int).toNat (⟨(rd_T127 y217 x5_1).f0,(rd_T127 y217 x5_1).f1,wrap64 ((wrap64 (x1_1 + 1)) + 1),(rd_T127 y217 x5_1).f3,(rd_T127 y217 x5_1).f4⟩ : S127) : List (S127))).bind fun y218 => ((some (y218.set (x5_1 : Int).toNat (⟨(rd_T127 y218 x5_1).f0,(rd_T127 y218 x5_1).f1,(rd_T127 y218 x5_1).f2,((Int.tmod (wrap64 ((wrap64 ((wrap64 (x1_1 + 1)) + 1)) + 1)) 3) == 0),(rd_T127 y218 x5_1).f4⟩ : S127) : List (S127))).bind fun y219 => (laws_markSetS.l0 k1 (y219.set (x5_1 : Int).toNat (⟨(rd_T127 y219 x5_1).f0,(rd_T127 y219 x5_1).f1,(rd_T127 y219 x5_1).f2,(rd_T127 y219 x5_1).f3,wrap64 ((wrap64 ((wrap64 ((wrap64 (x1_1 + 1)) + 1)) + 1)) + 1)⟩ : S127)) (wrap64 ((wrap64 ((wrap64 ((wrap64 ((wrap64 (x1_1 + 1)) + 1)) + 1)) + 1)) + 1)) (wrap64 (x5_1 + 1))))) = some (r1,r2) := by first|(rw [hy217];with_reducible exact H)|(have H2_ := (Option.bind_some _ _).symm.trans H;rw [hy217];with_reducible exact H2_)|(have H2_ := (Option.bind_some _ _).symm.trans H;with_reducible exact H2_)|with_reducible exact H|(rw [hy217];exact H)|exact H
     have Ny217 := Aside0.mk hy217
     clear hy217
     obtain ⟨y218,hy218⟩ : ∃ y_ : List (S127),y_ = (y217.set (x5_1 : Int).toNat (⟨(rd_T127 y217 x5_1).f0,(rd_T127 y217 x5_1).f1,wrap64 ((wrap64 (x1_1 + 1)) + 1),(rd_T127 y217 x5_1).f3,(rd_T127 y217 x5_1).f4⟩ : S127)) := ⟨_,rfl⟩
     replace H : ((some (y218.set (x5_1 : Int).toNat (⟨(rd_T127 y218 x5_1).f0,(rd_T127 y218 x5_1).f1,(rd_T127 y218 x5_1).f2,((Int.tmod (wrap64 ((wrap64 ((wrap64 (x1_1 + 1)) + 1)) + 1)) 3) == 0),(rd_T127 y218 x5_1).f4⟩ : S127) : List (S127))).bind fun y219 => (laws_markSetS.l0 k1 (y219.set (x5_1 : Int).toNat (⟨(rd_T127 y219 x5_1).f0,(rd_T127 y219 x5_1).f1,(rd_T127 y219 x5_1).f2,(rd_T127 y219 x5_1).f3,wrap64 ((wrap64 ((wrap64 ((wrap64 (x1_1 + 1)) + 1)) + 1)) + 1)⟩ : S127)) (wrap64 ((wrap64 ((wrap64 ((wrap64 ((wrap64 (x1_1 + 1)) + 1)) + 1)) + 1)) + 1)) (wrap64 (x5_1 + 1)))) = some (r1,r2) := by first|(rw [hy218];with_reducible exact H)|(have H2_ := (Option.bind_some _ _).symm.trans H;rw [hy218];with_reducible exact H2_)|(have H2_ := (Option.bind_some _ _).symm.trans H;with_reducible exact H2_)|with_reducible exact H|(rw [hy218];exact H)|exact H
     have Ny218 := Aside0.mk hy218
     clear hy218
     obtain ⟨y219,hy219⟩ : ∃ y_ : List (S127),y_ = (y218.set (x5_1 : Int).toNat (⟨(rd_T127 y218 x5_1).f0,(rd_T127 y218 x5_1).f1,(rd_T127 y218 x5_1).f2,((Int.tmod (wrap64 ((wrap64 ((wrap64 (x1_1 + 1)) + 1)) + 1)) 3) == 0),(rd_T127 y218 x5_1).f4⟩ : S127)) := ⟨_,rfl⟩
     replace H : (laws_markSetS.l0 k1 (y219.set (x5_1 : Int).toNat (⟨(rd_T127 y219 x5_1).f0,(rd_T127 y219 x5_1).f1,(rd_T127 y219 x5_1).f2,(rd_T127 y219 x5_1).f3,wrap64 ((wrap64 ((wrap64 ((wrap64 (x1_1 + 1)) + 1)) + 1)) + 1)⟩ : S127)) (wrap64 ((wrap64 ((wrap64 ((wrap64 ((wrap64 (x1_1 + 1)) + 1)) + 1)) + 1)) + 1)) (wrap64 (x5_1 + 1))) = some (r1,r2) := by first|(rw [hy219];with_reducible exact H)|(have H2_ := (Option.bind_some _ _).symm.trans H;rw [hy219];with_reducible exact H2_)|(have H2_ := (Option.bind_some _ _).symm.trans H;with_reducible exact H2_)|with_reducible exact H|(rw [hy219];exact H)|exact H
     have Ny219 := Aside0.mk hy219
     clear hy219
     obtain ⟨y220,hy220⟩ : ∃ y_ : List (S127),y_ = (y219.set (x5_1 : Int).toNat (⟨(rd_T127 y219 x5_1).f0,(rd_T127 y219 x5_1).f1,(rd_T127 y219 x5_1).f2,(rd_T127 y219 x5_1).f3,wrap64 ((wrap64 ((wrap64 ((wrap64 (x1_1 + 1)) + 1)) + 1)) + 1)⟩ : S127)) := ⟨_,rfl⟩
     replace H : (laws_markSetS.l0 k1 y220 (wrap64 ((wrap64 ((wrap64 ((wrap64 ((wrap64 (x1_1 + 1)) + 1)) + 1)) + 1)) + 1)) (wrap64 (x5_1 + 1))) = some (r1,r2) := by first|(rw [hy220];with_reducible exact H)|(have H2_ := (Option.bind_some _ _).symm.trans H;rw [hy220];with_reducible exact H2_)|(have H2_ := (Option.bind_some _ _).symm.trans H;with_reducible exact H2_)|with_reducible exact H|(rw [hy220];exact H)|exact H
     have Ny220 := Aside0.mk hy220
     clear hy220
     have H' := Aside0.mk H
     clear H
     obtain ⟨Ao10,co10,eo10⟩ := Kd.R_slice HO_0.out
     subst eo10
     have p5 : 0 ≤ (x5_1 : Int) := od_
     have q5 : (x5_1 : Int) < ((x0_1.length : Int) : Int) := od_
     obtain ⟨go5,co5,eo5,gb5,gl5,cl5,HG5⟩ := Kd.R_form HO_0.out (by omega)
     (first|cases eo5|(injection eo5 with ea_ en_ ec_;(first|subst ea_|(injection ea_ with ea_;subst ea_));subst ec_;clear en_))
     have GB5 := Aside0.mk gb5
     have GG5 := Aside0.mk HG5
     clear gb5 gl5 HG5
     have HMgo5 := Aside0.mk (show (P0_ go5 ∨ w.heap.size ≤ go5) from (HO_0.out.1 _ rfl))
     obtain ⟨ce5,hcl5,hM5,hcc5,hfr5⟩ := Kd.R_elem HO_0.out z127 (x5_1 : Int) p5 q5
     obtain rfl := k127_openM hM5
     have hx5_0 : wr.cell? ⟨go5,(x5_1 : Int).toNat * 5,none⟩ = some (.int .i64 ((rd_T127 x0_1 x5_1).f0)) := hcc5 0 _ rfl
     have hx5_1 : wr.cell? ⟨go5,(x5_1 : Int).toNat * 5 + 1,none⟩ = some (.int .i64 ((rd_T127 x0_1 x5_1).f1)) := hcc5 1 _ rfl
     have hx5_2 : wr.cell? ⟨go5,(x5_1 : Int).toNat * 5 + 2,none⟩ = some (.int .i64 ((rd_T127 x0_1 x5_1).f2)) := hcc5 2 _ rfl
     have hx5_3 : wr.cell? ⟨go5,(x5_1 : Int).toNat * 5 + 3,none⟩ = some (.bool ((rd_T127 x0_1 x5_1).f3)) := hcc5 3 _ rfl
     have hx5_4 : wr.cell? ⟨go5,(x5_1 : Int).toNat * 5 + 4,none⟩ = some (.int .i64 ((rd_T127 x0_1 x5_1).f4)) := hcc5 4 _ rfl
     have hf5_0 : wr.frozen? ⟨go5,(x5_1 : Int).toNat * 5,none⟩ = false := hfr5 0
     have hf5_1 : wr.frozen? ⟨go5,(x5_1 : Int).toNat * 5 + 1,none⟩ = false := hfr5 1
     have hf5_2 : wr.frozen? ⟨go5,(x5_1 : Int).toNat * 5 + 2,none⟩ = false := hfr5 2
     have hf5_3 : wr.frozen? ⟨go5,(x5_1 : Int).toNat * 5 + 3,none⟩ = false := hfr5 3
     have hf5_4 : wr.frozen? ⟨go5,(x5_1 : Int).toNat * 5 + 4,none⟩ = false := hfr5 4
     clear hcl5 hcc5 hfr5 hM5
     replace p5 := eq_true p5
     replace q5 := eq_true q5
     have HX11 := Aside0.mk (show Kd.R k127 127 wr w0.heap.size (fun k_ => (P0_ k_ ∨ w.heap.size ≤ k_)) (.slice (some ⟨go5,0,none⟩) x0_1.length co10) x0_1 from (by (with_reducible repeat (first|apply Kd.R_alloc|apply Kd.R_drewN|apply Kd.R_drew));exact HO_0.out))
     obtain ⟨ce11,hcl11,hM11,hcc11,hfr11⟩ := Kd.R_elem HX11.out z127 (x5_1 : Int) (od_) (by have h_ : (x5_1 : Int) < ((x0_1.length : Int) : Int) := od_;first|exact h_|(have e_ := (Kd.R_reads' HO_0.out).1;omega)|simpa using h_)
     obtain rfl := k127_openM hM11
     have HP11 := Kd.R_seg HX11.out (x5_1 : Int) (od_) (by have h_ : (x5_1 : Int) < ((x0_1.length : Int) : Int) := od_;first|exact h_|(have e_ := (Kd.R_reads' HO_0.out).1;omega)|simpa using h_) (seg := [.int .i64 x1_1]) (j := 0) hcl11 hcc11 (show 1 ≤ 5 from by decide) (x' := (⟨x1_1,(rd_T127 x0_1 x5_1).f1,(rd_T127 x0_1 x5_1).f2,(rd_T127 x0_1 x5_1).f3,(rd_T127 x0_1 x5_1).f4⟩ : S127)) (k127_mkM _ _ _ (⟨x1_1,(rd_T127 x0_1 x5_1).f1,(rd_T127 x0_1 x5_1).f2,(rd_T127 x0_1 x5_1).f3,(rd_T127 x0_1 x5_1).f4⟩ : S127) ) (fun _ hk => hk)
     have hx11_0 := hcc11 0 _ rfl
     (try simp only [show (k127).sz = 5 from rfl,Nat.mul_one,Nat.add_zero] at hx11_0)
     have hf11_0 := hfr11 0
     (try simp only [show (k127).sz = 5 from rfl,Nat.mul_one,Nat.add_zero] at hf11_0)
     clear hcl11 hcc11 hfr11 hM11
     go_wp2_with (first|((with_reducible refine gate_store (t := 2) (p := 16) rfl ?_);refine store_event (t := 2) (p := 16) (v := ?vo_w12) (w1 := (wr.setCell ⟨go5,(x5_1 : Int).toNat * 5,none⟩ (.int .i64 x1_1))) ?hg ?ho ?hn ?hr ?_;(case ho => rfl);(case hg => rfl);(case hn => rfl);(case hr => first|(go_simp;done)|(go_simp;rfl)|(obtain ⟨_,_,e_⟩ := Kd.R_slice HO_0.out;subst e_;first|(go_simp;done)|(go_simp;rfl)));intro w12 hw;have hg : wr.grownBy w12 (some go5) := (by rw [hw];exact HP11.2);have hp_ : Kd.R k127 127 w12 w0.heap.size (fun k_ => (P0_ k_ ∨ w.heap.size ≤ k_)) (.slice (some ⟨go5,0,none⟩) x0_1.length co10) y216 := (by rw [hw,Ny216.out];exact HP11.1);clear HP11;replace HB := Aside0.mk ((by rw [hw];exact below_set (HB.out) GB5.out : Below w0.heap.size w0 w12));replace HK := Aside0.mk (Kept.of_grown (S := (fun k_ => P0_ k_)) hg (by repeat (first|(with_reducible first|exact HK.out|apply Kept.alloc|apply Kept.drewN|apply Kept.drew)|exact HK.out)) (fun k_ e_ => (HO_0.out.1 k_ e_)));replace HO_0 := Aside0.mk (hp_);clear hg hw hp_;have p6 : 0 ≤ (x5_1 : Int) := od_;have q6 : (x5_1 : Int) < ((x0_1.length : Int) : Int) := od_;obtain ⟨ce6,hcl6,hM6,hcc6,hfr6⟩ := Kd.R_elem HO_0.out z127 (x5_1 : Int) p6 q6;obtain rfl := k127_openM hM6;have hx6_0 : w12.cell? ⟨go5,(x5_1 : Int).toNat * 5,none⟩ = some (.int .i64 ((rd_T127 y216 x5_1).f0)) := hcc6 0 _ rfl;have hx6_1 : w12.cell? ⟨go5,(x5_1 : Int).toNat * 5 + 1,none⟩ = some (.int .i64 ((rd_T127 y216 x5_1).f1)) := hcc6 1 _ rfl;have hx6_2 : w12.cell? ⟨go5,(x5_1 : Int).toNat * 5 + 2,none⟩ = some (.int .i64 ((rd_T127 y216 x5_1).f2)) := hcc6 2 _ rfl;have hx6_3 : w12.cell? ⟨go5,(x5_1 : Int).toNat * 5 + 3,none⟩ = some (.bool ((rd_T127 y216 x5_1).f3)) := hcc6 3 _ rfl;have hx6_4 : w12.cell? ⟨go5,(x5_1 : Int).toNat * 5 + 4,none⟩ = some (.int .i64 ((rd_T127 y216 x5_1).f4)) := hcc6 4 _ rfl;have hf6_0 : w12.frozen? ⟨go5,(x5_1 : Int).toNat * 5,none⟩ = false := hfr6 0;have hf6_1 : w12.frozen? ⟨go5,(x5_1 : Int).toNat * 5 + 1,none⟩ = false := hfr6 1;have hf6_2 : w12.frozen? ⟨go5,(x5_1 : Int).toNat * 5 + 2,none⟩ = false := hfr6 2;have hf6_3 : w12.frozen? ⟨go5,(x5_1 : Int).toNat * 5 + 3,none⟩ = false := hfr6 3;have hf6_4 : w12.frozen? ⟨go5,(x5_1 : Int).toNat * 5 + 4,none⟩ = false := hfr6 4;clear hcl6 hcc6 hfr6 hM6;replace p6 := eq_true p6;replace q6 := eq_true q6;have HX13 := Aside0.mk (show Kd.R k127 127 w12 w0.heap.size (fun k_ => (P0_ k_ ∨ w.heap.size ≤ k_)) (.slice (some ⟨go5,0,none⟩) x0_1.length co10) y216 from (by (with_reducible repeat (first|apply Kd.R_alloc|apply Kd.R_drewN|apply Kd.R_drew));exact HO_0.out));obtain ⟨ce13,hcl13,hM13,hcc13,hfr13⟩ := Kd.R_elem HX13.out z127 (x5_1 : Int) (od_) (by have h_ : (x5_1 : Int) < ((x0_1.length : Int) : Int) := od_;first|exact h_|(have e_ := (Kd.R_reads' HO_0.out).1;omega)|simpa using h_);obtain rfl := k127_openM hM13;have HP13 := Kd.R_seg HX13.out (x5_1 : Int) (od_) (by have h_ : (x5_1 : Int) < ((x0_1.length : Int) : Int) := od_;first|exact h_|(have e_ := (Kd.R_reads' HO_0.out).1;omega)|simpa using h_) (seg := [.int .i64 (wrap64 (x1_1 + 1))]) (j := 1) hcl13 hcc13 (show 2 ≤ 5 from by decide) (x' := (⟨(rd_T127 y216 x5_1).f0,wrap64 (x1_1 + 1),(rd_T127 y216 x5_1).f2,(rd_T127 y216 x5_1).f3,(rd_T127 y216 x5_1).f4⟩ : S127)) (k127_mkM _ _ _ (⟨(rd_T127 y216 x5_1).f0,wrap64 (x1_1 + 1),(rd_T127 y216 x5_1).f2,(rd_T127 y216 x5_1).f3,(rd_T127 y216 x5_1).f4⟩ : S127) ) (fun _ hk => hk);have hx13_1 := hcc13 1 _ rfl;(try simp only [show (k127).sz = 5 from rfl,Nat.mul_one,Nat.add_zero] at hx13_1);have hf13_1 := hfr13 1;(try simp only [show (k127).sz = 5 from rfl,Nat.mul_one,Nat.add_zero] at hf13_1);clear hcl13 hcc13 hfr13 hM13)|((with_reducible refine gate_store (t := 2) (p := 23) rfl ?_);refine store_event (t := 2) (p := 23) (v := ?vo_w14) (w1 := (w12.setCell ⟨go5,(x5_1 : Int).toNat * 5 + 1,none⟩ (.int .i64 (wrap64 (x1_1 + 1))))) ?hg ?ho ?hn ?hr ?_;(case ho => rfl);(case hg => rfl);(case hn => rfl);(case hr => first|(go_simp;done)|(go_simp;rfl)|(obtain ⟨_,_,e_⟩ := Kd.R_slice HO_0.out;subst e_;first|(go_simp;done)|(go_simp;rfl)));intro w14 hw;have hg : w12.grownBy w14 (some go5) := (by rw [hw];exact HP13.2);have hp_ : Kd.R k127 127 w14 w0.heap.size (fun k_ => (P0_ k_ ∨ w.heap.size ≤ k_)) (.slice (some ⟨go5,0,none⟩) x0_1.length co10) y217 := (by rw [hw,Ny217.out];exact HP13.1);clear HP13;replace HB := Aside0.mk ((by rw [hw];exact below_set (HB.out) GB5.out : Below w0.heap.size w0 w14));replace HK := Aside0.mk (Kept.of_grown (S := (fun k_ => P0_ k_)) hg (by repeat (first|(with_reducible first|exact HK.out|apply Kept.alloc|apply Kept.drewN|apply Kept.drew)|exact HK.out)) (fun k_ e_ => (HO_0.out.1 k_ e_)));replace HO_0 := Aside0.mk (hp_);clear hg hw hp_;have p7 : 0 ≤ (x5_1 : Int) := od_;have q7 : (x5_1 : Int) < ((x0_1.length : Int) : Int) := od_;obtain ⟨ce7,hcl7,hM7,hcc7,hfr7⟩ := Kd.R_elem HO_0.out z127 (x5_1 : Int) p7 q7;obtain rfl := k127_openM hM7;have hx7_0 : w14.cell? ⟨go5,(x5_1 : Int).toNat * 5,none⟩ = some (.int .i64 ((rd_T127 y217 x5_1).f0)) := hcc7 0 _ rfl;have hx7_1 : w14.cell? ⟨go5,(x5_1 : Int).toNat * 5 + 1,none⟩ = some (.int .i64 ((rd_T127 y217 x5_1).f1)) := hcc7 1 _ rfl;have hx7_2 : w14.cell? ⟨go5,(x5_1 : Int).toNat * 5 + 2,none⟩ = some (.int .i64 ((rd_T127 y217 x5_1).f2)) := hcc7 2 _ rfl;have hx7_3 : w14.cell? ⟨go5,(x5_1 : Int).toNat * 5 + 3,none⟩ = some (.bool ((rd_T127 y217 x5_1).f3)) := hcc7 3 _ rfl;have hx7_4 : w14.cell? ⟨go5,(x5_1 : Int).toNat * 5 + 4,none⟩ = some (.int .i64 ((rd_T127 y217 x5_1).f4)) := hcc7 4 _ rfl;have hf7_0 : w14.frozen? ⟨go5,(x5_1 : Int).toNat * 5,none⟩ = false := hfr7 0;have hf7_1 : w14.frozen? ⟨go5,(x5_1 : Int).toNat * 5 + 1,none⟩ = false := hfr7 1;have hf7_2 : w14.frozen? ⟨go5,(x5_1 : Int).toNat * 5 + 2,none⟩ = false := hfr7 2;have hf7_3 : w14.frozen? ⟨go5,(x5_1 : Int).toNat * 5 + 3,none⟩ = false := hfr7 3;have hf7_4 : w14.frozen? ⟨go5,(x5_1 : Int).toNat * 5 + 4,none⟩ = false := hfr7 4;clear hcl7 hcc7 hfr7 hM7;replace p7 := eq_true p7;replace q7 := eq_true q7;have HX15 := Aside0.mk (show Kd.R k127 127 w14 w0.heap.size (fun k_ => (P0_ k_ ∨ w.heap.size ≤ k_)) (.slice (some ⟨go5,0,none⟩) x0_1.length co10) y217 from (by (with_reducible repeat (first|apply Kd.R_alloc|apply Kd.R_drewN|apply Kd.R_drew));exact HO_0.out));obtain ⟨ce15,hcl15,hM15,hcc15,hfr15⟩ := Kd.R_elem HX15.out z127 (x5_1 : Int) (od_) (by have h_ : (x5_1 : Int) < ((x0_1.length : Int) : Int) := od_;first|exact h_|(have e_ := (Kd.R_reads' HO_0.out).1;omega)|simpa using h_);obtain rfl := k127_openM hM15;have HP15 := Kd.R_seg HX15.out (x5_1 : Int) (od_) (by have h_ : (x5_1 : Int) < ((x0_1.length : Int) : Int) := od_;first|exact h_|(have e_ := (Kd.R_reads' HO_0.out).1;omega)|simpa using h_) (seg := [.int .i64 (wrap64 ((wrap64 (x1_1 + 1)) + 1))]) (j := 2) hcl15 hcc15 (show 3 ≤ 5 from by decide) (x' := (⟨(rd_T127 y217 x5_1).f0,(rd_T127 y217 x5_1).f1,wrap64 ((wrap64 (x1_1 + 1)) + 1),(rd_T127 y217 x5_1).f3,(rd_T127 y217 x5_1).f4⟩ : S127)) (k127_mkM _ _ _ (⟨(rd_T127 y217 x5_1).f0,(rd_T127 y217 x5_1).f1,wrap64 ((wrap64 (x1_1 + 1)) + 1),(rd_T127 y217 x5_1).f3,(rd_T127 y217 x5_1).f4⟩ : S127) ) (fun _ hk => hk);have hx15_2 := hcc15 2 _ rfl;(try simp only [show (k127).sz = 5 from rfl,Nat.mul_one,Nat.add_zero] at hx15_2);have hf15_2 := hfr15 2;(try simp only [show (k127).sz = 5 from rfl,Nat.mul_one,Nat.add_zero] at hf15_2);clear hcl15 hcc15 hfr15 hM15)|((with_reducible refine gate_store (t := 2) (p := 30) rfl ?_);refine store_event (t := 2) (p := 30) (v := ?vo_w16) (w1 := (w14.setCell ⟨go5,(x5_1 : Int).toNat * 5 + 2,none⟩ (.int .i64 (wrap64 ((wrap64 (x1_1 + 1)) + 1))))) ?hg ?ho ?hn ?hr ?_;(case ho => rfl);(case hg => rfl);(case hn => rfl);(case hr => first|(go_simp;done)|(go_simp;rfl)|(obtain ⟨_,_,e_⟩ := Kd.R_slice HO_0.out;subst e_;first|(go_simp;done)|(go_simp;rfl)));intro w16 hw;have hg : w14.grownBy w16 (some go5) := (by rw [hw];exact HP15.2);have hp_ : Kd.R k127 127 w16 w0.heap.size (fun k_ => (P0_ k_ ∨ w.heap.size ≤ k_)) (.slice (some ⟨go5,0,none⟩) x0_1.length co10) y218 := (by rw [hw,Ny218.out];exact HP15.1);clear HP15;replace HB := Aside0.mk ((by rw [hw];exact below_set (HB.out) GB5.out : Below w0.heap.size w0 w16));replace HK := Aside0.mk (Kept.of_grown (S := (fun k_ => P0_ k_)) hg (by repeat (first|(with_reducible first|exact HK.out|apply Kept.alloc|apply Kept.drewN|apply Kept.drew)|exact HK.out)) (fun k_ e_ => (HO_0.out.1 k_ e_)));replace HO_0 := Aside0.mk (hp_);clear hg hw hp_;have p8 : 0 ≤ (x5_1 : Int) := od_;have q8 : (x5_1 : Int) < ((x0_1.length : Int) : Int) := od_;obtain ⟨ce8,hcl8,hM8,hcc8,hfr8⟩ := Kd.R_elem HO_0.out z127 (x5_1 : Int) p8 q8;obtain rfl := k127_openM hM8;have hx8_0 : w16.cell? ⟨go5,(x5_1 : Int).toNat * 5,none⟩ = some (.int .i64 ((rd_T127 y218 x5_1).f0)) := hcc8 0 _ rfl;have hx8_1 : w16.cell? ⟨go5,(x5_1 : Int).toNat * 5 + 1,none⟩ = some (.int .i64 ((rd_T127 y218 x5_1).f1)) := hcc8 1 _ rfl;have hx8_2 : w16.cell? ⟨go5,(x5_1 : Int).toNat * 5 + 2,none⟩ = some (.int .i64 ((rd_T127 y218 x5_1).f2)) := hcc8 2 _ rfl;have hx8_3 : w16.cell? ⟨go5,(x5_1 : Int).toNat * 5 + 3,none⟩ = some (.bool ((rd_T127 y218 x5_1).f3)) := hcc8 3 _ rfl;have hx8_4 : w16.cell? ⟨go5,(x5_1 : Int).toNat * 5 + 4,none⟩ = some (.int .i64 ((rd_T127 y218 x5_1).f4)) := hcc8 4 _ rfl;have hf8_0 : w16.frozen? ⟨go5,(x5_1 : Int).toNat * 5,none⟩ = false := hfr8 0;have hf8_1 : w16.frozen? ⟨go5,(x5_1 : Int).toNat * 5 + 1,none⟩ = false := hfr8 1;have hf8_2 : w16.frozen? ⟨go5,(x5_1 : Int).toNat * 5 + 2,none⟩ = false := hfr8 2;have hf8_3 : w16.frozen? ⟨go5,(x5_1 : Int).toNat * 5 + 3,none⟩ = false := hfr8 3;have hf8_4 : w16.frozen? ⟨go5,(x5_1 : Int).toNat * 5 + 4,none⟩ = false := hfr8 4;clear hcl8 hcc8 hfr8 hM8;replace p8 := eq_true p8;replace q8 := eq_true q8;have HX17 := Aside0.mk (show Kd.R k127 127 w16 w0.heap.size (fun k_ => (P0_ k_ ∨ w.heap.size ≤ k_)) (.slice (some ⟨go5,0,none⟩) x0_1.length co10) y218 from (by (with_reducible repeat (first|apply Kd.R_alloc|apply Kd.R_drewN|apply Kd.R_drew));exact HO_0.out));obtain ⟨ce17,hcl17,hM17,hcc17,hfr17⟩ := Kd.R_elem HX17.out z127 (x5_1 : Int) (od_) (by have h_ : (x5_1 : Int) < ((x0_1.length : Int) : Int) := od_;first|exact h_|(have e_ := (Kd.R_reads' HO_0.out).1;omega)|simpa using h_);obtain rfl := k127_openM hM17;have HP17 := Kd.R_seg HX17.out (x5_1 : Int) (od_) (by have h_ : (x5_1 : Int) < ((x0_1.length : Int) : Int) := od_;first|exact h_|(have e_ := (Kd.R_reads' HO_0.out).1;omega)|simpa using h_) (seg := [.bool ((Int.tmod (wrap64 ((wrap64 ((wrap64 (x1_1 + 1)) + 1)) + 1)) 3) == 0)]) (j := 3) hcl17 hcc17 (show 4 ≤ 5 from by decide) (x' := (⟨(rd_T127 y218 x5_1).f0,(rd_T127 y218 x5_1).f1,(rd_T127 y218 x5_1).f2,((Int.tmod (wrap64 ((wrap64 ((wrap64 (x1_1 + 1)) + 1)) + 1)) 3) == 0),(rd_T127 y218 x5_1).f4⟩ : S127)) (k127_mkM _ _ _ (⟨(rd_T127 y218 x5_1).f0,(rd_T127 y218 x5_1).f1,(rd_T127 y218 x5_1).f2,((Int.tmod (wrap64 ((wrap64 ((wrap64 (x1_1 + 1)) + 1)) + 1)) 3) == 0),(rd_T127 y218 x5_1).f4⟩ : S127) ) (fun _ hk => hk);have hx17_3 := hcc17 3 _ rfl;(try simp only [show (k127).sz = 5 from rfl,Nat.mul_one,Nat.add_zero] at hx17_3);have hf17_3 := hfr17 3;(try simp only [show (k127).sz = 5 from rfl,Nat.mul_one,Nat.add_zero] at hf17_3);clear hcl17 hcc17 hfr17 hM17)|((with_reducible refine gate_store (t := 4) (p := 39) rfl ?_);refine store_event (t := 4) (p := 39) (v := ?vo_w18) (w1 := (w16.setCell ⟨go5,(x5_1 : Int).toNat * 5 + 3,none⟩ (.bool ((Int.tmod (wrap64 ((wrap64 ((wrap64 (x1_1 + 1)) + 1)) + 1)) 3) == 0)))) ?hg ?ho ?hn ?hr ?_;(case ho => rfl);(case hg => rfl);(case hn => rfl);(case hr => first|(go_simp;done)|(go_simp;rfl)|(obtain ⟨_,_,e_⟩ := Kd.R_slice HO_0.out;subst e_;first|(go_simp;done)|(go_simp;rfl)));intro w18 hw;have hg : w16.grownBy w18 (some go5) := (by rw [hw];exact HP17.2);have hp_ : Kd.R k127 127 w18 w0.heap.size (fun k_ => (P0_ k_ ∨ w.heap.size ≤ k_)) (.slice (some ⟨go5,0,none⟩) x0_1.length co10) y219 := (by rw [hw,Ny219.out];exact HP17.1);clear HP17;replace HB := Aside0.mk ((by rw [hw];exact below_set (HB.out) GB5.out : Below w0.heap.size w0 w18));replace HK := Aside0.mk (Kept.of_grown (S := (fun k_ => P0_ k_)) hg (by repeat (first|(with_reducible first|exact HK.out|apply Kept.alloc|apply Kept.drewN|apply Kept.drew)|exact HK.out)) (fun k_ e_ => (HO_0.out.1 k_ e_)));replace HO_0 := Aside0.mk (hp_);clear hg hw hp_;have p9 : 0 ≤ (x5_1 : Int) := od_;have q9 : (x5_1 : Int) < ((x0_1.length : Int) : Int) := od_;obtain ⟨ce9,hcl9,hM9,hcc9,hfr9⟩ := Kd.R_elem HO_0.out z127 (x5_1 : Int) p9 q9;obtain rfl := k127_openM hM9;have hx9_0 : w18.cell? ⟨go5,(x5_1 : Int).toNat * 5,none⟩ = some (.int .i64 ((rd_T127 y219 x5_1).f0)) := hcc9 0 _ rfl;have hx9_1 : w18.cell? ⟨go5,(x5_1 : Int).toNat * 5 + 1,none⟩ = some (.int .i64 ((rd_T127 y219 x5_1).f1)) := hcc9 1 _ rfl;have hx9_2 : w18.cell? ⟨go5,(x5_1 : Int).toNat * 5 + 2,none⟩ = some (.int .i64 ((rd_T127 y219 x5_1).f2)) := hcc9 2 _ rfl;have hx9_3 : w18.cell? ⟨go5,(x5_1 : Int).toNat * 5 + 3,none⟩ = some (.bool ((rd_T127 y219 x5_1).f3)) := hcc9 3 _ rfl;have hx9_4 : w18.cell? ⟨go5,(x5_1 : Int).toNat * 5 + 4,none⟩ = some (.int .i64 ((rd_T127 y219 x5_1).f4)) := hcc9 4 _ rfl;have hf9_0 : w18.frozen? ⟨go5,(x5_1 : Int).toNat * 5,none⟩ = false := hfr9 0;have hf9_1 : w18.frozen? ⟨go5,(x5_1 : Int).toNat * 5 + 1,none⟩ = false := hfr9 1;have hf9_2 : w18.frozen? ⟨go5,(x5_1 : Int).toNat * 5 + 2,none⟩ = false := hfr9 2;have hf9_3 : w18.frozen? ⟨go5,(x5_1 : Int).toNat * 5 + 3,none⟩ = false := hfr9 3;have hf9_4 : w18.frozen? ⟨go5,(x5_1 : Int).toNat * 5 + 4,none⟩ = false := hfr9 4;clear hcl9 hcc9 hfr9 hM9;replace p9 := eq_true p9;replace q9 := eq_true q9;have HX19 := Aside0.mk (show Kd.R k127 127 w18 w0.heap.size (fun k_ => (P0_ k_ ∨ w.heap.size ≤ k_)) (.slice (some ⟨go5,0,none⟩) x0_1.length co10) y219 from (by (with_reducible repeat (first|apply Kd.R_alloc|apply Kd.R_drewN|apply Kd.R_drew));exact HO_0.out));obtain ⟨ce19,hcl19,hM19,hcc19,hfr19⟩ := Kd.R_elem HX19.out z127 (x5_1 : Int) (od_) (by have h_ : (x5_1 : Int) < ((x0_1.length : Int) : Int) := od_;first|exact h_|(have e_ := (Kd.R_reads' HO_0.out).1;omega)|simpa using h_);obtain rfl := k127_openM hM19;have HP19 := Kd.R_seg HX19.out (x5_1 : Int) (od_) (by have h_ : (x5_1 : Int) < ((x0_1.length : Int) : Int) := od_;first|exact h_|(have e_ := (Kd.R_reads' HO_0.out).1;omega)|simpa using h_) (seg := [.int .i64 (wrap64 ((wrap64 ((wrap64 ((wrap64 (x1_1 + 1)) + 1)) + 1)) + 1))]) (j := 4) hcl19 hcc19 (show 5 ≤ 5 from by decide) (x' := (⟨(rd_T127 y219 x5_1).f0,(rd_T127 y219 x5_1).f1,(rd_T127 y219 x5_1).f2,(rd_T127 y219 x5_1).f3,wrap64 ((wrap64 ((wrap64 ((wrap64 (x1_1 + 1)) + 1)) + 1)) + 1)⟩ : S127)) (k127_mkM _ _ _ (⟨(rd_T127 y219 x5_1).f0,(rd_T127 y219 x5_1).f1,(rd_T127 y219 x5_1).f2,(rd_T127 y219 x5_1).f3,wrap64 ((wrap64 ((wrap64 ((wrap64 (x1_1 + 1)) + 1)) + 1)) + 1)⟩ : S127) ) (fun _ hk => hk);have hx19_4 := hcc19 4 _ rfl;(try simp only [show (k127).sz = 5 from rfl,Nat.mul_one,Nat.add_zero] at hx19_4);have hf19_4 := hfr19 4;(try simp only [show (k127).sz = 5 from rfl,Nat.mul_one,Nat.add_zero] at hf19_4);clear hcl19 hcc19 hfr19 hM19)|((with_reducible refine gate_store (t := 2) (p := 46) rfl ?_);refine store_event (t := 2) (p := 46) (v := ?vo_w20) (w1 := (w18.setCell ⟨go5,(x5_1 : Int).toNat * 5 + 4,none⟩ (.int .i64 (wrap64 ((wrap64 ((wrap64 ((wrap64 (x1_1 + 1)) + 1)) + 1)) + 1))))) ?hg ?ho ?hn ?hr ?_;(case ho => rfl);(case hg => rfl);(case hn => rfl);(case hr => first|(go_simp;done)|(go_simp;rfl)|(obtain ⟨_,_,e_⟩ := Kd.R_slice HO_0.out;subst e_;first|(go_simp;done)|(go_simp;rfl)));intro w20 hw;have hg : w18.grownBy w20 (some go5) := (by rw [hw];exact HP19.2);have hp_ : Kd.R k127 127 w20 w0.heap.size (fun k_ => (P0_ k_ ∨ w.heap.size ≤ k_)) (.slice (some ⟨go5,0,none⟩) x0_1.length co10) y220 := (by rw [hw,Ny220.out];exact HP19.1);clear HP19;replace HB := Aside0.mk ((by rw [hw];exact below_set (HB.out) GB5.out : Below w0.heap.size w0 w20));replace HK := Aside0.mk (Kept.of_grown (S := (fun k_ => P0_ k_)) hg (by repeat (first|(with_reducible first|exact HK.out|apply Kept.alloc|apply Kept.drewN|apply Kept.drew)|exact HK.out)) (fun k_ e_ => (HO_0.out.1 k_ e_)));replace HO_0 := Aside0.mk (hp_);clear hg hw hp_))
     go_roundg k1
     case measure => have := HK1.out;omega
     case rel => exact ⟨(y220),(wrap64 ((wrap64 ((wrap64 ((wrap64 ((wrap64 (x1_1 + 1)) + 1)) + 1)) + 1)) + 1)),(wrap64 (x5_1 + 1)),rs_,rs_,H',⟨by have := HK1.out;omega⟩,⟨by (with_reducible repeat (first|apply Kd.R_alloc|apply Kd.R_drewN|apply Kd.R_drew));exact HO_0.out⟩,⟨by repeat (first|(with_reducible first|exact HK.out|apply Kept.alloc|apply Kept.drewN|apply Kept.drew)|exact HK.out)⟩,⟨b_⟩⟩
    ·rw [if_neg c4] at H
     exact absurd H (by simp)
   ·rw [if_neg c3] at H
    have c3b0 : decide (x5_1 < (x0_1.length : Int)) = false := decide_eq_false c3
    clear c3
    simp only [Option.some.injEq,Prod.mk.injEq] at H
    obtain ⟨rfl,rfl⟩ := H
    obtain ⟨Ao21,co21,eo21⟩ := Kd.R_slice HO_0.out
    subst eo21
    go_wp2
    go_ret
    exact ⟨rf_,by (with_reducible repeat (first|apply Kd.R_alloc|apply Kd.R_drewN|apply Kd.R_drew));exact HO_0.out,b_,by repeat (first|(with_reducible first|exact HK.out|apply Kept.alloc|apply Kept.drewN|apply Kept.drew)|exact HK.out)⟩

/-! ### laws_markRecordS: function 63 -/
def laws_markRecordS.l0 : Nat → List (S45) → Int → Int → Option (Int × (List (S45)))
  | 0, _, _, _ => none
  | k + 1, x0, x1, x5 => if x5 < (x0.length : Int) then (if 0 ≤ x5 then ((laws_markSetS.f k ((rd_T45 x0 x5).f3) (wrap64 ((wrap64 ((wrap64 (x1 + 1)) + 1)) + 1))).bind fun bt => (laws_markRecordS.l0 k (x0.set (x5 : Int).toNat (⟨x1, wrap64 (x1 + 1), wrap64 ((wrap64 (x1 + 1)) + 1), bt.2⟩ : S45)) bt.1 (wrap64 (x5 + 1)))) else (none)) else (some (x1, x0))
def laws_markRecordS.f (k : Nat) (l0 : List (S45)) (a1 : Int) : Option (Int × (List (S45))) := laws_markRecordS.l0 k l0 a1 0

set_option maxHeartbeats 8000000 in
set_option maxRecDepth 100000 in
theorem laws_markRecordS.calls (k : Nat) (P0_ : Nat → Prop) (u9000_ : Value) (l0 : List (S45)) (a1 : Int) (r1 : Int) (r2 : List (S45)) (w0 w : World) (hB : Below w0.heap.size w0 w) (ho0 : Kd.S k45 45 w w0.heap.size P0_ u9000_ l0) (h : laws_markRecordS.f k l0 a1 = some (r1, r2)) :
    Calls Try.prog 63 #[u9000_, .int .i64 a1] w fun e w' => e = .returned (.int .i64 r1) ∧ Kd.S k45 45 w' w0.heap.size (fun k_ => (P0_ k_ ∨ w.heap.size ≤ k_)) u9000_ r2 ∧ Below w0.heap.size w0 w' ∧ Kept w w' (fun k_ => P0_ k_) := by
 have HO0 := Aside0.mk (show Kd.S k45 45 w w0.heap.size (fun k_ => (P0_ k_ ∨ w.heap.size ≤ k_)) u9000_ l0 from Kd.S_mono ho0 (fun k_ hk => (.inl hk)))
 have HK := Aside0.mk (Kept.refl w (fun k_ => P0_ k_))
 have HB := Aside0.mk hB
 clear hB ho0
 have H : (laws_markRecordS.l0 k l0 a1 0) = some (r1,r2) := h
 clear h
 have H' := Aside0.mk H
 clear H
 go_enter Try.func63,Try.ntmps63
 go_wp2
 go_loopg [1,5] k (fun kq v1 v5 w' => ∃ (x0_1 : List (S45)) (x1_1 : Int) (x5_1 : Int),v1 = .int .i64 x1_1 ∧ v5 = .int .i64 x5_1 ∧ Aside0 (laws_markRecordS.l0 kq x0_1 x1_1 x5_1 = some (r1,r2)) ∧ Aside0 (kq ≤ k) ∧ Aside0 (Kd.S k45 45 w' w0.heap.size (fun k_ => (P0_ k_ ∨ w.heap.size ≤ k_)) u9000_ x0_1) ∧ Aside0 (Kept w w' (fun k_ => P0_ k_)) ∧ Aside0 (Below w0.heap.size w0 w'))
 case atStart => exact ⟨l0,a1,0,(by first|rfl|(simp;done)),(by first|rfl|(simp;done)),H',⟨Nat.le_refl _⟩,⟨HO0.out⟩,⟨HK.out⟩,⟨HB.out⟩⟩
 case round =>
  clear H' HO0 HK HB
  obtain ⟨x0_1,x1_1,x5_1,rfl,rfl,HA,HK1,HO_0,HK,HB⟩ := hrel
  cases gk with
    | zero => exact absurd HA.out (by simp [laws_markRecordS.l0])
    | succ k1 =>
   have H := HA.out
   clear HA
   simp only [laws_markRecordS.l0] at H
   by_cases c3 : x5_1 < (x0_1.length : Int)
   ·rw [if_pos c3] at H
    have c3b0 : decide (x5_1 < (x0_1.length : Int)) = true := decide_eq_true c3
    by_cases c4 : 0 ≤ x5_1
    ·rw [if_pos c4] at H
     have c4b0 : decide (0 ≤ x5_1) = true := decide_eq_true c4
     replace H := Option.bind_eq_some_iff.mp H
     obtain ⟨⟨t1,t2⟩,A30,H⟩ := H
     replace H : laws_markRecordS.l0 k1 (x0_1.set (x5_1 : Int).toNat (⟨x1_1,wrap64 (x1_1 + 1),wrap64 ((wrap64 (x1_1 + 1)) + 1),t2⟩ : S45)) t1 (wrap64 (x5_1 + 1)) = some (r1,r2) := H
     have H' := Aside0.mk H
     have A3 := Aside0.mk A30
     clear H A30
     obtain ⟨Ao7,co7,eo7⟩ := Kd.S_slice HO_0.out
     subst eo7
     obtain ⟨go5,co5,eo5,gb5,gl5,cl5,HG5⟩ := Kd.S_form HO_0.out (by omega)
     obtain rfl : Ao7 = some ⟨go5,0,none⟩ := (by injection eo5)
     obtain rfl : co7 = co5 := (by injection eo5)
     have GB := Aside0.mk gb5
     have HM : Aside0 (P0_ go5 ∨ w.heap.size ≤ go5) := ⟨(Kd.S_R HO_0.out).1 _ rfl⟩
     clear gb5 gl5 HG5 eo5
     have HX := Kd.S_mono (ok' := fun k_ => (P0_ k_ ∨ w.heap.size ≤ k_) ∧ ¬ wr.heap.size ≤ k_) (Kd.S_bound HO_0.out) (fun k_ hk => ⟨hk.1,Nat.not_le.2 hk.2.2.1⟩)
     obtain ⟨oki,ce,hcl,hM,hcc,hfr,hoki,hH⟩ := Kd.S_elem HX z45 (x5_1 : Int) c4 c3
     obtain ⟨v0,rfl,hv⟩ := k45_openM hM
     obtain ⟨A1,c1,e1⟩ := Kd.R_slice hv
     subst e1
     have hx19_0 : wr.cell? ⟨go5,(x5_1 : Int).toNat * 4,none⟩ = some (.int .i64 (rd_T45 x0_1 x5_1).f0) := by (have h_ := hcc 0 _ rfl;exact h_)
     have hx19_1 : wr.cell? ⟨go5,(x5_1 : Int).toNat * 4 + 1,none⟩ = some (.int .i64 (rd_T45 x0_1 x5_1).f1) := by (have h_ := hcc 1 _ rfl;exact h_)
     have hx19_2 : wr.cell? ⟨go5,(x5_1 : Int).toNat * 4 + 2,none⟩ = some (.int .i64 (rd_T45 x0_1 x5_1).f2) := by (have h_ := hcc 2 _ rfl;exact h_)
     have hx19_3 : wr.cell? ⟨go5,(x5_1 : Int).toNat * 4 + 3,none⟩ = some (.slice A1 ((rd_T45 x0_1 x5_1).f3).length c1) := by (have h_ := hcc 3 _ rfl;exact h_)
     have hf19_0 : wr.frozen? ⟨go5,(x5_1 : Int).toNat * 4,none⟩ = false := by (have h_ := hfr 0;exact h_)
     have hf19_1 : wr.frozen? ⟨go5,(x5_1 : Int).toNat * 4 + 1,none⟩ = false := by (have h_ := hfr 1;exact h_)
     have hf19_2 : wr.frozen? ⟨go5,(x5_1 : Int).toNat * 4 + 2,none⟩ = false := by (have h_ := hfr 2;exact h_)
     have hf19_3 : wr.frozen? ⟨go5,(x5_1 : Int).toNat * 4 + 3,none⟩ = false := by (have h_ := hfr 3;exact h_)
     have P5 := Aside0.mk c4
     have Q5 : Aside0 ((x5_1 : Int) < (x0_1.length : Int)) := ⟨c3⟩
     have HV : Aside0 (Kd.R k127 127 wr w0.heap.size oki (.slice A1 ((rd_T45 x0_1 x5_1).f3).length c1) ((rd_T45 x0_1 x5_1).f3)) := ⟨hv⟩
     have HH : Aside0 (Kd.H k45 45 wr w0.heap.size (fun k_ => ((P0_ k_ ∨ w.heap.size ≤ k_) ∧ ¬ wr.heap.size ≤ k_)) (.slice (some ⟨go5,0,none⟩) x0_1.length co7) x0_1 (x5_1 : Int) oki [.int .i64 (rd_T45 x0_1 x5_1).f0,.int .i64 (rd_T45 x0_1 x5_1).f1,.int .i64 (rd_T45 x0_1 x5_1).f2,.slice A1 ((rd_T45 x0_1 x5_1).f3).length c1]) := ⟨hH⟩
     have HI := Aside0.mk hoki
     have HZ := Aside0.mk (Nat.le_refl wr.heap.size)
     have HKR := Aside0.mk HK.out.1
     clear hcl hcc hfr hoki hH hv HX hM
     clear HO_0
     have p5 : (0 ≤ (x5_1 : Int)) = True := eq_true c4
     have q5 : ((x5_1 : Int) < (x0_1.length : Int)) = True := eq_true c3
     clear c3 c4
     go_wp2_with (first|((with_reducible refine gcal_ (f := 70) rfl ?_);refine goesL_ (some 39) rfl rfl Try.func70 (by kernel_rfl) rfl #[.slice A1 ((rd_T45 x0_1 x5_1).f3).length c1,.int .i64 (wrap64 ((wrap64 ((wrap64 (x1_1 + 1)) + 1)) + 1))] rfl (by (try simp only [List.map_toArray,List.map_cons,List.map_nil]);first|done|rfl) ?_;have h0_ := Kd.H_seg (j := 0) (seg := [.int .i64 (x1_1)]) HH.out P5.out Q5.out (show 0 + 1 ≤ 4 from by decide) (by intro q_ hq_;rw [List.mem_singleton.1 hq_];rfl);have hg : wr.grownBy (wr.setCell ⟨go5,(x5_1 : Int).toNat * 4,none⟩ (.int .i64 (x1_1))) (some go5) := h0_.2;have n0_ : Aside0 (Kd.H k45 45 (wr.setCell ⟨go5,(x5_1 : Int).toNat * 4,none⟩ (.int .i64 (x1_1))) w0.heap.size (fun k_ => ((P0_ k_ ∨ w.heap.size ≤ k_) ∧ ¬ wr.heap.size ≤ k_)) (.slice (some ⟨go5,0,none⟩) x0_1.length co7) x0_1 (x5_1 : Int) oki [.int .i64 (x1_1),.int .i64 (rd_T45 x0_1 x5_1).f1,.int .i64 (rd_T45 x0_1 x5_1).f2,.slice A1 ((rd_T45 x0_1 x5_1).f3).length c1]) := ⟨h0_.1⟩;clear h0_;have n1_ := Aside0.mk (Kd.R_grown HV.out hg (fun k_ hk_ he_ => (HI.out k_ hk_).2 (by injection he_)));have n2_ : Aside0 (Below w0.heap.size w0 (wr.setCell ⟨go5,(x5_1 : Int).toNat * 4,none⟩ (.int .i64 (x1_1)))) := ⟨below_set HB.out GB.out⟩;have n3_ : Aside0 (Kept w (wr.setCell ⟨go5,(x5_1 : Int).toNat * 4,none⟩ (.int .i64 (x1_1))) (fun k_ => P0_ k_)) := ⟨Kept.of_grown (S := (fun k_ => P0_ k_)) hg HK.out (fun k_ e_ => (by injection e_ with e2_;subst e2_;exact HM.out))⟩;have n4_ : Aside0 (wr.heap.size ≤ (wr.setCell ⟨go5,(x5_1 : Int).toNat * 4,none⟩ (.int .i64 (x1_1))).heap.size) := ⟨Nat.le_trans HZ.out hg.size⟩;clear hg;clear HH HV HB HK HZ;have HH := n0_;have HV := n1_;have HB := n2_;have HK := n3_;have HZ := n4_;clear n0_ n1_ n2_ n3_ n4_;have h0_ := Kd.H_seg (j := 1) (seg := [.int .i64 (wrap64 (x1_1 + 1))]) HH.out P5.out Q5.out (show 1 + 1 ≤ 4 from by decide) (by intro q_ hq_;rw [List.mem_singleton.1 hq_];rfl);have hg : (wr.setCell ⟨go5,(x5_1 : Int).toNat * 4,none⟩ (.int .i64 (x1_1))).grownBy ((wr.setCell ⟨go5,(x5_1 : Int).toNat * 4,none⟩ (.int .i64 (x1_1))).setCell ⟨go5,(x5_1 : Int).toNat * 4 + 1,none⟩ (.int .i64 (wrap64 (x1_1 + 1)))) (some go5) := h0_.2;have n0_ : Aside0 (Kd.H k45 45 ((wr.setCell ⟨go5,(x5_1 : Int).toNat * 4,none⟩ (.int .i64 (x1_1))).setCell ⟨go5,(x5_1 : Int).toNat * 4 + 1,none⟩ (.int .i64 (wrap64 (x1_1 + 1)))) w0.heap.size (fun k_ => ((P0_ k_ ∨ w.heap.size ≤ k_) ∧ ¬ wr.heap.size ≤ k_)) (.slice (some ⟨go5,0,none⟩) x0_1.length co7) x0_1 (x5_1 : Int) oki [.int .i64 (x1_1),.int .i64 (wrap64 (x1_1 + 1)),.int .i64 (rd_T45 x0_1 x5_1).f2,.slice A1 ((rd_T45 x0_1 x5_1).f3).length c1]) := ⟨h0_.1⟩;clear h0_;have n1_ := Aside0.mk (Kd.R_grown HV.out hg (fun k_ hk_ he_ => (HI.out k_ hk_).2 (by injection he_)));have n2_ : Aside0 (Below w0.heap.size w0 ((wr.setCell ⟨go5,(x5_1 : Int).toNat * 4,none⟩ (.int .i64 (x1_1))).setCell ⟨go5,(x5_1 : Int).toNat * 4 + 1,none⟩ (.int .i64 (wrap64 (x1_1 + 1))))) := ⟨below_set HB.out GB.out⟩;have n3_ : Aside0 (Kept w ((wr.setCell ⟨go5,(x5_1 : Int).toNat * 4,none⟩ (.int .i64 (x1_1))).setCell ⟨go5,(x5_1 : Int).toNat * 4 + 1,none⟩ (.int .i64 (wrap64 (x1_1 + 1)))) (fun k_ => P0_ k_)) := ⟨Kept.of_grown (S := (fun k_ => P0_ k_)) hg HK.out (fun k_ e_ => (by injection e_ with e2_;subst e2_;exact HM.out))⟩;have n4_ : Aside0 (wr.heap.size ≤ ((wr.setCell ⟨go5,(x5_1 : Int).toNat * 4,none⟩ (.int .i64 (x1_1))).setCell ⟨go5,(x5_1 : Int).toNat * 4 + 1,none⟩ (.int .i64 (wrap64 (x1_1 + 1)))).heap.size) := ⟨Nat.le_trans HZ.out hg.size⟩;clear hg;clear HH HV HB HK HZ;have HH := n0_;have HV := n1_;have HB := n2_;have HK := n3_;have HZ := n4_;clear n0_ n1_ n2_ n3_ n4_;have h0_ := Kd.H_seg (j := 2) (seg := [.int .i64 (wrap64 ((wrap64 (x1_1 + 1)) + 1))]) HH.out P5.out Q5.out (show 2 + 1 ≤ 4 from by decide) (by intro q_ hq_;rw [List.mem_singleton.1 hq_];rfl);have hg : ((wr.setCell ⟨go5,(x5_1 : Int).toNat * 4,none⟩ (.int .i64 (x1_1))).setCell ⟨go5,(x5_1 : Int).toNat * 4 + 1,none⟩ (.int .i64 (wrap64 (x1_1 + 1)))).grownBy (((wr.setCell ⟨go5,(x5_1 : Int).toNat * 4,none⟩ (.int .i64 (x1_1))).setCell ⟨go5,(x5_1 : Int).toNat * 4 + 1,none⟩ (.int .i64 (wrap64 (x1_1 + 1)))).setCell ⟨go5,(x5_1 : Int).toNat * 4 + 2,none⟩ (.int .i64 (wrap64 ((wrap64 (x1_1 + 1)) + 1)))) (some go5) := h0_.2;have n0_ : Aside0 (Kd.H k45 45 (((wr.setCell ⟨go5,(x5_1 : Int).toNat * 4,none⟩ (.int .i64 (x1_1))).setCell ⟨go5,(x5_1 : Int).toNat * 4 + 1,none⟩ (.int .i64 (wrap64 (x1_1 + 1)))).setCell ⟨go5,(x5_1 : Int).toNat * 4 + 2,none⟩ (.int .i64 (wrap64 ((wrap64 (x1_1 + 1)) + 1)))) w0.heap.size (fun k_ => ((P0_ k_ ∨ w.heap.size ≤ k_) ∧ ¬ wr.heap.size ≤ k_)) (.slice (some ⟨go5,0,none⟩) x0_1.length co7) x0_1 (x5_1 : Int) oki [.int .i64 (x1_1),.int .i64 (wrap64 (x1_1 + 1)),.int .i64 (wrap64 ((wrap64 (x1_1 + 1)) + 1)),.slice A1 ((rd_T45 x0_1 x5_1).f3).length c1]) := ⟨h0_.1⟩;clear h0_;have n1_ := Aside0.mk (Kd.R_grown HV.out hg (fun k_ hk_ he_ => (HI.out k_ hk_).2 (by injection he_)));have n2_ : Aside0 (Below w0.heap.size w0 (((wr.setCell ⟨go5,(x5_1 : Int).toNat * 4,none⟩ (.int .i64 (x1_1))).setCell ⟨go5,(x5_1 : Int).toNat * 4 + 1,none⟩ (.int .i64 (wrap64 (x1_1 + 1)))).setCell ⟨go5,(x5_1 : Int).toNat * 4 + 2,none⟩ (.int .i64 (wrap64 ((wrap64 (x1_1 + 1)) + 1))))) := ⟨below_set HB.out GB.out⟩;have n3_ : Aside0 (Kept w (((wr.setCell ⟨go5,(x5_1 : Int).toNat * 4,none⟩ (.int .i64 (x1_1))).setCell ⟨go5,(x5_1 : Int).toNat * 4 + 1,none⟩ (.int .i64 (wrap64 (x1_1 + 1)))).setCell ⟨go5,(x5_1 : Int).toNat * 4 + 2,none⟩ (.int .i64 (wrap64 ((wrap64 (x1_1 + 1)) + 1)))) (fun k_ => P0_ k_)) := ⟨Kept.of_grown (S := (fun k_ => P0_ k_)) hg HK.out (fun k_ e_ => (by injection e_ with e2_;subst e2_;exact HM.out))⟩;have n4_ : Aside0 (wr.heap.size ≤ (((wr.setCell ⟨go5,(x5_1 : Int).toNat * 4,none⟩ (.int .i64 (x1_1))).setCell ⟨go5,(x5_1 : Int).toNat * 4 + 1,none⟩ (.int .i64 (wrap64 (x1_1 + 1)))).setCell ⟨go5,(x5_1 : Int).toNat * 4 + 2,none⟩ (.int .i64 (wrap64 ((wrap64 (x1_1 + 1)) + 1)))).heap.size) := ⟨Nat.le_trans HZ.out hg.size⟩;clear hg;clear HH HV HB HK HZ;have HH := n0_;have HV := n1_;have HB := n2_;have HK := n3_;have HZ := n4_;clear n0_ n1_ n2_ n3_ n4_;refine (laws_markSetS.calls k1 oki (.slice A1 ((rd_T45 x0_1 x5_1).f3).length c1) ((rd_T45 x0_1 x5_1).f3) (wrap64 ((wrap64 ((wrap64 (x1_1 + 1)) + 1)) + 1)) t1 t2 w0 _ HB.out HV.out A3.out).mono ?_;rintro e w12 ⟨rfl,ho,hb,hk⟩;refine ⟨_,rfl,?_⟩;have hH1 := Kd.H_step (w1 := w12) HH.out (fun k_ _ hn hlt => hk.2 k_ hlt hn);have hH2 := Kd.H_more (okg := fun k_ => wr.heap.size ≤ k_) hH1 (fun k_ hk_ => .inr (Nat.le_trans HKR.out hk_));have n0_ := Aside0.mk (Kd.H_back hH2 (k45_mkM _ _ _ (⟨x1_1,wrap64 (x1_1 + 1),wrap64 ((wrap64 (x1_1 + 1)) + 1),t2⟩ : S45) (Kd.R_mono (ok' := fun k_ => oki k_ ∨ wr.heap.size ≤ k_) ho (fun k_ h_ => h_.elim Or.inl (fun h2_ => .inr (Nat.le_trans HZ.out h2_))))) (fun _ h_ => h_));have n1_ := Aside0.mk hb;have n2_ : Aside0 (Kept w w12 (fun k_ => P0_ k_)) := ⟨⟨Nat.le_trans HK.out.1 hk.1,fun k_ h1_ h2_ => (hk.2 k_ (Nat.lt_of_lt_of_le h1_ HK.out.1) (fun h3_ => ((HI.out k_ h3_).1.1.elim h2_ (fun h4_ => absurd h1_ (Nat.not_lt.2 h4_))))).trans (HK.out.2 k_ h1_ h2_)⟩⟩;clear HB HK HH HV HI hH1 hH2 ho hb hk;have HO_0 := n0_;have HB := n1_;have HK := n2_;clear n0_ n1_ n2_))
     go_roundg k1
     case measure => have := HK1.out;omega
     case rel => exact ⟨_,t1,(wrap64 (x5_1 + 1)),(by first|rfl|(simp;done)),(by first|rfl|(simp;done)),H',⟨by have := HK1.out;omega⟩,⟨HO_0.out⟩,⟨HK.out⟩,⟨HB.out⟩⟩
    ·rw [if_neg c4] at H
     exact absurd H (by simp)
   ·rw [if_neg c3] at H
    have c3b0 : decide (x5_1 < (x0_1.length : Int)) = false := decide_eq_false c3
    clear c3
    simp only [Option.some.injEq,Prod.mk.injEq] at H
    obtain ⟨rfl,rfl⟩ := H
    obtain ⟨Ao12,co12,eo12⟩ := Kd.S_slice HO_0.out
    subst eo12
    go_wp2
    go_ret
    exact ⟨rfl,HO_0.out,HB.out,HK.out⟩

/-! ### laws_markInt64S: function 64 -/
def laws_markInt64S.l0 : Nat → List Int → Int → Int → Option (Int × List Int)
  | 0, _, _, _ => none
  | k + 1, x0, x1, x5 => if x5 < (x0.length : Int) then (if 0 ≤ x5 then (laws_markInt64S.l0 k (x0.set (x5 : Int).toNat x1) (wrap64 (x1 + 1)) (wrap64 (x5 + 1))) else (none)) else (some (x1, x0))
def laws_markInt64S.f (k : Nat) (l0 : List Int) (a1 : Int) : Option (Int × List Int) := laws_markInt64S.l0 k l0 a1 0

set_option maxHeartbeats 8000000 in
set_option maxRecDepth 100000 in
theorem laws_markInt64S.calls (k : Nat) (P0_ : Nat → Prop) (u9000_ : Value) (l0 : List Int) (a1 : Int) (r1 : Int) (r2 : List Int) (w0 w : World) (hB : Below w0.heap.size w0 w) (ho0 : Kd.R (Kd.int .i64) 2 w w0.heap.size P0_ u9000_ l0) (h : laws_markInt64S.f k l0 a1 = some (r1, r2)) :
    Calls Try.prog 64 #[u9000_, .int .i64 a1] w fun e w' => e = .returned (.int .i64 r1) ∧ Kd.R (Kd.int .i64) 2 w' w0.heap.size (fun k_ => (P0_ k_ ∨ w.heap.size ≤ k_)) u9000_ r2 ∧ Below w0.heap.size w0 w' ∧ Kept w w' (fun k_ => P0_ k_) := by
 have HO0 := Aside0.mk (show Kd.R (Kd.int .i64) 2 w w0.heap.size (fun k_ => (P0_ k_ ∨ w.heap.size ≤ k_)) u9000_ l0 from Kd.R_mono ho0 (fun k_ hk => (.inl hk)))
 have HK := Aside0.mk (Kept.refl w (fun k_ => P0_ k_))
 have HW0 := Aside0.mk hB.size
 have HB := Aside0.mk hB
 clear hB
 have H : (laws_markInt64S.l0 k l0 a1 0) = some (r1,r2) := h
 clear h
 have H' := Aside0.mk H
 clear H
 go_enter Try.func64,Try.ntmps64
 go_wp2
 go_loopg [1,5] k (fun kq v1 v5 w' => ∃ (x0_1 : List Int) (x1_1 : Int) (x5_1 : Int),v1 = .int .i64 x1_1 ∧ v5 = .int .i64 x5_1 ∧ Aside0 (laws_markInt64S.l0 kq x0_1 x1_1 x5_1 = some (r1,r2)) ∧ Aside0 (kq ≤ k) ∧ Aside0 (Kd.R (Kd.int .i64) 2 w' w0.heap.size (fun k_ => (P0_ k_ ∨ w.heap.size ≤ k_)) u9000_ x0_1) ∧ Aside0 (Kept w w' (fun k_ => P0_ k_)) ∧ Aside0 (Below w0.heap.size w0 w'))
 case atStart => exact ⟨(l0),(a1),(0),rs_,rs_,H',⟨Nat.le_refl _⟩,⟨by (with_reducible repeat (first|apply Kd.R_alloc|apply Kd.R_drewN|apply Kd.R_drew));exact HO0.out⟩,⟨by repeat (first|(with_reducible first|exact HK.out|apply Kept.alloc|apply Kept.drewN|apply Kept.drew)|exact HK.out)⟩,⟨b_⟩⟩
 case round =>
  clear H'
  try clear p2
  obtain ⟨x0_1,x1_1,x5_1,rfl,rfl,HA,HK1,HO_0,HK,HB⟩ := hrel
  cases gk with
    | zero => exact absurd HA.out (by simp [laws_markInt64S.l0])
    | succ k1 =>
   have H := HA.out
   clear HA
   simp only [laws_markInt64S.l0] at H
   by_cases c3 : x5_1 < (x0_1.length : Int)
   ·rw [if_pos c3] at H
    have c3b0 : decide (x5_1 < (x0_1.length : Int)) = true := decide_eq_true c3
    clear c3
    by_cases c4 : 0 ≤ x5_1
    ·rw [if_pos c4] at H
     have c4b0 : decide (0 ≤ x5_1) = true := decide_eq_true c4
     clear c4
     obtain ⟨y221,hy221⟩ : ∃ y_ : List Int,y_ = (x0_1.set (x5_1 : Int).toNat x1_1) := ⟨_,rfl⟩
     replace H : (laws_markInt64S.l0 k1 y221 (wrap64 (x1_1 + 1)) (wrap64 (x5_1 + 1))) = some (r1,r2) := by first|(rw [hy221];with_reducible exact H)|(have H2_ := (Option.bind_some _ _).symm.trans H;rw [hy221];with_reducible exact H2_)|(have H2_ := (Option.bind_some _ _).symm.trans H;with_reducible exact H2_)|with_reducible exact H|(rw [hy221];exact H)|exact H
     have Ny221 := Aside0.mk hy221
     clear hy221
     have H' := Aside0.mk H
     clear H
     obtain ⟨Ao6,co6,eo6⟩ := Kd.R_slice HO_0.out
     subst eo6
     have p5 : 0 ≤ (x5_1 : Int) := od_
     have q5 : (x5_1 : Int) < ((x0_1.length : Int) : Int) := od_
     obtain ⟨go5,co5,eo5,gb5,gl5,cl5,HG5⟩ := Kd.R_form HO_0.out (by omega)
     (first|cases eo5|(injection eo5 with ea_ en_ ec_;(first|subst ea_|(injection ea_ with ea_;subst ea_));subst ec_;clear en_))
     have GB5 := Aside0.mk gb5
     have GG5 := Aside0.mk HG5
     clear gb5 gl5 HG5
     have HMgo5 := Aside0.mk (show (P0_ go5 ∨ w.heap.size ≤ go5) from (HO_0.out.1 _ rfl))
     obtain ⟨hx5_0,hf5_0⟩ := Kd.R_celln 0 HO_0.out (x5_1 : Int) p5 q5
     replace p5 := eq_true p5
     replace q5 := eq_true q5
     have HP7 := Kd.R_putg HO_0.out (x5_1 : Int) x1_1
     go_wp2_with (first|((with_reducible refine gate_store (t := 2) (p := 15) rfl ?_);refine store_event (t := 2) (p := 15) (v := ?vo_w8) (w1 := (wr.setCell ⟨go5,(x5_1 : Int).toNat,none⟩ (.int .i64 x1_1))) ?hg ?ho ?hn ?hr ?_;(case ho => rfl);(case hg => rfl);(case hn => rfl);(case hr => first|(go_simp;done)|(go_simp;rfl)|(obtain ⟨_,_,e_⟩ := Kd.R_slice HO_0.out;subst e_;first|(go_simp;done)|(go_simp;rfl)));intro w8 hw;have hg : wr.grownBy w8 (some go5) := (by rw [hw];exact HP7.2);have hp_ : Kd.R (Kd.int .i64) 2 w8 w0.heap.size (fun k_ => (P0_ k_ ∨ w.heap.size ≤ k_)) (.slice (some ⟨go5,0,none⟩) x0_1.length co6) y221 := (by rw [hw,Ny221.out];exact HP7.1);clear HP7;replace HB := Aside0.mk ((by rw [hw];exact below_set (HB.out) GB5.out : Below w0.heap.size w0 w8));replace HK := Aside0.mk (Kept.of_grown (S := (fun k_ => P0_ k_)) hg (by repeat (first|(with_reducible first|exact HK.out|apply Kept.alloc|apply Kept.drewN|apply Kept.drew)|exact HK.out)) (fun k_ e_ => (HO_0.out.1 k_ e_)));replace HO_0 := Aside0.mk (hp_);clear hg hw hp_))
     go_roundg k1
     case measure => have := HK1.out;omega
     case rel => exact ⟨(y221),(wrap64 (x1_1 + 1)),(wrap64 (x5_1 + 1)),rs_,rs_,H',⟨by have := HK1.out;omega⟩,⟨by (with_reducible repeat (first|apply Kd.R_alloc|apply Kd.R_drewN|apply Kd.R_drew));exact HO_0.out⟩,⟨by repeat (first|(with_reducible first|exact HK.out|apply Kept.alloc|apply Kept.drewN|apply Kept.drew)|exact HK.out)⟩,⟨b_⟩⟩
    ·rw [if_neg c4] at H
     exact absurd H (by simp)
   ·rw [if_neg c3] at H
    have c3b0 : decide (x5_1 < (x0_1.length : Int)) = false := decide_eq_false c3
    clear c3
    simp only [Option.some.injEq,Prod.mk.injEq] at H
    obtain ⟨rfl,rfl⟩ := H
    obtain ⟨Ao9,co9,eo9⟩ := Kd.R_slice HO_0.out
    subst eo9
    go_wp2
    go_ret
    exact ⟨rf_,by (with_reducible repeat (first|apply Kd.R_alloc|apply Kd.R_drewN|apply Kd.R_drew));exact HO_0.out,b_,by repeat (first|(with_reducible first|exact HK.out|apply Kept.alloc|apply Kept.drewN|apply Kept.drew)|exact HK.out)⟩

/-! ### laws_markMachine: function 18 -/
theorem hold_18 {p : Prop} (h : Aside0 p) : p := h.out
theorem ty_18 {w : World} {k : Nat} {a b : List Nat} (h1 : ∃ q, q ∈ a ∧ ∃ cs, w.heap[k]? = some (.cells cs q (0, 0))) (h2 : ∃ q, q ∈ b ∧ ∃ cs, w.heap[k]? = some (.cells cs q (0, 0))) (hd : ∀ q, q ∈ a → ¬ q ∈ b) : False := by
 obtain ⟨q,hq,cs,h1⟩ := h1
 obtain ⟨q2,hq2,cs2,h2⟩ := h2
 rw [h1] at h2
 injection h2 with h2
 injection h2 with _ h2
 exact hd q hq (h2 ▸ hq2)
def laws_markMachine.f (k : Nat) (l1 : List (S79)) (l2 : List (S45)) (l3 : List Int) (a1 : Int) : Option (Int × List (S79) × List (S45) × List Int) := (laws_markCopyS.f k l1 a1).bind fun x => (laws_markRecordS.f k l2 x.1).bind fun y => (laws_markInt64S.f k l3 y.1).bind fun z => some (z.1, x.2, y.2, z.2)
set_option maxHeartbeats 8000000 in
set_option maxRecDepth 100000 in
theorem laws_markMachine.calls (k : Nat) (P0_ : Nat → Prop) (a0 : Bool) (v1 v2 v3 : Value) (l1 : List (S79)) (l2 : List (S45)) (l3 : List Int) (a1 : Int) (r : Int) (q1 : List (S79)) (q2 : List (S45)) (q3 : List Int) (w0 w : World) (hB : Below w0.heap.size w0 w) (ho1 : Kd.S k79 79 w w0.heap.size P0_ v1 l1) (ho2 : Kd.S k45 45 w w0.heap.size P0_ v2 l2) (ho3 : Kd.R (Kd.int .i64) 2 w w0.heap.size P0_ v3 l3) (h : laws_markMachine.f k l1 l2 l3 a1 = some (r, q1, q2, q3)) :
    Calls Try.prog 18 #[.agg #[.bool a0, v1, v2, v3], .int .i64 a1] w fun e w' => e = .returned (.int .i64 r) ∧ Kd.S k79 79 w' w0.heap.size (fun k_ => (P0_ k_ ∨ w.heap.size ≤ k_)) v1 q1 ∧ Kd.S k45 45 w' w0.heap.size (fun k_ => (P0_ k_ ∨ w.heap.size ≤ k_)) v2 q2 ∧ Kd.R (Kd.int .i64) 2 w' w0.heap.size (fun k_ => (P0_ k_ ∨ w.heap.size ≤ k_)) v3 q3 ∧ Below w0.heap.size w0 w' ∧ Kept w w' (fun k_ => P0_ k_) := by
 obtain ⟨⟨m1,y1⟩,E1,h1⟩ := Option.bind_eq_some_iff.1 h
 clear h
 obtain ⟨⟨m2,y2⟩,E2,h2⟩ := Option.bind_eq_some_iff.1 h1
 clear h1
 obtain ⟨⟨m3,y3⟩,E3,h3⟩ := Option.bind_eq_some_iff.1 h2
 clear h2
 simp only [Option.some.injEq,Prod.mk.injEq] at h3
 obtain ⟨rfl,rfl,rfl,rfl⟩ := h3
 have F1 := Aside0.mk E1
 have F2 := Aside0.mk E2
 have F3 := Aside0.mk E3
 have HB := Aside0.mk hB
 have O1 := Aside0.mk ho1
 have O2 := Aside0.mk ho2
 have O3 := Aside0.mk ho3
 clear hB ho1 ho2 ho3 E1 E2 E3
 obtain ⟨A1,c1,e1⟩ := Kd.S_slice O1.out
 subst e1
 obtain ⟨A2,c2,e2⟩ := Kd.S_slice O2.out
 subst e2
 obtain ⟨A3,c3,e3⟩ := Kd.R_slice O3.out
 subst e3

 have hu := Try.underlying32
 go_enter Try.func18,Try.ntmps18
 go_wp2_with ((with_reducible refine gate_dst (N := 2) rfl ?_);refine bx_ 2 #[.bool a0,.slice A1 l1.length c1,.slice A2 l2.length c2,.slice A3 l3.length c3] 32 ?_;intro gb hg w1 hbox hb;clear hg;refine hold_18 ?_)
 refine ⟨?_⟩
 have BX := Aside0.mk hbox
 have HZ := Aside0.mk hb
 have n0_ := Aside0.mk (below_step HB.out hb)
 have n1_ : Aside0 (Kd.S k79 79 w1 w0.heap.size (fun k_ => P0_ k_ ∧ w0.heap.size ≤ k_ ∧ k_ < w1.heap.size ∧ ∃ q,q ∈ 79 :: (k79).E ∧ ∃ cells,w1.heap[k_]? = some (.cells cells q (0,0))) (.slice A1 l1.length c1) l1) := ⟨Kd.S_bound (Kd.S_below O1.out hb)⟩
 have n2_ : Aside0 (Kd.S k45 45 w1 w0.heap.size (fun k_ => P0_ k_ ∧ w0.heap.size ≤ k_ ∧ k_ < w1.heap.size ∧ ∃ q,q ∈ 45 :: (k45).E ∧ ∃ cells,w1.heap[k_]? = some (.cells cells q (0,0))) (.slice A2 l2.length c2) l2) := ⟨Kd.S_bound (Kd.S_below O2.out hb)⟩
 have n3_ : Aside0 (Kd.R (Kd.int .i64) 2 w1 w0.heap.size (fun k_ => P0_ k_ ∧ w0.heap.size ≤ k_ ∧ k_ < w1.heap.size ∧ ∃ q,q ∈ 2 :: ((Kd.int .i64)).E ∧ ∃ cells,w1.heap[k_]? = some (.cells cells q (0,0))) (.slice A3 l3.length c3) l3) := ⟨Kd.R_bound (Kd.R_below O3.out hb)⟩
 clear HB O1 O2 O3 hbox hb
 have HB := n0_
 have O1 := n1_
 have O2 := n2_
 have O3 := n3_
 clear n0_ n1_ n2_ n3_
 have hcz1_0 : w1.cell? ⟨gb,0,none⟩ = some (.bool a0) := (blk_cell BX.out 0).trans rfl
 have hfz1_0 := blk_frozen BX.out 0
 have hcz1_1 : w1.cell? ⟨gb,1,none⟩ = some (.slice A1 l1.length c1) := (blk_cell BX.out 1).trans rfl
 have hfz1_1 := blk_frozen BX.out 1
 have hcz1_2 : w1.cell? ⟨gb,2,none⟩ = some (.slice A2 l2.length c2) := (blk_cell BX.out 2).trans rfl
 have hfz1_2 := blk_frozen BX.out 2
 have hcz1_3 : w1.cell? ⟨gb,3,none⟩ = some (.slice A3 l3.length c3) := (blk_cell BX.out 3).trans rfl
 have hfz1_3 := blk_frozen BX.out 3
 go_wp2_with ((with_reducible refine gcal_ (f := 62) rfl ?_);refine goesL_ (some 8) rfl rfl Try.func62 (by kernel_rfl) rfl #[.slice A1 l1.length c1,.int .i64 a1] rfl (by (try simp only [List.map_toArray,List.map_cons,List.map_nil]);first|done|rfl) ?_;refine (laws_markCopyS.calls k (fun k_ => P0_ k_ ∧ w0.heap.size ≤ k_ ∧ k_ < w1.heap.size ∧ ∃ q,q ∈ 79 :: (k79).E ∧ ∃ cells,w1.heap[k_]? = some (.cells cells q (0,0))) (.slice A1 l1.length c1) l1 a1 m1 y1 w0 _ HB.out O1.out F1.out).mono ?_;rintro e w2 ⟨rfl,S,B,K⟩;refine ⟨_,rfl,?_⟩;refine hold_18 ?_)
 refine ⟨?_⟩
 have HK := Aside0.mk K
 have O2 := Aside0.mk (Kd.S_step O2.out (fun k_ hk_ hlt_ => K.2 k_ hlt_ (fun hs_ => ty_18 hk_.2.2.2 hs_.2.2.2 (by decide))))
 have O3 := Aside0.mk (Kd.R_step O3.out (fun k_ hk_ hlt_ => K.2 k_ hlt_ (fun hs_ => ty_18 hk_.2.2.2 hs_.2.2.2 (by decide))))
 have HB := Aside0.mk B
 have BX2 := Aside0.mk ((K.2 gb (blk_lt BX.out) (fun hs_ => ty_18 ⟨32,List.mem_singleton.2 rfl,_,BX.out⟩ hs_.2.2.2 (by decide))).trans BX.out)
 have Z1 := Aside0.mk S
 clear S B K
 clear hcz1_0 hcz1_1 hcz1_2 hcz1_3 hfz1_0 hfz1_1 hfz1_2 hfz1_3
 have hcz2_0 : w2.cell? ⟨gb,0,none⟩ = some (.bool a0) := (blk_cell BX2.out 0).trans rfl
 have hfz2_0 := blk_frozen BX2.out 0
 have hcz2_1 : w2.cell? ⟨gb,1,none⟩ = some (.slice A1 l1.length c1) := (blk_cell BX2.out 1).trans rfl
 have hfz2_1 := blk_frozen BX2.out 1
 have hcz2_2 : w2.cell? ⟨gb,2,none⟩ = some (.slice A2 l2.length c2) := (blk_cell BX2.out 2).trans rfl
 have hfz2_2 := blk_frozen BX2.out 2
 have hcz2_3 : w2.cell? ⟨gb,3,none⟩ = some (.slice A3 l3.length c3) := (blk_cell BX2.out 3).trans rfl
 have hfz2_3 := blk_frozen BX2.out 3
 go_wp2_with ((with_reducible refine gcal_ (f := 63) rfl ?_);refine goesL_ (some 12) rfl rfl Try.func63 (by kernel_rfl) rfl #[.slice A2 l2.length c2,.int .i64 m1] rfl (by (try simp only [List.map_toArray,List.map_cons,List.map_nil]);first|done|rfl) ?_;refine (laws_markRecordS.calls k (fun k_ => P0_ k_ ∧ w0.heap.size ≤ k_ ∧ k_ < w1.heap.size ∧ ∃ q,q ∈ 45 :: (k45).E ∧ ∃ cells,w1.heap[k_]? = some (.cells cells q (0,0))) (.slice A2 l2.length c2) l2 m1 m2 y2 w0 _ HB.out O2.out F2.out).mono ?_;rintro e w3 ⟨rfl,S,B,K⟩;refine ⟨_,rfl,?_⟩;refine hold_18 ?_)
 refine ⟨?_⟩
 have HK2 := Aside0.mk K
 have O3 := Aside0.mk (Kd.R_step O3.out (fun k_ hk_ hlt_ => K.2 k_ hlt_ (fun hs_ => ty_18 hk_.2.2.2 hs_.2.2.2 (by decide))))
 have HB := Aside0.mk B
 have BX3 := Aside0.mk ((K.2 gb (blk_lt BX2.out) (fun hs_ => ty_18 ⟨32,List.mem_singleton.2 rfl,_,BX.out⟩ hs_.2.2.2 (by decide))).trans BX2.out)
 have Z1 := Aside0.mk (Kd.S_step Z1.out (fun k_ hk_ hlt_ => K.2 k_ hlt_ (fun hs_ => hk_.elim (fun h_ => ty_18 h_.2.2.2 hs_.2.2.2 (by decide)) (fun h_ => absurd hs_.2.2.1 (Nat.not_lt.2 (Nat.le_trans (Nat.le_refl _) h_))))))
 have Z2 := Aside0.mk S
 clear S B K
 clear hcz2_0 hcz2_1 hcz2_2 hcz2_3 hfz2_0 hfz2_1 hfz2_2 hfz2_3
 have hcz3_0 : w3.cell? ⟨gb,0,none⟩ = some (.bool a0) := (blk_cell BX3.out 0).trans rfl
 have hfz3_0 := blk_frozen BX3.out 0
 have hcz3_1 : w3.cell? ⟨gb,1,none⟩ = some (.slice A1 l1.length c1) := (blk_cell BX3.out 1).trans rfl
 have hfz3_1 := blk_frozen BX3.out 1
 have hcz3_2 : w3.cell? ⟨gb,2,none⟩ = some (.slice A2 l2.length c2) := (blk_cell BX3.out 2).trans rfl
 have hfz3_2 := blk_frozen BX3.out 2
 have hcz3_3 : w3.cell? ⟨gb,3,none⟩ = some (.slice A3 l3.length c3) := (blk_cell BX3.out 3).trans rfl
 have hfz3_3 := blk_frozen BX3.out 3
 go_wp2_with ((with_reducible refine gcal_ (f := 64) rfl ?_);refine goesL_ (some 16) rfl rfl Try.func64 (by kernel_rfl) rfl #[.slice A3 l3.length c3,.int .i64 m2] rfl (by (try simp only [List.map_toArray,List.map_cons,List.map_nil]);first|done|rfl) ?_;refine (laws_markInt64S.calls k (fun k_ => P0_ k_ ∧ w0.heap.size ≤ k_ ∧ k_ < w1.heap.size ∧ ∃ q,q ∈ 2 :: ((Kd.int .i64)).E ∧ ∃ cells,w1.heap[k_]? = some (.cells cells q (0,0))) (.slice A3 l3.length c3) l3 m2 m3 y3 w0 _ HB.out O3.out F3.out).mono ?_;rintro e w4 ⟨rfl,S,B,K⟩;refine ⟨_,rfl,?_⟩;refine hold_18 ?_)
 refine ⟨?_⟩
 have HE : Aside0 (Below w0.heap.size w0 w4 ∧ Kept w w4 (fun k_ => P0_ k_)) := ⟨B,Nat.le_trans HZ.out.size (Nat.le_trans HK.out.1 (Nat.le_trans HK2.out.1 K.1)),fun i_ h0_ h2_ => (fun (h1_ : i_ < w1.heap.size) => (((K.2 i_ (Nat.lt_of_lt_of_le h1_ (Nat.le_trans HK.out.1 HK2.out.1)) (fun h3_ => h2_ h3_.1)).trans (HK2.out.2 i_ (Nat.lt_of_lt_of_le h1_ HK.out.1) (fun h3_ => h2_ h3_.1))).trans (HK.out.2 i_ h1_ (fun h3_ => h2_ h3_.1))).trans (HZ.out.block i_ h0_)) (Nat.lt_of_lt_of_le h0_ HZ.out.size)⟩
 have Z1 := Aside0.mk (Kd.S_step Z1.out (fun k_ hk_ hlt_ => K.2 k_ hlt_ (fun hs_ => hk_.elim (fun h_ => ty_18 h_.2.2.2 hs_.2.2.2 (by decide)) (fun h_ => absurd hs_.2.2.1 (Nat.not_lt.2 (Nat.le_trans (Nat.le_refl _) h_))))))
 have Z2 := Aside0.mk (Kd.S_step Z2.out (fun k_ hk_ hlt_ => K.2 k_ hlt_ (fun hs_ => hk_.elim (fun h_ => ty_18 h_.2.2.2 hs_.2.2.2 (by decide)) (fun h_ => absurd hs_.2.2.1 (Nat.not_lt.2 (Nat.le_trans HK.out.1 h_))))))
 have Z3 := Aside0.mk S
 clear S B K
 go_wp2
 go_ret
 exact ⟨rfl,Kd.S_mono Z1.out (fun _ h_ => h_.elim (fun h2_ => .inl h2_.1) (fun h2_ => .inr (Nat.le_trans HZ.out.size h2_))),Kd.S_mono Z2.out (fun _ h_ => h_.elim (fun h2_ => .inl h2_.1) (fun h2_ => .inr (Nat.le_trans (Nat.le_trans HZ.out.size HK.out.1) h2_))),Kd.R_mono Z3.out (fun _ h_ => h_.elim (fun h2_ => .inl h2_.1) (fun h2_ => .inr (Nat.le_trans (Nat.le_trans HZ.out.size (Nat.le_trans HK.out.1 HK2.out.1)) h2_))),HE.out⟩

/-! ### laws_heldCellS: function 20 -/
def laws_heldCellS.l0 : Nat → List (S92) → Int → Int → Option (Int)
  | 0, _, _, _ => none
  | k + 1, x0, x1, x5 => if x5 < (x0.length : Int) then (if 0 ≤ x5 then (if ((rd_T92 x0 x5).f0) = x1 then (if ((rd_T92 x0 x5).f1) = (wrap64 (x1 + 1)) then (laws_heldCellS.l0 k x0 (wrap64 ((wrap64 (x1 + 1)) + 1)) (wrap64 (x5 + 1))) else (some (-1))) else (some (-1))) else (none)) else (some x1)
def laws_heldCellS.f (k : Nat) (l0 : List (S92)) (a1 : Int) : Option (Int) := laws_heldCellS.l0 k l0 a1 0

set_option maxHeartbeats 8000000 in
set_option maxRecDepth 100000 in
theorem laws_heldCellS.calls (k : Nat) (A0 : Option Addr) (c0 : Nat) (l0 : List (S92)) (a1 : Int) (r : Int) (w : World) (hr0 : Kd.C k92 w A0 l0.length l0) (hc0 : l0.length ≤ c0) (h : laws_heldCellS.f k l0 a1 = some r) :
    Calls Try.prog 20 #[.slice A0 l0.length c0, .int .i64 a1] w fun e w' => e = .returned (.int .i64 r) ∧ Drawn0 w w' := by
 have HR0 := Aside0.mk hr0
 have HC0 := Aside0.mk hc0
 clear hr0 hc0
 have H : (laws_heldCellS.l0 k l0 a1 0) = some r := h
 clear h
 have H' := Aside0.mk H
 clear H
 go_enter Try.func20,Try.ntmps20
 go_wp2
 go_loopg [1,5] k (fun kq v1 v5 w' => ∃ (x1_1 : Int) (x5_1 : Int),v1 = .int .i64 x1_1 ∧ v5 = .int .i64 x5_1 ∧ Aside0 (laws_heldCellS.l0 kq l0 x1_1 x5_1 = some r) ∧ Aside0 (kq ≤ k) ∧ Drawn0 w w')
 case atStart => exact ⟨(a1),(0),rs_,rs_,H',⟨Nat.le_refl _⟩,by repeat (first|exact Drawn0.refl _|apply Drawn0.step)⟩
 case round =>
  clear H'
  try clear c2
  try clear p2
  obtain ⟨x1_1,x5_1,rfl,rfl,HA,HK1,⟨m1,rfl⟩⟩ := hrel
  cases gk with
    | zero => exact absurd HA.out (by simp [laws_heldCellS.l0])
    | succ k1 =>
   have H := HA.out
   clear HA
   simp only [laws_heldCellS.l0] at H
   by_cases c3 : x5_1 < (l0.length : Int)
   ·rw [if_pos c3] at H
    have c3b0 : decide (x5_1 < (l0.length : Int)) = true := decide_eq_true c3
    clear c3
    by_cases c4 : 0 ≤ x5_1
    ·rw [if_pos c4] at H
     have c4b0 : decide (0 ≤ x5_1) = true := decide_eq_true c4
     clear c4
     by_cases c5 : ((rd_T92 l0 x5_1).f0) = x1_1
     ·rw [if_pos c5] at H
      have c5b0 : (((rd_T92 l0 x5_1).f0) == x1_1) = true := beq_iff_eq.mpr c5
      have c5b1 : (((rd_T92 l0 x5_1).f0) != x1_1) = false := bne_eq_false_iff_eq.mpr c5
      clear c5
      by_cases c6 : ((rd_T92 l0 x5_1).f1) = (wrap64 (x1_1 + 1))
      ·rw [if_pos c6] at H
       have c6b0 : (((rd_T92 l0 x5_1).f1) == (wrap64 (x1_1 + 1))) = true := beq_iff_eq.mpr c6
       have c6b1 : (((rd_T92 l0 x5_1).f1) != (wrap64 (x1_1 + 1))) = false := bne_eq_false_iff_eq.mpr c6
       clear c6
       have H' := Aside0.mk H
       clear H
       have p222 : 0 ≤ (x5_1 : Int) := od_
       have q222 : x5_1 < (l0.length : Int) := od_
       obtain ⟨ad222,e222,hx222_0,hx222_1⟩ := at_T92 HR0.out x5_1 p222 q222
       cases e222
       replace p222 := eq_true p222
       replace q222 := eq_true q222
       have p223 : 0 ≤ (x5_1 : Int) := od_
       have q223 : x5_1 < (l0.length : Int) := od_
       obtain ⟨ad223,e223,hx223_0,hx223_1⟩ := at_T92 HR0.out x5_1 p223 q223
       obtain rfl : ad222 = ad223 := (by injection e223)
       replace p223 := eq_true p223
       replace q223 := eq_true q223
       go_wp2
       go_roundg k1
       case measure => have := HK1.out;omega
       case rel => exact ⟨(wrap64 ((wrap64 (x1_1 + 1)) + 1)),(wrap64 (x5_1 + 1)),rs_,rs_,H',⟨by have := HK1.out;omega⟩,by repeat (first|exact Drawn0.refl _|apply Drawn0.step)⟩
      ·rw [if_neg c6] at H
       have c6b0 : (((rd_T92 l0 x5_1).f1) == (wrap64 (x1_1 + 1))) = false := beq_eq_false_iff_ne.mpr c6
       have c6b1 : (((rd_T92 l0 x5_1).f1) != (wrap64 (x1_1 + 1))) = true := bne_iff_ne.mpr c6
       obtain rfl := Option.some.inj H
       have p222 : 0 ≤ (x5_1 : Int) := od_
       have q222 : x5_1 < (l0.length : Int) := od_
       obtain ⟨ad222,e222,hx222_0,hx222_1⟩ := at_T92 HR0.out x5_1 p222 q222
       cases e222
       replace p222 := eq_true p222
       replace q222 := eq_true q222
       have p223 : 0 ≤ (x5_1 : Int) := od_
       have q223 : x5_1 < (l0.length : Int) := od_
       obtain ⟨ad223,e223,hx223_0,hx223_1⟩ := at_T92 HR0.out x5_1 p223 q223
       obtain rfl : ad222 = ad223 := (by injection e223)
       replace p223 := eq_true p223
       replace q223 := eq_true q223
       go_wp2
       go_ret
       exact ⟨rs_,by repeat (first|exact Drawn0.refl _|apply Drawn0.step)⟩
     ·rw [if_neg c5] at H
      have c5b0 : (((rd_T92 l0 x5_1).f0) == x1_1) = false := beq_eq_false_iff_ne.mpr c5
      have c5b1 : (((rd_T92 l0 x5_1).f0) != x1_1) = true := bne_iff_ne.mpr c5
      obtain rfl := Option.some.inj H
      have p222 : 0 ≤ (x5_1 : Int) := od_
      have q222 : x5_1 < (l0.length : Int) := od_
      obtain ⟨ad222,e222,hx222_0,hx222_1⟩ := at_T92 HR0.out x5_1 p222 q222
      cases e222
      replace p222 := eq_true p222
      replace q222 := eq_true q222
      go_wp2
      go_ret
      exact ⟨rs_,by repeat (first|exact Drawn0.refl _|apply Drawn0.step)⟩
    ·rw [if_neg c4] at H
     exact absurd H (by simp)
   ·rw [if_neg c3] at H
    have c3b0 : decide (x5_1 < (l0.length : Int)) = false := decide_eq_false c3
    clear c3
    obtain rfl := Option.some.inj H
    go_wp2
    go_ret
    exact ⟨rs_,by repeat (first|exact Drawn0.refl _|apply Drawn0.step)⟩

/-! ### laws_heldCopyS: function 78 -/
def laws_heldCopyS.l0 : Nat → List (S79) → Int → Int → Option (Int)
  | 0, _, _, _ => none
  | k + 1, x0, x1, x5 => if x5 < (x0.length : Int) then (if 0 ≤ x5 then (if ((rd_T79 x0 x5).f0) = x1 then ((laws_heldCellS.f k ((rd_T79 x0 x5).f1) (wrap64 (x1 + 1))).bind fun t226 => (if t226 < 0 then (some (-1)) else (laws_heldCopyS.l0 k x0 t226 (wrap64 (x5 + 1))))) else (some (-1))) else (none)) else (some x1)
def laws_heldCopyS.f (k : Nat) (l0 : List (S79)) (a1 : Int) : Option (Int) := laws_heldCopyS.l0 k l0 a1 0

set_option maxHeartbeats 8000000 in
set_option maxRecDepth 100000 in
theorem laws_heldCopyS.calls (k : Nat) (A0 : Option Addr) (c0 : Nat) (l0 : List (S79)) (a1 : Int) (r : Int) (w : World) (hr0 : Kd.C k79 w A0 l0.length l0) (hc0 : l0.length ≤ c0) (h : laws_heldCopyS.f k l0 a1 = some r) :
    Calls Try.prog 78 #[.slice A0 l0.length c0, .int .i64 a1] w fun e w' => e = .returned (.int .i64 r) ∧ Drawn0 w w' := by
 have HR0 := Aside0.mk hr0
 have HC0 := Aside0.mk hc0
 clear hr0 hc0
 have H : (laws_heldCopyS.l0 k l0 a1 0) = some r := h
 clear h
 have H' := Aside0.mk H
 clear H
 go_enter Try.func78,Try.ntmps78
 go_wp2
 go_loopg [1,5] k (fun kq v1 v5 w' => ∃ (x1_1 : Int) (x5_1 : Int),v1 = .int .i64 x1_1 ∧ v5 = .int .i64 x5_1 ∧ Aside0 (laws_heldCopyS.l0 kq l0 x1_1 x5_1 = some r) ∧ Aside0 (kq ≤ k) ∧ Drawn0 w w')
 case atStart => exact ⟨(a1),(0),rs_,rs_,H',⟨Nat.le_refl _⟩,by repeat (first|exact Drawn0.refl _|apply Drawn0.step)⟩
 case round =>
  clear H'
  try clear p2
  obtain ⟨x1_1,x5_1,rfl,rfl,HA,HK1,⟨m1,rfl⟩⟩ := hrel
  cases gk with
    | zero => exact absurd HA.out (by simp [laws_heldCopyS.l0])
    | succ k1 =>
   have H := HA.out
   clear HA
   simp only [laws_heldCopyS.l0] at H
   by_cases c3 : x5_1 < (l0.length : Int)
   ·rw [if_pos c3] at H
    have c3b0 : decide (x5_1 < (l0.length : Int)) = true := decide_eq_true c3
    clear c3
    by_cases c4 : 0 ≤ x5_1
    ·rw [if_pos c4] at H
     have c4b0 : decide (0 ≤ x5_1) = true := decide_eq_true c4
     clear c4
     by_cases c5 : ((rd_T79 l0 x5_1).f0) = x1_1
     ·rw [if_pos c5] at H
      have c5b0 : (((rd_T79 l0 x5_1).f0) == x1_1) = true := beq_iff_eq.mpr c5
      have c5b1 : (((rd_T79 l0 x5_1).f0) != x1_1) = false := bne_eq_false_iff_eq.mpr c5
      clear c5
      replace H := bs_ H
      obtain ⟨t226,A6,H⟩ := H
      by_cases c7 : t226 < 0
      ·rw [if_pos c7] at H
       have c7b0 : decide (t226 < 0) = true := decide_eq_true c7
       clear c7
       obtain rfl := Option.some.inj H
       have p224 : 0 ≤ (x5_1 : Int) := od_
       have q224 : x5_1 < (l0.length : Int) := od_
       obtain ⟨ad224,A224_1,c224_1,e224,hx224_0,hx224_1,hl224_1,hi224_1⟩ := at_T79 HR0.out x5_1 p224 q224
       cases e224
       have HR224_1 := Aside0.mk hi224_1
       have HC224_1 := Aside0.mk hl224_1
       clear hi224_1 hl224_1
       replace p224 := eq_true p224
       replace q224 := eq_true q224
       have p225 : 0 ≤ (x5_1 : Int) := od_
       have q225 : x5_1 < (l0.length : Int) := od_
       obtain ⟨ad225,A225_1,c225_1,e225,hx225_0,hx225_1,hl225_1,hi225_1⟩ := at_T79 HR0.out x5_1 p225 q225
       obtain rfl : ad224 = ad225 := (by injection e225)
       have HR225_1 := Aside0.mk hi225_1
       have HC225_1 := Aside0.mk hl225_1
       clear hi225_1 hl225_1
       replace p225 := eq_true p225
       replace q225 := eq_true q225
       have ea_ := Option.some.inj (hx224_1.symm.trans hx225_1)
       injection ea_ with ea_ en_ ec_
       subst ea_
       subst ec_
       clear en_
       go_wp2_with (first|((with_reducible refine gcal_ (f := 20) rfl ?_);refine gl_ (some 27) Try.func20 #[.slice A224_1 ((rd_T79 l0 x5_1).f1).length c224_1,.int .i64 (wrap64 (x1_1 + 1))] ?_;(with_reducible refine (laws_heldCellS.calls k1 _ _ ((rd_T79 l0 x5_1).f1) (wrap64 (x1_1 + 1)) t226 _ ?side1 ?side2 A6.out).mono ?_);(case side1 => repeat (first|exact HR225_1.out|(with_reducible refine Kd.C_alloc ?_ _)|(with_reducible refine Kd.C_drewN ?_ _)|(with_reducible refine Kd.C_drew ?_)));(case side2 => exact HC225_1.out);rintro e w' ⟨rfl,⟨nd,rfl⟩⟩;refine ⟨_,rfl,?_⟩))
       go_ret
       exact ⟨rs_,by repeat (first|exact Drawn0.refl _|apply Drawn0.step)⟩
      ·rw [if_neg c7] at H
       have c7b0 : decide (t226 < 0) = false := decide_eq_false c7
       clear c7
       have H' := Aside0.mk H
       clear H
       have p224 : 0 ≤ (x5_1 : Int) := od_
       have q224 : x5_1 < (l0.length : Int) := od_
       obtain ⟨ad224,A224_1,c224_1,e224,hx224_0,hx224_1,hl224_1,hi224_1⟩ := at_T79 HR0.out x5_1 p224 q224
       cases e224
       have HR224_1 := Aside0.mk hi224_1
       have HC224_1 := Aside0.mk hl224_1
       clear hi224_1 hl224_1
       replace p224 := eq_true p224
       replace q224 := eq_true q224
       have p225 : 0 ≤ (x5_1 : Int) := od_
       have q225 : x5_1 < (l0.length : Int) := od_
       obtain ⟨ad225,A225_1,c225_1,e225,hx225_0,hx225_1,hl225_1,hi225_1⟩ := at_T79 HR0.out x5_1 p225 q225
       obtain rfl : ad224 = ad225 := (by injection e225)
       have HR225_1 := Aside0.mk hi225_1
       have HC225_1 := Aside0.mk hl225_1
       clear hi225_1 hl225_1
       replace p225 := eq_true p225
       replace q225 := eq_true q225
       have ea_ := Option.some.inj (hx224_1.symm.trans hx225_1)
       injection ea_ with ea_ en_ ec_
       subst ea_
       subst ec_
       clear en_
       go_wp2_with (first|((with_reducible refine gcal_ (f := 20) rfl ?_);refine gl_ (some 27) Try.func20 #[.slice A224_1 ((rd_T79 l0 x5_1).f1).length c224_1,.int .i64 (wrap64 (x1_1 + 1))] ?_;(with_reducible refine (laws_heldCellS.calls k1 _ _ ((rd_T79 l0 x5_1).f1) (wrap64 (x1_1 + 1)) t226 _ ?side1 ?side2 A6.out).mono ?_);(case side1 => repeat (first|exact HR225_1.out|(with_reducible refine Kd.C_alloc ?_ _)|(with_reducible refine Kd.C_drewN ?_ _)|(with_reducible refine Kd.C_drew ?_)));(case side2 => exact HC225_1.out);rintro e w' ⟨rfl,⟨nd,rfl⟩⟩;refine ⟨_,rfl,?_⟩))
       go_roundg k1
       case measure => have := HK1.out;omega
       case rel => exact ⟨(t226),(wrap64 (x5_1 + 1)),rs_,rs_,H',⟨by have := HK1.out;omega⟩,by repeat (first|exact Drawn0.refl _|apply Drawn0.step)⟩
     ·rw [if_neg c5] at H
      have c5b0 : (((rd_T79 l0 x5_1).f0) == x1_1) = false := beq_eq_false_iff_ne.mpr c5
      have c5b1 : (((rd_T79 l0 x5_1).f0) != x1_1) = true := bne_iff_ne.mpr c5
      obtain rfl := Option.some.inj H
      have p224 : 0 ≤ (x5_1 : Int) := od_
      have q224 : x5_1 < (l0.length : Int) := od_
      obtain ⟨ad224,A224_1,c224_1,e224,hx224_0,hx224_1,hl224_1,hi224_1⟩ := at_T79 HR0.out x5_1 p224 q224
      cases e224
      have HR224_1 := Aside0.mk hi224_1
      have HC224_1 := Aside0.mk hl224_1
      clear hi224_1 hl224_1
      replace p224 := eq_true p224
      replace q224 := eq_true q224
      go_wp2
      go_ret
      exact ⟨rs_,by repeat (first|exact Drawn0.refl _|apply Drawn0.step)⟩
    ·rw [if_neg c4] at H
     exact absurd H (by simp)
   ·rw [if_neg c3] at H
    have c3b0 : decide (x5_1 < (l0.length : Int)) = false := decide_eq_false c3
    clear c3
    obtain rfl := Option.some.inj H
    go_wp2
    go_ret
    exact ⟨rs_,by repeat (first|exact Drawn0.refl _|apply Drawn0.step)⟩

/-! ### laws_heldSetS: function 71 -/
def laws_heldSetS.l0 : Nat → List (S127) → Int → Int → Option (Int)
  | 0, _, _, _ => none
  | k + 1, x0, x1, x5 => if x5 < (x0.length : Int) then (if 0 ≤ x5 then (if ((rd_T127 x0 x5).f0) = x1 then (if ((rd_T127 x0 x5).f1) = (wrap64 (x1 + 1)) then (if ((rd_T127 x0 x5).f2) = (wrap64 ((wrap64 (x1 + 1)) + 1)) then (if (((rd_T127 x0 x5).f3) != ((Int.tmod (wrap64 ((wrap64 ((wrap64 (x1 + 1)) + 1)) + 1)) 3) == 0)) = true then (some (-1)) else (if ((rd_T127 x0 x5).f4) = (wrap64 ((wrap64 ((wrap64 ((wrap64 (x1 + 1)) + 1)) + 1)) + 1)) then (laws_heldSetS.l0 k x0 (wrap64 ((wrap64 ((wrap64 ((wrap64 ((wrap64 (x1 + 1)) + 1)) + 1)) + 1)) + 1)) (wrap64 (x5 + 1))) else (some (-1)))) else (some (-1))) else (some (-1))) else (some (-1))) else (none)) else (some x1)
def laws_heldSetS.f (k : Nat) (l0 : List (S127)) (a1 : Int) : Option (Int) := laws_heldSetS.l0 k l0 a1 0

set_option maxHeartbeats 8000000 in
set_option maxRecDepth 100000 in
theorem laws_heldSetS.calls (k : Nat) (A0 : Option Addr) (c0 : Nat) (l0 : List (S127)) (a1 : Int) (r : Int) (w : World) (hr0 : Kd.C k127 w A0 l0.length l0) (hc0 : l0.length ≤ c0) (h : laws_heldSetS.f k l0 a1 = some r) :
    Calls Try.prog 71 #[.slice A0 l0.length c0, .int .i64 a1] w fun e w' => e = .returned (.int .i64 r) ∧ Drawn0 w w' := by
 have HR0 := Aside0.mk hr0
 have HC0 := Aside0.mk hc0
 clear hr0 hc0
 have H : (laws_heldSetS.l0 k l0 a1 0) = some r := h
 clear h
 have H' := Aside0.mk H
 clear H
 go_enter Try.func71,Try.ntmps71
 go_wp2
 go_loopg [1,5] k (fun kq v1 v5 w' => ∃ (x1_1 : Int) (x5_1 : Int),v1 = .int .i64 x1_1 ∧ v5 = .int .i64 x5_1 ∧ Aside0 (laws_heldSetS.l0 kq l0 x1_1 x5_1 = some r) ∧ Aside0 (kq ≤ k) ∧ Drawn0 w w')
 case atStart => exact ⟨(a1),(0),rs_,rs_,H',⟨Nat.le_refl _⟩,by repeat (first|exact Drawn0.refl _|apply Drawn0.step)⟩
 case round =>
  clear H'
  try clear p2
  obtain ⟨x1_1,x5_1,rfl,rfl,HA,HK1,⟨m1,rfl⟩⟩ := hrel
  cases gk with
    | zero => exact absurd HA.out (by simp [laws_heldSetS.l0])
    | succ k1 =>
   have H := HA.out
   clear HA
   simp only [laws_heldSetS.l0] at H
   by_cases c3 : x5_1 < (l0.length : Int)
   ·rw [if_pos c3] at H
    have c3b0 : decide (x5_1 < (l0.length : Int)) = true := decide_eq_true c3
    clear c3
    by_cases c4 : 0 ≤ x5_1
    ·rw [if_pos c4] at H
     have c4b0 : decide (0 ≤ x5_1) = true := decide_eq_true c4
     clear c4
     by_cases c5 : ((rd_T127 l0 x5_1).f0) = x1_1
     ·rw [if_pos c5] at H
      have c5b0 : (((rd_T127 l0 x5_1).f0) == x1_1) = true := beq_iff_eq.mpr c5
      have c5b1 : (((rd_T127 l0 x5_1).f0) != x1_1) = false := bne_eq_false_iff_eq.mpr c5
      clear c5
      by_cases c6 : ((rd_T127 l0 x5_1).f1) = (wrap64 (x1_1 + 1))
      ·rw [if_pos c6] at H
       have c6b0 : (((rd_T127 l0 x5_1).f1) == (wrap64 (x1_1 + 1))) = true := beq_iff_eq.mpr c6
       have c6b1 : (((rd_T127 l0 x5_1).f1) != (wrap64 (x1_1 + 1))) = false := bne_eq_false_iff_eq.mpr c6
       clear c6
       by_cases c7 : ((rd_T127 l0 x5_1).f2) = (wrap64 ((wrap64 (x1_1 + 1)) + 1))
       ·rw [if_pos c7] at H
        have c7b0 : (((rd_T127 l0 x5_1).f2) == (wrap64 ((wrap64 (x1_1 + 1)) + 1))) = true := beq_iff_eq.mpr c7
        have c7b1 : (((rd_T127 l0 x5_1).f2) != (wrap64 ((wrap64 (x1_1 + 1)) + 1))) = false := bne_eq_false_iff_eq.mpr c7
        clear c7
        by_cases c8 : (((rd_T127 l0 x5_1).f3) != ((Int.tmod (wrap64 ((wrap64 ((wrap64 (x1_1 + 1)) + 1)) + 1)) 3) == 0)) = true
        ·rw [if_pos c8] at H
         have c8b0 : (((rd_T127 l0 x5_1).f3) != ((Int.tmod (wrap64 ((wrap64 ((wrap64 (x1_1 + 1)) + 1)) + 1)) 3) == 0)) = true := c8
         (try (have c8b1 : decide (((rd_T127 l0 x5_1).f3) = ((Int.tmod (wrap64 ((wrap64 ((wrap64 (x1_1 + 1)) + 1)) + 1)) 3) == 0)) = false := by simpa using c8))
         (try (have c8b2 : (((rd_T127 l0 x5_1).f3) == ((Int.tmod (wrap64 ((wrap64 ((wrap64 (x1_1 + 1)) + 1)) + 1)) 3) == 0)) = false := by simpa using c8))
         (try (have c8b3 : ¬ (((rd_T127 l0 x5_1).f3) = ((Int.tmod (wrap64 ((wrap64 ((wrap64 (x1_1 + 1)) + 1)) + 1)) 3) == 0)) := by simpa using c8))
         clear c8
         obtain rfl := Option.some.inj H
         have p227 : 0 ≤ (x5_1 : Int) := od_
         have q227 : x5_1 < (l0.length : Int) := od_
         obtain ⟨ad227,e227,hx227_0,hx227_1,hx227_2,hx227_3,hx227_4⟩ := at_T127 HR0.out x5_1 p227 q227
         cases e227
         replace p227 := eq_true p227
         replace q227 := eq_true q227
         have p228 : 0 ≤ (x5_1 : Int) := od_
         have q228 : x5_1 < (l0.length : Int) := od_
         obtain ⟨ad228,e228,hx228_0,hx228_1,hx228_2,hx228_3,hx228_4⟩ := at_T127 HR0.out x5_1 p228 q228
         obtain rfl : ad227 = ad228 := (by injection e228)
         replace p228 := eq_true p228
         replace q228 := eq_true q228
         have p229 : 0 ≤ (x5_1 : Int) := od_
         have q229 : x5_1 < (l0.length : Int) := od_
         obtain ⟨ad229,e229,hx229_0,hx229_1,hx229_2,hx229_3,hx229_4⟩ := at_T127 HR0.out x5_1 p229 q229
         obtain rfl : ad227 = ad229 := (by injection e229)
         replace p229 := eq_true p229
         replace q229 := eq_true q229
         have p230 : 0 ≤ (x5_1 : Int) := od_
         have q230 : x5_1 < (l0.length : Int) := od_
         obtain ⟨ad230,e230,hx230_0,hx230_1,hx230_2,hx230_3,hx230_4⟩ := at_T127 HR0.out x5_1 p230 q230
         obtain rfl : ad227 = ad230 := (by injection e230)
         replace p230 := eq_true p230
         replace q230 := eq_true q230
         go_wp2
         go_ret
         exact ⟨rs_,by repeat (first|exact Drawn0.refl _|apply Drawn0.step)⟩
        ·rw [if_neg c8] at H
         have c8b0 : (((rd_T127 l0 x5_1).f3) != ((Int.tmod (wrap64 ((wrap64 ((wrap64 (x1_1 + 1)) + 1)) + 1)) 3) == 0)) = false := by simpa using c8
         (try (have c8b1 : decide (((rd_T127 l0 x5_1).f3) = ((Int.tmod (wrap64 ((wrap64 ((wrap64 (x1_1 + 1)) + 1)) + 1)) 3) == 0)) = true := by simpa using c8))
         (try (have c8b2 : (((rd_T127 l0 x5_1).f3) == ((Int.tmod (wrap64 ((wrap64 ((wrap64 (x1_1 + 1)) + 1)) + 1)) 3) == 0)) = true := by simpa using c8))
         clear c8
         by_cases c9 : ((rd_T127 l0 x5_1).f4) = (wrap64 ((wrap64 ((wrap64 ((wrap64 (x1_1 + 1)) + 1)) + 1)) + 1))
         ·rw [if_pos c9] at H
          have c9b0 : (((rd_T127 l0 x5_1).f4) == (wrap64 ((wrap64 ((wrap64 ((wrap64 (x1_1 + 1)) + 1)) + 1)) + 1))) = true := beq_iff_eq.mpr c9
          have c9b1 : (((rd_T127 l0 x5_1).f4) != (wrap64 ((wrap64 ((wrap64 ((wrap64 (x1_1 + 1)) + 1)) + 1)) + 1))) = false := bne_eq_false_iff_eq.mpr c9
          clear c9
          have H' := Aside0.mk H
          clear H
          have p227 : 0 ≤ (x5_1 : Int) := od_
          have q227 : x5_1 < (l0.length : Int) := od_
          obtain ⟨ad227,e227,hx227_0,hx227_1,hx227_2,hx227_3,hx227_4⟩ := at_T127 HR0.out x5_1 p227 q227
          cases e227
          replace p227 := eq_true p227
          replace q227 := eq_true q227
          have p228 : 0 ≤ (x5_1 : Int) := od_
          have q228 : x5_1 < (l0.length : Int) := od_
          obtain ⟨ad228,e228,hx228_0,hx228_1,hx228_2,hx228_3,hx228_4⟩ := at_T127 HR0.out x5_1 p228 q228
          obtain rfl : ad227 = ad228 := (by injection e228)
          replace p228 := eq_true p228
          replace q228 := eq_true q228
          have p229 : 0 ≤ (x5_1 : Int) := od_
          have q229 : x5_1 < (l0.length : Int) := od_
          obtain ⟨ad229,e229,hx229_0,hx229_1,hx229_2,hx229_3,hx229_4⟩ := at_T127 HR0.out x5_1 p229 q229
          obtain rfl : ad227 = ad229 := (by injection e229)
          replace p229 := eq_true p229
          replace q229 := eq_true q229
          have p230 : 0 ≤ (x5_1 : Int) := od_
          have q230 : x5_1 < (l0.length : Int) := od_
          obtain ⟨ad230,e230,hx230_0,hx230_1,hx230_2,hx230_3,hx230_4⟩ := at_T127 HR0.out x5_1 p230 q230
          obtain rfl : ad227 = ad230 := (by injection e230)
          replace p230 := eq_true p230
          replace q230 := eq_true q230
          have p231 : 0 ≤ (x5_1 : Int) := od_
          have q231 : x5_1 < (l0.length : Int) := od_
          obtain ⟨ad231,e231,hx231_0,hx231_1,hx231_2,hx231_3,hx231_4⟩ := at_T127 HR0.out x5_1 p231 q231
          obtain rfl : ad227 = ad231 := (by injection e231)
          replace p231 := eq_true p231
          replace q231 := eq_true q231
          go_wp2
          go_roundg k1
          case measure => have := HK1.out;omega
          case rel => exact ⟨(wrap64 ((wrap64 ((wrap64 ((wrap64 ((wrap64 (x1_1 + 1)) + 1)) + 1)) + 1)) + 1)),(wrap64 (x5_1 + 1)),rs_,rs_,H',⟨by have := HK1.out;omega⟩,by repeat (first|exact Drawn0.refl _|apply Drawn0.step)⟩
         ·rw [if_neg c9] at H
          have c9b0 : (((rd_T127 l0 x5_1).f4) == (wrap64 ((wrap64 ((wrap64 ((wrap64 (x1_1 + 1)) + 1)) + 1)) + 1))) = false := beq_eq_false_iff_ne.mpr c9
          have c9b1 : (((rd_T127 l0 x5_1).f4) != (wrap64 ((wrap64 ((wrap64 ((wrap64 (x1_1 + 1)) + 1)) + 1)) + 1))) = true := bne_iff_ne.mpr c9
          obtain rfl := Option.some.inj H
          have p227 : 0 ≤ (x5_1 : Int) := od_
          have q227 : x5_1 < (l0.length : Int) := od_
          obtain ⟨ad227,e227,hx227_0,hx227_1,hx227_2,hx227_3,hx227_4⟩ := at_T127 HR0.out x5_1 p227 q227
          cases e227
          replace p227 := eq_true p227
          replace q227 := eq_true q227
          have p228 : 0 ≤ (x5_1 : Int) := od_
          have q228 : x5_1 < (l0.length : Int) := od_
          obtain ⟨ad228,e228,hx228_0,hx228_1,hx228_2,hx228_3,hx228_4⟩ := at_T127 HR0.out x5_1 p228 q228
          obtain rfl : ad227 = ad228 := (by injection e228)
          replace p228 := eq_true p228
          replace q228 := eq_true q228
          have p229 : 0 ≤ (x5_1 : Int) := od_
          have q229 : x5_1 < (l0.length : Int) := od_
          obtain ⟨ad229,e229,hx229_0,hx229_1,hx229_2,hx229_3,hx229_4⟩ := at_T127 HR0.out x5_1 p229 q229
          obtain rfl : ad227 = ad229 := (by injection e229)
          replace p229 := eq_true p229
          replace q229 := eq_true q229
          have p230 : 0 ≤ (x5_1 : Int) := od_
          have q230 : x5_1 < (l0.length : Int) := od_
          obtain ⟨ad230,e230,hx230_0,hx230_1,hx230_2,hx230_3,hx230_4⟩ := at_T127 HR0.out x5_1 p230 q230
          obtain rfl : ad227 = ad230 := (by injection e230)
          replace p230 := eq_true p230
          replace q230 := eq_true q230
          have p231 : 0 ≤ (x5_1 : Int) := od_
          have q231 : x5_1 < (l0.length : Int) := od_
          obtain ⟨ad231,e231,hx231_0,hx231_1,hx231_2,hx231_3,hx231_4⟩ := at_T127 HR0.out x5_1 p231 q231
          obtain rfl : ad227 = ad231 := (by injection e231)
          replace p231 := eq_true p231
          replace q231 := eq_true q231
          go_wp2
          go_ret
          exact ⟨rs_,by repeat (first|exact Drawn0.refl _|apply Drawn0.step)⟩
       ·rw [if_neg c7] at H
        have c7b0 : (((rd_T127 l0 x5_1).f2) == (wrap64 ((wrap64 (x1_1 + 1)) + 1))) = false := beq_eq_false_iff_ne.mpr c7
        have c7b1 : (((rd_T127 l0 x5_1).f2) != (wrap64 ((wrap64 (x1_1 + 1)) + 1))) = true := bne_iff_ne.mpr c7
        obtain rfl := Option.some.inj H
        have p227 : 0 ≤ (x5_1 : Int) := od_
        have q227 : x5_1 < (l0.length : Int) := od_
        obtain ⟨ad227,e227,hx227_0,hx227_1,hx227_2,hx227_3,hx227_4⟩ := at_T127 HR0.out x5_1 p227 q227
        cases e227
        replace p227 := eq_true p227
        replace q227 := eq_true q227
        have p228 : 0 ≤ (x5_1 : Int) := od_
        have q228 : x5_1 < (l0.length : Int) := od_
        obtain ⟨ad228,e228,hx228_0,hx228_1,hx228_2,hx228_3,hx228_4⟩ := at_T127 HR0.out x5_1 p228 q228
        obtain rfl : ad227 = ad228 := (by injection e228)
        replace p228 := eq_true p228
        replace q228 := eq_true q228
        have p229 : 0 ≤ (x5_1 : Int) := od_
        have q229 : x5_1 < (l0.length : Int) := od_
        obtain ⟨ad229,e229,hx229_0,hx229_1,hx229_2,hx229_3,hx229_4⟩ := at_T127 HR0.out x5_1 p229 q229
        obtain rfl : ad227 = ad229 := (by injection e229)
        replace p229 := eq_true p229
        replace q229 := eq_true q229
        go_wp2
        go_ret
        exact ⟨rs_,by repeat (first|exact Drawn0.refl _|apply Drawn0.step)⟩
      ·rw [if_neg c6] at H
       have c6b0 : (((rd_T127 l0 x5_1).f1) == (wrap64 (x1_1 + 1))) = false := beq_eq_false_iff_ne.mpr c6
       have c6b1 : (((rd_T127 l0 x5_1).f1) != (wrap64 (x1_1 + 1))) = true := bne_iff_ne.mpr c6
       obtain rfl := Option.some.inj H
       have p227 : 0 ≤ (x5_1 : Int) := od_
       have q227 : x5_1 < (l0.length : Int) := od_
       obtain ⟨ad227,e227,hx227_0,hx227_1,hx227_2,hx227_3,hx227_4⟩ := at_T127 HR0.out x5_1 p227 q227
       cases e227
       replace p227 := eq_true p227
       replace q227 := eq_true q227
       have p228 : 0 ≤ (x5_1 : Int) := od_
       have q228 : x5_1 < (l0.length : Int) := od_
       obtain ⟨ad228,e228,hx228_0,hx228_1,hx228_2,hx228_3,hx228_4⟩ := at_T127 HR0.out x5_1 p228 q228
       obtain rfl : ad227 = ad228 := (by injection e228)
       replace p228 := eq_true p228
       replace q228 := eq_true q228
       go_wp2
       go_ret
       exact ⟨rs_,by repeat (first|exact Drawn0.refl _|apply Drawn0.step)⟩
     ·rw [if_neg c5] at H
      have c5b0 : (((rd_T127 l0 x5_1).f0) == x1_1) = false := beq_eq_false_iff_ne.mpr c5
      have c5b1 : (((rd_T127 l0 x5_1).f0) != x1_1) = true := bne_iff_ne.mpr c5
      obtain rfl := Option.some.inj H
      have p227 : 0 ≤ (x5_1 : Int) := od_
      have q227 : x5_1 < (l0.length : Int) := od_
      obtain ⟨ad227,e227,hx227_0,hx227_1,hx227_2,hx227_3,hx227_4⟩ := at_T127 HR0.out x5_1 p227 q227
      cases e227
      replace p227 := eq_true p227
      replace q227 := eq_true q227
      go_wp2
      go_ret
      exact ⟨rs_,by repeat (first|exact Drawn0.refl _|apply Drawn0.step)⟩
    ·rw [if_neg c4] at H
     exact absurd H (by simp)
   ·rw [if_neg c3] at H
    have c3b0 : decide (x5_1 < (l0.length : Int)) = false := decide_eq_false c3
    clear c3
    obtain rfl := Option.some.inj H
    go_wp2
    go_ret
    exact ⟨rs_,by repeat (first|exact Drawn0.refl _|apply Drawn0.step)⟩

end Go.Proofs.Ythplaakckfhaaaa.XRp
