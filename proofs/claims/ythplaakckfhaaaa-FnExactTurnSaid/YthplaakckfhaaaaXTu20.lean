/- Proved: of each Go function here that a call comes to what the Lean function of its name tells. Written by a program of this session over the translation. No conditions beyond each theorem's own. -/
import Derived.Test.YthplaakckfhaaaaXTu0
import Derived.Test.YthplaakckfhaaaaXTu1
import Derived.Test.YthplaakckfhaaaaXTu2
import Derived.Test.YthplaakckfhaaaaXTu4
import Derived.Test.YthplaakckfhaaaaXTu5
import Derived.Test.YthplaakckfhaaaaXTu6
import Derived.Test.YthplaakckfhaaaaXTu14
import Derived.Test.YthplaakckfhaaaaXTu17
import Derived.Test.YthplaakckfhaaaaXTu19
namespace Go.Proofs.Ythplaakckfhaaaa.XTu
open Go.RowKit Go.Proofs.Ythplaakckfhaaaa.Aid Go.Proofs.YthplaakckfhaaaaW.PrintWords Go.Proofs.YthplaakckfhaaaaW.PrintLast Go.Proofs.YthplaakckfhaaaaW.PrintMore
set_option linter.unusedVariables false
set_option linter.unusedSimpArgs false

/-! ### impl_Machine_turn: function 82 -/
def impl_Machine_turn.l0 : Nat → List (S45) → Int → Int → Int → Option (List (S45))
  | 0, _, _, _, _ => none
  | k + 1, x0, a1, a2, x5 => if x5 < (x0.length : Int) then (if 0 ≤ x5 then (if (rd_T45 x0 x5).f1 = a1 then (if (rd_T45 x0 x5).f2 = a2 then (if (rd_T45 x0 x5).f0 = 1 then (impl_Machine_turn.l0 k (x0.set (x5 : Int).toNat (⟨3, (rd_T45 x0 x5).f1, (rd_T45 x0 x5).f2, (rd_T45 x0 x5).f3⟩ : S45)) a1 a2 (wrap64 (x5 + 1))) else (impl_Machine_turn.l0 k x0 a1 a2 (wrap64 (x5 + 1)))) else (impl_Machine_turn.l0 k x0 a1 a2 (wrap64 (x5 + 1)))) else (impl_Machine_turn.l0 k x0 a1 a2 (wrap64 (x5 + 1)))) else (none)) else (some x0)
def impl_Machine_turn.f (k : Nat) (l2 : List (S45)) (a1 a2 : Int) : Option (List (S45)) := impl_Machine_turn.l0 k l2 a1 a2 0
set_option maxHeartbeats 8000000 in
set_option maxRecDepth 100000 in
theorem impl_Machine_turn.calls (k : Nat) (P0_ : Nat → Prop) (gb : Nat) (b : Bool) (v1 v3 : Value) (A2 : Option Addr) (c2 : Nat) (l2 : List (S45)) (a1 a2 : Int) (r2 : List (S45)) (w0 w : World) (hB : Below w0.heap.size w0 w) (hx : w.heap[gb]? = some (.cells #[.bool b, v1, .slice A2 l2.length c2, v3] 32 (0, 0))) (hP : ¬ P0_ gb) (ho : Kd.S k45 45 w w0.heap.size P0_ (.slice A2 l2.length c2) l2) (h : impl_Machine_turn.f k l2 a1 a2 = some r2) :
    Calls Try.prog 82 #[.pointer (some ⟨gb, 0, none⟩), .int .i64 a1, .int .i64 a2] w fun e w' => e = .returned (.tuple #[]) ∧ r2.length = l2.length ∧ Kd.S k45 45 w' w0.heap.size P0_ (.slice A2 l2.length c2) r2 ∧ Below w0.heap.size w0 w' ∧ Kept w w' P0_ := by
 have hu := Try.underlying32
 have hu2 := Try.underlying45
 have HO := Aside0.mk ho
 have HK := Aside0.mk (Kept.refl w P0_)
 have HB := Aside0.mk hB
 have HX := Aside0.mk hx
 clear hB ho hx
 have H : (impl_Machine_turn.l0 k l2 a1 a2 0) = some r2 := h
 clear h
 have H' := Aside0.mk H
 clear H
 have hcy_0 : w.cell? ⟨gb,0,none⟩ = some (.bool b) := (blk_cell HX.out 0).trans rfl
 have hcy_1 : w.cell? ⟨gb,1,none⟩ = some (v1) := (blk_cell HX.out 1).trans rfl
 have hcy_2 : w.cell? ⟨gb,2,none⟩ = some (.slice A2 l2.length c2) := (blk_cell HX.out 2).trans rfl
 have hcy_3 : w.cell? ⟨gb,3,none⟩ = some (v3) := (blk_cell HX.out 3).trans rfl
 go_enter Try.func82,Try.ntmps82
 go_wp2
 go_loopg [13] k (fun kq v5 w' => ∃ (x0_1 : List (S45)) (x5_1 : Int),v5 = .int .i64 x5_1 ∧ Aside0 (impl_Machine_turn.l0 kq x0_1 a1 a2 x5_1 = some r2) ∧ Aside0 (kq ≤ k) ∧ Aside0 (x0_1.length = l2.length) ∧ Aside0 (Kd.S k45 45 w' w0.heap.size P0_ (.slice A2 l2.length c2) x0_1) ∧ Aside0 (Kept w w' P0_) ∧ Aside0 (Below w0.heap.size w0 w'))
 case atStart => exact ⟨l2,0,(by first|rfl|(simp;done)),H',⟨Nat.le_refl _⟩,⟨rfl⟩,⟨HO.out⟩,⟨HK.out⟩,⟨HB.out⟩⟩
 case round =>
  clear H' HO HK HB
  clear hcy_0 hcy_1 hcy_2 hcy_3
  obtain ⟨x0_1,x5_1,rfl,HA,HK1,HL2,HO_0,HK,HB⟩ := hrel
  cases gk with
    | zero => exact absurd HA.out (by simp [impl_Machine_turn.l0])
    | succ k1 =>
   have H := HA.out
   clear HA
   simp only [impl_Machine_turn.l0] at H
   have BX := (HK.out.2 gb (blk_lt HX.out) hP).trans HX.out
   by_cases c3 : x5_1 < (l2.length : Int)
   ·rw [HL2.out,if_pos c3] at H
    have c3b0 : decide (x5_1 < (l2.length : Int)) = true := decide_eq_true c3
    by_cases c4 : 0 ≤ x5_1
    ·rw [if_pos c4] at H
     have c4b0 : decide (0 ≤ x5_1) = true := decide_eq_true c4
     obtain ⟨go5,co5,eo5,gb5,gl5,cl5,HG5⟩ := Kd.S_form HO_0.out (by have := HL2.out;omega)
     obtain rfl : A2 = some ⟨go5,0,none⟩ := (by injection eo5)
     have GB := Aside0.mk gb5
     have HM : Aside0 (P0_ go5) := ⟨(Kd.S_R HO_0.out).1 _ rfl⟩
     clear gb5 gl5 HG5 eo5
     obtain ⟨oki,ce,hcl,hM,hcc,hfr,hoki,hH⟩ := Kd.S_elem HO_0.out z45 (x5_1 : Int) c4 c3
     obtain ⟨v0,rfl,hv⟩ := k45_openM hM
     obtain ⟨A1,c1,e1⟩ := Kd.R_slice hv
     subst e1
     have hx19_0 : wr.cell? ⟨go5,(x5_1 : Int).toNat * 4,none⟩ = some (.int .i64 (rd_T45 x0_1 x5_1).f0) := by (have h_ := hcc 0 _ rfl;exact h_)
     have hx19_1 : wr.cell? ⟨go5,(x5_1 : Int).toNat * 4 + 1,none⟩ = some (.int .i64 (rd_T45 x0_1 x5_1).f1) := by (have h_ := hcc 1 _ rfl;exact h_)
     have hx19_2 : wr.cell? ⟨go5,(x5_1 : Int).toNat * 4 + 2,none⟩ = some (.int .i64 (rd_T45 x0_1 x5_1).f2) := by (have h_ := hcc 2 _ rfl;exact h_)
     have hx19_3 : wr.cell? ⟨go5,(x5_1 : Int).toNat * 4 + 3,none⟩ = some (.slice A1 (rd_T45 x0_1 x5_1).f3.length c1) := by (have h_ := hcc 3 _ rfl;exact h_)
     have hf19_0 : wr.frozen? ⟨go5,(x5_1 : Int).toNat * 4,none⟩ = false := by (have h_ := hfr 0;exact h_)
     have hcz_0 : wr.cell? ⟨gb,0,none⟩ = some (.bool b) := (blk_cell BX 0).trans rfl
     have hcz_1 : wr.cell? ⟨gb,1,none⟩ = some (v1) := (blk_cell BX 1).trans rfl
     have hcz_2 : wr.cell? ⟨gb,2,none⟩ = some (.slice (some ⟨go5,0,none⟩) l2.length c2) := (blk_cell BX 2).trans rfl
     have hcz_3 : wr.cell? ⟨gb,3,none⟩ = some (v3) := (blk_cell BX 3).trans rfl
     have P5 := Aside0.mk c4
     have Q5 : Aside0 ((x5_1 : Int) < (l2.length : Int)) := ⟨c3⟩
     have HV : Aside0 (Kd.R k127 127 wr w0.heap.size oki (.slice A1 (rd_T45 x0_1 x5_1).f3.length c1) ((rd_T45 x0_1 x5_1).f3)) := ⟨hv⟩
     have HH : Aside0 (Kd.H k45 45 wr w0.heap.size P0_ (.slice (some ⟨go5,0,none⟩) l2.length c2) x0_1 (x5_1 : Int) oki [.int .i64 (rd_T45 x0_1 x5_1).f0,.int .i64 (rd_T45 x0_1 x5_1).f1,.int .i64 (rd_T45 x0_1 x5_1).f2,.slice A1 (rd_T45 x0_1 x5_1).f3.length c1]) := ⟨hH⟩
     have HI := Aside0.mk hoki
     clear hcl hcc hfr hoki hH hv hM BX
     have p5 : (0 ≤ (x5_1 : Int)) = True := eq_true c4
     have q5 : ((x5_1 : Int) < (l2.length : Int)) = True := eq_true c3
     clear c3 c4
     by_cases c21 : (rd_T45 x0_1 x5_1).f1 = a1
     ·rw [if_pos c21] at H
      have c21b0 : ((rd_T45 x0_1 x5_1).f1 == a1) = true := beq_iff_eq.mpr c21
      clear c21
      by_cases c22 : (rd_T45 x0_1 x5_1).f2 = a2
      ·rw [if_pos c22] at H
       have c22b0 : ((rd_T45 x0_1 x5_1).f2 == a2) = true := beq_iff_eq.mpr c22
       clear c22
       by_cases c20 : (rd_T45 x0_1 x5_1).f0 = 1
       ·rw [if_pos c20] at H
        have c20b0 : ((rd_T45 x0_1 x5_1).f0 == 1) = true := beq_iff_eq.mpr c20
        clear c20
        obtain ⟨hH2,hg⟩ := Kd.H_seg (j := 0) (seg := [.int .i64 3]) HH.out P5.out Q5.out (show 0 + 1 ≤ 4 from by decide) (by intro q_ hq_;rw [List.mem_singleton.1 hq_];rfl)
        have hR2 := Kd.R_grown HV.out hg (fun k_ hk_ he_ => (HI.out k_ hk_).2 (by injection he_))
        have n0_ : Aside0 (Kd.S k45 45 (wr.setCell ⟨go5,(x5_1 : Int).toNat * 4,none⟩ (.int .i64 3)) w0.heap.size P0_ (.slice (some ⟨go5,0,none⟩) l2.length c2) (x0_1.set (x5_1 : Int).toNat (⟨3,(rd_T45 x0_1 x5_1).f1,(rd_T45 x0_1 x5_1).f2,(rd_T45 x0_1 x5_1).f3⟩ : S45))) := ⟨Kd.H_back hH2 (k45_mkM _ _ _ (⟨3,(rd_T45 x0_1 x5_1).f1,(rd_T45 x0_1 x5_1).f2,(rd_T45 x0_1 x5_1).f3⟩ : S45) hR2) (fun _ h_ => h_)⟩
        have n1_ : Aside0 (Below w0.heap.size w0 (wr.setCell ⟨go5,(x5_1 : Int).toNat * 4,none⟩ (.int .i64 3))) := ⟨below_set HB.out GB.out⟩
        have n2_ : Aside0 (Kept w (wr.setCell ⟨go5,(x5_1 : Int).toNat * 4,none⟩ (.int .i64 3)) P0_) := ⟨Kept.of_grown (S := (fun k_ => P0_ k_)) hg HK.out (fun k_ e_ => (by injection e_ with e2_;subst e2_;exact (.inl HM.out)))⟩
        have HL3 : Aside0 ((x0_1.set (x5_1 : Int).toNat (⟨3,(rd_T45 x0_1 x5_1).f1,(rd_T45 x0_1 x5_1).f2,(rd_T45 x0_1 x5_1).f3⟩ : S45)).length = l2.length) := ⟨by rw [List.length_set];exact HL2.out⟩
        clear hH2 hg hR2 HH HV
        have H' := Aside0.mk H
        clear H
        go_wp2
        go_roundg k1
        case measure => have := HK1.out;omega
        case rel => exact ⟨_,(wrap64 (x5_1 + 1)),(by first|rfl|(simp;done)),H',⟨by have := HK1.out;omega⟩,⟨HL3.out⟩,⟨n0_.out⟩,⟨n2_.out⟩,⟨n1_.out⟩⟩
       ·rw [if_neg c20] at H
        have c20b0 : ((rd_T45 x0_1 x5_1).f0 == 1) = false := beq_eq_false_iff_ne.mpr c20
        clear c20
        have H' := Aside0.mk H
        clear H
        go_wp2
        go_roundg k1
        case measure => have := HK1.out;omega
        case rel => exact ⟨_,(wrap64 (x5_1 + 1)),(by first|rfl|(simp;done)),H',⟨by have := HK1.out;omega⟩,⟨HL2.out⟩,⟨HO_0.out⟩,⟨HK.out⟩,⟨HB.out⟩⟩
      ·rw [if_neg c22] at H
       have c22b0 : ((rd_T45 x0_1 x5_1).f2 == a2) = false := beq_eq_false_iff_ne.mpr c22
       clear c22
       have H' := Aside0.mk H
       clear H
       go_wp2
       go_roundg k1
       case measure => have := HK1.out;omega
       case rel => exact ⟨_,(wrap64 (x5_1 + 1)),(by first|rfl|(simp;done)),H',⟨by have := HK1.out;omega⟩,⟨HL2.out⟩,⟨HO_0.out⟩,⟨HK.out⟩,⟨HB.out⟩⟩
     ·rw [if_neg c21] at H
      have c21b0 : ((rd_T45 x0_1 x5_1).f1 == a1) = false := beq_eq_false_iff_ne.mpr c21
      clear c21
      have H' := Aside0.mk H
      clear H
      go_wp2
      go_roundg k1
      case measure => have := HK1.out;omega
      case rel => exact ⟨_,(wrap64 (x5_1 + 1)),(by first|rfl|(simp;done)),H',⟨by have := HK1.out;omega⟩,⟨HL2.out⟩,⟨HO_0.out⟩,⟨HK.out⟩,⟨HB.out⟩⟩
    ·rw [if_neg c4] at H
     exact absurd H (by simp)
   ·rw [HL2.out,if_neg c3] at H
    have c3b0 : decide (x5_1 < (l2.length : Int)) = false := decide_eq_false c3
    clear c3
    obtain rfl := Option.some.inj H
    have hcz_0 : wr.cell? ⟨gb,0,none⟩ = some (.bool b) := (blk_cell BX 0).trans rfl
    have hcz_1 : wr.cell? ⟨gb,1,none⟩ = some (v1) := (blk_cell BX 1).trans rfl
    have hcz_2 : wr.cell? ⟨gb,2,none⟩ = some (.slice A2 l2.length c2) := (blk_cell BX 2).trans rfl
    have hcz_3 : wr.cell? ⟨gb,3,none⟩ = some (v3) := (blk_cell BX 3).trans rfl
    clear BX
    go_wp2
    go_end0
    exact ⟨rfl,HL2.out,HO_0.out,HB.out,HK.out⟩

/-! ### impl_Turn: function 32 -/
theorem hold_32 {p : Prop} (h : Aside0 p) : p := h.out
theorem ty_32 {w : World} {k : Nat} {a b : List Nat} (h1 : ∃ q, q ∈ a ∧ ∃ cs, w.heap[k]? = some (.cells cs q (0, 0))) (h2 : ∃ q, q ∈ b ∧ ∃ cs, w.heap[k]? = some (.cells cs q (0, 0))) (hd : ∀ q, q ∈ a → ¬ q ∈ b) : False := by
 obtain ⟨q,hq,cs,h1⟩ := h1
 obtain ⟨q2,hq2,cs2,h2⟩ := h2
 rw [h1] at h2
 injection h2 with h2
 injection h2 with _ h2
 exact hd q hq (h2 ▸ hq2)
def impl_Turn.f (k : Nat) (a0_0 : Bool) (l0_1 : List (S79)) (l0_2 : List (S45)) (l0_3 : List Int) (a1 a2 : Int) : Option (Bool × (List (S79)) × (List (S45)) × List Int) := (impl_isMachineOk.f k a0_0 l0_1 l0_2 l0_3).bind fun t => if t = true then ((impl_cloneMachine.f k a0_0 l0_1 l0_2 l0_3).bind fun c => (impl_Machine_turn.f k c.2.2.1 a1 a2).bind fun q => some (c.1, c.2.1, q, c.2.2.2)) else some (false, [], [], [])
set_option maxHeartbeats 8000000 in
set_option maxRecDepth 100000 in
theorem impl_Turn.calls (k : Nat) (a0_0 : Bool) (A0_1 : Option Addr) (c0_1 : Nat) (l0_1 : List (S79)) (A0_2 : Option Addr) (c0_2 : Nat) (l0_2 : List (S45)) (A0_3 : Option Addr) (c0_3 : Nat) (l0_3 : List Int) (a1 a2 : Int) (r1 : Bool) (r2 : List (S79)) (r3 : List (S45)) (r4 : List Int) (w : World) (hr0_1 : Kd.C k79 w A0_1 l0_1.length l0_1) (hc0_1 : l0_1.length ≤ c0_1) (hr0_2 : Kd.C k45 w A0_2 l0_2.length l0_2) (hc0_2 : l0_2.length ≤ c0_2) (hr0_3 : Kd.C (Kd.int .i64) w A0_3 l0_3.length l0_3) (hc0_3 : l0_3.length ≤ c0_3) (h : impl_Turn.f k a0_0 l0_1 l0_2 l0_3 a1 a2 = some (r1, r2, r3, r4)) :
    Calls Try.prog 32 #[.agg #[.bool a0_0, .slice A0_1 l0_1.length c0_1, .slice A0_2 l0_2.length c0_2, .slice A0_3 l0_3.length c0_3], .int .i64 a1, .int .i64 a2] w fun e w' => ∃ v1_ v2_ v3_ : Value, e = .returned (.agg #[.bool r1, v1_, v2_, v3_]) ∧ Kd.S k79 79 w' w.heap.size (fun _ => True) v1_ r2 ∧ Kd.S k45 45 w' w.heap.size (fun _ => True) v2_ r3 ∧ Kd.R (Kd.int .i64) 2 w' w.heap.size (fun _ => True) v3_ r4 ∧ Below w.heap.size w w' := by
 have hu := Try.underlying32
 have HR1 := Aside0.mk hr0_1
 have HC1 := Aside0.mk hc0_1
 clear hr0_1 hc0_1
 have HR2 := Aside0.mk hr0_2
 have HC2 := Aside0.mk hc0_2
 clear hr0_2 hc0_2
 have HR3 := Aside0.mk hr0_3
 have HC3 := Aside0.mk hc0_3
 clear hr0_3 hc0_3
 obtain ⟨t,E0,h1⟩ := Option.bind_eq_some_iff.1 h
 clear h
 have H1 := Aside0.mk h1
 have F0 := Aside0.mk E0
 clear h1 E0
 go_enter Try.func32,Try.ntmps32
 go_wp2_with ((with_reducible refine gate_dst (N := 3) rfl ?_);refine bx_ 3 #[.bool a0_0,.slice A0_1 l0_1.length c0_1,.slice A0_2 l0_2.length c0_2,.slice A0_3 l0_3.length c0_3] 32 ?_;intro ga hg w1 hbox hb;have hge := Aside0.mk (Nat.le_of_eq hg.symm);clear hg;refine hold_32 ?_)
 refine ⟨?_⟩
 have D1 := Aside0.mk hb
 have BM := Aside0.mk hbox
 clear hb hbox hge
 go_wp2_with ((with_reducible refine gate_dst (N := 6) rfl ?_);refine bx_ 6 #[.bool false,.slice none 0 0,.slice none 0 0,.slice none 0 0] 32 ?_;intro gr hg w2 hbox hb;have hge := Aside0.mk (Nat.le_of_eq hg.symm);clear hg;refine hold_32 ?_)
 refine ⟨?_⟩
 have GR : Aside0 (w.heap.size ≤ gr) := ⟨Nat.le_trans D1.out.size hge.out⟩
 have D2 := Aside0.mk (below_step D1.out hb)
 have BM := Aside0.mk (blk_below BM.out hb)
 have BR := Aside0.mk hbox
 clear hb hbox hge
 have hcga2_0 : w2.cell? ⟨ga,0,none⟩ = some (.bool a0_0) := (blk_cell BM.out 0).trans rfl
 have hcga2_1 : w2.cell? ⟨ga,1,none⟩ = some (.slice A0_1 l0_1.length c0_1) := (blk_cell BM.out 1).trans rfl
 have hcga2_2 : w2.cell? ⟨ga,2,none⟩ = some (.slice A0_2 l0_2.length c0_2) := (blk_cell BM.out 2).trans rfl
 have hcga2_3 : w2.cell? ⟨ga,3,none⟩ = some (.slice A0_3 l0_3.length c0_3) := (blk_cell BM.out 3).trans rfl
 go_wp2_with ((with_reducible refine gcal_ (f := 53) rfl ?_);refine goesL_ (some 9) rfl rfl Try.func53 (by kernel_rfl) rfl #[.agg #[.bool a0_0,.slice A0_1 l0_1.length c0_1,.slice A0_2 l0_2.length c0_2,.slice A0_3 l0_3.length c0_3]] rfl (by (try simp only [List.map_toArray,List.map_cons,List.map_nil]);first|done|rfl) ?_;refine (impl_isMachineOk.calls k a0_0 A0_1 c0_1 l0_1 A0_2 c0_2 l0_2 A0_3 c0_3 l0_3 t _ (Kd.C_below HR1.out D2.out) HC1.out (Kd.C_below HR2.out D2.out) HC2.out (Kd.C_below HR3.out D2.out) HC3.out F0.out).mono ?_;rintro e w3 ⟨rfl,B⟩;refine ⟨_,rfl,?_⟩;refine hold_32 ?_)
 refine ⟨?_⟩
 have D3 := Aside0.mk (below_step D2.out B)
 have BM := Aside0.mk (blk_below BM.out B)
 have BR := Aside0.mk (blk_below BR.out B)
 clear B
 have hcgr3_0 : w3.cell? ⟨gr,0,none⟩ = some (.bool false) := (blk_cell BR.out 0).trans rfl
 have hcgr3_1 : w3.cell? ⟨gr,1,none⟩ = some (.slice none 0 0) := (blk_cell BR.out 1).trans rfl
 have hcgr3_2 : w3.cell? ⟨gr,2,none⟩ = some (.slice none 0 0) := (blk_cell BR.out 2).trans rfl
 have hcgr3_3 : w3.cell? ⟨gr,3,none⟩ = some (.slice none 0 0) := (blk_cell BR.out 3).trans rfl
 have hfr3_0 := blk_frozen BR.out 0
 have hfr3_1 := blk_frozen BR.out 1
 have hfr3_2 := blk_frozen BR.out 2
 have hfr3_3 := blk_frozen BR.out 3
 cases t with
  | false =>
  have h1 := H1.out
  rw [if_neg (by simp)] at h1
  simp only [Option.some.injEq,Prod.mk.injEq] at h1
  obtain ⟨rfl,rfl,rfl,rfl⟩ := h1
  clear H1
  go_wp2
  refine bodyPost_ret (results_cell_row rfl _ _ gr 32 #[.bool false,.slice none 0 0,.slice none 0 0,.slice none 0 0] (0,0) _ rfl (by refine blk_put (cs := #[.bool false,.slice none 0 0,.slice none 0 0,.slice none 0 0]) ?_ 3 _ rfl;refine blk_put (cs := #[.bool false,.slice none 0 0,.slice none 0 0,.slice none 0 0]) ?_ 2 _ rfl;refine blk_put (cs := #[.bool false,.slice none 0 0,.slice none 0 0,.slice none 0 0]) ?_ 1 _ rfl;refine blk_put (cs := #[.bool false,.slice none 0 0,.slice none 0 0,.slice none 0 0]) ?_ 0 _ rfl;exact BR.out) Try.underlying32 rfl (by kernel_rfl)) rfl ?_
  exact ⟨.slice none 0 0,.slice none 0 0,.slice none 0 0,by first|rfl|(simp;done),Kd.S_nil _ _ _ _ _,Kd.S_nil _ _ _ _ _,Kd.R_nil _ _ _ _ _,below_set (below_set (below_set (below_set D3.out GR.out) GR.out) GR.out) GR.out⟩
  | true =>
 have h1 := H1.out
 rw [if_pos rfl] at h1
 clear H1
 obtain ⟨⟨b,p1,p2,p3⟩,E1,h2⟩ := Option.bind_eq_some_iff.1 h1
 clear h1
 obtain ⟨q2,E2,h3⟩ := Option.bind_eq_some_iff.1 h2
 clear h2
 simp only [Option.some.injEq,Prod.mk.injEq] at h3
 obtain ⟨rfl,rfl,rfl,rfl⟩ := h3
 have F1 := Aside0.mk E1
 have F2 := Aside0.mk E2
 clear E1 E2
 clear hcgr3_0 hfr3_0 hcgr3_1 hfr3_1 hcgr3_2 hfr3_2 hcgr3_3 hfr3_3
 have hcga3_0 : w3.cell? ⟨ga,0,none⟩ = some (.bool a0_0) := (blk_cell BM.out 0).trans rfl
 have hcga3_1 : w3.cell? ⟨ga,1,none⟩ = some (.slice A0_1 l0_1.length c0_1) := (blk_cell BM.out 1).trans rfl
 have hcga3_2 : w3.cell? ⟨ga,2,none⟩ = some (.slice A0_2 l0_2.length c0_2) := (blk_cell BM.out 2).trans rfl
 have hcga3_3 : w3.cell? ⟨ga,3,none⟩ = some (.slice A0_3 l0_3.length c0_3) := (blk_cell BM.out 3).trans rfl
 go_wp2_with ((with_reducible refine gcal_ (f := 76) rfl ?_);refine goesL_ (some 13) rfl rfl Try.func76 (by kernel_rfl) rfl #[.agg #[.bool a0_0,.slice A0_1 l0_1.length c0_1,.slice A0_2 l0_2.length c0_2,.slice A0_3 l0_3.length c0_3]] rfl (by (try simp only [List.map_toArray,List.map_cons,List.map_nil]);first|done|rfl) ?_;refine (impl_cloneMachine.calls k a0_0 A0_1 c0_1 l0_1 A0_2 c0_2 l0_2 A0_3 c0_3 l0_3 b p1 p2 p3 _ (Kd.C_below HR1.out D3.out) HC1.out (Kd.C_below HR2.out D3.out) HC2.out (Kd.C_below HR3.out D3.out) HC3.out F1.out).mono ?_;rintro e w4 ⟨v1,v2,v3,rfl,S1,S2,S3,B⟩;refine ⟨_,rfl,?_⟩;refine hold_32 ?_)
 refine ⟨?_⟩
 have T1 := Aside0.mk S1
 have T2 := Aside0.mk S2
 have T3 := Aside0.mk S3
 have G := Aside0.mk B
 have D4 := Aside0.mk (below_step D3.out B)
 have BR := Aside0.mk (blk_below BR.out B)
 clear S1 S2 S3 B BM
 obtain ⟨A1,c1,e1⟩ := Kd.S_slice T1.out
 subst e1
 obtain ⟨A2,c2,e2⟩ := Kd.S_slice T2.out
 subst e2
 obtain ⟨A3,c3,e3⟩ := Kd.R_slice T3.out
 subst e3
 go_wp2_with ((with_reducible refine gate_dst (N := 7) rfl ?_);refine bx_ 7 #[.bool false,.slice none 0 0,.slice none 0 0,.slice none 0 0] 32 ?_;intro go hg w5 hbox hb;have hge := Aside0.mk (Nat.le_of_eq hg.symm);clear hg;refine hold_32 ?_)
 refine ⟨?_⟩
 have BZ := Aside0.mk hbox
 have Q0 := Aside0.mk hb
 have HGE := hge
 clear hbox hb hge
 have hcgoy_0 : w5.cell? ⟨go,0,none⟩ = some (.bool false) := (blk_cell BZ.out 0).trans rfl
 have hcgoy_1 : w5.cell? ⟨go,1,none⟩ = some (.slice none 0 0) := (blk_cell BZ.out 1).trans rfl
 have hcgoy_2 : w5.cell? ⟨go,2,none⟩ = some (.slice none 0 0) := (blk_cell BZ.out 2).trans rfl
 have hcgoy_3 : w5.cell? ⟨go,3,none⟩ = some (.slice none 0 0) := (blk_cell BZ.out 3).trans rfl
 have hfy_0 := blk_frozen BZ.out 0
 have hfy_1 := blk_frozen BZ.out 1
 have hfy_2 := blk_frozen BZ.out 2
 have hfy_3 := blk_frozen BZ.out 3
 go_upto_region 4 with (fail)
 have n0_ : Aside0 (Below w4.heap.size w4 ((((w5.setCell ⟨go,0,none⟩ (.bool b)).setCell ⟨go,1,none⟩ (.slice A1 p1.length c1)).setCell ⟨go,2,none⟩ (.slice A2 p2.length c2)).setCell ⟨go,3,none⟩ (.slice A3 p3.length c3))) := ⟨below_set (below_set (below_set (below_set Q0.out HGE.out) HGE.out) HGE.out) HGE.out⟩
 have n1_ : Aside0 (((((w5.setCell ⟨go,0,none⟩ (.bool b)).setCell ⟨go,1,none⟩ (.slice A1 p1.length c1)).setCell ⟨go,2,none⟩ (.slice A2 p2.length c2)).setCell ⟨go,3,none⟩ (.slice A3 p3.length c3)).heap[go]? = some (.cells #[.bool b,.slice A1 p1.length c1,.slice A2 p2.length c2,.slice A3 p3.length c3] 32 (0,0))) := ⟨by refine blk_put (cs := #[.bool b,.slice A1 p1.length c1,.slice A2 p2.length c2,.slice none 0 0]) ?_ 3 _ rfl;refine blk_put (cs := #[.bool b,.slice A1 p1.length c1,.slice none 0 0,.slice none 0 0]) ?_ 2 _ rfl;refine blk_put (cs := #[.bool b,.slice none 0 0,.slice none 0 0,.slice none 0 0]) ?_ 1 _ rfl;refine blk_put (cs := #[.bool false,.slice none 0 0,.slice none 0 0,.slice none 0 0]) ?_ 0 _ rfl;exact BZ.out⟩
 clear BZ Q0
 clear hcgoy_0 hfy_0 hcgoy_1 hfy_1 hcgoy_2 hfy_2 hcgoy_3 hfy_3
 generalize ((((w5.setCell ⟨go,0,none⟩ (.bool b)).setCell ⟨go,1,none⟩ (.slice A1 p1.length c1)).setCell ⟨go,2,none⟩ (.slice A2 p2.length c2)).setCell ⟨go,3,none⟩ (.slice A3 p3.length c3)) = w6 at n0_ n1_ ⊢
 have B := n0_.out
 have BG := n1_
 clear n0_ n1_
 have T1 := Aside0.mk (Kd.S_bound (Kd.S_below T1.out B))
 have T2 := Aside0.mk (Kd.S_bound (Kd.S_below T2.out B))
 have T3 := Aside0.mk (Kd.R_bound (Kd.R_below T3.out B))
 have G := Aside0.mk (below_step G.out B)
 have D6 := Aside0.mk (below_step D4.out B)
 have BR := Aside0.mk (blk_below BR.out B)
 clear B D4
 go_wp2_with ((with_reducible refine gcal_ (f := 82) rfl ?_);refine goesL_ (some 16) rfl rfl Try.func82 (by kernel_rfl) rfl #[.pointer (some ⟨go,0,none⟩),.int .i64 a1,.int .i64 a2] rfl (by (try simp only [List.map_toArray,List.map_cons,List.map_nil]);first|done|rfl) ?_;refine (impl_Machine_turn.calls k (fun k_ => True ∧ w3.heap.size ≤ k_ ∧ k_ < w6.heap.size ∧ ∃ q,q ∈ 45 :: (k45).E ∧ ∃ cells,w6.heap[k_]? = some (.cells cells q (0,0))) go b (.slice A1 p1.length c1) (.slice A3 p3.length c3) A2 c2 p2 a1 a2 q2 w3 _ G.out BG.out (fun hs_ => ty_32 ⟨32,List.mem_singleton.2 rfl,_,BG.out⟩ hs_.2.2.2 (by decide)) T2.out F2.out).mono ?_;rintro e w7 ⟨rfl,L,S,B,K⟩;refine ⟨_,rfl,?_⟩;refine hold_32 ?_)
 refine ⟨?_⟩
 have T1 := Aside0.mk (Kd.S_step T1.out (fun k_ hk_ hlt_ => K.2 k_ hlt_ (fun hs_ => ty_32 hk_.2.2.2 hs_.2.2.2 (by decide))))
 have T3 := Aside0.mk (Kd.R_step T3.out (fun k_ hk_ hlt_ => K.2 k_ hlt_ (fun hs_ => ty_32 hk_.2.2.2 hs_.2.2.2 (by decide))))
 have T2 := Aside0.mk S
 have BG2 := Aside0.mk ((K.2 go (blk_lt BG.out) (fun hs_ => ty_32 ⟨32,List.mem_singleton.2 rfl,_,BG.out⟩ hs_.2.2.2 (by decide))).trans BG.out)
 have BR2 := Aside0.mk ((K.2 gr (blk_lt BR.out) (fun hs_ => ty_32 ⟨32,List.mem_singleton.2 rfl,_,BR.out⟩ hs_.2.2.2 (by decide))).trans BR.out)
 have D7 := Aside0.mk (below_step D3.out B)
 rw [← L] at T2 BG2
 clear S B K L BG BR
 have BR := BR2
 clear BR2
 have hcgo7_0 : w7.cell? ⟨go,0,none⟩ = some (.bool b) := (blk_cell BG2.out 0).trans rfl
 have hcgo7_1 : w7.cell? ⟨go,1,none⟩ = some (.slice A1 p1.length c1) := (blk_cell BG2.out 1).trans rfl
 have hcgo7_2 : w7.cell? ⟨go,2,none⟩ = some (.slice A2 q2.length c2) := (blk_cell BG2.out 2).trans rfl
 have hcgo7_3 : w7.cell? ⟨go,3,none⟩ = some (.slice A3 p3.length c3) := (blk_cell BG2.out 3).trans rfl
 have hcgr7_0 : w7.cell? ⟨gr,0,none⟩ = some (.bool false) := (blk_cell BR.out 0).trans rfl
 have hcgr7_1 : w7.cell? ⟨gr,1,none⟩ = some (.slice none 0 0) := (blk_cell BR.out 1).trans rfl
 have hcgr7_2 : w7.cell? ⟨gr,2,none⟩ = some (.slice none 0 0) := (blk_cell BR.out 2).trans rfl
 have hcgr7_3 : w7.cell? ⟨gr,3,none⟩ = some (.slice none 0 0) := (blk_cell BR.out 3).trans rfl
 have hfr7_0 := blk_frozen BR.out 0
 have hfr7_1 := blk_frozen BR.out 1
 have hfr7_2 := blk_frozen BR.out 2
 have hfr7_3 := blk_frozen BR.out 3
 go_wp2
 refine bodyPost_ret (results_cell_row rfl _ _ gr 32 #[.bool b,.slice A1 p1.length c1,.slice A2 q2.length c2,.slice A3 p3.length c3] (0,0) _ rfl (by refine blk_put (cs := #[.bool b,.slice A1 p1.length c1,.slice A2 q2.length c2,.slice none 0 0]) ?_ 3 _ rfl;refine blk_put (cs := #[.bool b,.slice A1 p1.length c1,.slice none 0 0,.slice none 0 0]) ?_ 2 _ rfl;refine blk_put (cs := #[.bool b,.slice none 0 0,.slice none 0 0,.slice none 0 0]) ?_ 1 _ rfl;refine blk_put (cs := #[.bool false,.slice none 0 0,.slice none 0 0,.slice none 0 0]) ?_ 0 _ rfl;exact BR.out) Try.underlying32 rfl (by kernel_rfl)) rfl ?_
 exact ⟨.slice A1 p1.length c1,.slice A2 q2.length c2,.slice A3 p3.length c3,by first|rfl|(simp;done),Kd.S_mono (Kd.S_far (p := ⟨gr,3,none⟩) (Kd.S_far (p := ⟨gr,2,none⟩) (Kd.S_far (p := ⟨gr,1,none⟩) (Kd.S_far (p := ⟨gr,0,none⟩) (Kd.S_types (Kd.S_lower T1.out D3.out.size) BR.out (by decide)) (fun _ h_ => h_.2) (.bool b)) (fun _ h_ => h_.2) (.slice A1 p1.length c1)) (fun _ h_ => h_.2) (.slice A2 q2.length c2)) (fun _ h_ => h_.2) (.slice A3 p3.length c3)) (fun _ _ => trivial),Kd.S_mono (Kd.S_far (p := ⟨gr,3,none⟩) (Kd.S_far (p := ⟨gr,2,none⟩) (Kd.S_far (p := ⟨gr,1,none⟩) (Kd.S_far (p := ⟨gr,0,none⟩) (Kd.S_types (Kd.S_lower T2.out D3.out.size) BR.out (by decide)) (fun _ h_ => h_.2) (.bool b)) (fun _ h_ => h_.2) (.slice A1 p1.length c1)) (fun _ h_ => h_.2) (.slice A2 q2.length c2)) (fun _ h_ => h_.2) (.slice A3 p3.length c3)) (fun _ _ => trivial),Kd.R_mono (Kd.R_far (p := ⟨gr,3,none⟩) (Kd.R_far (p := ⟨gr,2,none⟩) (Kd.R_far (p := ⟨gr,1,none⟩) (Kd.R_far (p := ⟨gr,0,none⟩) (Kd.R_types (Kd.R_lower T3.out D3.out.size) BR.out (by decide)) (fun _ h_ => h_.2) (.bool b)) (fun _ h_ => h_.2) (.slice A1 p1.length c1)) (fun _ h_ => h_.2) (.slice A2 q2.length c2)) (fun _ h_ => h_.2) (.slice A3 p3.length c3)) (fun _ _ => trivial),below_set (below_set (below_set (below_set D7.out GR.out) GR.out) GR.out) GR.out⟩

/-! ### laws_FnExactTurn: function 7 -/
theorem hold_7 {p : Prop} (h : Aside0 p) : p := h.out
theorem ty_7 {w : World} {k : Nat} {a b : List Nat} (h1 : ∃ q, q ∈ a ∧ ∃ cs, w.heap[k]? = some (.cells cs q (0, 0))) (h2 : ∃ q, q ∈ b ∧ ∃ cs, w.heap[k]? = some (.cells cs q (0, 0))) (hd : ∀ q, q ∈ a → ¬ q ∈ b) : False := by
 obtain ⟨q,hq,cs,h1⟩ := h1
 obtain ⟨q2,hq2,cs2,h2⟩ := h2
 rw [h1] at h2
 injection h2 with h2
 injection h2 with _ h2
 exact hd q hq (h2 ▸ hq2)
theorem ite_some_7 {α : Type} {c : Prop} [Decidable c] {x : Option α} {r : α} (h : (if c then x else none) = some r) : c ∧ x = some r := by
 by_cases hc : c
 ·rw [if_pos hc] at h;exact ⟨hc,h⟩
 ·rw [if_neg hc] at h;cases h
theorem ite_none_7 {α : Type} {c : Prop} [Decidable c] {x : Option α} {r : α} (h : (if c then none else x) = some r) : ¬ c ∧ x = some r := by
 by_cases hc : c
 ·rw [if_pos hc] at h;cases h
 ·rw [if_neg hc] at h;exact ⟨hc,h⟩
def laws_FnExactTurn.f (k : Nat) (a0_0 : Bool) (l0_1 : List (S123)) (l0_2 : List (S53)) (l0_3 : List Int) (a1 : Int) (a2 : Int) : Option (Bool) := (laws_szMachine.f k a0_0 l0_1 l0_2 l0_3 1048576).bind fun s => if s < 0 then some true else (laws_toMachine.f k a0_0 l0_1 l0_2 l0_3).bind fun p => (spec_Turn.f k p.1 p.2.1 p.2.2.1 p.2.2.2 a1 a2).bind fun u => (impl_Turn.f k p.1 p.2.1 p.2.2.1 p.2.2.2 a1 a2).bind fun v => (laws_eqMachine.f k v.1 v.2.1 v.2.2.1 v.2.2.2 u.1 u.2.1 u.2.2.1 u.2.2.2).bind fun e1 => if e1 = true then ((laws_eqMachine.f k p.1 p.2.1 p.2.2.1 p.2.2.2 p.1 p.2.1 p.2.2.1 p.2.2.2).bind fun e2 => if e2 = true then ((laws_markMachine.f k p.2.1 p.2.2.1 p.2.2.2 1).bind fun mx => if mx.1 < 0 then none else ((laws_markMachine.f k v.2.1 v.2.2.1 v.2.2.2 1).bind fun m => (laws_heldMachine.f k v.1 m.2.1 m.2.2.1 m.2.2.2 1).bind fun q => if q < 0 then none else if q = m.1 then some true else none)) else none) else none
set_option maxHeartbeats 8000000 in
set_option maxRecDepth 100000 in
theorem laws_FnExactTurn.calls (k : Nat) (a0_0 : Bool) (A0_1 : Option Addr) (c0_1 : Nat) (l0_1 : List (S123)) (A0_2 : Option Addr) (c0_2 : Nat) (l0_2 : List (S53)) (A0_3 : Option Addr) (c0_3 : Nat) (l0_3 : List Int) (a1 : Int) (a2 : Int) (r : Bool) (w : World) (hr0_1 : Kd.C k123 w A0_1 l0_1.length l0_1) (hc0_1 : l0_1.length ≤ c0_1) (hr0_2 : Kd.C k53 w A0_2 l0_2.length l0_2) (hc0_2 : l0_2.length ≤ c0_2) (hr0_3 : Kd.C (Kd.int .i64) w A0_3 l0_3.length l0_3) (hc0_3 : l0_3.length ≤ c0_3) (h : laws_FnExactTurn.f k a0_0 l0_1 l0_2 l0_3 a1 a2 = some r) :
    Calls Try.prog 7 #[.agg #[.bool a0_0, .slice A0_1 l0_1.length c0_1, .slice A0_2 l0_2.length c0_2, .slice A0_3 l0_3.length c0_3], .int .i64 a1, .int .i64 a2] w fun e w' => e = .returned (.bool r) ∧ Below w.heap.size w w' := by
 have hu1 := Try.underlying26
 have hu2 := Try.underlying32
 have HR1 := Aside0.mk hr0_1
 have HC1 := Aside0.mk hc0_1
 have HR2 := Aside0.mk hr0_2
 have HC2 := Aside0.mk hc0_2
 have HR3 := Aside0.mk hr0_3
 have HC3 := Aside0.mk hc0_3
 clear hr0_1 hc0_1 hr0_2 hc0_2 hr0_3 hc0_3
 obtain ⟨s,E0,h1⟩ := Option.bind_eq_some_iff.1 h
 clear h
 have H2 := Aside0.mk h1
 have F0 := Aside0.mk E0
 clear h1 E0
 go_enter Try.func7,Try.ntmps7
 go_wp2_with ((with_reducible refine gate_dst (N := 3) rfl ?_);refine bx_ 3 #[.bool a0_0,.slice A0_1 l0_1.length c0_1,.slice A0_2 l0_2.length c0_2,.slice A0_3 l0_3.length c0_3] 26 ?_;intro ga hg wb hbox hb;have hge := Aside0.mk (Nat.le_of_eq hg.symm);clear hg;refine hold_7 ?_)
 refine ⟨?_⟩
 have BA := Aside0.mk hbox
 have D0 := Aside0.mk hb
 have HR1 := Aside0.mk (Kd.C_below HR1.out hb)
 have HR2 := Aside0.mk (Kd.C_below HR2.out hb)
 have HR3 := Aside0.mk (Kd.C_below HR3.out hb)
 clear hbox hb hge
 have hcga1_0 : wb.cell? ⟨ga,0,none⟩ = some (.bool a0_0) := (blk_cell BA.out 0).trans rfl
 have hcga1_1 : wb.cell? ⟨ga,1,none⟩ = some (.slice A0_1 l0_1.length c0_1) := (blk_cell BA.out 1).trans rfl
 have hcga1_2 : wb.cell? ⟨ga,2,none⟩ = some (.slice A0_2 l0_2.length c0_2) := (blk_cell BA.out 2).trans rfl
 have hcga1_3 : wb.cell? ⟨ga,3,none⟩ = some (.slice A0_3 l0_3.length c0_3) := (blk_cell BA.out 3).trans rfl
 go_wp2_with ((with_reducible refine gcal_ (f := 10) rfl ?_);refine goesL_ (some 17) rfl rfl Try.func10 (by kernel_rfl) rfl #[.agg #[.bool a0_0,.slice A0_1 l0_1.length c0_1,.slice A0_2 l0_2.length c0_2,.slice A0_3 l0_3.length c0_3],.int .i64 1048576] rfl (by (try simp only [List.map_toArray,List.map_cons,List.map_nil]);first|done|rfl) ?_;refine (laws_szMachine.calls k a0_0 A0_1 c0_1 l0_1 A0_2 c0_2 l0_2 A0_3 c0_3 l0_3 1048576 s _ HR1.out HC1.out HR2.out HC2.out HR3.out HC3.out F0.out).mono ?_;rintro e w1 ⟨rfl,B⟩;refine ⟨_,rfl,?_⟩;refine hold_7 ?_)
 refine ⟨?_⟩
 have D1 := Aside0.mk B
 clear B
 by_cases hs : s < 0
 ·have h1 := H2.out;rw [if_pos hs] at h1;obtain rfl := Option.some.inj h1;clear h1 H2;go_wp2;go_ret;exact ⟨rfl,below_step D0.out D1.out⟩
 have h2 := H2.out
 rw [if_neg hs] at h2
 clear H2
 obtain ⟨⟨b,p1,p2,p3⟩,E1,h3⟩ := Option.bind_eq_some_iff.1 h2
 clear h2
 obtain ⟨⟨ub,u1,u2,u3⟩,E2,h4⟩ := Option.bind_eq_some_iff.1 h3
 clear h3
 obtain ⟨⟨vb,v1,v2,v3⟩,E3,h5⟩ := Option.bind_eq_some_iff.1 h4
 clear h4
 obtain ⟨e1,E4,h6⟩ := Option.bind_eq_some_iff.1 h5
 clear h5
 obtain ⟨he1,h7⟩ := ite_some_7 h6
 clear h6
 subst he1
 obtain ⟨e2,E5,h8⟩ := Option.bind_eq_some_iff.1 h7
 clear h7
 obtain ⟨he2,h9⟩ := ite_some_7 h8
 clear h8
 subst he2
 obtain ⟨⟨mx,mx1,mx2,mx3⟩,E6,h10⟩ := Option.bind_eq_some_iff.1 h9
 clear h9
 obtain ⟨hmx,h11⟩ := ite_none_7 h10
 clear h10
 obtain ⟨⟨m,y1,y2,y3⟩,E7,h12⟩ := Option.bind_eq_some_iff.1 h11
 clear h11
 obtain ⟨q,E8,h13⟩ := Option.bind_eq_some_iff.1 h12
 clear h12
 obtain ⟨hq,h14⟩ := ite_none_7 h13
 clear h13
 obtain ⟨hqm,h15⟩ := ite_some_7 h14
 clear h14
 replace hqm : q = m := hqm
 subst hqm
 obtain rfl := Option.some.inj h15
 clear h15
 have F1 := Aside0.mk E1
 have F2 := Aside0.mk E2
 have F3 := Aside0.mk E3
 have F4 := Aside0.mk E4
 have F5 := Aside0.mk E5
 have F6 := Aside0.mk E6
 have F7 := Aside0.mk E7
 have F8 := Aside0.mk E8
 replace hmx : ¬ mx < 0 := hmx
 have fmx : 0 ≤ mx := Int.not_lt.1 hmx
 have fq : 0 ≤ q := Int.not_lt.1 hq
 clear E1 E2 E3 E4 E5 E6 E7 E8 hmx hq
 have hcga2_0 : w1.cell? ⟨ga,0,none⟩ = some (.bool a0_0) := (blk_cell (blk_below BA.out D1.out) 0).trans rfl
 have hcga2_1 : w1.cell? ⟨ga,1,none⟩ = some (.slice A0_1 l0_1.length c0_1) := (blk_cell (blk_below BA.out D1.out) 1).trans rfl
 have hcga2_2 : w1.cell? ⟨ga,2,none⟩ = some (.slice A0_2 l0_2.length c0_2) := (blk_cell (blk_below BA.out D1.out) 2).trans rfl
 have hcga2_3 : w1.cell? ⟨ga,3,none⟩ = some (.slice A0_3 l0_3.length c0_3) := (blk_cell (blk_below BA.out D1.out) 3).trans rfl
 go_wp2_with ((with_reducible refine gcal_ (f := 12) rfl ?_);refine goesL_ (some 21) rfl rfl Try.func12 (by kernel_rfl) rfl #[.agg #[.bool a0_0,.slice A0_1 l0_1.length c0_1,.slice A0_2 l0_2.length c0_2,.slice A0_3 l0_3.length c0_3]] rfl (by (try simp only [List.map_toArray,List.map_cons,List.map_nil]);first|done|rfl) ?_;refine (laws_toMachine.calls k a0_0 A0_1 c0_1 l0_1 A0_2 c0_2 l0_2 A0_3 c0_3 l0_3 b p1 p2 p3 _ (Kd.C_below HR1.out D1.out) HC1.out (Kd.C_below HR2.out D1.out) HC2.out (Kd.C_below HR3.out D1.out) HC3.out F1.out).mono ?_;rintro e w2 ⟨va1,va2,va3,rfl,S1,S2,S3,B⟩;refine ⟨_,rfl,?_⟩;refine hold_7 ?_)
 refine ⟨?_⟩
 have Ta1 := Aside0.mk S1
 have Ta2 := Aside0.mk S2
 have Ta3 := Aside0.mk S3
 clear S1 S2 S3
 have D2 := Aside0.mk (below_step D1.out B)
 clear B
 obtain ⟨Aa1,ca1,ea1⟩ := Kd.S_slice Ta1.out
 subst ea1
 obtain ⟨Aa2,ca2,ea2⟩ := Kd.S_slice Ta2.out
 subst ea2
 obtain ⟨Aa3,ca3,ea3⟩ := Kd.R_slice Ta3.out
 subst ea3
 go_wp2_with ((with_reducible refine gcal_ (f := 31) rfl ?_);refine goesL_ (some 24) rfl rfl Try.func31 (by kernel_rfl) rfl #[.agg #[.bool b,.slice Aa1 p1.length ca1,.slice Aa2 p2.length ca2,.slice Aa3 p3.length ca3],.int .i64 a1,.int .i64 a2] rfl (by (try simp only [List.map_toArray,List.map_cons,List.map_nil]);first|done|rfl) ?_;refine (spec_Turn.calls k b Aa1 ca1 p1 Aa2 ca2 p2 Aa3 ca3 p3 a1 a2 ub u1 u2 u3 _ (Kd.S_reads' Ta1.out).2.2 (Kd.S_reads' Ta1.out).2.1 (Kd.S_reads' Ta2.out).2.2 (Kd.S_reads' Ta2.out).2.1 (Kd.R_reads' Ta3.out).2.2 (Kd.R_reads' Ta3.out).2.1 F2.out).mono ?_;rintro e w3 ⟨vu1,vu2,vu3,rfl,S1,S2,S3,B⟩;refine ⟨_,rfl,?_⟩;refine hold_7 ?_)
 refine ⟨?_⟩
 have Tu1 := Aside0.mk S1
 have Tu2 := Aside0.mk S2
 have Tu3 := Aside0.mk S3
 clear S1 S2 S3
 have D3 := Aside0.mk (below_step D2.out B)
 clear B
 clear Ta1 Ta2 Ta3
 obtain ⟨Au1,cu1,eu1⟩ := Kd.S_slice Tu1.out
 subst eu1
 obtain ⟨Au2,cu2,eu2⟩ := Kd.S_slice Tu2.out
 subst eu2
 obtain ⟨Au3,cu3,eu3⟩ := Kd.R_slice Tu3.out
 subst eu3
 go_wp2_with ((with_reducible refine gate_dst (N := 8) rfl ?_);refine bx_ 8 #[.bool false,.slice none 0 0,.slice none 0 0,.slice none 0 0] 32 ?_;intro gw hg wd hbox hb;have hge := Aside0.mk (Nat.le_of_eq hg.symm);clear hg;refine hold_7 ?_)
 refine ⟨?_⟩
 have BZ := Aside0.mk hbox
 have Q0 := Aside0.mk hb
 have HGE := hge
 clear hbox hb hge
 have hcgwy_0 : wd.cell? ⟨gw,0,none⟩ = some (.bool false) := (blk_cell BZ.out 0).trans rfl
 have hcgwy_1 : wd.cell? ⟨gw,1,none⟩ = some (.slice none 0 0) := (blk_cell BZ.out 1).trans rfl
 have hcgwy_2 : wd.cell? ⟨gw,2,none⟩ = some (.slice none 0 0) := (blk_cell BZ.out 2).trans rfl
 have hcgwy_3 : wd.cell? ⟨gw,3,none⟩ = some (.slice none 0 0) := (blk_cell BZ.out 3).trans rfl
 have hfy_0 := blk_frozen BZ.out 0
 have hfy_1 := blk_frozen BZ.out 1
 have hfy_2 := blk_frozen BZ.out 2
 have hfy_3 := blk_frozen BZ.out 3
 go_upto_region 6 with (fail)
 have n0_ : Aside0 (Below w3.heap.size w3 ((((wd.setCell ⟨gw,0,none⟩ (.bool ub)).setCell ⟨gw,1,none⟩ (.slice Au1 u1.length cu1)).setCell ⟨gw,2,none⟩ (.slice Au2 u2.length cu2)).setCell ⟨gw,3,none⟩ (.slice Au3 u3.length cu3))) := ⟨below_set (below_set (below_set (below_set Q0.out HGE.out) HGE.out) HGE.out) HGE.out⟩
 have n1_ : Aside0 (((((wd.setCell ⟨gw,0,none⟩ (.bool ub)).setCell ⟨gw,1,none⟩ (.slice Au1 u1.length cu1)).setCell ⟨gw,2,none⟩ (.slice Au2 u2.length cu2)).setCell ⟨gw,3,none⟩ (.slice Au3 u3.length cu3)).heap[gw]? = some (.cells #[.bool ub,.slice Au1 u1.length cu1,.slice Au2 u2.length cu2,.slice Au3 u3.length cu3] 32 (0,0))) := ⟨by refine blk_put (cs := #[.bool ub,.slice Au1 u1.length cu1,.slice Au2 u2.length cu2,.slice none 0 0]) ?_ 3 _ rfl;refine blk_put (cs := #[.bool ub,.slice Au1 u1.length cu1,.slice none 0 0,.slice none 0 0]) ?_ 2 _ rfl;refine blk_put (cs := #[.bool ub,.slice none 0 0,.slice none 0 0,.slice none 0 0]) ?_ 1 _ rfl;refine blk_put (cs := #[.bool false,.slice none 0 0,.slice none 0 0,.slice none 0 0]) ?_ 0 _ rfl;exact BZ.out⟩
 clear BZ Q0
 clear hcgwy_0 hfy_0 hcgwy_1 hfy_1 hcgwy_2 hfy_2 hcgwy_3 hfy_3
 generalize ((((wd.setCell ⟨gw,0,none⟩ (.bool ub)).setCell ⟨gw,1,none⟩ (.slice Au1 u1.length cu1)).setCell ⟨gw,2,none⟩ (.slice Au2 u2.length cu2)).setCell ⟨gw,3,none⟩ (.slice Au3 u3.length cu3)) = w3b at n0_ n1_ ⊢
 have B := n0_.out
 have BW := n1_
 clear n0_ n1_
 have Tu1 := Aside0.mk (Kd.S_below Tu1.out B)
 have Tu2 := Aside0.mk (Kd.S_below Tu2.out B)
 have Tu3 := Aside0.mk (Kd.R_below Tu3.out B)
 have D3 := Aside0.mk (below_step D3.out B)
 have hcga3_0 : w3b.cell? ⟨ga,0,none⟩ = some (.bool a0_0) := (blk_cell (blk_below BA.out D3.out) 0).trans rfl
 have hcga3_1 : w3b.cell? ⟨ga,1,none⟩ = some (.slice A0_1 l0_1.length c0_1) := (blk_cell (blk_below BA.out D3.out) 1).trans rfl
 have hcga3_2 : w3b.cell? ⟨ga,2,none⟩ = some (.slice A0_2 l0_2.length c0_2) := (blk_cell (blk_below BA.out D3.out) 2).trans rfl
 have hcga3_3 : w3b.cell? ⟨ga,3,none⟩ = some (.slice A0_3 l0_3.length c0_3) := (blk_cell (blk_below BA.out D3.out) 3).trans rfl
 clear B
 go_wp2_with ((with_reducible refine gcal_ (f := 12) rfl ?_);refine goesL_ (some 26) rfl rfl Try.func12 (by kernel_rfl) rfl #[.agg #[.bool a0_0,.slice A0_1 l0_1.length c0_1,.slice A0_2 l0_2.length c0_2,.slice A0_3 l0_3.length c0_3]] rfl (by (try simp only [List.map_toArray,List.map_cons,List.map_nil]);first|done|rfl) ?_;refine (laws_toMachine.calls k a0_0 A0_1 c0_1 l0_1 A0_2 c0_2 l0_2 A0_3 c0_3 l0_3 b p1 p2 p3 _ (Kd.C_below HR1.out D3.out) HC1.out (Kd.C_below HR2.out D3.out) HC2.out (Kd.C_below HR3.out D3.out) HC3.out F1.out).mono ?_;rintro e w4 ⟨vx1,vx2,vx3,rfl,S1,S2,S3,B⟩;refine ⟨_,rfl,?_⟩;refine hold_7 ?_)
 refine ⟨?_⟩
 have Tx1 := Aside0.mk S1
 have Tx2 := Aside0.mk S2
 have Tx3 := Aside0.mk S3
 clear S1 S2 S3
 have G := Aside0.mk B
 clear B
 obtain ⟨Ax1,cx1,ex1⟩ := Kd.S_slice Tx1.out
 subst ex1
 obtain ⟨Ax2,cx2,ex2⟩ := Kd.S_slice Tx2.out
 subst ex2
 obtain ⟨Ax3,cx3,ex3⟩ := Kd.R_slice Tx3.out
 subst ex3
 go_wp2_with ((with_reducible refine gate_dst (N := 9) rfl ?_);refine bx_ 9 #[.bool false,.slice none 0 0,.slice none 0 0,.slice none 0 0] 32 ?_;intro gx hg wc hbox hb;have hge := Aside0.mk (Nat.le_of_eq hg.symm);clear hg;refine hold_7 ?_)
 refine ⟨?_⟩
 have BZ := Aside0.mk hbox
 have Q0 := Aside0.mk hb
 have HGE := hge
 clear hbox hb hge
 have hcgxy_0 : wc.cell? ⟨gx,0,none⟩ = some (.bool false) := (blk_cell BZ.out 0).trans rfl
 have hcgxy_1 : wc.cell? ⟨gx,1,none⟩ = some (.slice none 0 0) := (blk_cell BZ.out 1).trans rfl
 have hcgxy_2 : wc.cell? ⟨gx,2,none⟩ = some (.slice none 0 0) := (blk_cell BZ.out 2).trans rfl
 have hcgxy_3 : wc.cell? ⟨gx,3,none⟩ = some (.slice none 0 0) := (blk_cell BZ.out 3).trans rfl
 have hfy_0 := blk_frozen BZ.out 0
 have hfy_1 := blk_frozen BZ.out 1
 have hfy_2 := blk_frozen BZ.out 2
 have hfy_3 := blk_frozen BZ.out 3
 go_upto_region 7 with (fail)
 have n0_ : Aside0 (Below w4.heap.size w4 ((((wc.setCell ⟨gx,0,none⟩ (.bool b)).setCell ⟨gx,1,none⟩ (.slice Ax1 p1.length cx1)).setCell ⟨gx,2,none⟩ (.slice Ax2 p2.length cx2)).setCell ⟨gx,3,none⟩ (.slice Ax3 p3.length cx3))) := ⟨below_set (below_set (below_set (below_set Q0.out HGE.out) HGE.out) HGE.out) HGE.out⟩
 have n1_ : Aside0 (((((wc.setCell ⟨gx,0,none⟩ (.bool b)).setCell ⟨gx,1,none⟩ (.slice Ax1 p1.length cx1)).setCell ⟨gx,2,none⟩ (.slice Ax2 p2.length cx2)).setCell ⟨gx,3,none⟩ (.slice Ax3 p3.length cx3)).heap[gx]? = some (.cells #[.bool b,.slice Ax1 p1.length cx1,.slice Ax2 p2.length cx2,.slice Ax3 p3.length cx3] 32 (0,0))) := ⟨by refine blk_put (cs := #[.bool b,.slice Ax1 p1.length cx1,.slice Ax2 p2.length cx2,.slice none 0 0]) ?_ 3 _ rfl;refine blk_put (cs := #[.bool b,.slice Ax1 p1.length cx1,.slice none 0 0,.slice none 0 0]) ?_ 2 _ rfl;refine blk_put (cs := #[.bool b,.slice none 0 0,.slice none 0 0,.slice none 0 0]) ?_ 1 _ rfl;refine blk_put (cs := #[.bool false,.slice none 0 0,.slice none 0 0,.slice none 0 0]) ?_ 0 _ rfl;exact BZ.out⟩
 clear BZ Q0
 clear hcgxy_0 hfy_0 hcgxy_1 hfy_1 hcgxy_2 hfy_2 hcgxy_3 hfy_3
 generalize ((((wc.setCell ⟨gx,0,none⟩ (.bool b)).setCell ⟨gx,1,none⟩ (.slice Ax1 p1.length cx1)).setCell ⟨gx,2,none⟩ (.slice Ax2 p2.length cx2)).setCell ⟨gx,3,none⟩ (.slice Ax3 p3.length cx3)) = w4c at n0_ n1_ ⊢
 have B := n0_.out
 have BX := n1_
 clear n0_ n1_
 have Tx1 := Aside0.mk (Kd.S_mono (ok' := fun k_ => True ∧ k_ < w4.heap.size) (Kd.S_below (Kd.S_bound Tx1.out) B) (fun _ h_ => ⟨h_.1,h_.2.2.1⟩))
 have Tx2 := Aside0.mk (Kd.S_mono (ok' := fun k_ => True ∧ k_ < w4.heap.size) (Kd.S_below (Kd.S_bound Tx2.out) B) (fun _ h_ => ⟨h_.1,h_.2.2.1⟩))
 have Tx3 := Aside0.mk (Kd.R_mono (ok' := fun k_ => True ∧ k_ < w4.heap.size) (Kd.R_below (Kd.R_bound Tx3.out) B) (fun _ h_ => ⟨h_.1,h_.2.2.1⟩))
 have G := Aside0.mk (below_step G.out B)
 have Z4 := Aside0.mk G.out.size
 have Z44 := Aside0.mk B.size
 have hcgx4_0 : w4c.cell? ⟨gx,0,none⟩ = some (.bool b) := (blk_cell BX.out 0).trans rfl
 have hcgx4_1 : w4c.cell? ⟨gx,1,none⟩ = some (.slice Ax1 p1.length cx1) := (blk_cell BX.out 1).trans rfl
 have hcgx4_2 : w4c.cell? ⟨gx,2,none⟩ = some (.slice Ax2 p2.length cx2) := (blk_cell BX.out 2).trans rfl
 have hcgx4_3 : w4c.cell? ⟨gx,3,none⟩ = some (.slice Ax3 p3.length cx3) := (blk_cell BX.out 3).trans rfl
 clear B
 go_wp2_with ((with_reducible refine gcal_ (f := 32) rfl ?_);refine goesL_ (some 30) rfl rfl Try.func32 (by kernel_rfl) rfl #[.agg #[.bool b,.slice Ax1 p1.length cx1,.slice Ax2 p2.length cx2,.slice Ax3 p3.length cx3],.int .i64 a1,.int .i64 a2] rfl (by (try simp only [List.map_toArray,List.map_cons,List.map_nil]);first|done|rfl) ?_;refine (impl_Turn.calls k b Ax1 cx1 p1 Ax2 cx2 p2 Ax3 cx3 p3 a1 a2 vb v1 v2 v3 _ (Kd.S_reads' Tx1.out).2.2 (Kd.S_reads' Tx1.out).2.1 (Kd.S_reads' Tx2.out).2.2 (Kd.S_reads' Tx2.out).2.1 (Kd.R_reads' Tx3.out).2.2 (Kd.R_reads' Tx3.out).2.1 F3.out).mono ?_;rintro e w5 ⟨vv1,vv2,vv3,rfl,S1,S2,S3,B⟩;refine ⟨_,rfl,?_⟩;refine hold_7 ?_)
 refine ⟨?_⟩
 have Tv1 := Aside0.mk S1
 have Tv2 := Aside0.mk S2
 have Tv3 := Aside0.mk S3
 clear S1 S2 S3
 have Tx1 := Aside0.mk (Kd.S_below Tx1.out B)
 have Tx2 := Aside0.mk (Kd.S_below Tx2.out B)
 have Tx3 := Aside0.mk (Kd.R_below Tx3.out B)
 have G := Aside0.mk (below_step G.out B)
 have BX := Aside0.mk (blk_below BX.out B)
 have Z5 := Aside0.mk (Nat.le_trans Z44.out B.size)
 clear B
 obtain ⟨Av1,cv1,ev1⟩ := Kd.S_slice Tv1.out
 subst ev1
 obtain ⟨Av2,cv2,ev2⟩ := Kd.S_slice Tv2.out
 subst ev2
 obtain ⟨Av3,cv3,ev3⟩ := Kd.R_slice Tv3.out
 subst ev3
 go_wp2_with ((with_reducible refine gate_dst (N := 10) rfl ?_);refine bx_ 10 #[.bool false,.slice none 0 0,.slice none 0 0,.slice none 0 0] 32 ?_;intro gg hg we hbox hb;have hge := Aside0.mk (Nat.le_of_eq hg.symm);clear hg;refine hold_7 ?_)
 refine ⟨?_⟩
 have BZ := Aside0.mk hbox
 have Q0 := Aside0.mk hb
 have HGE := hge
 clear hbox hb hge
 have hcggy_0 : we.cell? ⟨gg,0,none⟩ = some (.bool false) := (blk_cell BZ.out 0).trans rfl
 have hcggy_1 : we.cell? ⟨gg,1,none⟩ = some (.slice none 0 0) := (blk_cell BZ.out 1).trans rfl
 have hcggy_2 : we.cell? ⟨gg,2,none⟩ = some (.slice none 0 0) := (blk_cell BZ.out 2).trans rfl
 have hcggy_3 : we.cell? ⟨gg,3,none⟩ = some (.slice none 0 0) := (blk_cell BZ.out 3).trans rfl
 have hfy_0 := blk_frozen BZ.out 0
 have hfy_1 := blk_frozen BZ.out 1
 have hfy_2 := blk_frozen BZ.out 2
 have hfy_3 := blk_frozen BZ.out 3
 go_upto_region 8 with (fail)
 have n0_ : Aside0 (Below w5.heap.size w5 ((((we.setCell ⟨gg,0,none⟩ (.bool vb)).setCell ⟨gg,1,none⟩ (.slice Av1 v1.length cv1)).setCell ⟨gg,2,none⟩ (.slice Av2 v2.length cv2)).setCell ⟨gg,3,none⟩ (.slice Av3 v3.length cv3))) := ⟨below_set (below_set (below_set (below_set Q0.out HGE.out) HGE.out) HGE.out) HGE.out⟩
 have n1_ : Aside0 (((((we.setCell ⟨gg,0,none⟩ (.bool vb)).setCell ⟨gg,1,none⟩ (.slice Av1 v1.length cv1)).setCell ⟨gg,2,none⟩ (.slice Av2 v2.length cv2)).setCell ⟨gg,3,none⟩ (.slice Av3 v3.length cv3)).heap[gg]? = some (.cells #[.bool vb,.slice Av1 v1.length cv1,.slice Av2 v2.length cv2,.slice Av3 v3.length cv3] 32 (0,0))) := ⟨by refine blk_put (cs := #[.bool vb,.slice Av1 v1.length cv1,.slice Av2 v2.length cv2,.slice none 0 0]) ?_ 3 _ rfl;refine blk_put (cs := #[.bool vb,.slice Av1 v1.length cv1,.slice none 0 0,.slice none 0 0]) ?_ 2 _ rfl;refine blk_put (cs := #[.bool vb,.slice none 0 0,.slice none 0 0,.slice none 0 0]) ?_ 1 _ rfl;refine blk_put (cs := #[.bool false,.slice none 0 0,.slice none 0 0,.slice none 0 0]) ?_ 0 _ rfl;exact BZ.out⟩
 clear BZ Q0
 clear hcggy_0 hfy_0 hcggy_1 hfy_1 hcggy_2 hfy_2 hcggy_3 hfy_3
 generalize ((((we.setCell ⟨gg,0,none⟩ (.bool vb)).setCell ⟨gg,1,none⟩ (.slice Av1 v1.length cv1)).setCell ⟨gg,2,none⟩ (.slice Av2 v2.length cv2)).setCell ⟨gg,3,none⟩ (.slice Av3 v3.length cv3)) = w5b at n0_ n1_ ⊢
 have B := n0_.out
 have BG := n1_
 clear n0_ n1_
 have Tx1 := Aside0.mk (Kd.S_below Tx1.out B)
 have Tx2 := Aside0.mk (Kd.S_below Tx2.out B)
 have Tx3 := Aside0.mk (Kd.R_below Tx3.out B)
 have Tv1 := Aside0.mk (Kd.S_below Tv1.out B)
 have Tv2 := Aside0.mk (Kd.S_below Tv2.out B)
 have Tv3 := Aside0.mk (Kd.R_below Tv3.out B)
 have G := Aside0.mk (below_step G.out B)
 have BX := Aside0.mk (blk_below BX.out B)
 have GG4 := Aside0.mk (Nat.le_trans Z5.out HGE.out)
 have Tm1 := Aside0.mk (Kd.S_below Tu1.out G.out)
 have Tm2 := Aside0.mk (Kd.S_below Tu2.out G.out)
 have Tm3 := Aside0.mk (Kd.R_below Tu3.out G.out)
 have hcgg5_0 : w5b.cell? ⟨gg,0,none⟩ = some (.bool vb) := (blk_cell BG.out 0).trans rfl
 have hcgg5_1 : w5b.cell? ⟨gg,1,none⟩ = some (.slice Av1 v1.length cv1) := (blk_cell BG.out 1).trans rfl
 have hcgg5_2 : w5b.cell? ⟨gg,2,none⟩ = some (.slice Av2 v2.length cv2) := (blk_cell BG.out 2).trans rfl
 have hcgg5_3 : w5b.cell? ⟨gg,3,none⟩ = some (.slice Av3 v3.length cv3) := (blk_cell BG.out 3).trans rfl
 have hcgw6_0 : w5b.cell? ⟨gw,0,none⟩ = some (.bool ub) := (blk_cell (blk_below BW.out G.out) 0).trans rfl
 have hcgw6_1 : w5b.cell? ⟨gw,1,none⟩ = some (.slice Au1 u1.length cu1) := (blk_cell (blk_below BW.out G.out) 1).trans rfl
 have hcgw6_2 : w5b.cell? ⟨gw,2,none⟩ = some (.slice Au2 u2.length cu2) := (blk_cell (blk_below BW.out G.out) 2).trans rfl
 have hcgw6_3 : w5b.cell? ⟨gw,3,none⟩ = some (.slice Au3 u3.length cu3) := (blk_cell (blk_below BW.out G.out) 3).trans rfl
 clear B
 go_wp2_with ((with_reducible refine gcal_ (f := 14) rfl ?_);refine goesL_ (some 33) rfl rfl Try.func14 (by kernel_rfl) rfl #[.agg #[.bool vb,.slice Av1 v1.length cv1,.slice Av2 v2.length cv2,.slice Av3 v3.length cv3],.agg #[.bool ub,.slice Au1 u1.length cu1,.slice Au2 u2.length cu2,.slice Au3 u3.length cu3]] rfl (by (try simp only [List.map_toArray,List.map_cons,List.map_nil]);first|done|rfl) ?_;refine (laws_eqMachine.calls k vb Av1 cv1 v1 Av2 cv2 v2 Av3 cv3 v3 ub Au1 cu1 u1 Au2 cu2 u2 Au3 cu3 u3 true _ (Kd.S_reads' Tv1.out).2.2 (Kd.S_reads' Tv1.out).2.1 (Kd.S_reads' Tv2.out).2.2 (Kd.S_reads' Tv2.out).2.1 (Kd.R_reads' Tv3.out).2.2 (Kd.R_reads' Tv3.out).2.1 (Kd.S_reads' Tm1.out).2.2 (Kd.S_reads' Tm1.out).2.1 (Kd.S_reads' Tm2.out).2.2 (Kd.S_reads' Tm2.out).2.1 (Kd.R_reads' Tm3.out).2.2 (Kd.R_reads' Tm3.out).2.1 F4.out).mono ?_;rintro e w6 ⟨rfl,B⟩;refine ⟨_,rfl,?_⟩;refine hold_7 ?_)
 refine ⟨?_⟩
 have Tx1 := Aside0.mk (Kd.S_below Tx1.out B)
 have Tx2 := Aside0.mk (Kd.S_below Tx2.out B)
 have Tx3 := Aside0.mk (Kd.R_below Tx3.out B)
 have Tv1 := Aside0.mk (Kd.S_below Tv1.out B)
 have Tv2 := Aside0.mk (Kd.S_below Tv2.out B)
 have Tv3 := Aside0.mk (Kd.R_below Tv3.out B)
 have G := Aside0.mk (below_step G.out B)
 have BX := Aside0.mk (blk_below BX.out B)
 have BG := Aside0.mk (blk_below BG.out B)
 clear B
 clear Tm1 Tm2 Tm3
 go_upto_region 10 with (fail)
 have B : Below w6.heap.size w6 w6.drew := below_drew1 (Below.refl _ _)
 have Tx1 := Aside0.mk (Kd.S_below Tx1.out B)
 have Tx2 := Aside0.mk (Kd.S_below Tx2.out B)
 have Tx3 := Aside0.mk (Kd.R_below Tx3.out B)
 have Tv1 := Aside0.mk (Kd.S_below Tv1.out B)
 have Tv2 := Aside0.mk (Kd.S_below Tv2.out B)
 have Tv3 := Aside0.mk (Kd.R_below Tv3.out B)
 have G := Aside0.mk (below_step G.out B)
 have BX := Aside0.mk (blk_below BX.out B)
 have BG := Aside0.mk (blk_below BG.out B)
 clear B
 have D6 := Aside0.mk (below_step D3.out G.out)
 refine start_ (n := 5) (S := fun w' => w'.cell? ⟨gx,0,none⟩ = some (.bool b) ∧ w'.cell? ⟨gx,1,none⟩ = some (.slice Ax1 p1.length cx1) ∧ w'.cell? ⟨gx,2,none⟩ = some (.slice Ax2 p2.length cx2) ∧ w'.cell? ⟨gx,3,none⟩ = some (.slice Ax3 p3.length cx3) ∧ w'.cell? ⟨ga,0,none⟩ = some (.bool a0_0) ∧ w'.cell? ⟨ga,1,none⟩ = some (.slice A0_1 l0_1.length c0_1) ∧ w'.cell? ⟨ga,2,none⟩ = some (.slice A0_2 l0_2.length c0_2) ∧ w'.cell? ⟨ga,3,none⟩ = some (.slice A0_3 l0_3.length c0_3)) (ds := []) #[false,false,false,false,false] (by kernel_rfl) rfl rfl ⟨(blk_cell BX.out 0).trans rfl,(blk_cell BX.out 1).trans rfl,(blk_cell BX.out 2).trans rfl,(blk_cell BX.out 3).trans rfl,(blk_cell (blk_below BA.out D6.out) 0).trans rfl,(blk_cell (blk_below BA.out D6.out) 1).trans rfl,(blk_cell (blk_below BA.out D6.out) 2).trans rfl,(blk_cell (blk_below BA.out D6.out) 3).trans rfl⟩ (fun hHeld => ?_)
 generalize w6.drew = w6d at Tx1 Tx2 Tx3 Tv1 Tv2 Tv3 G BX BG D6 hHeld ⊢
 refine take_ (i := 0) (N := some 35) (v := ?_) (a' := ?_) #[true,false,false,false,false] rfl rfl (by kernel_rfl) (fun _ _ _ h => h) (Or.inl ⟨by rfl,?_⟩) hHeld ?_ ?_
 rotate_left
 ·rintro w' ⟨s0,s1,s2,s3,s4,s5,s6,s7⟩
  go_simp
  with_reducible rfl
 rotate_left
 ·simp only [Act.put,q1,q2,q3,i64_w,i32_w]
  rfl
 refine take_ (i := 1) (N := some 36) (v := ?_) (a' := ?_) #[true,true,false,false,false] rfl rfl (by kernel_rfl) (fun _ _ _ h => h) (Or.inl ⟨by rfl,?_⟩) hHeld ?_ ?_
 rotate_left
 ·rintro w' ⟨s0,s1,s2,s3,s4,s5,s6,s7⟩
  go_simp
  with_reducible rfl
 rotate_left
 ·simp only [Act.put,q1,q2,q3,i64_w,i32_w]
  rfl
 refine one_ (i := 2) (N := some 37) #[true,true,true,false,false] rfl rfl (by kernel_rfl) (by decide) (fun K hK => ?_)
 refine goes_ Try.func12 (by kernel_rfl) rfl #[.agg #[.bool a0_0,.slice A0_1 l0_1.length c0_1,.slice A0_2 l0_2.length c0_2,.slice A0_3 l0_3.length c0_3]] (by rfl) rfl rfl (by (try simp only [List.map_toArray,List.map_cons,List.map_nil]);first|done|rfl) ?_
 refine (laws_toMachine.calls k a0_0 A0_1 c0_1 l0_1 A0_2 c0_2 l0_2 A0_3 c0_3 l0_3 b p1 p2 p3 _ (Kd.C_below HR1.out D6.out) HC1.out (Kd.C_below HR2.out D6.out) HC2.out (Kd.C_below HR3.out D6.out) HC3.out F1.out).mono ?_
 rintro e w7 ⟨vy1,vy2,vy3,rfl,S1,S2,S3,B⟩
 refine ⟨_,rfl,?_⟩
 have Ty1 := Aside0.mk S1
 have Ty2 := Aside0.mk S2
 have Ty3 := Aside0.mk S3
 clear S1 S2 S3
 have Tx1 := Aside0.mk (Kd.S_below Tx1.out B)
 have Tx2 := Aside0.mk (Kd.S_below Tx2.out B)
 have Tx3 := Aside0.mk (Kd.R_below Tx3.out B)
 have Tv1 := Aside0.mk (Kd.S_below Tv1.out B)
 have Tv2 := Aside0.mk (Kd.S_below Tv2.out B)
 have Tv3 := Aside0.mk (Kd.R_below Tv3.out B)
 have G := Aside0.mk (below_step G.out B)
 have BX := Aside0.mk (blk_below BX.out B)
 have BG := Aside0.mk (blk_below BG.out B)
 clear B
 obtain ⟨Ay1,cy1,ey1⟩ := Kd.S_slice Ty1.out
 subst ey1
 obtain ⟨Ay2,cy2,ey2⟩ := Kd.S_slice Ty2.out
 subst ey2
 obtain ⟨Ay3,cy3,ey3⟩ := Kd.R_slice Ty3.out
 subst ey3
 have D7 := Aside0.mk (below_step D3.out G.out)
 refine hK.out _ _ ⟨(blk_cell BX.out 0).trans rfl,(blk_cell BX.out 1).trans rfl,(blk_cell BX.out 2).trans rfl,(blk_cell BX.out 3).trans rfl,(blk_cell (blk_below BA.out D7.out) 0).trans rfl,(blk_cell (blk_below BA.out D7.out) 1).trans rfl,(blk_cell (blk_below BA.out D7.out) 2).trans rfl,(blk_cell (blk_below BA.out D7.out) 3).trans rfl⟩ (fun hHeld => ?_)
 clear hK K
 refine nr_ (some 37) _ ?_
 refine one_ (i := 3) (N := some 38) #[true,true,true,true,false] rfl rfl (by kernel_rfl) (by decide) (fun K hK => ?_)
 refine goes_ Try.func14 (by kernel_rfl) rfl #[.agg #[.bool b,.slice Ax1 p1.length cx1,.slice Ax2 p2.length cx2,.slice Ax3 p3.length cx3],.agg #[.bool b,.slice Ay1 p1.length cy1,.slice Ay2 p2.length cy2,.slice Ay3 p3.length cy3]] (by rfl) rfl rfl (by (try simp only [List.map_toArray,List.map_cons,List.map_nil]);first|done|rfl) ?_
 refine (laws_eqMachine.calls k b Ax1 cx1 p1 Ax2 cx2 p2 Ax3 cx3 p3 b Ay1 cy1 p1 Ay2 cy2 p2 Ay3 cy3 p3 true _ (Kd.S_reads' Tx1.out).2.2 (Kd.S_reads' Tx1.out).2.1 (Kd.S_reads' Tx2.out).2.2 (Kd.S_reads' Tx2.out).2.1 (Kd.R_reads' Tx3.out).2.2 (Kd.R_reads' Tx3.out).2.1 (Kd.S_reads' Ty1.out).2.2 (Kd.S_reads' Ty1.out).2.1 (Kd.S_reads' Ty2.out).2.2 (Kd.S_reads' Ty2.out).2.1 (Kd.R_reads' Ty3.out).2.2 (Kd.R_reads' Ty3.out).2.1 F5.out).mono ?_
 rintro e w8 ⟨rfl,B⟩
 refine ⟨_,rfl,?_⟩
 have Tx1 := Aside0.mk (Kd.S_below Tx1.out B)
 have Tx2 := Aside0.mk (Kd.S_below Tx2.out B)
 have Tx3 := Aside0.mk (Kd.R_below Tx3.out B)
 have Tv1 := Aside0.mk (Kd.S_below Tv1.out B)
 have Tv2 := Aside0.mk (Kd.S_below Tv2.out B)
 have Tv3 := Aside0.mk (Kd.R_below Tv3.out B)
 have G := Aside0.mk (below_step G.out B)
 have BX := Aside0.mk (blk_below BX.out B)
 have BG := Aside0.mk (blk_below BG.out B)
 clear B
 clear Ty1 Ty2 Ty3
 have D8 := Aside0.mk (below_step D3.out G.out)
 refine hK.out _ _ ⟨(blk_cell BX.out 0).trans rfl,(blk_cell BX.out 1).trans rfl,(blk_cell BX.out 2).trans rfl,(blk_cell BX.out 3).trans rfl,(blk_cell (blk_below BA.out D8.out) 0).trans rfl,(blk_cell (blk_below BA.out D8.out) 1).trans rfl,(blk_cell (blk_below BA.out D8.out) 2).trans rfl,(blk_cell (blk_below BA.out D8.out) 3).trans rfl⟩ (fun hHeld => ?_)
 clear hK K
 refine nr_ (some 38) _ ?_
 refine pure_ (i := 4) (N := some 39) (v := ?_) (a' := ?_) #[true,true,true,true,true] rfl rfl (by kernel_rfl) (fun _ _ _ h => h) (Or.inl ⟨by rfl,?_⟩) ?_ ?_
 rotate_left
 ·intro w'
  go_simp
  with_reducible rfl
 rotate_left
 ·simp only [Act.put,q1,q2,q3,i64_w,i32_w]
  rfl
 refine done_ (by kernel_rfl) ?_
 clear hHeld
 have hcgx7_0 : w8.cell? ⟨gx,0,none⟩ = some (.bool b) := (blk_cell BX.out 0).trans rfl
 have hcgx7_1 : w8.cell? ⟨gx,1,none⟩ = some (.slice Ax1 p1.length cx1) := (blk_cell BX.out 1).trans rfl
 have hcgx7_2 : w8.cell? ⟨gx,2,none⟩ = some (.slice Ax2 p2.length cx2) := (blk_cell BX.out 2).trans rfl
 have hcgx7_3 : w8.cell? ⟨gx,3,none⟩ = some (.slice Ax3 p3.length cx3) := (blk_cell BX.out 3).trans rfl
 go_wp2_with ((with_reducible refine gcal_ (f := 18) rfl ?_);refine goesL_ (some 42) rfl rfl Try.func18 (by kernel_rfl) rfl #[.agg #[.bool b,.slice Ax1 p1.length cx1,.slice Ax2 p2.length cx2,.slice Ax3 p3.length cx3],.int .i64 1] rfl (by (try simp only [List.map_toArray,List.map_cons,List.map_nil]);first|done|rfl) ?_;refine (laws_markMachine.calls k (fun k_ => True ∧ k_ < w4.heap.size) b (.slice Ax1 p1.length cx1) (.slice Ax2 p2.length cx2) (.slice Ax3 p3.length cx3) p1 p2 p3 1 mx mx1 mx2 mx3 w3b _ G.out Tx1.out Tx2.out Tx3.out F6.out).mono ?_;rintro e w9 ⟨rfl,S1,S2,S3,B,K⟩;refine ⟨_,rfl,?_⟩;refine hold_7 ?_)
 refine ⟨?_⟩
 have G := Aside0.mk B
 have Tv1 := Aside0.mk (Kd.S_step (Kd.S_bound Tv1.out) (fun k_ hk_ hlt_ => K.2 k_ hlt_ (fun hs_ => absurd hs_.2 (Nat.not_lt.2 (Nat.le_trans Z44.out hk_.2.1)))))
 have Tv2 := Aside0.mk (Kd.S_step (Kd.S_bound Tv2.out) (fun k_ hk_ hlt_ => K.2 k_ hlt_ (fun hs_ => absurd hs_.2 (Nat.not_lt.2 (Nat.le_trans Z44.out hk_.2.1)))))
 have Tv3 := Aside0.mk (Kd.R_step (Kd.R_bound Tv3.out) (fun k_ hk_ hlt_ => K.2 k_ hlt_ (fun hs_ => absurd hs_.2 (Nat.not_lt.2 (Nat.le_trans Z44.out hk_.2.1)))))
 have BG := Aside0.mk ((K.2 gg (blk_lt BG.out) (fun hs_ => absurd hs_.2 (Nat.not_lt.2 GG4.out))).trans BG.out)
 have Tm1 := Aside0.mk (Kd.S_below Tu1.out B)
 have Tm2 := Aside0.mk (Kd.S_below Tu2.out B)
 have Tm3 := Aside0.mk (Kd.R_below Tu3.out B)
 clear B K S1 S2 S3
 clear Tx1 Tx2 Tx3
 have hcgg8_0 : w9.cell? ⟨gg,0,none⟩ = some (.bool vb) := (blk_cell BG.out 0).trans rfl
 have hcgg8_1 : w9.cell? ⟨gg,1,none⟩ = some (.slice Av1 v1.length cv1) := (blk_cell BG.out 1).trans rfl
 have hcgg8_2 : w9.cell? ⟨gg,2,none⟩ = some (.slice Av2 v2.length cv2) := (blk_cell BG.out 2).trans rfl
 have hcgg8_3 : w9.cell? ⟨gg,3,none⟩ = some (.slice Av3 v3.length cv3) := (blk_cell BG.out 3).trans rfl
 have hcgw9_0 : w9.cell? ⟨gw,0,none⟩ = some (.bool ub) := (blk_cell (blk_below BW.out G.out) 0).trans rfl
 have hcgw9_1 : w9.cell? ⟨gw,1,none⟩ = some (.slice Au1 u1.length cu1) := (blk_cell (blk_below BW.out G.out) 1).trans rfl
 have hcgw9_2 : w9.cell? ⟨gw,2,none⟩ = some (.slice Au2 u2.length cu2) := (blk_cell (blk_below BW.out G.out) 2).trans rfl
 have hcgw9_3 : w9.cell? ⟨gw,3,none⟩ = some (.slice Au3 u3.length cu3) := (blk_cell (blk_below BW.out G.out) 3).trans rfl
 go_wp2_with (go_at_call 14;refine (laws_eqMachine.calls k vb Av1 cv1 v1 Av2 cv2 v2 Av3 cv3 v3 ub Au1 cu1 u1 Au2 cu2 u2 Au3 cu3 u3 true _ (Kd.S_reads' Tv1.out).2.2 (Kd.S_reads' Tv1.out).2.1 (Kd.S_reads' Tv2.out).2.2 (Kd.S_reads' Tv2.out).2.1 (Kd.R_reads' Tv3.out).2.2 (Kd.R_reads' Tv3.out).2.1 (Kd.S_reads' Tm1.out).2.2 (Kd.S_reads' Tm1.out).2.1 (Kd.S_reads' Tm2.out).2.2 (Kd.S_reads' Tm2.out).2.1 (Kd.R_reads' Tm3.out).2.2 (Kd.R_reads' Tm3.out).2.1 F4.out).mono ?_;rintro e w10 ⟨rfl,B⟩;(try dsimp only);refine hold_7 ?_)
 refine ⟨?_⟩
 have Tv1 := Aside0.mk (Kd.S_below Tv1.out B)
 have Tv2 := Aside0.mk (Kd.S_below Tv2.out B)
 have Tv3 := Aside0.mk (Kd.R_below Tv3.out B)
 have G := Aside0.mk (below_step G.out B)
 have BG := Aside0.mk (blk_below BG.out B)
 clear B
 clear Tm1 Tm2 Tm3
 have Tv1 := Aside0.mk (Kd.S_mono (ok' := (fun k_ => w4.heap.size ≤ k_ ∧ ∃ q,q ∈ ((79 :: (k79).E) ++ (45 :: (k45).E) ++ (2 :: ((Kd.int .i64)).E)) ∧ ∃ cells,w10.heap[k_]? = some (.cells cells q (0,0)))) (Kd.S_bound (Kd.S_lower Tv1.out Z4.out)) (fun k_ h_ => ⟨Nat.le_trans Z44.out h_.1.2.1,(by obtain ⟨q_,hq_,hr_⟩ := h_.2.2.2;exact ⟨q_,(List.mem_append_left _ (List.mem_append_left _ hq_)),hr_⟩)⟩))
 have Tv2 := Aside0.mk (Kd.S_mono (ok' := (fun k_ => w4.heap.size ≤ k_ ∧ ∃ q,q ∈ ((79 :: (k79).E) ++ (45 :: (k45).E) ++ (2 :: ((Kd.int .i64)).E)) ∧ ∃ cells,w10.heap[k_]? = some (.cells cells q (0,0)))) (Kd.S_bound (Kd.S_lower Tv2.out Z4.out)) (fun k_ h_ => ⟨Nat.le_trans Z44.out h_.1.2.1,(by obtain ⟨q_,hq_,hr_⟩ := h_.2.2.2;exact ⟨q_,(List.mem_append_left _ (List.mem_append_right _ hq_)),hr_⟩)⟩))
 have Tv3 := Aside0.mk (Kd.R_mono (ok' := (fun k_ => w4.heap.size ≤ k_ ∧ ∃ q,q ∈ ((79 :: (k79).E) ++ (45 :: (k45).E) ++ (2 :: ((Kd.int .i64)).E)) ∧ ∃ cells,w10.heap[k_]? = some (.cells cells q (0,0)))) (Kd.R_bound (Kd.R_lower Tv3.out Z4.out)) (fun k_ h_ => ⟨Nat.le_trans Z44.out h_.1.2.1,(by obtain ⟨q_,hq_,hr_⟩ := h_.2.2.2;exact ⟨q_,(List.mem_append_right _ hq_),hr_⟩)⟩))
 have hcgg10_0 : w10.cell? ⟨gg,0,none⟩ = some (.bool vb) := (blk_cell BG.out 0).trans rfl
 have hcgg10_1 : w10.cell? ⟨gg,1,none⟩ = some (.slice Av1 v1.length cv1) := (blk_cell BG.out 1).trans rfl
 have hcgg10_2 : w10.cell? ⟨gg,2,none⟩ = some (.slice Av2 v2.length cv2) := (blk_cell BG.out 2).trans rfl
 have hcgg10_3 : w10.cell? ⟨gg,3,none⟩ = some (.slice Av3 v3.length cv3) := (blk_cell BG.out 3).trans rfl
 go_wp2_with ((with_reducible refine gcal_ (f := 18) rfl ?_);refine goesL_ (some 53) rfl rfl Try.func18 (by kernel_rfl) rfl #[.agg #[.bool vb,.slice Av1 v1.length cv1,.slice Av2 v2.length cv2,.slice Av3 v3.length cv3],.int .i64 1] rfl (by (try simp only [List.map_toArray,List.map_cons,List.map_nil]);first|done|rfl) ?_;refine (laws_markMachine.calls k (fun k_ => w4.heap.size ≤ k_ ∧ ∃ q,q ∈ ((79 :: (k79).E) ++ (45 :: (k45).E) ++ (2 :: ((Kd.int .i64)).E)) ∧ ∃ cells,w10.heap[k_]? = some (.cells cells q (0,0))) vb (.slice Av1 v1.length cv1) (.slice Av2 v2.length cv2) (.slice Av3 v3.length cv3) v1 v2 v3 1 q y1 y2 y3 w3b _ G.out Tv1.out Tv2.out Tv3.out F7.out).mono ?_;rintro e w11 ⟨rfl,S1,S2,S3,B,K⟩;refine ⟨_,rfl,?_⟩;refine hold_7 ?_)
 refine ⟨?_⟩
 have BG := Aside0.mk ((K.2 gg (blk_lt BG.out) (fun hs_ => ty_7 ⟨32,List.mem_singleton.2 rfl,_,BG.out⟩ hs_.2 (by decide))).trans BG.out)
 have G := Aside0.mk B
 have L1 := (Kd.S_reads' S1).1
 have L2 := (Kd.S_reads' S2).1
 have L3 := (Kd.R_reads' S3).1
 rw [L1] at S1 BG
 rw [L2] at S2 BG
 rw [L3] at S3 BG
 clear Tv1 Tv2 Tv3
 have Tv1 := Aside0.mk S1
 have Tv2 := Aside0.mk S2
 have Tv3 := Aside0.mk S3
 clear S1 S2 S3
 clear B K L1 L2 L3
 have hcgg11_0 : w11.cell? ⟨gg,0,none⟩ = some (.bool vb) := (blk_cell BG.out 0).trans rfl
 have hcgg11_1 : w11.cell? ⟨gg,1,none⟩ = some (.slice Av1 y1.length cv1) := (blk_cell BG.out 1).trans rfl
 have hcgg11_2 : w11.cell? ⟨gg,2,none⟩ = some (.slice Av2 y2.length cv2) := (blk_cell BG.out 2).trans rfl
 have hcgg11_3 : w11.cell? ⟨gg,3,none⟩ = some (.slice Av3 y3.length cv3) := (blk_cell BG.out 3).trans rfl
 go_wp2_with ((with_reducible refine gcal_ (f := 30) rfl ?_);refine goesL_ (some 56) rfl rfl Try.func30 (by kernel_rfl) rfl #[.agg #[.bool vb,.slice Av1 y1.length cv1,.slice Av2 y2.length cv2,.slice Av3 y3.length cv3],.int .i64 1] rfl (by (try simp only [List.map_toArray,List.map_cons,List.map_nil]);first|done|rfl) ?_;refine (laws_heldMachine.calls k vb Av1 cv1 y1 Av2 cv2 y2 Av3 cv3 y3 1 q _ (Kd.S_reads' Tv1.out).2.2 (Kd.S_reads' Tv1.out).2.1 (Kd.S_reads' Tv2.out).2.2 (Kd.S_reads' Tv2.out).2.1 (Kd.R_reads' Tv3.out).2.2 (Kd.R_reads' Tv3.out).2.1 F8.out).mono ?_;rintro e w12 ⟨rfl,B⟩;refine ⟨_,rfl,?_⟩;refine hold_7 ?_)
 refine ⟨?_⟩
 have Tv1 := Aside0.mk (Kd.S_below Tv1.out B)
 have Tv2 := Aside0.mk (Kd.S_below Tv2.out B)
 have Tv3 := Aside0.mk (Kd.R_below Tv3.out B)
 have G := Aside0.mk (below_step G.out B)
 have BG := Aside0.mk (blk_below BG.out B)
 clear B
 have D12 := Aside0.mk (below_step D3.out G.out)
 have hcga12_0 : w12.cell? ⟨ga,0,none⟩ = some (.bool a0_0) := (blk_cell (blk_below BA.out D12.out) 0).trans rfl
 have hcga12_1 : w12.cell? ⟨ga,1,none⟩ = some (.slice A0_1 l0_1.length c0_1) := (blk_cell (blk_below BA.out D12.out) 1).trans rfl
 have hcga12_2 : w12.cell? ⟨ga,2,none⟩ = some (.slice A0_2 l0_2.length c0_2) := (blk_cell (blk_below BA.out D12.out) 2).trans rfl
 have hcga12_3 : w12.cell? ⟨ga,3,none⟩ = some (.slice A0_3 l0_3.length c0_3) := (blk_cell (blk_below BA.out D12.out) 3).trans rfl
 go_wp2_with ((with_reducible refine gcal_ (f := 12) rfl ?_);refine goesL_ (some 63) rfl rfl Try.func12 (by kernel_rfl) rfl #[.agg #[.bool a0_0,.slice A0_1 l0_1.length c0_1,.slice A0_2 l0_2.length c0_2,.slice A0_3 l0_3.length c0_3]] rfl (by (try simp only [List.map_toArray,List.map_cons,List.map_nil]);first|done|rfl) ?_;refine (laws_toMachine.calls k a0_0 A0_1 c0_1 l0_1 A0_2 c0_2 l0_2 A0_3 c0_3 l0_3 b p1 p2 p3 _ (Kd.C_below HR1.out D12.out) HC1.out (Kd.C_below HR2.out D12.out) HC2.out (Kd.C_below HR3.out D12.out) HC3.out F1.out).mono ?_;rintro e w13 ⟨vz1,vz2,vz3,rfl,S1,S2,S3,B⟩;refine ⟨_,rfl,?_⟩;refine hold_7 ?_)
 refine ⟨?_⟩
 have Tz1 := Aside0.mk S1
 have Tz2 := Aside0.mk S2
 have Tz3 := Aside0.mk S3
 clear S1 S2 S3
 have Tv1 := Aside0.mk (Kd.S_below Tv1.out B)
 have Tv2 := Aside0.mk (Kd.S_below Tv2.out B)
 have Tv3 := Aside0.mk (Kd.R_below Tv3.out B)
 have G := Aside0.mk (below_step G.out B)
 have BG := Aside0.mk (blk_below BG.out B)
 clear B
 obtain ⟨Az1,cz1,ez1⟩ := Kd.S_slice Tz1.out
 subst ez1
 obtain ⟨Az2,cz2,ez2⟩ := Kd.S_slice Tz2.out
 subst ez2
 obtain ⟨Az3,cz3,ez3⟩ := Kd.R_slice Tz3.out
 subst ez3
 go_wp2_with ((with_reducible refine gcal_ (f := 32) rfl ?_);refine goesL_ (some 66) rfl rfl Try.func32 (by kernel_rfl) rfl #[.agg #[.bool b,.slice Az1 p1.length cz1,.slice Az2 p2.length cz2,.slice Az3 p3.length cz3],.int .i64 a1,.int .i64 a2] rfl (by (try simp only [List.map_toArray,List.map_cons,List.map_nil]);first|done|rfl) ?_;refine (impl_Turn.calls k b Az1 cz1 p1 Az2 cz2 p2 Az3 cz3 p3 a1 a2 vb v1 v2 v3 _ (Kd.S_reads' Tz1.out).2.2 (Kd.S_reads' Tz1.out).2.1 (Kd.S_reads' Tz2.out).2.2 (Kd.S_reads' Tz2.out).2.1 (Kd.R_reads' Tz3.out).2.2 (Kd.R_reads' Tz3.out).2.1 F3.out).mono ?_;rintro e w14 ⟨vh1,vh2,vh3,rfl,S1,S2,S3,B⟩;refine ⟨_,rfl,?_⟩;refine hold_7 ?_)
 refine ⟨?_⟩
 have Th1 := Aside0.mk S1
 have Th2 := Aside0.mk S2
 have Th3 := Aside0.mk S3
 clear S1 S2 S3
 have Tv1 := Aside0.mk (Kd.S_below Tv1.out B)
 have Tv2 := Aside0.mk (Kd.S_below Tv2.out B)
 have Tv3 := Aside0.mk (Kd.R_below Tv3.out B)
 have G := Aside0.mk (below_step G.out B)
 have BG := Aside0.mk (blk_below BG.out B)
 clear B
 clear Tz1 Tz2 Tz3
 obtain ⟨Ah1,ch1,eh1⟩ := Kd.S_slice Th1.out
 subst eh1
 obtain ⟨Ah2,ch2,eh2⟩ := Kd.S_slice Th2.out
 subst eh2
 obtain ⟨Ah3,ch3,eh3⟩ := Kd.R_slice Th3.out
 subst eh3
 go_wp2_with ((with_reducible refine gate_dst (N := 14) rfl ?_);refine bx_ 14 #[.bool false,.slice none 0 0,.slice none 0 0,.slice none 0 0] 32 ?_;intro gh hg wf hbox hb;have hge := Aside0.mk (Nat.le_of_eq hg.symm);clear hg;refine hold_7 ?_)
 refine ⟨?_⟩
 have BZ := Aside0.mk hbox
 have Q0 := Aside0.mk hb
 have HGE := hge
 clear hbox hb hge
 have hcghy_0 : wf.cell? ⟨gh,0,none⟩ = some (.bool false) := (blk_cell BZ.out 0).trans rfl
 have hcghy_1 : wf.cell? ⟨gh,1,none⟩ = some (.slice none 0 0) := (blk_cell BZ.out 1).trans rfl
 have hcghy_2 : wf.cell? ⟨gh,2,none⟩ = some (.slice none 0 0) := (blk_cell BZ.out 2).trans rfl
 have hcghy_3 : wf.cell? ⟨gh,3,none⟩ = some (.slice none 0 0) := (blk_cell BZ.out 3).trans rfl
 have hfy_0 := blk_frozen BZ.out 0
 have hfy_1 := blk_frozen BZ.out 1
 have hfy_2 := blk_frozen BZ.out 2
 have hfy_3 := blk_frozen BZ.out 3
 go_upto_region 25 with (fail)
 have n0_ : Aside0 (Below w14.heap.size w14 ((((wf.setCell ⟨gh,0,none⟩ (.bool vb)).setCell ⟨gh,1,none⟩ (.slice Ah1 v1.length ch1)).setCell ⟨gh,2,none⟩ (.slice Ah2 v2.length ch2)).setCell ⟨gh,3,none⟩ (.slice Ah3 v3.length ch3))) := ⟨below_set (below_set (below_set (below_set Q0.out HGE.out) HGE.out) HGE.out) HGE.out⟩
 have n1_ : Aside0 (((((wf.setCell ⟨gh,0,none⟩ (.bool vb)).setCell ⟨gh,1,none⟩ (.slice Ah1 v1.length ch1)).setCell ⟨gh,2,none⟩ (.slice Ah2 v2.length ch2)).setCell ⟨gh,3,none⟩ (.slice Ah3 v3.length ch3)).heap[gh]? = some (.cells #[.bool vb,.slice Ah1 v1.length ch1,.slice Ah2 v2.length ch2,.slice Ah3 v3.length ch3] 32 (0,0))) := ⟨by refine blk_put (cs := #[.bool vb,.slice Ah1 v1.length ch1,.slice Ah2 v2.length ch2,.slice none 0 0]) ?_ 3 _ rfl;refine blk_put (cs := #[.bool vb,.slice Ah1 v1.length ch1,.slice none 0 0,.slice none 0 0]) ?_ 2 _ rfl;refine blk_put (cs := #[.bool vb,.slice none 0 0,.slice none 0 0,.slice none 0 0]) ?_ 1 _ rfl;refine blk_put (cs := #[.bool false,.slice none 0 0,.slice none 0 0,.slice none 0 0]) ?_ 0 _ rfl;exact BZ.out⟩
 clear BZ Q0
 clear hcghy_0 hfy_0 hcghy_1 hfy_1 hcghy_2 hfy_2 hcghy_3 hfy_3
 generalize ((((wf.setCell ⟨gh,0,none⟩ (.bool vb)).setCell ⟨gh,1,none⟩ (.slice Ah1 v1.length ch1)).setCell ⟨gh,2,none⟩ (.slice Ah2 v2.length ch2)).setCell ⟨gh,3,none⟩ (.slice Ah3 v3.length ch3)) = w14b at n0_ n1_ ⊢
 have B := n0_.out
 have BH := n1_
 clear n0_ n1_
 have Tv1 := Aside0.mk (Kd.S_below Tv1.out B)
 have Tv2 := Aside0.mk (Kd.S_below Tv2.out B)
 have Tv3 := Aside0.mk (Kd.R_below Tv3.out B)
 have G := Aside0.mk (below_step G.out B)
 have BG := Aside0.mk (blk_below BG.out B)
 have Th1 := Aside0.mk (Kd.S_below Th1.out B)
 have Th2 := Aside0.mk (Kd.S_below Th2.out B)
 have Th3 := Aside0.mk (Kd.R_below Th3.out B)
 have Tm1 := Aside0.mk (Kd.S_below Tu1.out G.out)
 have Tm2 := Aside0.mk (Kd.S_below Tu2.out G.out)
 have Tm3 := Aside0.mk (Kd.R_below Tu3.out G.out)
 have hcgh13_0 : w14b.cell? ⟨gh,0,none⟩ = some (.bool vb) := (blk_cell BH.out 0).trans rfl
 have hcgh13_1 : w14b.cell? ⟨gh,1,none⟩ = some (.slice Ah1 v1.length ch1) := (blk_cell BH.out 1).trans rfl
 have hcgh13_2 : w14b.cell? ⟨gh,2,none⟩ = some (.slice Ah2 v2.length ch2) := (blk_cell BH.out 2).trans rfl
 have hcgh13_3 : w14b.cell? ⟨gh,3,none⟩ = some (.slice Ah3 v3.length ch3) := (blk_cell BH.out 3).trans rfl
 have hcgw14_0 : w14b.cell? ⟨gw,0,none⟩ = some (.bool ub) := (blk_cell (blk_below BW.out G.out) 0).trans rfl
 have hcgw14_1 : w14b.cell? ⟨gw,1,none⟩ = some (.slice Au1 u1.length cu1) := (blk_cell (blk_below BW.out G.out) 1).trans rfl
 have hcgw14_2 : w14b.cell? ⟨gw,2,none⟩ = some (.slice Au2 u2.length cu2) := (blk_cell (blk_below BW.out G.out) 2).trans rfl
 have hcgw14_3 : w14b.cell? ⟨gw,3,none⟩ = some (.slice Au3 u3.length cu3) := (blk_cell (blk_below BW.out G.out) 3).trans rfl
 clear B
 go_wp2_with ((with_reducible refine gcal_ (f := 14) rfl ?_);refine goesL_ (some 69) rfl rfl Try.func14 (by kernel_rfl) rfl #[.agg #[.bool vb,.slice Ah1 v1.length ch1,.slice Ah2 v2.length ch2,.slice Ah3 v3.length ch3],.agg #[.bool ub,.slice Au1 u1.length cu1,.slice Au2 u2.length cu2,.slice Au3 u3.length cu3]] rfl (by (try simp only [List.map_toArray,List.map_cons,List.map_nil]);first|done|rfl) ?_;refine (laws_eqMachine.calls k vb Ah1 ch1 v1 Ah2 ch2 v2 Ah3 ch3 v3 ub Au1 cu1 u1 Au2 cu2 u2 Au3 cu3 u3 true _ (Kd.S_reads' Th1.out).2.2 (Kd.S_reads' Th1.out).2.1 (Kd.S_reads' Th2.out).2.2 (Kd.S_reads' Th2.out).2.1 (Kd.R_reads' Th3.out).2.2 (Kd.R_reads' Th3.out).2.1 (Kd.S_reads' Tm1.out).2.2 (Kd.S_reads' Tm1.out).2.1 (Kd.S_reads' Tm2.out).2.2 (Kd.S_reads' Tm2.out).2.1 (Kd.R_reads' Tm3.out).2.2 (Kd.R_reads' Tm3.out).2.1 F4.out).mono ?_;rintro e w15 ⟨rfl,B⟩;refine ⟨_,rfl,?_⟩;refine hold_7 ?_)
 refine ⟨?_⟩
 have Tv1 := Aside0.mk (Kd.S_below Tv1.out B)
 have Tv2 := Aside0.mk (Kd.S_below Tv2.out B)
 have Tv3 := Aside0.mk (Kd.R_below Tv3.out B)
 have G := Aside0.mk (below_step G.out B)
 have BG := Aside0.mk (blk_below BG.out B)
 clear B
 have hcgg15_0 : w15.cell? ⟨gg,0,none⟩ = some (.bool vb) := (blk_cell BG.out 0).trans rfl
 have hcgg15_1 : w15.cell? ⟨gg,1,none⟩ = some (.slice Av1 y1.length cv1) := (blk_cell BG.out 1).trans rfl
 have hcgg15_2 : w15.cell? ⟨gg,2,none⟩ = some (.slice Av2 y2.length cv2) := (blk_cell BG.out 2).trans rfl
 have hcgg15_3 : w15.cell? ⟨gg,3,none⟩ = some (.slice Av3 y3.length cv3) := (blk_cell BG.out 3).trans rfl
 go_wp2_with ((with_reducible refine gcal_ (f := 30) rfl ?_);refine goesL_ (some 73) rfl rfl Try.func30 (by kernel_rfl) rfl #[.agg #[.bool vb,.slice Av1 y1.length cv1,.slice Av2 y2.length cv2,.slice Av3 y3.length cv3],.int .i64 1] rfl (by (try simp only [List.map_toArray,List.map_cons,List.map_nil]);first|done|rfl) ?_;refine (laws_heldMachine.calls k vb Av1 cv1 y1 Av2 cv2 y2 Av3 cv3 y3 1 q _ (Kd.S_reads' Tv1.out).2.2 (Kd.S_reads' Tv1.out).2.1 (Kd.S_reads' Tv2.out).2.2 (Kd.S_reads' Tv2.out).2.1 (Kd.R_reads' Tv3.out).2.2 (Kd.R_reads' Tv3.out).2.1 F8.out).mono ?_;rintro e w16 ⟨rfl,B⟩;refine ⟨_,rfl,?_⟩;refine hold_7 ?_)
 refine ⟨?_⟩
 have D16 := Aside0.mk (below_step D0.out (below_step D3.out (below_step G.out B)))
 clear B
 go_wp2
 go_ret
 exact ⟨rfl,D16.out⟩

end Go.Proofs.Ythplaakckfhaaaa.XTu
