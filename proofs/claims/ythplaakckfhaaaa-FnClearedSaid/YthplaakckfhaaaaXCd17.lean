/- Proved: of each Go function here that a call comes to what the Lean function of its name tells. Written by a program of this session over the translation. No conditions beyond each theorem's own. -/
import Derived.Test.YthplaakckfhaaaaXCd0
import Derived.Test.YthplaakckfhaaaaXCd6
import Derived.Test.YthplaakckfhaaaaXCd16
namespace Go.Proofs.Ythplaakckfhaaaa.XCd
open Go.RowKit Go.Proofs.Ythplaakckfhaaaa.Aid Go.Proofs.YthplaakckfhaaaaW.PrintWords Go.Proofs.YthplaakckfhaaaaW.PrintLast Go.Proofs.YthplaakckfhaaaaW.PrintMore
set_option linter.unusedVariables false
set_option linter.unusedSimpArgs false

/-! ### impl_Machine_turn: function 82 -/
def impl_Machine_turn.l0 : Nat → List (S45) → Int → Int → Int → Option (List (S45))
  | 0, _, _, _, _ => none
  | k + 1, x0, a1, a2, x5 => if x5 < (x0.length : Int) then (if 0 ≤ x5 then (if (rd_T45 x0 x5).f1 = a1 then (if (rd_T45 x0 x5).f2 = a2 then (if (rd_T45 x0 x5).f0 = 1 then (impl_Machine_turn.l0 k (x0.set (x5 : Int).toNat (⟨3, (rd_T45 x0 x5).f1, (rd_T45 x0 x5).f2, (rd_T45 x0 x5).f3⟩ : S45)) a1 a2 (wrap64 (x5 + 1))) else (impl_Machine_turn.l0 k x0 a1 a2 (wrap64 (x5 + 1)))) else (impl_Machine_turn.l0 k x0 a1 a2 (wrap64 (x5 + 1)))) else (impl_Machine_turn.l0 k x0 a1 a2 (wrap64 (x5 + 1)))) else (none)) else (some x0)
def impl_Machine_turn.f (k : Nat) (l2 : List (S45)) (a1 a2 : Int) : Option (List (S45)) := impl_Machine_turn.l0 k l2 a1 a2 0
set_option maxHeartbeats 8000000 in
set_option maxRecDepth 100000 in
theorem impl_Machine_turn.calls (k : Nat) (P0_ : Nat → Prop) (gb : Nat) (b : Bool) (v1 v3 : Value) (A2 : Option Addr) (c2 : Nat) (l2 : List (S45)) (a1 a2 : Int) (r2 : List (S45)) (w0 w : World) (hB : Below w0.heap.size w0 w) (hx : w.heap[gb]? = some (.cells #[.bool b, v1, .slice A2 l2.length c2, v3] 32 (0, 0))) (hP : ¬ P0_ gb) (ho : Kd.S k45 45 w w0.heap.size P0_ (.slice A2 l2.length c2) l2) (h : impl_Machine_turn.f k l2 a1 a2 = some r2) :
    Calls Try.prog 82 #[.pointer (some ⟨gb, 0, none⟩), .int .i64 a1, .int .i64 a2] w fun e w' => e = .returned (.tuple #[]) ∧ r2.length = l2.length ∧ Kd.S k45 45 w' w0.heap.size P0_ (.slice A2 l2.length c2) r2 ∧ Below w0.heap.size w0 w' ∧ Kept w w' P0_ := by
 have hu := Try.underlying32
 have hu2 := Try.underlying45
 have HO := ak ho
 have HK := ak (Kept.refl w P0_)
 have HB := ak hB
 have HX := ak hx
 clear hB ho hx
 have H : (impl_Machine_turn.l0 k l2 a1 a2 0) = some r2 := h
 clear h
 have H' := ak H
 clear H
 have hcy_0 : w.cell? ⟨gb,0,none⟩ = some (.bool b) := (blk_cell HX.out 0).trans rfl
 have hcy_1 : w.cell? ⟨gb,1,none⟩ = some (v1) := (blk_cell HX.out 1).trans rfl
 have hcy_2 : w.cell? ⟨gb,2,none⟩ = some (.slice A2 l2.length c2) := (blk_cell HX.out 2).trans rfl
 have hcy_3 : w.cell? ⟨gb,3,none⟩ = some (v3) := (blk_cell HX.out 3).trans rfl
 go_enter Try.func82,Try.ntmps82
 go_wp2
 go_loopg [13] k (fun kq v5 w' => ∃ (x0_1 : List (S45)) (x5_1 : Int),v5 = .int .i64 x5_1 ∧ Aside0 (impl_Machine_turn.l0 kq x0_1 a1 a2 x5_1 = some r2) ∧ Aside0 (kq ≤ k) ∧ Aside0 (x0_1.length = l2.length) ∧ Aside0 (Kd.S k45 45 w' w0.heap.size P0_ (.slice A2 l2.length c2) x0_1) ∧ Aside0 (Kept w w' P0_) ∧ Aside0 (Below w0.heap.size w0 w'))
 case atStart => exact ⟨l2,0,(by first|rfl|(simp;done)),H',⟨Nat.le_refl _⟩,⟨rfl⟩,⟨HO.out⟩,⟨HK.out⟩,⟨HB.out⟩⟩
 case round =>
  clear H' HO HK HB
  clear hcy_0 hcy_1 hcy_2 hcy_3
  obtain ⟨x0_1,x5_1,rfl,HA,HK1,HL2,HO_0,HK,HB⟩ := hrel
  cases gk with
    | zero => exact absurd HA.out (by simp [impl_Machine_turn.l0])
    | succ k1 =>
   have H := HA.out
   clear HA
   simp only [impl_Machine_turn.l0] at H
   have BX := (HK.out.2 gb (blk_lt HX.out) hP).trans HX.out
   by_cases c3 : x5_1 < (l2.length : Int)
   ·rw [HL2.out,if_pos c3] at H
    have c3b0 : decide (x5_1 < (l2.length : Int)) = true := decide_eq_true c3
    by_cases c4 : 0 ≤ x5_1
    ·rw [if_pos c4] at H
     have c4b0 : decide (0 ≤ x5_1) = true := decide_eq_true c4
     obtain ⟨go5,co5,eo5,gb5,gl5,cl5,HG5⟩ := Kd.S_form HO_0.out (by have := HL2.out;omega)
     obtain rfl : A2 = some ⟨go5,0,none⟩ := (by injection eo5)
     have GB := ak gb5
     have HM : Aside0 (P0_ go5) := ⟨(Kd.S_R HO_0.out).1 _ rfl⟩
     clear gb5 gl5 HG5 eo5
     obtain ⟨oki,ce,hcl,hM,hcc,hfr,hoki,hH⟩ := Kd.S_elem HO_0.out z45 (x5_1 : Int) c4 c3
     obtain ⟨v0,rfl,hv⟩ := k45_openM hM
     obtain ⟨A1,c1,e1⟩ := Kd.R_slice hv
     subst e1
     have hx19_0 : wr.cell? ⟨go5,(x5_1 : Int).toNat * 4,none⟩ = some (.int .i64 (rd_T45 x0_1 x5_1).f0) := by (have h_ := hcc 0 _ rfl;exact h_)
     have hx19_1 : wr.cell? ⟨go5,(x5_1 : Int).toNat * 4 + 1,none⟩ = some (.int .i64 (rd_T45 x0_1 x5_1).f1) := by (have h_ := hcc 1 _ rfl;exact h_)
     have hx19_2 : wr.cell? ⟨go5,(x5_1 : Int).toNat * 4 + 2,none⟩ = some (.int .i64 (rd_T45 x0_1 x5_1).f2) := by (have h_ := hcc 2 _ rfl;exact h_)
     have hx19_3 : wr.cell? ⟨go5,(x5_1 : Int).toNat * 4 + 3,none⟩ = some (.slice A1 (rd_T45 x0_1 x5_1).f3.length c1) := by (have h_ := hcc 3 _ rfl;exact h_)
     have hf19_0 : wr.frozen? ⟨go5,(x5_1 : Int).toNat * 4,none⟩ = false := by (have h_ := hfr 0;exact h_)
     have hcz_0 : wr.cell? ⟨gb,0,none⟩ = some (.bool b) := (blk_cell BX 0).trans rfl
     have hcz_1 : wr.cell? ⟨gb,1,none⟩ = some (v1) := (blk_cell BX 1).trans rfl
     have hcz_2 : wr.cell? ⟨gb,2,none⟩ = some (.slice (some ⟨go5,0,none⟩) l2.length c2) := (blk_cell BX 2).trans rfl
     have hcz_3 : wr.cell? ⟨gb,3,none⟩ = some (v3) := (blk_cell BX 3).trans rfl
     have P5 := ak c4
     have Q5 : Aside0 ((x5_1 : Int) < (l2.length : Int)) := ⟨c3⟩
     have HV : Aside0 (Kd.R k127 127 wr w0.heap.size oki (.slice A1 (rd_T45 x0_1 x5_1).f3.length c1) ((rd_T45 x0_1 x5_1).f3)) := ⟨hv⟩
     have HH : Aside0 (Kd.H k45 45 wr w0.heap.size P0_ (.slice (some ⟨go5,0,none⟩) l2.length c2) x0_1 (x5_1 : Int) oki [.int .i64 (rd_T45 x0_1 x5_1).f0,.int .i64 (rd_T45 x0_1 x5_1).f1,.int .i64 (rd_T45 x0_1 x5_1).f2,.slice A1 (rd_T45 x0_1 x5_1).f3.length c1]) := ⟨hH⟩
     have HI := ak hoki
     clear hcl hcc hfr hoki hH hv hM BX
     have p5 : (0 ≤ (x5_1 : Int)) = True := eq_true c4
     have q5 : ((x5_1 : Int) < (l2.length : Int)) = True := eq_true c3
     clear c3 c4
     by_cases c21 : (rd_T45 x0_1 x5_1).f1 = a1
     ·rw [if_pos c21] at H
      have c21b0 : ((rd_T45 x0_1 x5_1).f1 == a1) = true := beq_iff_eq.mpr c21
      clear c21
      by_cases c22 : (rd_T45 x0_1 x5_1).f2 = a2
      ·rw [if_pos c22] at H
       have c22b0 : ((rd_T45 x0_1 x5_1).f2 == a2) = true := beq_iff_eq.mpr c22
       clear c22
       by_cases c20 : (rd_T45 x0_1 x5_1).f0 = 1
       ·rw [if_pos c20] at H
        have c20b0 : ((rd_T45 x0_1 x5_1).f0 == 1) = true := beq_iff_eq.mpr c20
        clear c20
        obtain ⟨hH2,hg⟩ := Kd.H_seg (j := 0) (seg := [.int .i64 3]) HH.out P5.out Q5.out (show 0 + 1 ≤ 4 from by decide) (by intro q_ hq_;rw [List.mem_singleton.1 hq_];rfl)
        have hR2 := Kd.R_grown HV.out hg (fun k_ hk_ he_ => (HI.out k_ hk_).2 (by injection he_))
        have n0_ : Aside0 (Kd.S k45 45 (wr.setCell ⟨go5,(x5_1 : Int).toNat * 4,none⟩ (.int .i64 3)) w0.heap.size P0_ (.slice (some ⟨go5,0,none⟩) l2.length c2) (x0_1.set (x5_1 : Int).toNat (⟨3,(rd_T45 x0_1 x5_1).f1,(rd_T45 x0_1 x5_1).f2,(rd_T45 x0_1 x5_1).f3⟩ : S45))) := ⟨Kd.H_back hH2 (k45_mkM _ _ _ (⟨3,(rd_T45 x0_1 x5_1).f1,(rd_T45 x0_1 x5_1).f2,(rd_T45 x0_1 x5_1).f3⟩ : S45) hR2) (fun _ h_ => h_)⟩
        have n1_ : Aside0 (Below w0.heap.size w0 (wr.setCell ⟨go5,(x5_1 : Int).toNat * 4,none⟩ (.int .i64 3))) := ⟨below_set HB.out GB.out⟩
        have n2_ : Aside0 (Kept w (wr.setCell ⟨go5,(x5_1 : Int).toNat * 4,none⟩ (.int .i64 3)) P0_) := ⟨Kept.of_grown (S := (fun k_ => P0_ k_)) hg HK.out (fun k_ e_ => (by injection e_ with e2_;subst e2_;exact (.inl HM.out)))⟩
        have HL3 : Aside0 ((x0_1.set (x5_1 : Int).toNat (⟨3,(rd_T45 x0_1 x5_1).f1,(rd_T45 x0_1 x5_1).f2,(rd_T45 x0_1 x5_1).f3⟩ : S45)).length = l2.length) := ⟨by rw [List.length_set];exact HL2.out⟩
        clear hH2 hg hR2 HH HV
        have H' := ak H
        clear H
        go_wp2
        go_roundg k1
        case measure => have := HK1.out;omega
        case rel => exact ⟨_,(wrap64 (x5_1 + 1)),(by first|rfl|(simp;done)),H',⟨by have := HK1.out;omega⟩,⟨HL3.out⟩,⟨n0_.out⟩,⟨n2_.out⟩,⟨n1_.out⟩⟩
       ·rw [if_neg c20] at H
        have c20b0 : ((rd_T45 x0_1 x5_1).f0 == 1) = false := beq_eq_false_iff_ne.mpr c20
        clear c20
        have H' := ak H
        clear H
        go_wp2
        go_roundg k1
        case measure => have := HK1.out;omega
        case rel => exact ⟨_,(wrap64 (x5_1 + 1)),(by first|rfl|(simp;done)),H',⟨by have := HK1.out;omega⟩,⟨HL2.out⟩,⟨HO_0.out⟩,⟨HK.out⟩,⟨HB.out⟩⟩
      ·rw [if_neg c22] at H
       have c22b0 : ((rd_T45 x0_1 x5_1).f2 == a2) = false := beq_eq_false_iff_ne.mpr c22
       clear c22
       have H' := ak H
       clear H
       go_wp2
       go_roundg k1
       case measure => have := HK1.out;omega
       case rel => exact ⟨_,(wrap64 (x5_1 + 1)),(by first|rfl|(simp;done)),H',⟨by have := HK1.out;omega⟩,⟨HL2.out⟩,⟨HO_0.out⟩,⟨HK.out⟩,⟨HB.out⟩⟩
     ·rw [if_neg c21] at H
      have c21b0 : ((rd_T45 x0_1 x5_1).f1 == a1) = false := beq_eq_false_iff_ne.mpr c21
      clear c21
      have H' := ak H
      clear H
      go_wp2
      go_roundg k1
      case measure => have := HK1.out;omega
      case rel => exact ⟨_,(wrap64 (x5_1 + 1)),(by first|rfl|(simp;done)),H',⟨by have := HK1.out;omega⟩,⟨HL2.out⟩,⟨HO_0.out⟩,⟨HK.out⟩,⟨HB.out⟩⟩
    ·rw [if_neg c4] at H
     exact absurd H (by simp)
   ·rw [HL2.out,if_neg c3] at H
    have c3b0 : decide (x5_1 < (l2.length : Int)) = false := decide_eq_false c3
    clear c3
    obtain rfl := Option.some.inj H
    have hcz_0 : wr.cell? ⟨gb,0,none⟩ = some (.bool b) := (blk_cell BX 0).trans rfl
    have hcz_1 : wr.cell? ⟨gb,1,none⟩ = some (v1) := (blk_cell BX 1).trans rfl
    have hcz_2 : wr.cell? ⟨gb,2,none⟩ = some (.slice A2 l2.length c2) := (blk_cell BX 2).trans rfl
    have hcz_3 : wr.cell? ⟨gb,3,none⟩ = some (v3) := (blk_cell BX 3).trans rfl
    clear BX
    go_wp2
    go_end0
    exact ⟨rfl,HL2.out,HO_0.out,HB.out,HK.out⟩

/-! ### impl_Turn: function 32 -/
theorem hold_32 {p : Prop} (h : Aside0 p) : p := h.out
theorem ty_32 {w : World} {k : Nat} {a b : List Nat} (h1 : ∃ q, q ∈ a ∧ ∃ cs, w.heap[k]? = some (.cells cs q (0, 0))) (h2 : ∃ q, q ∈ b ∧ ∃ cs, w.heap[k]? = some (.cells cs q (0, 0))) (hd : ∀ q, q ∈ a → ¬ q ∈ b) : False := by
 obtain ⟨q,hq,cs,h1⟩ := h1
 obtain ⟨q2,hq2,cs2,h2⟩ := h2
 rw [h1] at h2
 injection h2 with h2
 injection h2 with _ h2
 exact hd q hq (h2 ▸ hq2)
def impl_Turn.f (k : Nat) (a0_0 : Bool) (l0_1 : List (S79)) (l0_2 : List (S45)) (l0_3 : List Int) (a1 a2 : Int) : Option (Bool × (List (S79)) × (List (S45)) × List Int) := (impl_isMachineOk.f k a0_0 l0_1 l0_2 l0_3).bind fun t => if t = true then ((impl_cloneMachine.f k a0_0 l0_1 l0_2 l0_3).bind fun c => (impl_Machine_turn.f k c.2.2.1 a1 a2).bind fun q => some (c.1, c.2.1, q, c.2.2.2)) else some (false, [], [], [])
set_option maxHeartbeats 8000000 in
set_option maxRecDepth 100000 in
theorem impl_Turn.calls (k : Nat) (a0_0 : Bool) (A0_1 : Option Addr) (c0_1 : Nat) (l0_1 : List (S79)) (A0_2 : Option Addr) (c0_2 : Nat) (l0_2 : List (S45)) (A0_3 : Option Addr) (c0_3 : Nat) (l0_3 : List Int) (a1 a2 : Int) (r1 : Bool) (r2 : List (S79)) (r3 : List (S45)) (r4 : List Int) (w : World) (hr0_1 : Kd.C k79 w A0_1 l0_1.length l0_1) (hc0_1 : l0_1.length ≤ c0_1) (hr0_2 : Kd.C k45 w A0_2 l0_2.length l0_2) (hc0_2 : l0_2.length ≤ c0_2) (hr0_3 : Kd.C (Kd.int .i64) w A0_3 l0_3.length l0_3) (hc0_3 : l0_3.length ≤ c0_3) (h : impl_Turn.f k a0_0 l0_1 l0_2 l0_3 a1 a2 = some (r1, r2, r3, r4)) :
    Calls Try.prog 32 #[.agg #[.bool a0_0, .slice A0_1 l0_1.length c0_1, .slice A0_2 l0_2.length c0_2, .slice A0_3 l0_3.length c0_3], .int .i64 a1, .int .i64 a2] w fun e w' => ∃ v1_ v2_ v3_ : Value, e = .returned (.agg #[.bool r1, v1_, v2_, v3_]) ∧ Kd.S k79 79 w' w.heap.size (fun _ => True) v1_ r2 ∧ Kd.S k45 45 w' w.heap.size (fun _ => True) v2_ r3 ∧ Kd.R (Kd.int .i64) 2 w' w.heap.size (fun _ => True) v3_ r4 ∧ Below w.heap.size w w' := by
 have hu := Try.underlying32
 have HR1 := ak hr0_1
 have HC1 := ak hc0_1
 clear hr0_1 hc0_1
 have HR2 := ak hr0_2
 have HC2 := ak hc0_2
 clear hr0_2 hc0_2
 have HR3 := ak hr0_3
 have HC3 := ak hc0_3
 clear hr0_3 hc0_3
 obtain ⟨t,E0,h1⟩ := Option.bind_eq_some_iff.1 h
 clear h
 have H1 := ak h1
 have F0 := ak E0
 clear h1 E0
 go_enter Try.func32,Try.ntmps32
 go_wp2_with ((with_reducible refine gate_dst (N := 3) rfl ?_);refine bx_ 3 #[.bool a0_0,.slice A0_1 l0_1.length c0_1,.slice A0_2 l0_2.length c0_2,.slice A0_3 l0_3.length c0_3] 32 ?_;intro ga hg w1 hbox hb;have hge := ak (Nat.le_of_eq hg.symm);clear hg;refine hold_32 ?_)
 refine ⟨?_⟩
 have D1 := ak hb
 have BM := ak hbox
 clear hb hbox hge
 go_wp2_with ((with_reducible refine gate_dst (N := 6) rfl ?_);refine bx_ 6 #[.bool false,.slice none 0 0,.slice none 0 0,.slice none 0 0] 32 ?_;intro gr hg w2 hbox hb;have hge := ak (Nat.le_of_eq hg.symm);clear hg;refine hold_32 ?_)
 refine ⟨?_⟩
 have GR : Aside0 (w.heap.size ≤ gr) := ⟨Nat.le_trans D1.out.size hge.out⟩
 have D2 := ak (below_step D1.out hb)
 have BM := ak (blk_below BM.out hb)
 have BR := ak hbox
 clear hb hbox hge
 have hcga2_0 : w2.cell? ⟨ga,0,none⟩ = some (.bool a0_0) := (blk_cell BM.out 0).trans rfl
 have hcga2_1 : w2.cell? ⟨ga,1,none⟩ = some (.slice A0_1 l0_1.length c0_1) := (blk_cell BM.out 1).trans rfl
 have hcga2_2 : w2.cell? ⟨ga,2,none⟩ = some (.slice A0_2 l0_2.length c0_2) := (blk_cell BM.out 2).trans rfl
 have hcga2_3 : w2.cell? ⟨ga,3,none⟩ = some (.slice A0_3 l0_3.length c0_3) := (blk_cell BM.out 3).trans rfl
 go_wp2_with ((with_reducible refine gcal_ (f := 53) rfl ?_);refine goesL_ (some 9) rfl rfl Try.func53 (by kernel_rfl) rfl #[.agg #[.bool a0_0,.slice A0_1 l0_1.length c0_1,.slice A0_2 l0_2.length c0_2,.slice A0_3 l0_3.length c0_3]] rfl (by (try simp only [List.map_toArray,List.map_cons,List.map_nil]);first|done|rfl) ?_;refine (impl_isMachineOk.calls k a0_0 A0_1 c0_1 l0_1 A0_2 c0_2 l0_2 A0_3 c0_3 l0_3 t _ (Kd.C_below HR1.out D2.out) HC1.out (Kd.C_below HR2.out D2.out) HC2.out (Kd.C_below HR3.out D2.out) HC3.out F0.out).mono ?_;rintro e w3 ⟨rfl,B⟩;refine ⟨_,rfl,?_⟩;refine hold_32 ?_)
 refine ⟨?_⟩
 have D3 := ak (below_step D2.out B)
 have BM := ak (blk_below BM.out B)
 have BR := ak (blk_below BR.out B)
 clear B
 have hcgr3_0 : w3.cell? ⟨gr,0,none⟩ = some (.bool false) := (blk_cell BR.out 0).trans rfl
 have hcgr3_1 : w3.cell? ⟨gr,1,none⟩ = some (.slice none 0 0) := (blk_cell BR.out 1).trans rfl
 have hcgr3_2 : w3.cell? ⟨gr,2,none⟩ = some (.slice none 0 0) := (blk_cell BR.out 2).trans rfl
 have hcgr3_3 : w3.cell? ⟨gr,3,none⟩ = some (.slice none 0 0) := (blk_cell BR.out 3).trans rfl
 have hfr3_0 := blk_frozen BR.out 0
 have hfr3_1 := blk_frozen BR.out 1
 have hfr3_2 := blk_frozen BR.out 2
 have hfr3_3 := blk_frozen BR.out 3
 cases t with
  | false =>
  have h1 := H1.out
  rw [if_neg (by simp)] at h1
  simp only [Option.some.injEq,Prod.mk.injEq] at h1
  obtain ⟨rfl,rfl,rfl,rfl⟩ := h1
  clear H1
  go_wp2
  refine bodyPost_ret (results_cell_row rfl _ _ gr 32 #[.bool false,.slice none 0 0,.slice none 0 0,.slice none 0 0] (0,0) _ rfl (pt4_ BR.out _ _ _ _) Try.underlying32 rfl (by kernel_rfl)) rfl ?_
  exact ⟨.slice none 0 0,.slice none 0 0,.slice none 0 0,by first|rfl|(simp;done),Kd.S_nil _ _ _ _ _,Kd.S_nil _ _ _ _ _,Kd.R_nil _ _ _ _ _,below_set (below_set (below_set (below_set D3.out GR.out) GR.out) GR.out) GR.out⟩
  | true =>
 have h1 := H1.out
 rw [if_pos rfl] at h1
 clear H1
 obtain ⟨⟨b,p1,p2,p3⟩,E1,h2⟩ := Option.bind_eq_some_iff.1 h1
 clear h1
 obtain ⟨q2,E2,h3⟩ := Option.bind_eq_some_iff.1 h2
 clear h2
 simp only [Option.some.injEq,Prod.mk.injEq] at h3
 obtain ⟨rfl,rfl,rfl,rfl⟩ := h3
 have F1 := ak E1
 have F2 := ak E2
 clear E1 E2
 clear hcgr3_0 hfr3_0 hcgr3_1 hfr3_1 hcgr3_2 hfr3_2 hcgr3_3 hfr3_3
 have hcga3_0 : w3.cell? ⟨ga,0,none⟩ = some (.bool a0_0) := (blk_cell BM.out 0).trans rfl
 have hcga3_1 : w3.cell? ⟨ga,1,none⟩ = some (.slice A0_1 l0_1.length c0_1) := (blk_cell BM.out 1).trans rfl
 have hcga3_2 : w3.cell? ⟨ga,2,none⟩ = some (.slice A0_2 l0_2.length c0_2) := (blk_cell BM.out 2).trans rfl
 have hcga3_3 : w3.cell? ⟨ga,3,none⟩ = some (.slice A0_3 l0_3.length c0_3) := (blk_cell BM.out 3).trans rfl
 go_wp2_with ((with_reducible refine gcal_ (f := 76) rfl ?_);refine goesL_ (some 13) rfl rfl Try.func76 (by kernel_rfl) rfl #[.agg #[.bool a0_0,.slice A0_1 l0_1.length c0_1,.slice A0_2 l0_2.length c0_2,.slice A0_3 l0_3.length c0_3]] rfl (by (try simp only [List.map_toArray,List.map_cons,List.map_nil]);first|done|rfl) ?_;refine (impl_cloneMachine.calls k a0_0 A0_1 c0_1 l0_1 A0_2 c0_2 l0_2 A0_3 c0_3 l0_3 b p1 p2 p3 _ (Kd.C_below HR1.out D3.out) HC1.out (Kd.C_below HR2.out D3.out) HC2.out (Kd.C_below HR3.out D3.out) HC3.out F1.out).mono ?_;rintro e w4 ⟨v1,v2,v3,rfl,S1,S2,S3,B⟩;refine ⟨_,rfl,?_⟩;refine hold_32 ?_)
 refine ⟨?_⟩
 have T1 := ak S1
 have T2 := ak S2
 have T3 := ak S3
 have G := ak B
 have D4 := ak (below_step D3.out B)
 have BR := ak (blk_below BR.out B)
 clear S1 S2 S3 B BM
 obtain ⟨A1,c1,e1⟩ := Kd.S_slice T1.out
 subst e1
 obtain ⟨A2,c2,e2⟩ := Kd.S_slice T2.out
 subst e2
 obtain ⟨A3,c3,e3⟩ := Kd.R_slice T3.out
 subst e3
 go_wp2_with ((with_reducible refine gate_dst (N := 7) rfl ?_);refine bx_ 7 #[.bool false,.slice none 0 0,.slice none 0 0,.slice none 0 0] 32 ?_;intro go hg w5 hbox hb;have hge := ak (Nat.le_of_eq hg.symm);clear hg;refine hold_32 ?_)
 refine ⟨?_⟩
 have BZ := ak hbox
 have Q0 := ak hb
 have HGE := hge
 clear hbox hb hge
 have hcgoy_0 : w5.cell? ⟨go,0,none⟩ = some (.bool false) := (blk_cell BZ.out 0).trans rfl
 have hcgoy_1 : w5.cell? ⟨go,1,none⟩ = some (.slice none 0 0) := (blk_cell BZ.out 1).trans rfl
 have hcgoy_2 : w5.cell? ⟨go,2,none⟩ = some (.slice none 0 0) := (blk_cell BZ.out 2).trans rfl
 have hcgoy_3 : w5.cell? ⟨go,3,none⟩ = some (.slice none 0 0) := (blk_cell BZ.out 3).trans rfl
 have hfy_0 := blk_frozen BZ.out 0
 have hfy_1 := blk_frozen BZ.out 1
 have hfy_2 := blk_frozen BZ.out 2
 have hfy_3 := blk_frozen BZ.out 3
 go_upto_region 4 with (fail)
 have n0_ : Aside0 (Below w4.heap.size w4 ((((w5.setCell ⟨go,0,none⟩ (.bool b)).setCell ⟨go,1,none⟩ (.slice A1 p1.length c1)).setCell ⟨go,2,none⟩ (.slice A2 p2.length c2)).setCell ⟨go,3,none⟩ (.slice A3 p3.length c3))) := ⟨below_set (below_set (below_set (below_set Q0.out HGE.out) HGE.out) HGE.out) HGE.out⟩
 have n1_ : Aside0 (((((w5.setCell ⟨go,0,none⟩ (.bool b)).setCell ⟨go,1,none⟩ (.slice A1 p1.length c1)).setCell ⟨go,2,none⟩ (.slice A2 p2.length c2)).setCell ⟨go,3,none⟩ (.slice A3 p3.length c3)).heap[go]? = some (.cells #[.bool b,.slice A1 p1.length c1,.slice A2 p2.length c2,.slice A3 p3.length c3] 32 (0,0))) := ⟨pt4_ BZ.out _ _ _ _⟩
 clear BZ Q0
 clear hcgoy_0 hfy_0 hcgoy_1 hfy_1 hcgoy_2 hfy_2 hcgoy_3 hfy_3
 generalize ((((w5.setCell ⟨go,0,none⟩ (.bool b)).setCell ⟨go,1,none⟩ (.slice A1 p1.length c1)).setCell ⟨go,2,none⟩ (.slice A2 p2.length c2)).setCell ⟨go,3,none⟩ (.slice A3 p3.length c3)) = w6 at n0_ n1_ ⊢
 have B := n0_.out
 have BG := n1_
 clear n0_ n1_
 have T1 := ak (Kd.S_bound (Kd.S_below T1.out B))
 have T2 := ak (Kd.S_bound (Kd.S_below T2.out B))
 have T3 := ak (Kd.R_bound (Kd.R_below T3.out B))
 have G := ak (below_step G.out B)
 have D6 := ak (below_step D4.out B)
 have BR := ak (blk_below BR.out B)
 clear B D4
 go_wp2_with ((with_reducible refine gcal_ (f := 82) rfl ?_);refine goesL_ (some 16) rfl rfl Try.func82 (by kernel_rfl) rfl #[.pointer (some ⟨go,0,none⟩),.int .i64 a1,.int .i64 a2] rfl (by (try simp only [List.map_toArray,List.map_cons,List.map_nil]);first|done|rfl) ?_;refine (impl_Machine_turn.calls k (fun k_ => True ∧ w3.heap.size ≤ k_ ∧ k_ < w6.heap.size ∧ ∃ q,q ∈ 45 :: (k45).E ∧ ∃ cells,w6.heap[k_]? = some (.cells cells q (0,0))) go b (.slice A1 p1.length c1) (.slice A3 p3.length c3) A2 c2 p2 a1 a2 q2 w3 _ G.out BG.out (fun hs_ => ty_32 ⟨32,List.mem_singleton.2 rfl,_,BG.out⟩ hs_.2.2.2 (by decide)) T2.out F2.out).mono ?_;rintro e w7 ⟨rfl,L,S,B,K⟩;refine ⟨_,rfl,?_⟩;refine hold_32 ?_)
 refine ⟨?_⟩
 have T1 := ak (Kd.S_step T1.out (fun k_ hk_ hlt_ => K.2 k_ hlt_ (fun hs_ => ty_32 hk_.2.2.2 hs_.2.2.2 (by decide))))
 have T3 := ak (Kd.R_step T3.out (fun k_ hk_ hlt_ => K.2 k_ hlt_ (fun hs_ => ty_32 hk_.2.2.2 hs_.2.2.2 (by decide))))
 have T2 := ak S
 have BG2 := ak ((K.2 go (blk_lt BG.out) (fun hs_ => ty_32 ⟨32,List.mem_singleton.2 rfl,_,BG.out⟩ hs_.2.2.2 (by decide))).trans BG.out)
 have BR2 := ak ((K.2 gr (blk_lt BR.out) (fun hs_ => ty_32 ⟨32,List.mem_singleton.2 rfl,_,BR.out⟩ hs_.2.2.2 (by decide))).trans BR.out)
 have D7 := ak (below_step D3.out B)
 rw [← L] at T2 BG2
 clear S B K L BG BR
 have BR := BR2
 clear BR2
 have hcgo7_0 : w7.cell? ⟨go,0,none⟩ = some (.bool b) := (blk_cell BG2.out 0).trans rfl
 have hcgo7_1 : w7.cell? ⟨go,1,none⟩ = some (.slice A1 p1.length c1) := (blk_cell BG2.out 1).trans rfl
 have hcgo7_2 : w7.cell? ⟨go,2,none⟩ = some (.slice A2 q2.length c2) := (blk_cell BG2.out 2).trans rfl
 have hcgo7_3 : w7.cell? ⟨go,3,none⟩ = some (.slice A3 p3.length c3) := (blk_cell BG2.out 3).trans rfl
 have hcgr7_0 : w7.cell? ⟨gr,0,none⟩ = some (.bool false) := (blk_cell BR.out 0).trans rfl
 have hcgr7_1 : w7.cell? ⟨gr,1,none⟩ = some (.slice none 0 0) := (blk_cell BR.out 1).trans rfl
 have hcgr7_2 : w7.cell? ⟨gr,2,none⟩ = some (.slice none 0 0) := (blk_cell BR.out 2).trans rfl
 have hcgr7_3 : w7.cell? ⟨gr,3,none⟩ = some (.slice none 0 0) := (blk_cell BR.out 3).trans rfl
 have hfr7_0 := blk_frozen BR.out 0
 have hfr7_1 := blk_frozen BR.out 1
 have hfr7_2 := blk_frozen BR.out 2
 have hfr7_3 := blk_frozen BR.out 3
 go_wp2
 refine bodyPost_ret (results_cell_row rfl _ _ gr 32 #[.bool b,.slice A1 p1.length c1,.slice A2 q2.length c2,.slice A3 p3.length c3] (0,0) _ rfl (pt4_ BR.out _ _ _ _) Try.underlying32 rfl (by kernel_rfl)) rfl ?_
 exact ⟨.slice A1 p1.length c1,.slice A2 q2.length c2,.slice A3 p3.length c3,by first|rfl|(simp;done),Kd.S_mono (Kd.S_far (p := ⟨gr,3,none⟩) (Kd.S_far (p := ⟨gr,2,none⟩) (Kd.S_far (p := ⟨gr,1,none⟩) (Kd.S_far (p := ⟨gr,0,none⟩) (Kd.S_types (Kd.S_lower T1.out D3.out.size) BR.out (by decide)) (fun _ h_ => h_.2) (.bool b)) (fun _ h_ => h_.2) (.slice A1 p1.length c1)) (fun _ h_ => h_.2) (.slice A2 q2.length c2)) (fun _ h_ => h_.2) (.slice A3 p3.length c3)) (fun _ _ => trivial),Kd.S_mono (Kd.S_far (p := ⟨gr,3,none⟩) (Kd.S_far (p := ⟨gr,2,none⟩) (Kd.S_far (p := ⟨gr,1,none⟩) (Kd.S_far (p := ⟨gr,0,none⟩) (Kd.S_types (Kd.S_lower T2.out D3.out.size) BR.out (by decide)) (fun _ h_ => h_.2) (.bool b)) (fun _ h_ => h_.2) (.slice A1 p1.length c1)) (fun _ h_ => h_.2) (.slice A2 q2.length c2)) (fun _ h_ => h_.2) (.slice A3 p3.length c3)) (fun _ _ => trivial),Kd.R_mono (Kd.R_far (p := ⟨gr,3,none⟩) (Kd.R_far (p := ⟨gr,2,none⟩) (Kd.R_far (p := ⟨gr,1,none⟩) (Kd.R_far (p := ⟨gr,0,none⟩) (Kd.R_types (Kd.R_lower T3.out D3.out.size) BR.out (by decide)) (fun _ h_ => h_.2) (.bool b)) (fun _ h_ => h_.2) (.slice A1 p1.length c1)) (fun _ h_ => h_.2) (.slice A2 q2.length c2)) (fun _ h_ => h_.2) (.slice A3 p3.length c3)) (fun _ _ => trivial),below_set (below_set (below_set (below_set D7.out GR.out) GR.out) GR.out) GR.out⟩

/-! ### laws_big: function 37 -/
def laws_big.f (l0 : List Int) : Option (Bool) := some (decide ((l0.length : Int) > 4096))
set_option maxHeartbeats 8000000 in
set_option maxRecDepth 100000 in
theorem laws_big.calls (A0 : Option Addr) (c0 : Nat) (l0 : List Int) (r : Bool) (w : World) (hr0 : Kd.C (Kd.int .u8) w A0 l0.length l0) (hc0 : l0.length ≤ c0) (h : laws_big.f l0 = some r) :
    Calls Try.prog 37 #[.slice A0 l0.length c0] w fun e w' => e = .returned (.bool r) ∧ Drawn0 w w' := by
 have HR0 := ak hr0
 have HC0 := ak hc0
 clear hr0 hc0
 have H : (some (decide ((l0.length : Int) > 4096))) = some r := h
 clear h
 obtain rfl := Option.some.inj H
 go_enter Try.func37,Try.ntmps37
 go_wp2
 go_ret
 exact ⟨rs_,by repeat (first|exact Drawn0.refl _|apply Drawn0.step)⟩

/-- A state of type 148 at block g of W; what its slices lead to came in by w0. -/
def IsS148 (w0 W : World) (g : Nat) (f0 : List Int) (f1 : Int) (f2 : Int) : Prop := ∃ A0 c0, W.heap[g]? = some (.cells #[.slice A0 f0.length c0, .int .i64 f1, .int .i64 f2] 148 (0, 0)) ∧ w0.heap.size ≤ g ∧ Kd.C (Kd.int .u8) w0 A0 f0.length f0
theorem IsS148.grown {w0 W : World} {g : Nat} {f0 : List Int} {f1 : Int} {f2 : Int} {W1 : World} {row : Option Nat} (h : IsS148 w0 W g f0 f1 f2) (hw : W.grownBy W1 row) (hne : some g ≠ row) : IsS148 w0 W1 g f0 f1 f2 := by
 obtain ⟨A0,c0,hb,hg,hr0⟩ := h
 exact ⟨A0,c0,blk_grown hb hw hne,hg,hr0⟩
theorem IsS148.own_neN {w0 W : World} {g : Nat} {f0 : List Int} {f1 : Int} {f2 : Int} {α : Type} {d : Kd α} {e : Nat} {base : Nat} {ok : Nat → Prop} {v : Value} {xs : List α} (h : IsS148 w0 W g f0 f1 f2) (ho : Kd.N d e W base ok v xs) (ht : e ≠ 148) : some g ≠ v.ownBlock := by
 obtain ⟨A0,c0,hb,hg,hr0⟩ := h
 exact Kd.N_ne ho hb ht
theorem IsS148.fresh {w0 W : World} {g : Nat} {f0 : List Int} {f1 : Int} {f2 : Int} (h : IsS148 w0 W g f0 f1 f2) : ∀ k, W.heap.size ≤ k → k ≠ g := by
 obtain ⟨A0,c0,hb,hg,hr0⟩ := h
 exact Kd.freshB hb
theorem IsS148.kept {w0 W : World} {g : Nat} {f0 : List Int} {f1 : Int} {f2 : Int} {W1 : World} {S : Nat → Prop} (h : IsS148 w0 W g f0 f1 f2) (hk : Kept W W1 S) (hne : ¬ S g) : IsS148 w0 W1 g f0 f1 f2 := by
 obtain ⟨A0,c0,hb,hg,hr0⟩ := h
 exact ⟨A0,c0,blk_kept hb hk hne,hg,hr0⟩
theorem IsS148.below {w0 W : World} {g : Nat} {f0 : List Int} {f1 : Int} {f2 : Int} {W1 : World} (h : IsS148 w0 W g f0 f1 f2) (hw : Below W.heap.size W W1) : IsS148 w0 W1 g f0 f1 f2 := h.grown (grown_of_below hw none) (by simp)
theorem IsS148.alloc {w0 W : World} {g : Nat} {f0 : List Int} {f1 : Int} {f2 : Int} (h : IsS148 w0 W g f0 f1 f2) (o : Obj) : IsS148 w0 (W.alloc o) g f0 f1 f2 := h.below (below_alloc (Below.refl _ _) o)
theorem IsS148.drewN {w0 W : World} {g : Nat} {f0 : List Int} {f1 : Int} {f2 : Int} (h : IsS148 w0 W g f0 f1 f2) (m : Nat) : IsS148 w0 (W.drewN m) g f0 f1 f2 := h
theorem IsS148.drew {w0 W : World} {g : Nat} {f0 : List Int} {f1 : Int} {f2 : Int} (h : IsS148 w0 W g f0 f1 f2) : IsS148 w0 W.drew g f0 f1 f2 := h
theorem IsS148.at_ {w0 W : World} {g : Nat} {f0 : List Int} {f1 : Int} {f2 : Int} {w' : World} {m : Nat} (hq : W.drewN m = w') (h : IsS148 w0 W g f0 f1 f2) : IsS148 w0 w' g f0 f1 f2 := by subst hq; exact IsS148.drewN h m
theorem IsS148.apart {w0 W : World} {g : Nat} {f0 : List Int} {f1 : Int} {f2 : Int} {α : Type} {d : Kd α} {e : Nat} {base : Nat} {ok : Nat → Prop} {v : Value} {xs : List α} (h : IsS148 w0 W g f0 f1 f2) (ho : d.R e W base ok v xs) (ht : ∀ q, q ∈ e :: d.E → q ≠ 148) : d.R e W base (fun k => ok k ∧ k ≠ g) v xs := by
 obtain ⟨A0,c0,hb,hg,hr0⟩ := h
 exact Kd.R_types ho hb ht
theorem IsS148.own_ne {w0 W : World} {g : Nat} {f0 : List Int} {f1 : Int} {f2 : Int} {α : Type} {d : Kd α} {e : Nat} {base : Nat} {ok : Nat → Prop} {v : Value} {xs : List α} (h : IsS148 w0 W g f0 f1 f2) (ho : d.R e W base ok v xs) (ht : e ≠ 148) : some g ≠ v.ownBlock := by
 obtain ⟨A0,c0,hb,hg,hr0⟩ := h
 exact Kd.R_ne ho hb ht
theorem IsS148.apartQ {w0 W : World} {g : Nat} {f0 : List Int} {f1 : Int} {f2 : Int} {α : Type} {d : Kd α} {e : Nat} {base : Nat} {ok : Nat → Prop} {v : Value} {xs : List α} (h : IsS148 w0 W g f0 f1 f2) (ho : d.Q e W base ok v xs) (ht : ∀ q, q ∈ e :: d.E → q ≠ 148) : d.Q e W base (fun k => ok k ∧ k ≠ g) v xs := by
 obtain ⟨A0,c0,hb,hg,hr0⟩ := h
 exact Kd.Q_types ho hb ht
theorem IsS148.own_neQ {w0 W : World} {g : Nat} {f0 : List Int} {f1 : Int} {f2 : Int} {α : Type} {d : Kd α} {e : Nat} {base : Nat} {ok : Nat → Prop} {v : Value} {xs : List α} (h : IsS148 w0 W g f0 f1 f2) (ho : d.Q e W base ok v xs) (ht : e ≠ 148) : some g ≠ v.ownBlock := by
 obtain ⟨A0,c0,hb,hg,hr0⟩ := h
 exact Kd.Q_ne ho hb ht
theorem IsS148.apartS {w0 W : World} {g : Nat} {f0 : List Int} {f1 : Int} {f2 : Int} {α : Type} {d : Kd α} {e : Nat} {base : Nat} {ok : Nat → Prop} {v : Value} {xs : List α} (h : IsS148 w0 W g f0 f1 f2) (ho : d.S e W base ok v xs) (ht : ∀ q, q ∈ e :: d.E → q ≠ 148) : d.S e W base (fun k => ok k ∧ k ≠ g) v xs := by
 obtain ⟨A0,c0,hb,hg,hr0⟩ := h
 exact Kd.S_types ho hb ht
theorem IsS148.own_neS {w0 W : World} {g : Nat} {f0 : List Int} {f1 : Int} {f2 : Int} {α : Type} {d : Kd α} {e : Nat} {base : Nat} {ok : Nat → Prop} {v : Value} {xs : List α} (h : IsS148 w0 W g f0 f1 f2) (ho : d.S e W base ok v xs) (ht : e ≠ 148) : some g ≠ v.ownBlock := by
 obtain ⟨A0,c0,hb,hg,hr0⟩ := h
 exact Kd.S_ne ho hb ht
theorem IsS148.lt {w0 W : World} {g : Nat} {f0 : List Int} {f1 : Int} {f2 : Int} (h : IsS148 w0 W g f0 f1 f2) : g < W.heap.size := by
 obtain ⟨A0,c0,hb,hg,hr0⟩ := h
 exact blk_lt hb
theorem IsS148.ge {w0 W : World} {g : Nat} {f0 : List Int} {f1 : Int} {f2 : Int} (h : IsS148 w0 W g f0 f1 f2) : w0.heap.size ≤ g := by
 obtain ⟨A0,c0,hb,hg,hr0⟩ := h
 exact hg
theorem IsS148.ne_blk {w0 W : World} {g : Nat} {f0 : List Int} {f1 : Int} {f2 : Int} {a : Nat} {cs : Array Value} {t : TypeId} {fr : Nat × Nat} (h : IsS148 w0 W g f0 f1 f2) (hb2 : W.heap[a]? = some (.cells cs t fr)) (ht : t ≠ 148) : g ≠ a := by
 obtain ⟨A0,c0,hb,hg,hr0⟩ := h
 rintro rfl
 rw [hb] at hb2
 injection hb2 with hb2
 injection hb2 with _ ht2
 exact ht ht2.symm
theorem IsS148.far {w0 W : World} {g : Nat} {f0 : List Int} {f1 : Int} {f2 : Int} {p : Addr} (h : IsS148 w0 W g f0 f1 f2) (hne : g ≠ p.block) (u : Value) : IsS148 w0 (W.setCell p u) g f0 f1 f2 := by
 obtain ⟨A0,c0,hb,hg,hr0⟩ := h
 exact ⟨A0,c0,blk_far hb hne u,hg,hr0⟩
theorem cellS148_0 {W : World} {g : Nat} {A0 : Option Addr} {c0 : Nat} {f0 : List Int} {f1 : Int} {f2 : Int} (h : W.heap[g]? = some (.cells #[.slice A0 f0.length c0, .int .i64 f1, .int .i64 f2] 148 (0, 0))) : W.cell? ⟨g, 0, none⟩ = some (.slice A0 f0.length c0) := (blk_cell h 0).trans rfl
theorem cellS148_1 {W : World} {g : Nat} {A0 : Option Addr} {c0 : Nat} {f0 : List Int} {f1 : Int} {f2 : Int} (h : W.heap[g]? = some (.cells #[.slice A0 f0.length c0, .int .i64 f1, .int .i64 f2] 148 (0, 0))) : W.cell? ⟨g, 1, none⟩ = some (.int .i64 f1) := (blk_cell h 1).trans rfl
theorem IsS148.set_1 {w0 W : World} {g : Nat} {f0 : List Int} {f1 : Int} {f2 : Int} (h : IsS148 w0 W g f0 f1 f2) (x : Int) : IsS148 w0 (W.setCell ⟨g, 1, none⟩ (.int .i64 x)) g f0 x f2 := by
 obtain ⟨A0,c0,hb,hg,hr0⟩ := h
 exact ⟨A0,c0,by simpa using blk_set hb 1 (.int .i64 x),hg,hr0⟩
theorem cellS148_2 {W : World} {g : Nat} {A0 : Option Addr} {c0 : Nat} {f0 : List Int} {f1 : Int} {f2 : Int} (h : W.heap[g]? = some (.cells #[.slice A0 f0.length c0, .int .i64 f1, .int .i64 f2] 148 (0, 0))) : W.cell? ⟨g, 2, none⟩ = some (.int .i64 f2) := (blk_cell h 2).trans rfl
theorem IsS148.set_2 {w0 W : World} {g : Nat} {f0 : List Int} {f1 : Int} {f2 : Int} (h : IsS148 w0 W g f0 f1 f2) (x : Int) : IsS148 w0 (W.setCell ⟨g, 2, none⟩ (.int .i64 x)) g f0 f1 x := by
 obtain ⟨A0,c0,hb,hg,hr0⟩ := h
 exact ⟨A0,c0,by simpa using blk_set hb 2 (.int .i64 x),hg,hr0⟩
theorem IsS148.new (w0 W : World) (A0 : Option Addr) (c0 : Nat) (f0 : List Int) (f1 : Int) (f2 : Int) (hB : Below w0.heap.size w0 W) (hr0 : Kd.C (Kd.int .u8) w0 A0 f0.length f0) : IsS148 w0 (W.alloc (.cells #[.slice A0 f0.length c0, .int .i64 f1, .int .i64 f2] 148)) W.heap.size f0 f1 f2 := ⟨A0, c0, by simpa using heap_alloc_new W _, hB.size, hr0⟩

/-! ### spec_l1New: function 88 -/
def spec_l1New.l0 : Nat → List Int → Int → Int → Option (List Int × Int × Int)
  | 0, _, _, _ => none
  | k + 1, x0, x3, x4 => if x4 < (x0.length : Int) then (if 0 ≤ x4 then (spec_l1New.l0 k x0 (Go.bits .and .i64 (wrap64 ((wrap64 ((wrap64 (x3 * 137)) + (wrap64 (rd x0 x4)))) + 11)) 1073741823) (wrap64 (x4 + 1))) else (none)) else (some (x0, 0, x3))
def spec_l1New.f (k : Nat) (l0 : List Int) : Option (List Int × Int × Int) := spec_l1New.l0 k l0 (wrap64 (101027 + (l0.length : Int))) 0

set_option maxHeartbeats 8000000 in
set_option maxRecDepth 100000 in
theorem spec_l1New.calls (k : Nat) (A0 : Option Addr) (c0 : Nat) (l0 : List Int) (r1 : List Int) (r2 : Int) (r3 : Int) (w0 w : World) (hB : Below w0.heap.size w0 w) (hr0 : Kd.C (Kd.int .u8) w0 A0 l0.length l0) (hc0 : l0.length ≤ c0) (h : spec_l1New.f k l0 = some (r1, r2, r3)) :
    Calls Try.prog 88 #[.slice A0 l0.length c0] w fun e w' => ∃ g_ : Nat, e = .returned (.pointer (some ⟨g_, 0, none⟩)) ∧ IsS148 w0 w' g_ r1 r2 r3 ∧ Below w0.heap.size w0 w' ∧ Below w.heap.size w w' := by
 have hu148 := Try.underlying148
 have HR0 := ak hr0
 have HC0 := ak hc0
 clear hr0 hc0
 have HBW := ak (Below.refl w.heap.size w)
 have HW0 := ak hB.size
 have HB := ak hB
 clear hB
 have H : (spec_l1New.l0 k l0 (wrap64 (101027 + (l0.length : Int))) 0) = some (r1,r2,r3) := h
 clear h
 have H' := ak H
 clear H
 go_enter Try.func88,Try.ntmps88
 go_wp2
 go_loopg [3,4] k (fun kq v3 v4 w' => ∃ (x3_1 : Int) (x4_1 : Int),v3 = .int .i64 x3_1 ∧ v4 = .int .i64 x4_1 ∧ Aside0 (spec_l1New.l0 kq l0 x3_1 x4_1 = some (r1,r2,r3)) ∧ Aside0 (kq ≤ k) ∧ Aside0 (Below w0.heap.size w0 w') ∧ Aside0 (Below w.heap.size w w'))
 case atStart => exact ⟨(wrap64 (101027 + (l0.length : Int))),(0),rs_,rs_,H',⟨Nat.le_refl _⟩,⟨b_⟩,⟨b_⟩⟩
 case round =>
  clear H'
  obtain ⟨x3_1,x4_1,rfl,rfl,HA,HK1,HB,HBW⟩ := hrel
  cases gk with
    | zero => exact absurd HA.out (by simp [spec_l1New.l0])
    | succ k1 =>
   have H := HA.out
   clear HA
   simp only [spec_l1New.l0] at H
   by_cases c2 : x4_1 < (l0.length : Int)
   ·rw [if_pos c2] at H
    have c2b0 : decide (x4_1 < (l0.length : Int)) = true := decide_eq_true c2
    clear c2
    by_cases c3 : 0 ≤ x4_1
    ·rw [if_pos c3] at H
     have c3b0 : decide (0 ≤ x4_1) = true := decide_eq_true c3
     clear c3
     have H' := ak H
     clear H
     have p273 : 0 ≤ (x4_1 : Int) := od_
     have q273 : x4_1 < (l0.length : Int) := od_
     obtain ⟨ad273,e273,hx273_0⟩ := Kd.at_int HR0.out x4_1 p273 q273
     cases e273
     replace hx273_0 := pw_cell_below HB.out hx273_0
     replace p273 := eq_true p273
     replace q273 := eq_true q273
     go_wp2
     go_roundg k1
     case measure => have := HK1.out;omega
     case rel => exact ⟨(Go.bits .and .i64 (wrap64 ((wrap64 ((wrap64 (x3_1 * 137)) + (wrap64 (rd l0 x4_1)))) + 11)) 1073741823),(wrap64 (x4_1 + 1)),rs_,rs_,H',⟨by have := HK1.out;omega⟩,⟨b_⟩,⟨b_⟩⟩
    ·rw [if_neg c3] at H
     exact absurd H (by simp)
   ·rw [if_neg c2] at H
    have c2b0 : decide (x4_1 < (l0.length : Int)) = false := decide_eq_false c2
    clear c2
    simp only [Option.some.injEq,Prod.mk.injEq] at H
    obtain ⟨rfl,rfl,rfl⟩ := H
    go_wp2_with (first|((with_reducible refine gate_dst (N := 27) rfl ?_);refine bx_ 27 #[.slice A0 l0.length c0,.int .i64 0,.int .i64 x3_1] 148 ?_;intro gb274 hg w4 hbox hb;have BK274 := ak (hbox);have GW274 := ak ((gw_ (w := w) hg));have GE274 := ak ((Nat.le_trans HW0.out (gw_ (w := w) hg) : w0.heap.size ≤ gb274));replace HBW := ak (below_step HBW.out hb);replace HB := ak (below_step b_ hb);clear hb hbox hg))
    go_ret
    exact ⟨_,rfl,(show IsS148 w0 _ gb274 l0 0 x3_1 from ⟨_,_,by (with_reducible repeat (first|refine blk_drewN ?_ _|refine blk_drew ?_|refine blk_alloc ?_ _));exact BK274.out,GE274.out,HR0.out⟩),b_,by repeat (first|(with_reducible first|exact HBW.out|apply below_alloc|apply pw_below_drewN|apply below_drew1|refine below_set ?_ GW274.out)|exact HBW.out)⟩

/-! ### spec_l1Byte: function 132 -/
def spec_l1Byte.f (s0_0 : List Int) (s0_1 : Int) (s0_2 : Int) : Option (Int × Int × Int) := if s0_1 < (s0_0.length : Int) then (if 0 ≤ s0_1 then (some (Go.bits .and .i64 (wrap64 ((Go.bits .and .i64 (Go.bits .xor .i64 ((wrap64 ((wrap64 (s0_2 * 6364136223846793005)) + 1442695040888963407)) / 8589934592) ((wrap64 ((wrap64 (s0_2 * 6364136223846793005)) + 1442695040888963407)) / 35184372088832)) 255) + (wrap64 (rd s0_0 s0_1)))) 255, wrap64 (s0_1 + 1), wrap64 ((wrap64 (s0_2 * 6364136223846793005)) + 1442695040888963407))) else (none)) else (some (Go.bits .and .i64 (Go.bits .xor .i64 ((wrap64 ((wrap64 (s0_2 * 6364136223846793005)) + 1442695040888963407)) / 8589934592) ((wrap64 ((wrap64 (s0_2 * 6364136223846793005)) + 1442695040888963407)) / 35184372088832)) 255, s0_1, wrap64 ((wrap64 (s0_2 * 6364136223846793005)) + 1442695040888963407)))
set_option maxHeartbeats 8000000 in
set_option maxRecDepth 100000 in
theorem spec_l1Byte.calls (g : Nat) (s0_0 : List Int) (s0_1 : Int) (s0_2 : Int) (r1 : Int) (r2 : Int) (r3 : Int) (w0 w : World) (hI : IsS148 w0 w g s0_0 s0_1 s0_2) (hB : Below w0.heap.size w0 w) (h : spec_l1Byte.f s0_0 s0_1 s0_2 = some (r1, r2, r3)) :
    Calls Try.prog 132 #[.pointer (some ⟨g, 0, none⟩)] w fun e w' => e = .returned (.int .i64 r1) ∧ IsS148 w0 w' g s0_0 r2 r3 ∧ Below w0.heap.size w0 w' ∧ KeepBut w w' g none := by
 have HI0 := ak hI
 have HK := ak (KeepBut.refl w g none)
 have HL := ak hB.size
 clear hI
 have HW0 := ak hB.size
 have HB := ak hB
 clear hB
 have H : (if s0_1 < (s0_0.length : Int) then (if 0 ≤ s0_1 then (some (Go.bits .and .i64 (wrap64 ((Go.bits .and .i64 (Go.bits .xor .i64 ((wrap64 ((wrap64 (s0_2 * 6364136223846793005)) + 1442695040888963407)) / 8589934592) ((wrap64 ((wrap64 (s0_2 * 6364136223846793005)) + 1442695040888963407)) / 35184372088832)) 255) + (wrap64 (rd s0_0 s0_1)))) 255,wrap64 (s0_1 + 1),wrap64 ((wrap64 (s0_2 * 6364136223846793005)) + 1442695040888963407))) else (none)) else (some (Go.bits .and .i64 (Go.bits .xor .i64 ((wrap64 ((wrap64 (s0_2 * 6364136223846793005)) + 1442695040888963407)) / 8589934592) ((wrap64 ((wrap64 (s0_2 * 6364136223846793005)) + 1442695040888963407)) / 35184372088832)) 255,s0_1,wrap64 ((wrap64 (s0_2 * 6364136223846793005)) + 1442695040888963407)))) = some (r1,r2,r3) := h
 clear h
 by_cases c2 : s0_1 < (s0_0.length : Int)
 ·rw [if_pos c2] at H
  have c2b0 : decide (s0_1 < (s0_0.length : Int)) = true := decide_eq_true c2
  clear c2
  by_cases c3 : 0 ≤ s0_1
  ·rw [if_pos c3] at H
   have c3b0 : decide (0 ≤ s0_1) = true := decide_eq_true c3
   clear c3
   simp only [Option.some.injEq,Prod.mk.injEq] at H
   obtain ⟨rfl,rfl,rfl⟩ := H
   obtain ⟨ASz4_0,cSz4_0,HGz4,hgz4,HSz4_0⟩ := HI0.out
   have hcz4_0 := cellS148_0 HGz4
   have hcz4_1 := cellS148_1 HGz4
   have hcz4_2 := cellS148_2 HGz4
   have hfz4_1 := blk_frozen HGz4 1
   have hfz4_2 := blk_frozen HGz4 2
   clear HGz4 hgz4
   have p275 : 0 ≤ (s0_1 : Int) := od_
   have q275 : s0_1 < (s0_0.length : Int) := od_
   obtain ⟨ad275,e275,hx275_0⟩ := Kd.at_int HSz4_0 s0_1 p275 q275
   cases e275
   have hn275_0 : ad275.block ≠ g := Nat.ne_of_lt (Nat.lt_of_lt_of_le (by have := World.block_lt_of_cell? _ _ hx275_0;first|rwa [add_block] at this|exact this) (IsS148.ge HI0.out))
   replace hx275_0 := pw_cell_below HB.out hx275_0
   replace hx275_0 := (cell_far (p := ⟨g,2,none⟩) (by first|(rw [add_block];exact hn275_0)|(show (Addr.add _ _).block ≠ _;rw [add_block];exact hn275_0)|exact hn275_0) (.int .i64 (wrap64 ((wrap64 (s0_2 * 6364136223846793005)) + 1442695040888963407)))).trans hx275_0
   (try have hy275_0 := fun (n_ : Nat) => (show (((w.drewN n_).setCell ⟨g,2,none⟩ (.int .i64 (wrap64 ((wrap64 (s0_2 * 6364136223846793005)) + 1442695040888963407))))).cell? _ = some _ from hx275_0))
   clear hn275_0
   replace p275 := eq_true p275
   replace q275 := eq_true q275
   go_enter Try.func132,Try.ntmps132
   go_wp2
   repeat (go_quiet (fail);try go_wp2)
   go_ret
   exact ⟨rf_,by repeat (first|(with_reducible first|exact HI0.out|apply IsS148.alloc|apply IsS148.drewN|apply IsS148.drew|apply IsS148.set_1|apply IsS148.set_2)|exact HI0.out),by repeat (first|(with_reducible first|exact HB.out|apply below_alloc|apply pw_below_drewN|apply below_drew1|refine below_set ?_ (IsS148.ge HI0.out))|exact HB.out),by repeat (first|(with_reducible first|exact HK.out|apply KeepBut.set_|apply keep_drewN|apply keep_drew|apply keep_alloc)|exact HK.out)⟩
  ·rw [if_neg c3] at H
   exact absurd H (by simp)
 ·rw [if_neg c2] at H
  have c2b0 : decide (s0_1 < (s0_0.length : Int)) = false := decide_eq_false c2
  clear c2
  simp only [Option.some.injEq,Prod.mk.injEq] at H
  obtain ⟨rfl,rfl,rfl⟩ := H
  obtain ⟨ASz5_0,cSz5_0,HGz5,hgz5,HSz5_0⟩ := HI0.out
  have hcz5_0 := cellS148_0 HGz5
  have hcz5_1 := cellS148_1 HGz5
  have hcz5_2 := cellS148_2 HGz5
  have hfz5_1 := blk_frozen HGz5 1
  have hfz5_2 := blk_frozen HGz5 2
  clear HGz5 hgz5
  go_enter Try.func132,Try.ntmps132
  go_wp2
  repeat (go_quiet (fail);try go_wp2)
  go_ret
  exact ⟨rf_,by repeat (first|(with_reducible first|exact HI0.out|apply IsS148.alloc|apply IsS148.drewN|apply IsS148.drew|apply IsS148.set_1|apply IsS148.set_2)|exact HI0.out),by repeat (first|(with_reducible first|exact HB.out|apply below_alloc|apply pw_below_drewN|apply below_drew1|refine below_set ?_ (IsS148.ge HI0.out))|exact HB.out),by repeat (first|(with_reducible first|exact HK.out|apply KeepBut.set_|apply keep_drewN|apply keep_drew|apply keep_alloc)|exact HK.out)⟩

/-! ### spec_l1Below: function 91 -/
def spec_l1Below.f (s0_0 : List Int) (s0_1 : Int) (s0_2 : Int) (a1 : Int) : Option (Int × Int × Int) := if a1 ≤ 0 then (some (0, s0_1, s0_2)) else (if a1 ≤ 256 then ((spec_l1Byte.f s0_0 s0_1 s0_2).bind fun bt276 => (if a1 = 0 then (none) else (some (Int.tmod bt276.1 a1, bt276.2.1, bt276.2.2)))) else ((spec_l1Byte.f s0_0 s0_1 s0_2).bind fun bt279 => ((spec_l1Byte.f s0_0 bt279.2.1 bt279.2.2).bind fun bt282 => ((spec_l1Byte.f s0_0 bt282.2.1 bt282.2.2).bind fun bt285 => ((spec_l1Byte.f s0_0 bt285.2.1 bt285.2.2).bind fun bt288 => (if a1 = 0 then (none) else (some (Int.tmod (wrap64 ((wrap64 ((wrap64 ((wrap64 (bt279.1 * 16777216)) + (wrap64 (bt282.1 * 65536)))) + (wrap64 (bt285.1 * 256)))) + bt288.1)) a1, bt288.2.1, bt288.2.2))))))))
set_option maxHeartbeats 8000000 in
set_option maxRecDepth 100000 in
theorem spec_l1Below.calls (g : Nat) (s0_0 : List Int) (s0_1 : Int) (s0_2 : Int) (a1 : Int) (r1 : Int) (r2 : Int) (r3 : Int) (w0 w : World) (hI : IsS148 w0 w g s0_0 s0_1 s0_2) (hB : Below w0.heap.size w0 w) (h : spec_l1Below.f s0_0 s0_1 s0_2 a1 = some (r1, r2, r3)) :
    Calls Try.prog 91 #[.pointer (some ⟨g, 0, none⟩), .int .i64 a1] w fun e w' => e = .returned (.int .i64 r1) ∧ IsS148 w0 w' g s0_0 r2 r3 ∧ Below w0.heap.size w0 w' ∧ KeepBut w w' g none := by
 have HI0 := ak hI
 have HK := ak (KeepBut.refl w g none)
 have HL := ak hB.size
 clear hI
 have HW0 := ak hB.size
 have HB := ak hB
 clear hB
 have H : (if a1 ≤ 0 then (some (0,s0_1,s0_2)) else (if a1 ≤ 256 then ((spec_l1Byte.f s0_0 s0_1 s0_2).bind fun bt276 => (if a1 = 0 then (none) else (some (Int.tmod bt276.1 a1,bt276.2.1,bt276.2.2)))) else ((spec_l1Byte.f s0_0 s0_1 s0_2).bind fun bt279 => ((spec_l1Byte.f s0_0 bt279.2.1 bt279.2.2).bind fun bt282 => ((spec_l1Byte.f s0_0 bt282.2.1 bt282.2.2).bind fun bt285 => ((spec_l1Byte.f s0_0 bt285.2.1 bt285.2.2).bind fun bt288 => (if a1 = 0 then (none) else (some (Int.tmod (wrap64 ((wrap64 ((wrap64 ((wrap64 (bt279.1 * 16777216)) + (wrap64 (bt282.1 * 65536)))) + (wrap64 (bt285.1 * 256)))) + bt288.1)) a1,bt288.2.1,bt288.2.2))))))))) = some (r1,r2,r3) := h
 clear h
 by_cases c3 : a1 ≤ 0
 ·rw [if_pos c3] at H
  have c3b0 : decide (a1 ≤ 0) = true := decide_eq_true c3
  clear c3
  simp only [Option.some.injEq,Prod.mk.injEq] at H
  obtain ⟨rfl,rfl,rfl⟩ := H
  go_enter Try.func91,Try.ntmps91
  go_wp2
  go_ret
  exact ⟨rf_,by repeat (first|(with_reducible first|exact HI0.out|apply IsS148.alloc|apply IsS148.drewN|apply IsS148.drew|apply IsS148.set_1|apply IsS148.set_2)|exact HI0.out),by repeat (first|(with_reducible first|exact HB.out|apply below_alloc|apply pw_below_drewN|apply below_drew1|refine below_set ?_ (IsS148.ge HI0.out))|exact HB.out),by repeat (first|(with_reducible first|exact HK.out|apply KeepBut.set_|apply keep_drewN|apply keep_drew|apply keep_alloc)|exact HK.out)⟩
 ·rw [if_neg c3] at H
  have c3b0 : decide (a1 ≤ 0) = false := decide_eq_false c3
  clear c3
  by_cases c4 : a1 ≤ 256
  ·rw [if_pos c4] at H
   have c4b0 : decide (a1 ≤ 256) = true := decide_eq_true c4
   clear c4
   replace H := Option.bind_eq_some_iff.mp H
   obtain ⟨⟨t276,t277,t278⟩,A50,H⟩ := H
   replace H : (if a1 = 0 then (none) else (some (Int.tmod t276 a1,t277,t278))) = some (r1,r2,r3) := H
   have A5 := ak A50
   clear A50
   by_cases c6 : a1 = 0
   ·rw [if_pos c6] at H
    exact absurd H (by simp)
   ·rw [if_neg c6] at H
    have c6b0 : (a1 == 0) = false := beq_eq_false_iff_ne.mpr c6
    have c6b1 : (a1 != 0) = true := bne_iff_ne.mpr c6
    simp only [Option.some.injEq,Prod.mk.injEq] at H
    obtain ⟨rfl,rfl,rfl⟩ := H
    go_enter Try.func91,Try.ntmps91
    go_wp2_with (first|((with_reducible refine gcal_ (f := 132) rfl ?_);refine gl_ (some 14) Try.func132 #[.pointer (some ⟨g,0,none⟩)] ?_;(with_reducible refine (spec_l1Byte.calls g s0_0 s0_1 s0_2 t276 t277 t278 w0 _ ?side1 ?side2 A5.out).mono ?_);(case side1 => repeat (first|(with_reducible first|exact HI0.out|apply IsS148.alloc|apply IsS148.drewN|apply IsS148.drew|apply IsS148.set_1|apply IsS148.set_2)|exact HI0.out));(case side2 => repeat (first|(with_reducible first|exact HB.out|apply below_alloc|apply pw_below_drewN|apply below_drew1|refine below_set ?_ (IsS148.ge HI0.out))|exact HB.out));rintro e w7 ⟨rfl,hi,hb,hk⟩;refine ⟨_,rfl,?_⟩;replace HK := ak (KeepBut.trans (by repeat (first|(with_reducible first|exact HK.out|apply KeepBut.set_|apply keep_drewN|apply keep_drew|apply keep_alloc)|exact HK.out)) hk (.inl rfl));replace HB := ak (hb);replace HI0 := ak (hi);(try clear hb);(try clear hb2);(try clear hk);(try clear hi)))
    go_ret
    exact ⟨rf_,by repeat (first|(with_reducible first|exact HI0.out|apply IsS148.alloc|apply IsS148.drewN|apply IsS148.drew|apply IsS148.set_1|apply IsS148.set_2)|exact HI0.out),by repeat (first|(with_reducible first|exact HB.out|apply below_alloc|apply pw_below_drewN|apply below_drew1|refine below_set ?_ (IsS148.ge HI0.out))|exact HB.out),by repeat (first|(with_reducible first|exact HK.out|apply KeepBut.set_|apply keep_drewN|apply keep_drew|apply keep_alloc)|exact HK.out)⟩
  ·rw [if_neg c4] at H
   have c4b0 : decide (a1 ≤ 256) = false := decide_eq_false c4
   clear c4
   replace H := Option.bind_eq_some_iff.mp H
   obtain ⟨⟨t279,t280,t281⟩,A80,H⟩ := H
   replace H : ((spec_l1Byte.f s0_0 t280 t281).bind fun bt282 => ((spec_l1Byte.f s0_0 bt282.2.1 bt282.2.2).bind fun bt285 => ((spec_l1Byte.f s0_0 bt285.2.1 bt285.2.2).bind fun bt288 => (if a1 = 0 then (none) else (some (Int.tmod (wrap64 ((wrap64 ((wrap64 ((wrap64 (t279 * 16777216)) + (wrap64 (bt282.1 * 65536)))) + (wrap64 (bt285.1 * 256)))) + bt288.1)) a1,bt288.2.1,bt288.2.2)))))) = some (r1,r2,r3) := H
   have A8 := ak A80
   clear A80
   replace H := Option.bind_eq_some_iff.mp H
   obtain ⟨⟨t282,t283,t284⟩,A90,H⟩ := H
   replace H : ((spec_l1Byte.f s0_0 t283 t284).bind fun bt285 => ((spec_l1Byte.f s0_0 bt285.2.1 bt285.2.2).bind fun bt288 => (if a1 = 0 then (none) else (some (Int.tmod (wrap64 ((wrap64 ((wrap64 ((wrap64 (t279 * 16777216)) + (wrap64 (t282 * 65536)))) + (wrap64 (bt285.1 * 256)))) + bt288.1)) a1,bt288.2.1,bt288.2.2))))) = some (r1,r2,r3) := H
   have A9 := ak A90
   clear A90
   replace H := Option.bind_eq_some_iff.mp H
   obtain ⟨⟨t285,t286,t287⟩,A100,H⟩ := H
   replace H : ((spec_l1Byte.f s0_0 t286 t287).bind fun bt288 => (if a1 = 0 then (none) else (some (Int.tmod (wrap64 ((wrap64 ((wrap64 ((wrap64 (t279 * 16777216)) + (wrap64 (t282 * 65536)))) + (wrap64 (t285 * 256)))) + bt288.1)) a1,bt288.2.1,bt288.2.2)))) = some (r1,r2,r3) := H
   have A10 := ak A100
   clear A100
   replace H := Option.bind_eq_some_iff.mp H
   obtain ⟨⟨t288,t289,t290⟩,A110,H⟩ := H
   replace H : (if a1 = 0 then (none) else (some (Int.tmod (wrap64 ((wrap64 ((wrap64 ((wrap64 (t279 * 16777216)) + (wrap64 (t282 * 65536)))) + (wrap64 (t285 * 256)))) + t288)) a1,t289,t290))) = some (r1,r2,r3) := H
   have A11 := ak A110
   clear A110
   by_cases c12 : a1 = 0
   ·rw [if_pos c12] at H
    exact absurd H (by simp)
   ·rw [if_neg c12] at H
    have c12b0 : (a1 == 0) = false := beq_eq_false_iff_ne.mpr c12
    have c12b1 : (a1 != 0) = true := bne_iff_ne.mpr c12
    simp only [Option.some.injEq,Prod.mk.injEq] at H
    obtain ⟨rfl,rfl,rfl⟩ := H
    go_enter Try.func91,Try.ntmps91
    go_wp2_with (first|((with_reducible refine gcal_ (f := 132) rfl ?_);refine gl_ (some 18) Try.func132 #[.pointer (some ⟨g,0,none⟩)] ?_;(with_reducible refine (spec_l1Byte.calls g s0_0 s0_1 s0_2 t279 t280 t281 w0 _ ?side1 ?side2 A8.out).mono ?_);(case side1 => repeat (first|(with_reducible first|exact HI0.out|apply IsS148.alloc|apply IsS148.drewN|apply IsS148.drew|apply IsS148.set_1|apply IsS148.set_2)|exact HI0.out));(case side2 => repeat (first|(with_reducible first|exact HB.out|apply below_alloc|apply pw_below_drewN|apply below_drew1|refine below_set ?_ (IsS148.ge HI0.out))|exact HB.out));rintro e w13 ⟨rfl,hi,hb,hk⟩;refine ⟨_,rfl,?_⟩;replace HK := ak (KeepBut.trans (by repeat (first|(with_reducible first|exact HK.out|apply KeepBut.set_|apply keep_drewN|apply keep_drew|apply keep_alloc)|exact HK.out)) hk (.inl rfl));replace HB := ak (hb);replace HI0 := ak (hi);(try clear hb);(try clear hb2);(try clear hk);(try clear hi))|((with_reducible refine gcal_ (f := 132) rfl ?_);refine gl_ (some 20) Try.func132 #[.pointer (some ⟨g,0,none⟩)] ?_;(with_reducible refine (spec_l1Byte.calls g s0_0 t280 t281 t282 t283 t284 w0 _ ?side1 ?side2 A9.out).mono ?_);(case side1 => repeat (first|(with_reducible first|exact HI0.out|apply IsS148.alloc|apply IsS148.drewN|apply IsS148.drew|apply IsS148.set_1|apply IsS148.set_2)|exact HI0.out));(case side2 => repeat (first|(with_reducible first|exact HB.out|apply below_alloc|apply pw_below_drewN|apply below_drew1|refine below_set ?_ (IsS148.ge HI0.out))|exact HB.out));rintro e w14 ⟨rfl,hi,hb,hk⟩;refine ⟨_,rfl,?_⟩;replace HK := ak (KeepBut.trans (by repeat (first|(with_reducible first|exact HK.out|apply KeepBut.set_|apply keep_drewN|apply keep_drew|apply keep_alloc)|exact HK.out)) hk (.inl rfl));replace HB := ak (hb);replace HI0 := ak (hi);(try clear hb);(try clear hb2);(try clear hk);(try clear hi))|((with_reducible refine gcal_ (f := 132) rfl ?_);refine gl_ (some 22) Try.func132 #[.pointer (some ⟨g,0,none⟩)] ?_;(with_reducible refine (spec_l1Byte.calls g s0_0 t283 t284 t285 t286 t287 w0 _ ?side1 ?side2 A10.out).mono ?_);(case side1 => repeat (first|(with_reducible first|exact HI0.out|apply IsS148.alloc|apply IsS148.drewN|apply IsS148.drew|apply IsS148.set_1|apply IsS148.set_2)|exact HI0.out));(case side2 => repeat (first|(with_reducible first|exact HB.out|apply below_alloc|apply pw_below_drewN|apply below_drew1|refine below_set ?_ (IsS148.ge HI0.out))|exact HB.out));rintro e w15 ⟨rfl,hi,hb,hk⟩;refine ⟨_,rfl,?_⟩;replace HK := ak (KeepBut.trans (by repeat (first|(with_reducible first|exact HK.out|apply KeepBut.set_|apply keep_drewN|apply keep_drew|apply keep_alloc)|exact HK.out)) hk (.inl rfl));replace HB := ak (hb);replace HI0 := ak (hi);(try clear hb);(try clear hb2);(try clear hk);(try clear hi))|((with_reducible refine gcal_ (f := 132) rfl ?_);refine gl_ (some 24) Try.func132 #[.pointer (some ⟨g,0,none⟩)] ?_;(with_reducible refine (spec_l1Byte.calls g s0_0 t286 t287 t288 t289 t290 w0 _ ?side1 ?side2 A11.out).mono ?_);(case side1 => repeat (first|(with_reducible first|exact HI0.out|apply IsS148.alloc|apply IsS148.drewN|apply IsS148.drew|apply IsS148.set_1|apply IsS148.set_2)|exact HI0.out));(case side2 => repeat (first|(with_reducible first|exact HB.out|apply below_alloc|apply pw_below_drewN|apply below_drew1|refine below_set ?_ (IsS148.ge HI0.out))|exact HB.out));rintro e w16 ⟨rfl,hi,hb,hk⟩;refine ⟨_,rfl,?_⟩;replace HK := ak (KeepBut.trans (by repeat (first|(with_reducible first|exact HK.out|apply KeepBut.set_|apply keep_drewN|apply keep_drew|apply keep_alloc)|exact HK.out)) hk (.inl rfl));replace HB := ak (hb);replace HI0 := ak (hi);(try clear hb);(try clear hb2);(try clear hk);(try clear hi)))
    go_ret
    exact ⟨rf_,by repeat (first|(with_reducible first|exact HI0.out|apply IsS148.alloc|apply IsS148.drewN|apply IsS148.drew|apply IsS148.set_1|apply IsS148.set_2)|exact HI0.out),by repeat (first|(with_reducible first|exact HB.out|apply below_alloc|apply pw_below_drewN|apply below_drew1|refine below_set ?_ (IsS148.ge HI0.out))|exact HB.out),by repeat (first|(with_reducible first|exact HK.out|apply KeepBut.set_|apply keep_drewN|apply keep_drew|apply keep_alloc)|exact HK.out)⟩

/-! ### spec_l1Once: function 90 -/
def spec_l1Once.f (s0_0 : List Int) (s0_1 : Int) (s0_2 : Int) (a1 : Int) : Option (Bool × Int × Int) := (spec_l1Below.f s0_0 s0_1 s0_2 a1).bind fun bt291 => (some ((bt291.1 == 0), bt291.2.1, bt291.2.2))
set_option maxHeartbeats 8000000 in
set_option maxRecDepth 100000 in
theorem spec_l1Once.calls (g : Nat) (s0_0 : List Int) (s0_1 : Int) (s0_2 : Int) (a1 : Int) (r1 : Bool) (r2 : Int) (r3 : Int) (w0 w : World) (hI : IsS148 w0 w g s0_0 s0_1 s0_2) (hB : Below w0.heap.size w0 w) (h : spec_l1Once.f s0_0 s0_1 s0_2 a1 = some (r1, r2, r3)) :
    Calls Try.prog 90 #[.pointer (some ⟨g, 0, none⟩), .int .i64 a1] w fun e w' => e = .returned (.bool r1) ∧ IsS148 w0 w' g s0_0 r2 r3 ∧ Below w0.heap.size w0 w' ∧ KeepBut w w' g none := by
 have HI0 := ak hI
 have HK := ak (KeepBut.refl w g none)
 have HL := ak hB.size
 clear hI
 have HW0 := ak hB.size
 have HB := ak hB
 clear hB
 have H : ((spec_l1Below.f s0_0 s0_1 s0_2 a1).bind fun bt291 => (some ((bt291.1 == 0),bt291.2.1,bt291.2.2))) = some (r1,r2,r3) := h
 clear h
 replace H := Option.bind_eq_some_iff.mp H
 obtain ⟨⟨t291,t292,t293⟩,A30,H⟩ := H
 replace H : (some ((t291 == 0),t292,t293)) = some (r1,r2,r3) := H
 have A3 := ak A30
 clear A30
 simp only [Option.some.injEq,Prod.mk.injEq] at H
 obtain ⟨rfl,rfl,rfl⟩ := H
 go_enter Try.func90,Try.ntmps90
 go_wp2_with (first|((with_reducible refine gcal_ (f := 91) rfl ?_);refine gl_ (some 7) Try.func91 #[.pointer (some ⟨g,0,none⟩),.int .i64 a1] ?_;(with_reducible refine (spec_l1Below.calls g s0_0 s0_1 s0_2 a1 t291 t292 t293 w0 _ ?side1 ?side2 A3.out).mono ?_);(case side1 => repeat (first|(with_reducible first|exact HI0.out|apply IsS148.alloc|apply IsS148.drewN|apply IsS148.drew|apply IsS148.set_1|apply IsS148.set_2)|exact HI0.out));(case side2 => repeat (first|(with_reducible first|exact HB.out|apply below_alloc|apply pw_below_drewN|apply below_drew1|refine below_set ?_ (IsS148.ge HI0.out))|exact HB.out));rintro e w4 ⟨rfl,hi,hb,hk⟩;refine ⟨_,rfl,?_⟩;replace HK := ak (KeepBut.trans (by repeat (first|(with_reducible first|exact HK.out|apply KeepBut.set_|apply keep_drewN|apply keep_drew|apply keep_alloc)|exact HK.out)) hk (.inl rfl));replace HB := ak (hb);replace HI0 := ak (hi);(try clear hb);(try clear hb2);(try clear hk);(try clear hi)))
 go_ret
 exact ⟨rf_,by repeat (first|(with_reducible first|exact HI0.out|apply IsS148.alloc|apply IsS148.drewN|apply IsS148.drew|apply IsS148.set_1|apply IsS148.set_2)|exact HI0.out),by repeat (first|(with_reducible first|exact HB.out|apply below_alloc|apply pw_below_drewN|apply below_drew1|refine below_set ?_ (IsS148.ge HI0.out))|exact HB.out),by repeat (first|(with_reducible first|exact HK.out|apply KeepBut.set_|apply keep_drewN|apply keep_drew|apply keep_alloc)|exact HK.out)⟩

/-! ### spec_NewCells: function 158 -/
def spec_NewCells.f  : Option ((List (S92))) := if 6 ≤ 17592186044416 then (some (List.replicate 6 z92)) else (none)
set_option maxHeartbeats 8000000 in
set_option maxRecDepth 100000 in
theorem spec_NewCells.calls  (r : List (S92)) (w : World) (h : spec_NewCells.f  = some r) :
    Calls Try.prog 158 #[] w fun e w' => ∃ v0_ : Value, e = .returned (v0_) ∧ Kd.R k92 92 w' w.heap.size (fun _ => True) v0_ r ∧ Below w.heap.size w w' := by
 have HB := ak (Below.refl w.heap.size w)
 have H : (if 6 ≤ 17592186044416 then (some (List.replicate 6 z92)) else (none)) = some r := h
 clear h
 by_cases c1 : 6 ≤ 17592186044416
 ·rw [if_pos c1] at H
  have c1b0 := eq_true c1
  have c1b1 : decide (6 ≤ 17592186044416) = true := decide_eq_true c1
  clear c1
  obtain ⟨y294,hy294⟩ : ∃ y_ : List (S92),y_ = (List.replicate 6 z92) := ⟨_,rfl⟩
  replace H : (some y294) = some r := by first|(rw [hy294];with_reducible exact H)|(have H2_ := (Option.bind_some _ _).symm.trans H;rw [hy294];with_reducible exact H2_)|(have H2_ := (Option.bind_some _ _).symm.trans H;with_reducible exact H2_)|with_reducible exact H|(rw [hy294];exact H)|exact H
  have Ny294 := ak hy294
  clear hy294
  obtain rfl := Option.some.inj H
  go_enter Try.func158,Try.ntmps158
  go_wp2_with (first|((with_reducible refine gate_dst (N := 1) rfl ?_);refine Kd.R_make k92 _ 92 rfl (N := 1) rfl 36 _ _ rfl 6 rfl rfl Try.underlying36 (.agg #[(.int .i64 0),(.int .i64 0)]) 16 info92 rfl (by decide) (by omega) z92 (ok := fun _ => True) (okp := fun _ => True) (k92_mkM _ _ _ z92 ) (fun _ hk => hk) trivial (by omega) (by omega) (Below.refl _ _) (Nat.le_refl _) ?_;intro v295 w2 ho3 hb hg_ hnew_;clear hg_ hnew_;(first|rw [← Ny294.out] at ho3|(simp only [Int.reduceToNat] at ho3;rw [← Ny294.out] at ho3));have HO296 := ak (Kd.R_lower ho3 (below_size b_));replace HB := ak (below_step b_ hb);clear hb ho3))
  go_ret
  exact ⟨_,rf_,by (with_reducible repeat (first|apply Kd.R_alloc|apply Kd.R_drewN|apply Kd.R_drew));exact HO296.out,b_⟩
 ·rw [if_neg c1] at H
  exact absurd H (by simp)

/-! ### spec_l1Head: function 159 -/
def spec_l1Head.f (a0 : Int) (a1 : Bool) (a2 : Bool) : Option (Int) := if a1 = true then (if a2 = true then (some (wrap64 ((wrap64 ((wrap64 (4 * a0)) + 2)) + 1))) else (some (wrap64 ((wrap64 (4 * a0)) + 2)))) else (if a2 = true then (some (wrap64 ((wrap64 (4 * a0)) + 1))) else (some (wrap64 (4 * a0))))
set_option maxHeartbeats 8000000 in
set_option maxRecDepth 100000 in
theorem spec_l1Head.calls (a0 : Int) (a1 : Bool) (a2 : Bool) (r : Int) (w : World) (h : spec_l1Head.f a0 a1 a2 = some r) :
    Calls Try.prog 159 #[.int .i64 a0, .bool a1, .bool a2] w fun e w' => e = .returned (.int .i64 r) ∧ Drawn0 w w' := by
 have H : (if a1 = true then (if a2 = true then (some (wrap64 ((wrap64 ((wrap64 (4 * a0)) + 2)) + 1))) else (some (wrap64 ((wrap64 (4 * a0)) + 2)))) else (if a2 = true then (some (wrap64 ((wrap64 (4 * a0)) + 1))) else (some (wrap64 (4 * a0))))) = some r := h
 clear h
 by_cases c4 : a1 = true
 ·subst c4
  replace H := it_ H
  by_cases c5 : a2 = true
  ·subst c5
   replace H := it_ H
   obtain rfl := Option.some.inj H
   go_enter Try.func159,Try.ntmps159
   go_wp2
   go_ret
   exact ⟨rs_,by repeat (first|exact Drawn0.refl _|apply Drawn0.step)⟩
  ·replace c5 := Bool.eq_false_iff.mpr c5
   subst c5
   replace H := ie_ H
   obtain rfl := Option.some.inj H
   go_enter Try.func159,Try.ntmps159
   go_wp2
   go_ret
   exact ⟨rs_,by repeat (first|exact Drawn0.refl _|apply Drawn0.step)⟩
 ·replace c4 := Bool.eq_false_iff.mpr c4
  subst c4
  replace H := ie_ H
  by_cases c6 : a2 = true
  ·subst c6
   replace H := it_ H
   obtain rfl := Option.some.inj H
   go_enter Try.func159,Try.ntmps159
   go_wp2
   go_ret
   exact ⟨rs_,by repeat (first|exact Drawn0.refl _|apply Drawn0.step)⟩
  ·replace c6 := Bool.eq_false_iff.mpr c6
   subst c6
   replace H := ie_ H
   obtain rfl := Option.some.inj H
   go_enter Try.func159,Try.ntmps159
   go_wp2
   go_ret
   exact ⟨rs_,by repeat (first|exact Drawn0.refl _|apply Drawn0.step)⟩

/-! ### spec_l1From: function 160 -/
def spec_l1From.f (s0_0 : List Int) (s0_1 : Int) (s0_2 : Int) (a1 : Int) (a2 : Int) : Option (Int × Int × Int) := (spec_l1Below.f s0_0 s0_1 s0_2 (wrap64 ((wrap64 (a2 - a1)) + 1))).bind fun bt297 => (some (wrap64 (a1 + bt297.1), bt297.2.1, bt297.2.2))
set_option maxHeartbeats 8000000 in
set_option maxRecDepth 100000 in
theorem spec_l1From.calls (g : Nat) (s0_0 : List Int) (s0_1 : Int) (s0_2 : Int) (a1 : Int) (a2 : Int) (r1 : Int) (r2 : Int) (r3 : Int) (w0 w : World) (hI : IsS148 w0 w g s0_0 s0_1 s0_2) (hB : Below w0.heap.size w0 w) (h : spec_l1From.f s0_0 s0_1 s0_2 a1 a2 = some (r1, r2, r3)) :
    Calls Try.prog 160 #[.pointer (some ⟨g, 0, none⟩), .int .i64 a1, .int .i64 a2] w fun e w' => e = .returned (.int .i64 r1) ∧ IsS148 w0 w' g s0_0 r2 r3 ∧ Below w0.heap.size w0 w' ∧ KeepBut w w' g none := by
 have HI0 := ak hI
 have HK := ak (KeepBut.refl w g none)
 have HL := ak hB.size
 clear hI
 have HW0 := ak hB.size
 have HB := ak hB
 clear hB
 have H : ((spec_l1Below.f s0_0 s0_1 s0_2 (wrap64 ((wrap64 (a2 - a1)) + 1))).bind fun bt297 => (some (wrap64 (a1 + bt297.1),bt297.2.1,bt297.2.2))) = some (r1,r2,r3) := h
 clear h
 replace H := Option.bind_eq_some_iff.mp H
 obtain ⟨⟨t297,t298,t299⟩,A40,H⟩ := H
 replace H : (some (wrap64 (a1 + t297),t298,t299)) = some (r1,r2,r3) := H
 have A4 := ak A40
 clear A40
 simp only [Option.some.injEq,Prod.mk.injEq] at H
 obtain ⟨rfl,rfl,rfl⟩ := H
 go_enter Try.func160,Try.ntmps160
 go_wp2_with (first|((with_reducible refine gcal_ (f := 91) rfl ?_);refine gl_ (some 13) Try.func91 #[.pointer (some ⟨g,0,none⟩),.int .i64 (wrap64 ((wrap64 (a2 - a1)) + 1))] ?_;(with_reducible refine (spec_l1Below.calls g s0_0 s0_1 s0_2 (wrap64 ((wrap64 (a2 - a1)) + 1)) t297 t298 t299 w0 _ ?side1 ?side2 A4.out).mono ?_);(case side1 => repeat (first|(with_reducible first|exact HI0.out|apply IsS148.alloc|apply IsS148.drewN|apply IsS148.drew|apply IsS148.set_1|apply IsS148.set_2)|exact HI0.out));(case side2 => repeat (first|(with_reducible first|exact HB.out|apply below_alloc|apply pw_below_drewN|apply below_drew1|refine below_set ?_ (IsS148.ge HI0.out))|exact HB.out));rintro e w5 ⟨rfl,hi,hb,hk⟩;refine ⟨_,rfl,?_⟩;replace HK := ak (KeepBut.trans (by repeat (first|(with_reducible first|exact HK.out|apply KeepBut.set_|apply keep_drewN|apply keep_drew|apply keep_alloc)|exact HK.out)) hk (.inl rfl));replace HB := ak (hb);replace HI0 := ak (hi);(try clear hb);(try clear hb2);(try clear hk);(try clear hi)))
 go_ret
 exact ⟨rf_,by repeat (first|(with_reducible first|exact HI0.out|apply IsS148.alloc|apply IsS148.drewN|apply IsS148.drew|apply IsS148.set_1|apply IsS148.set_2)|exact HI0.out),by repeat (first|(with_reducible first|exact HB.out|apply below_alloc|apply pw_below_drewN|apply below_drew1|refine below_set ?_ (IsS148.ge HI0.out))|exact HB.out),by repeat (first|(with_reducible first|exact HK.out|apply KeepBut.set_|apply keep_drewN|apply keep_drew|apply keep_alloc)|exact HK.out)⟩

end Go.Proofs.Ythplaakckfhaaaa.XCd
